/-
  dactyllaw29.CountTells returns true for every number, and leaves its input as it was. Conditions: none.
  (The frame of this text was written by proof-skeleton.mjs; the walk is ours.)
-/
import Derived.Test.YtopmenioioljoaaRows
import Derived.Test.YtopmenioioljoaaCountL
import Derived.Test.YtopmenioioljoaaNumDecsB
import Derived.Test.YtopmenioioljoaaNumHexesB
import Derived.WalkKit
import Derived.ProofKit
import Derived.OpenShut
import Derived.ShutString
namespace Go.Proofs.Ytopmenioioljoaa.countTells
open Go.ChangeShapes Go.WideShapes Go.ChangeAt Go.RowKit
open Go.ChangeMaps (open_string shut_string)
set_option linter.unusedVariables false      -- a walk need not use every 'w<i>' (that an integer argument fits its kind)

theorem own : ownKnob Try.prog.godebug = none := by kernel_rfl

open Go.Proofs.Ytopmenioioljoaa.NumA Go.Proofs.Ytopmenioioljoaa.NumW Go.Proofs.Ytopmenioioljoaa.Base Go.Proofs.Ytopmenioioljoaa.CountW Go.Proofs.Ytopmenioioljoaa.KeyW

theorem digs_is : ∀ (n least u : Nat), u + least ≤ n → ∀ c ∈ digs 10 least u, ∃ d, d < 10 ∧ c = dg d := by
  intro n
  induction n with
  | zero =>
    intro least u h
    obtain ⟨rfl, rfl⟩ : u = 0 ∧ least = 0 := by omega
    rw [digs_nil]; simp
  | succ n ih =>
    intro least u h
    by_cases h0 : 0 < u ∨ 0 < least
    · rw [digs_step (by omega) h0]
      intro c hc
      rcases List.mem_append.1 hc with hc | hc
      · exact ih _ _ (by omega) c hc
      · exact ⟨u % 10, by omega, by simpa using hc⟩
    · obtain ⟨rfl, rfl⟩ : u = 0 ∧ least = 0 := by omega
      rw [digs_nil]; simp

/-- The count behind so many digits. -/
def cn (l : List UInt8) : Cn := if l = [] then zero else ⟨true, true, false, min (NumA.value 10 l : Int) 9999⟩
theorem cn_n (l : List UInt8) : (cn l).n = min (NumA.value 10 l : Int) 9999 := by
  unfold cn; split
  · rename_i h; rw [h]; rfl
  · rfl
theorem dg_nat : ∀ d : Nat, d < 10 → (dg d).toNat = 48 + d := by decide
theorem cn_snoc (l : List UInt8) (d : Nat) (hd : d < 10) : CountW.step (cn l) 3 ((dg d).toNat : Int) ⟨#[]⟩ false = (cn (l ++ [dg d]), true) := by
  have h1 : isDigit (cn l).b 3 ((dg d).toNat : Int) = true := by
    rw [dg_nat d hd]; simp [isDigit]; omega
  have h2 : may 3 ((dg d).toNat : Int) ⟨#[]⟩ false = true := by
    rw [may_plain rfl, dg_nat d hd]
    unfold fit
    rw [if_neg (by omega), if_neg (by omega), if_pos rfl, Bool.or_eq_true]
    exact Or.inr (decide_eq_true (by omega))
  have hm : (cn l).m = false := by unfold cn; split <;> rfl
  unfold CountW.step
  rw [h1, h2, hm, cn_n]
  simp only [Bool.not_true, Bool.false_eq_true, if_false, if_true]
  have e : cn (l ++ [dg d]) = ⟨true, true, false, min (10 * min (NumA.value 10 l : Int) 9999 + (((dg d).toNat : Int) - 48)) 9999⟩ := by
    unfold cn
    rw [if_neg (by simp), value_snoc, index_dg d (by omega), dg_nat d hd]
    simp only [Int.toNat_natCast, Cn.mk.injEq, true_and]
    omega
  rw [e]

theorem bd16 {a : Int} (h : (Lit.int .u16 a).wf = true) : 0 ≤ a ∧ a ≤ 65535 := by
  have hmin : IntKind.u16.min = 0 := rfl
  have hmax : IntKind.u16.max = 65535 := rfl
  simp only [Lit.wf, Bool.and_eq_true, decide_eq_true_eq] at h
  omega

set_option maxHeartbeats 4000000 in
theorem walk (a0 : Int) (w0 : (Lit.int .u16 a0).wf = true) (w : World) :
    Calls Try.prog 6 #[.int .u16 a0] w fun e w' => e = .returned (.bool true) ∧ Below w.heap.size w w' := by
  obtain ⟨hlo, hhi⟩ := bd16 w0
  clear w0
  go_enter Try.func6, Try.ntmps6
  go_wp2_with fail
  refine (awake21 _).mono ?_
  rintro e w1 ⟨rfl, hb1⟩
  go_wp2_with fail
  refine (new22 _).mono ?_
  rintro e w2 ⟨rfl, rfl⟩
  go_wp2_with fail
  refine (rdec14 _ _ (by omega) (by omega)).mono ?_
  rintro e w2 ⟨rfl, hb2⟩
  obtain ⟨l, hl⟩ : ∃ l, l = dec a0 := ⟨_, rfl⟩
  obtain ⟨z, hz⟩ : ∃ z, z = str l := ⟨_, rfl⟩
  rw [← hl, ← hz]
  have hB0 : w2.heap[w1.heap.size]? = some zero.cells := (hb2.block _ (by simp)).trans (heap_alloc_new _ _)
  have hlz : z.data.toList = l := by rw [hz]; simp
  have hdec : l = digs 10 1 a0.natAbs := by rw [hl]; unfold dec; rw [if_neg (by omega)]
  have hsz : z.size ≤ 21 := by rw [hz, str_size, hl]; exact dec_len _ (by omega) (by omega)
  have HB0 := Lib.hid hB0
  have HZ := Lib.hid hlz
  have HD := Lib.hid hdec
  clear hl hz hB0 hlz hdec
  go_wp2_with fail
  go_loopw [5] (fun vi wr => ∃ k : Nat, k ≤ z.size ∧ vi = .int .i64 k ∧ Hid (wr.heap[w1.heap.size]? = some (cn (l.take k)).cells) ∧ Upd w1.heap.size w2 wr) (fun vi _ => z.size - (intOf vi).toNat)
  case atStart => exact ⟨0, by omega, rfl, HB0, Upd.refl _ _⟩
  case round =>
    obtain ⟨k, hk, rfl, HX, hu⟩ := hrel
    by_cases hlt : k < z.size
    · have hmem : z[k] ∈ digs 10 1 a0.natAbs := by
        rw [← HD.out, ← HZ.out]
        have : z[k] = z.data.toList[k]'(by rw [← Lib.size_eq]; exact hlt) := by rw [Array.getElem_toList]; rfl
        rw [this]; exact List.getElem_mem _
      obtain ⟨d, hd, hdz⟩ := digs_is _ _ _ (Nat.le_refl _) _ hmem
      have hst := cn_snoc (l.take k) d hd
      rw [← hdz, show l.take k ++ [z[k]] = l.take (k + 1) from by rw [← HZ.out]; exact (take_snoc z k hlt).symm] at hst
      have HS := Lib.hid hst
      have hn0 : 0 ≤ (cn (l.take k)).n := by rw [cn_n]; omega
      have hn1 : (cn (l.take k)).n ≤ 9999 := by rw [cn_n]; omega
      clear hst hdz hmem
      go_wp2_with fail
      rw [show wrap64 (z[k].toNat : Int) = (z[k].toNat : Int) from wrap64_in (by omega) (by have := z[k].toNat_lt; omega)]
      refine (do_plain _ _ _ _ _ _ _ HX.out hn0 hn1 HS.out).mono ?_
      rintro e w3 ⟨rfl, h3, u3⟩
      have H3 := Lib.hid h3
      clear h3
      go_wp2
      go_roundw
      case rel => exact ⟨k + 1, by omega, by go_num, H3, hu.trans u3⟩
      case measure => simp [intOf]; omega
    · have hX2 : wr.heap[w1.heap.size]? = some (⟨true, true, false, min (a0.natAbs : Int) 9999⟩ : Cn).cells := by
        have := HX.out
        rw [List.take_of_length_le (by rw [← HZ.out, ← Lib.size_eq]; omega)] at this
        rw [this]
        unfold cn
        rw [if_neg (by rw [HD.out]; exact digs_ne (by omega) (by omega)), HD.out, value_digs (by omega) (by omega) _ _ _ (Nat.le_refl _)]
      have hval : CountW.value ⟨true, true, false, min (a0.natAbs : Int) 9999⟩ = (min a0 9999, true) := by
        have : min (a0.natAbs : Int) 9999 = min a0 9999 := by omega
        unfold CountW.value
        rw [if_neg (by simp), this]; simp
      have HX2 := Lib.hid hX2
      have HVAL := Lib.hid hval
      clear hX2 hval
      have hbU : Below w.heap.size w wr := by
        have h1 := hu.below (w0 := w1) (btr (balloc _ _) hb2) (Nat.le_refl _)
        exact btr hb1 h1
      have hBw : w.heap.size ≤ w1.heap.size := hb1.size
      go_wp2_with fail
      refine (take28 _ _ _ HX2.out (by show (0 : Int) ≤ min (a0.natAbs : Int) 9999; omega) (by show min (a0.natAbs : Int) 9999 ≤ 9999; omega)).mono ?_
      rintro e w3 ⟨rfl, h3, u3⟩
      rw [HVAL.out]
      go_wp2_with fail
      refine (take_nil _).mono ?_
      rintro e w4 ⟨rfl, rfl⟩
      have hlow : ∃ m, m = min a0 9999 := ⟨_, rfl⟩
      go_wp2_with fail
      refine (low17 _ _ _).mono ?_
      rintro e w4 ⟨rfl, hb4⟩
      go_wp2_with fail
      refine (do_nil _ _ _ _ _).mono ?_
      rintro e w5 ⟨rfl, hb5⟩
      go_wp2
      go_ret
      exact ⟨rfl, btr (btr (u3.below hbU hBw) hb4) hb5⟩

/-! ### THE ROW's STEP: WRITTEN OUT: LEAVE IT -/
set_option maxRecDepth 100000 in
theorem lifted (os : Os) (started : os.Started) (H : Type) (enc : TypeId × Value → H) :
    ReturnsInHanded {} Try.checked os 6 .any (Rows.countTellsSpec.pre6 enc Try.prog Try.f6 Rows.countTellsRow.domain false) (Rows.countTellsSpec.post enc Try.prog Try.f6 false true false false) := by
  refine returnsInHanded_of_change (C := Try.checked) own started (by kernel_rfl) Try.func6
    (ChangeSpec.witness6 (enc := enc) (C := Try.checked) false ⟨#[], #[.int .u16 0], []⟩ 8 (by kernel_rfl) (by kernel_rfl) (by kernel_rfl) (by kernel_rfl)) ?_
  intro W base args ds gs before hval0 hW hcnd _
  have hval : ∀ (j : Nat) t v, Try.f6.params[j]? = some t → args[j]? = some v → Value.okWide Try.prog W .any base t v := hval0
  have hW' := hW
  obtain ⟨p, q, hA0, hV, rfl, hfz, hnd⟩ := hW
  have hA : DataW.TrodAll enc Try.prog W 0 (fun _ => true) true Try.f6.params.toList args.toList ds p := hA0
  rw [Try.params6] at hA hval
  obtain ⟨v0, vs0, d0, ds0, p0, q0, hargs, rfl, rfl, h0, r0⟩ := trodAll_cons hA
  obtain ⟨rfl, rfl, rfl⟩ := trodAll_nil r0
  obtain rfl : args = #[v0] := by cases args; simp_all
  obtain ⟨rfl, rfl⟩ := trodVars_none hV
  obtain ⟨a0, rfl, rfl, rfl, w0⟩ := open_int Try.underlying46 (hval 0 46 v0 rfl rfl) h0
  clear hA0 hval0
  simp only [List.append_nil] at hW'
  refine (walk a0 w0 W).mono fun e W' ⟨he, hg⟩ => ?_
  subst he
  exact ⟨_, rfl, Base.post_of_below (pa := []) (pv := []) hW' (fun _ _ _ => (trodAll_cons_mk (shut_bool Try.underlying4 _) trodAll_mk0)) (fun sp _ => (trodAll_cons_mk (shut_int Try.underlying46 w0) trodAll_mk0)) (fun _ _ => rfl) rfl
    hg (ok_one (by kernel_rfl) rfl (okWide_bool_mk Try.underlying4 _))⟩

theorem over : Rows.countTellsRow.holds Try.pinned (OpenSpec.ofChange Rows.countTellsSpec) :=
  OpenClaim.holds_of_wide 6 Try.f6 rfl rfl rfl rfl rfl rfl rfl ⟨rfl, rfl, rfl, rfl, rfl⟩ rfl rfl rfl rfl rfl (by kernel_rfl) Try.func6 (by kernel_rfl)
    (of_decide_eq_true (by kernel_rfl)) (by unfold Func.isWrapper; first | (rw [if_pos (by decide +kernel)]; kernel_rfl) | (rw [if_neg (by decide +kernel)]; exact ⟨rfl, rfl⟩))
    (fun os started H enc _ => lifted os started H enc)

/-- ████ THE STATEMENT ████ -/
theorem proved : Rows.CountTellsSaid :=
  over
#print axioms proved
end Go.Proofs.Ytopmenioioljoaa.countTells
