/-
  THE LAW MacroDoes (dactyllaw42): its walk: it returns true.
-/
import Derived.Test.YtopmenioioljoaaMacroU
import Derived.Test.YtopmenioioljoaaMacroA
import Derived.Deep.DeepCutAuto
import Derived.Deep.CutBlock
import Derived.Deep.LoopGhost
namespace Go.Proofs.Ytopmenioioljoaa.MacroW
open Go.RowKit Go.Proofs.Ytopmenioioljoaa.Base Go.Proofs.YtopmenioioljoaaW.PrintWords Go.Proofs.YtopmenioioljoaaW.PrintLast Go.Proofs.YtopmenioioljoaaW.PrintMore Go.Proofs.Ytopmenioioljoaa.CountW Go.Proofs.Ytopmenioioljoaa.PMacroDoes Go.Proofs.Ytopmenioioljoaa.KeyW

/-- A call of the argument. -/
structure Cl where
  kind : Int
  n : Int
  k : S41
/-- .. in memory, in whatever later world. -/
structure CAt (ad : Addr) (j : Nat) (q : Cl) (W : World) : Prop where
  h0 : W.cell? (ad.add (j * 6)) = some (.int .i64 q.kind)
  h1 : W.cell? ⟨(ad.add (j * 6)).block, (ad.add (j * 6)).off + 1, none⟩ = some (.int .i64 q.n)
  h2 : W.cell? ⟨(ad.add (j * 6)).block, (ad.add (j * 6)).off + 2, none⟩ = some (.int .i64 q.k.f0)
  h3 : W.cell? ⟨(ad.add (j * 6)).block, (ad.add (j * 6)).off + 3, none⟩ = some (.int .i64 q.k.f1)
  h4 : W.cell? ⟨(ad.add (j * 6)).block, (ad.add (j * 6)).off + 4, none⟩ = some (.string q.k.f2)
  h5 : W.cell? ⟨(ad.add (j * 6)).block, (ad.add (j * 6)).off + 5, none⟩ = some (.bool q.k.f3)
theorem CAt.below {ad : Addr} {j : Nat} {q : Cl} {w W : World} (h : CAt ad j q w) (hb : Below w.heap.size w W) : CAt ad j q W :=
  ⟨pw_cell_below hb h.h0, pw_cell_below hb h.h1, pw_cell_below hb h.h2, pw_cell_below hb h.h3, pw_cell_below hb h.h4, pw_cell_below hb h.h5⟩
/-- The calls can be read. -/
def Cls (w : World) (A : Option Addr) (qs : List Cl) : Prop := qs.length ≤ 9223372036854775807 ∧ ∀ j q, qs[j]? = some q → q.k.f2.size ≤ 9223372036854775807 ∧ ∃ ad, A = some ad ∧ CAt ad j q w

set_option maxRecDepth 100000 in
set_option maxHeartbeats 8000000 in
theorem law_bad (most : Int) (A : Option Addr) (c : Nat) (n : Nat) (w : World) (hm : most < 1 ∨ 9999 < most) :
    Calls Try.prog 7 #[.int .i64 most, .slice A n c] w fun e w' => e = .returned (.bool true) ∧ Below w.heap.size w w' := by
  have HN := Lib.hid (new30_bad most · hm)
  by_cases h1 : most < 1
  · have d1 : decide (most < 1) = true := decide_eq_true h1
    clear hm h1
    go_enter Try.func7, Try.ntmps7
    go_wp2_with fail
    refine (awake29 _).mono ?_
    rintro e w1 ⟨rfl, hb1⟩
    go_wp2_with fail
    refine (HN.out _).mono ?_
    rintro e w2 ⟨rfl, rfl⟩
    go_wp2_with fail
    go_ret
    exact ⟨rfl, hb1⟩
  · have d1 : decide (most < 1) = false := decide_eq_false h1
    have d2 : decide (9999 < most) = true := decide_eq_true (by omega)
    clear hm h1
    go_enter Try.func7, Try.ntmps7
    go_wp2_with fail
    refine (awake29 _).mono ?_
    rintro e w1 ⟨rfl, hb1⟩
    go_wp2_with fail
    refine (HN.out _).mono ?_
    rintro e w2 ⟨rfl, rfl⟩
    go_wp2_with fail
    go_ret
    exact ⟨rfl, hb1⟩

/-- What holds at the top of each round. -/
def Inv (w wr : World) (B X : Nat) (most : Int) (j : Nat) : Prop := ∃ (k : Bool) (L N : List S41) (vL vN a b : Value),
  MSt w wr B k most L N vL vN ∧ RSt w wr X k L N a b ∧ Cr vL vN a b ∧ L.length ≤ j ∧ N.length ≤ j

theorem Inv.below {w wr w' : World} {B X : Nat} {most : Int} {j : Nat} (h : Inv w wr B X most j) (hb : Below wr.heap.size wr w') : Inv w w' B X most j := by
  obtain ⟨k, L, N, vL, vN, a, b, hm, hr, hc, h1, h2⟩ := h
  exact ⟨k, L, N, vL, vN, a, b, hm.below hb, hr.below hb, hc, h1, h2⟩
theorem Inv.le {w wr : World} {B X : Nat} {most : Int} {j : Nat} (h : Inv w wr B X most j) : Inv w wr B X most (j + 1) := by
  obtain ⟨k, L, N, vL, vN, a, b, hm, hr, hc, h1, h2⟩ := h
  exact ⟨k, L, N, vL, vN, a, b, hm, hr, hc, by omega, by omega⟩
theorem cells55 {w : World} {Y : Nat} {a b c d : Int} {t : ByteArray} {e : Bool} (h : w.heap[Y]? = some (.cells #[.int .i64 a, .int .i64 b, .int .i64 c, .int .i64 d, .string t, .bool e] 55 (0, 0))) :
    w.cell? ⟨Y, 0, none⟩ = some (.int .i64 a) ∧ w.cell? ⟨Y, 1, none⟩ = some (.int .i64 b) ∧ w.cell? ⟨Y, 2, none⟩ = some (.int .i64 c) ∧ w.cell? ⟨Y, 3, none⟩ = some (.int .i64 d) ∧ w.cell? ⟨Y, 4, none⟩ = some (.string t) ∧ w.cell? ⟨Y, 5, none⟩ = some (.bool e) := by
  refine ⟨?_, ?_, ?_, ?_, ?_, ?_⟩ <;> simp [World.cell?, h]

set_option maxRecDepth 100000 in
set_option maxHeartbeats 8000000 in
theorem law_walk7 (most : Int) (A : Option Addr) (c : Nat) (qs : List Cl) (w : World) (hq : Cls w A qs) (hm1 : 1 ≤ most) (hm2 : most ≤ 9999) :
    Calls Try.prog 7 #[.int .i64 most, .slice A qs.length c] w fun e w' => e = .returned (.bool true) ∧ Below w.heap.size w w' := by
  have hlm : qs.length ≤ 9223372036854775807 := hq.1
  have HQ := Lib.hid hq
  have d1 : decide (most < 1) = false := decide_eq_false (by omega)
  have d2 : decide (9999 < most) = false := decide_eq_false (by omega)
  have HN := Lib.hid (fun w1 hb => mnew most w w1 hb hm1 hm2)
  clear hq hm1 hm2
  go_enter Try.func7, Try.ntmps7
  go_wp2_with fail
  refine (awake29 _).mono ?_
  rintro e w1 ⟨rfl, hb1⟩
  go_wp2_with fail
  refine (HN.out _ hb1).mono ?_
  rintro e w2 ⟨rfl, hM2, hb2⟩
  have hR2 : RSt w (w2.alloc (.cells #[.slice none 0 0, .slice none 0 0, .bool false] 53)) w2.heap.size false [] [] (.slice none 0 0) (.slice none 0 0) :=
    ⟨heap_alloc_new _ _, hM2.bel.size, Row.nil _ _, Row.nil _ _, Ap.nil _⟩
  have hM3 := hM2.below (balloc w2 (.cells #[.slice none 0 0, .slice none 0 0, .bool false] 53))
  have HI : Hid (Inv w (w2.alloc (.cells #[.slice none 0 0, .slice none 0 0, .bool false] 53)) w1.heap.size w2.heap.size most 0) := ⟨false, [], [], _, _, _, _, hM3, hR2, ⟨Ap.nil _, Ap.nil _, Ap.nil _, Ap.nil _⟩, by simp, by simp⟩
  clear hM2 hR2 hM3 hb1 hb2
  go_wp2_with fail
  go_loopg [8] 60 (fun g vi wr => ∃ j : Nat, j + g = 60 ∧ vi = .int .i64 j ∧ j ≤ qs.length ∧ Hid (Inv w wr w1.heap.size w2.heap.size most j))
  case atStart => exact ⟨0, by omega, rfl, by omega, HI⟩
  case round =>
    obtain ⟨j, hj, rfl, hjl, HI1⟩ := hrel
    clear HI
    by_cases h60 : j < 60
    · obtain ⟨g, rfl⟩ : ∃ g, gk = g + 1 := ⟨gk - 1, by omega⟩
      by_cases hlt : j < qs.length
      · have hq1 := HQ.out.2 j qs[j] (List.getElem?_eq_getElem hlt)
        obtain ⟨q, hqe⟩ : ∃ q, qs[j] = q := ⟨_, rfl⟩
        rw [hqe] at hq1
        obtain ⟨hsz, ad, rfl, hat⟩ := hq1
        have hbel : Below w.heap.size w wr := by obtain ⟨k, L, N, vL, vN, a, b, hm, _⟩ := HI1.out; exact hm.bel
        have hat1 := hat.below hbel
        obtain ⟨qk, qn, q0, q1, q2, q3⟩ := q
        obtain ⟨h0, h1, h2, h3, h4, h5⟩ := hat1
        simp only at h0 h1 h2 h3 h4 h5 hsz
        clear hat hbel hqe
        go_upto_region 12 with (fail)
        go_cut [9] (fun v9 wx => v9 = .pointer (some ⟨wr.heap.size, 0, none⟩) ∧ Hid (wx.heap[wr.heap.size]? = some (.cells #[.int .i64 qk, .int .i64 qn, .int .i64 q0, .int .i64 q1, .string q2, .bool q3] 55 (0, 0))) ∧ Hid (Inv w wx w1.heap.size w2.heap.size most j))
        case first =>
          go_wp2_with fail
          go_meet
          exact ⟨rfl, heap_alloc_new _ _, HI1.out.below (balloc _ _)⟩
        case rest =>
          clear h0 h1 h2 h3 h4 h5 HI1
          obtain ⟨rfl, HY, HIc⟩ := hcut
          obtain ⟨y0, y1, y2, y3, y4, y5⟩ := cells55 HY.out
          by_cases h100 : 100 < q2.size
          · go_wp2_with fail
            go_ret
            obtain ⟨k, L, N, vL, vN, a, b, hm, _⟩ := HIc.out
            exact ⟨rfl, hm.bel⟩
          · go_upto_block 2 with (fail)
            go_cut [] (fun wx => Hid (Inv w wx w1.heap.size w2.heap.size most (j + 1)))
            case first =>
              obtain ⟨k, L, N, vL, vN, a, b, hm, hr, hc, hl1, hl2⟩ := HIc.out
              obtain ⟨A0, c0, rfl, _⟩ := hr.rL.form
              obtain ⟨A1, c1, rfl, _⟩ := hr.rN.form
              obtain ⟨x0, x1, x2, g0, g1, g2⟩ := cells53 hr.blk
              have M0 := Aside0.mk hm
              have R0 := Aside0.mk hr
              have C0 := Aside0.mk hc
              clear hm hr hc HIc
              by_cases hk0 : qk = 0
              · have e0 : (qk == 0) = true := by rw [hk0]; rfl
                clear hk0 y1 y2 y3 y4 y5
                cases k with
                | true =>
                  go_wp2_with fail
                  go_region_held3 (fun w' => w'.cell? ⟨w2.heap.size, 2, none⟩ = some (.bool true)) (first | go_keep)
                    (first | (go_at_call 31; refine (mbegin (M0.out.below (bdrew _))).mono ?_; rintro e w3 ⟨rfl, vN', hm3, hvN, hk3⟩; have hr3 := r_of_m' (M0.out.below (bdrew _)) (R0.out.below (bdrew _)) C0.out hk3; have z2 := (cells53 hr3.blk).2.2.1))
                  have M3 := Aside0.mk hm3
                  have R3 := Aside0.mk hr3
                  clear hm3 hr3
                  go_wp2_with fail
                  go_meet
                  exact ⟨true, L, N, vL, vN', _, _, M3.out, R3.out, cr_sub C0.out (.inl rfl) hvN, by omega, by omega⟩
                | false =>
                  go_wp2_with fail
                  go_region_held3 (fun w' => w'.cell? ⟨w2.heap.size, 2, none⟩ = some (.bool false)) (first | go_keep)
                    (first | (go_at_call 31; refine (mbegin (M0.out.below (bdrew _))).mono ?_; rintro e w3 ⟨rfl, vN', hm3, hvN, hk3⟩; have hr3 := r_of_m' (M0.out.below (bdrew _)) (R0.out.below (bdrew _)) C0.out hk3; have z2 := (cells53 hr3.blk).2.2.1))
                  have M3 := Aside0.mk hm3
                  have R3 := Aside0.mk hr3
                  obtain ⟨b0, b1, b2, _, _, _⟩ := cells53 hr3.blk
                  have C3 := Aside0.mk (cr_sub C0.out (.inl rfl) hvN)
                  clear hm3 hr3
                  go_wp2_with fail
                  refine (rturn false M3.out.bel R3.out.rL R3.out.rN R3.out.ap).mono ?_
                  rintro e w4 ⟨v0, v1, rfl, ht⟩
                  have M4 := Aside0.mk (m_of_r M3.out C3.out R3.out.rL R3.out.rN ht)
                  have C4 := Aside0.mk (cr_two M3.out C3.out ht)
                  have X4 := Aside0.mk (x_two R3.out ht)
                  obtain ⟨d0, d1, d2, d3, d4, d5⟩ := cells53 X4.out
                  have HT := Aside0.mk ht
                  obtain ⟨F0, f0, rfl, _⟩ := ht.r0.form
                  obtain ⟨F1, f1, rfl, _⟩ := ht.r1.form
                  clear ht
                  go_wp2_with fail
                  go_meet
                  obtain ⟨hM, hR⟩ := both_set (k1 := true) rfl M4.out X4.out R3.out.xX HT.out.r0 HT.out.r1 HT.out.ap
                  exact ⟨true, L, [], vL, vN', _, _, hM, hR, C4.out, by omega, by simp⟩
              · have e0 : decide (qk = 0) = false := decide_eq_false hk0
                by_cases hk1 : qk = 1
                · have e1 : (qk == 1) = true := by rw [hk1]; rfl
                  clear hk1
                  obtain ⟨N1, hN1⟩ : ∃ z, doN k N most ⟨q0, q1, q2, q3⟩ = z := ⟨_, rfl⟩
                  obtain ⟨ok1, hok1⟩ : ∃ z, doB k N most ⟨q0, q1, q2, q3⟩ = z := ⟨_, rfl⟩
                  have hN1l : N1.length ≤ j + 1 := by rw [← hN1]; unfold doN; split; (rw [List.length_append, List.length_singleton]; omega); omega
                  have hrd := rdo k M0.out.bel R0.out.rL R0.out.rN R0.out.ap q0 q1 q2 q3 most (by omega)
                  have hmd := fun w3 (m : MSt w w3 w1.heap.size k most L N vL vN) => mdo m q0 q1 q2 q3 hsz (by omega)
                  simp only [hN1, hok1] at hrd hmd
                  have HRD := Aside0.mk hrd
                  have HMD := Aside0.mk hmd
                  clear hrd hmd hN1 hok1
                  go_wp2_with fail
                  refine HRD.out.mono ?_
                  rintro e w3 ⟨v0, v1, rfl, ht⟩
                  have M3 := Aside0.mk (m_of_r M0.out C0.out R0.out.rL R0.out.rN ht)
                  have C3 := Aside0.mk (cr_two M0.out C0.out ht)
                  have X3 := Aside0.mk (x_two R0.out ht)
                  have Y3 := Aside0.mk (other_two R0.out ht HY.out (by decide))
                  have HT := Aside0.mk ht
                  obtain ⟨F0, f0, rfl, _⟩ := ht.r0.form
                  obtain ⟨F1, f1, rfl, _⟩ := ht.r1.form
                  clear ht y0 y1 y2 y3 y4 y5
                  obtain ⟨y0, y1, y2, y3, y4, y5⟩ := cells55 (blk_alloc Y3.out (.cells #[.slice F0 L.length f0, .slice F1 N1.length f1, .bool k] 53))
                  have M3a := Aside0.mk (M3.out.below (balloc w3 (.cells #[.slice F0 L.length f0, .slice F1 N1.length f1, .bool k] 53)))
                  go_wp2_with fail
                  refine (HMD.out _ M3a.out).mono ?_
                  rintro e w4 ⟨rfl, vN', hm4, hat4, hk4⟩
                  have Z4 := Aside0.mk (blk_kept (heap_alloc_new w3 (.cells #[.slice F0 L.length f0, .slice F1 N1.length f1, .bool k] 53)) hk4 (fun h => h.elim (fun h => Nat.lt_irrefl _ (h ▸ lt_of_block M3.out.blk)) (fun h => Nat.lt_irrefl _ (M3.out.rN.lt _ h))))
                  have X4 := Aside0.mk (blk_kept (blk_alloc X3.out _) hk4 (fun h => h.elim (fun h => bx_ne M0.out R0.out h.symm) (fun h => M3.out.rN.ne X3.out (by decide) h)))
                  have V0 := Aside0.mk ((HT.out.r0.below (balloc w3 _)).kept hk4 (fun j hj h => h.elim (fun h => HT.out.r0.ne M3.out.blk (by decide) (by rw [← h]; exact hj)) (fun h => C3.out.c2 j h hj)))
                  have V1 := Aside0.mk ((HT.out.r1.below (balloc w3 _)).kept hk4 (fun j hj h => h.elim (fun h => HT.out.r1.ne M3.out.blk (by decide) (by rw [← h]; exact hj)) (fun h => C3.out.c3 j h hj)))
                  have C4 := Aside0.mk (cr_new C3.out hat4 (fun j hj => Nat.lt_trans (HT.out.r0.lt j hj) (by simp)) (fun j hj => Nat.lt_trans (HT.out.r1.lt j hj) (by simp)))
                  have M4 := Aside0.mk hm4
                  obtain ⟨d0, d1, d2, d3, d4, d5⟩ := cells53 X4.out
                  obtain ⟨p0, p1, p2, p3, p4, p5⟩ := cells53 Z4.out
                  clear hm4 hat4 hk4
                  go_wp2_with fail
                  go_meet
                  obtain ⟨hM, hR⟩ := both_set (k1 := k) rfl M4.out X4.out R0.out.xX V0.out V1.out HT.out.ap
                  exact ⟨k, L, N1, vL, vN', _, _, hM, hR, C4.out, by omega, hN1l⟩
                · have e1 : decide (qk = 1) = false := decide_eq_false hk1
                  by_cases hk2 : qk = 2
                  · have e2 : (qk == 2) = true := by rw [hk2]; rfl
                    clear hk2 y1 y2 y3 y4 y5
                    cases k with
                    | false =>
                      go_wp2_with fail
                      go_region_held3 (fun w' => w'.cell? ⟨w2.heap.size, 2, none⟩ = some (.bool false)) (first | go_keep)
                        (first | (go_at_call 35; refine (mend (M0.out.below (bdrew _))).mono ?_; rintro e w3 ⟨rfl, vL', vN', hm3, hvL, hvN, hk3⟩; have hr3 := r_of_m' (M0.out.below (bdrew _)) (R0.out.below (bdrew _)) C0.out hk3; have z2 := (cells53 hr3.blk).2.2.1))
                      have M3 := Aside0.mk hm3
                      have R3 := Aside0.mk hr3
                      clear hm3 hr3
                      go_wp2_with fail
                      go_meet
                      exact ⟨false, L, N, vL', vN', _, _, M3.out, R3.out, cr_sub C0.out hvL hvN, by omega, by omega⟩
                    | true =>
                      go_wp2_with fail
                      go_region_held3 (fun w' => w'.cell? ⟨w2.heap.size, 2, none⟩ = some (.bool true)) (first | go_keep)
                        (first | (go_at_call 35; refine (mend (M0.out.below (bdrew _))).mono ?_; rintro e w3 ⟨rfl, vL', vN', hm3, hvL, hvN, hk3⟩; have hr3 := r_of_m' (M0.out.below (bdrew _)) (R0.out.below (bdrew _)) C0.out hk3; have z2 := (cells53 hr3.blk).2.2.1))
                      have M3 := Aside0.mk hm3
                      have R3 := Aside0.mk hr3
                      obtain ⟨b0, b1, b2, _, _, _⟩ := cells53 hr3.blk
                      have C3 := Aside0.mk (cr_sub C0.out hvL hvN)
                      clear hm3 hr3
                      go_wp2_with fail
                      refine (rturn true M3.out.bel R3.out.rL R3.out.rN R3.out.ap).mono ?_
                      rintro e w4 ⟨v0, v1, rfl, ht⟩
                      have M4 := Aside0.mk (m_of_r M3.out C3.out R3.out.rL R3.out.rN ht)
                      have C4 := Aside0.mk (cr_two M3.out C3.out ht)
                      have X4 := Aside0.mk (x_two R3.out ht)
                      obtain ⟨d0, d1, d2, d3, d4, d5⟩ := cells53 X4.out
                      have HT := Aside0.mk ht
                      obtain ⟨F0, f0, rfl, _⟩ := ht.r0.form
                      obtain ⟨F1, f1, rfl, _⟩ := ht.r1.form
                      clear ht
                      go_wp2_with fail
                      go_meet
                      obtain ⟨hM, hR⟩ := both_set (k1 := false) rfl M4.out X4.out R3.out.xX HT.out.r0 HT.out.r1 HT.out.ap
                      refine ⟨false, endS true L N, [], vL', vN', _, _, hM, hR, C4.out, ?_, by simp⟩
                      unfold endS
                      split <;> omega
                  · have e2 : decide (qk = 2) = false := decide_eq_false hk2
                    have HP := Lib.hid (fun w3 h0 h1 => rplay (b0 := w.heap.size) (b1 := w.heap.size) (w := w3) (a := .slice A0 L.length c0) (b := .slice A1 N.length c1) (L := L) (N := N) k h0 h1 qn (by omega))
                    go_wp2_with fail
                    refine (HP.out _ R0.out.rL R0.out.rN).mono ?_
                    rintro e w3 ⟨v3, rfl, hv3, hb3⟩
                    have V3 := Aside0.mk hv3
                    have M3 := Aside0.mk (M0.out.below hb3)
                    have R3 := Aside0.mk (R0.out.below hb3)
                    obtain ⟨y0, y1, y2, y3, y4, y5⟩ := cells55 ((hb3.block _ (lt_of_block HY.out)).trans HY.out)
                    clear hv3 hb3
                    go_wp2_with fail
                    refine (mplay M3.out qn (by omega)).mono ?_
                    rintro e w4 ⟨v4, rfl, hv4, hb4⟩
                    have V4 := Aside0.mk hv4
                    have V34 := Aside0.mk (V3.out.below hb4)
                    have M4 := Aside0.mk (M3.out.below hb4)
                    have R4 := Aside0.mk (R3.out.below hb4)
                    clear hv4 hb4
                    go_wp2_with fail
                    refine (rsame V4.out V34.out ?_).mono ?_
                    · exact playf_len _ _ _
                    rintro e w5 ⟨rfl, hb5⟩
                    go_wp2_with fail
                    go_meet
                    exact ⟨k, L, N, _, _, _, _, M4.out.below hb5, R4.out.below hb5, C0.out, by omega, by omega⟩
            case rest =>
              clear y0 y1 y2 y3 y4 y5 HY HIc
              obtain ⟨k, L, N, vL, vN, a, b, hm, hr, hc, hl1, hl2⟩ := hcut.out
              obtain ⟨A0, c0, rfl, _⟩ := hr.rL.form
              obtain ⟨x0, x1, x2, _, _, _⟩ := cells53 hr.blk
              have HI5 := hcut
              have M0 := Aside0.mk (hm.below (bdrew _))
              have R0 := Aside0.mk (hr.below (bdrew _))
              clear hm hr hc hcut
              go_wp2_with fail
              go_region_held3 (fun w' => w'.cell? ⟨w2.heap.size, 2, none⟩ = some (.bool k) ∧ w'.cell? ⟨w2.heap.size, 0, none⟩ = some (.slice A0 L.length c0)) (first | go_keep)
                (first
                  | (go_at_call 39; refine (mkeeps M0.out).mono ?_; rintro e w' ⟨rfl, rfl⟩)
                  | (go_at_call 40; refine (mkeys M0.out (by omega)).mono ?_; rintro e w5 ⟨v5, rfl, hv5, hb5⟩; have z2 := (cells53 (R0.out.below hb5).blk).2.2.1; have z0 := (cells53 (R0.out.below hb5).blk).1)
                  | (go_at_call 38; refine (rsame hv5 (R0.out.below hb5).rL (by omega)).mono ?_; rintro e w6 ⟨rfl, hb6⟩; have z2 := (cells53 ((R0.out.below hb5).below hb6).blk).2.2.1; have z0 := (cells53 ((R0.out.below hb5).below hb6).blk).1))
              have HI6 : Hid (Inv w w6 w1.heap.size w2.heap.size most (j + 1)) := ((HI5.out.below (bdrew _)).below hb5).below hb6
              clear hb5 hb6 hv5 HI5 x0 x1 x2 z0 z2
              go_wp2_with fail
              go_roundg g
              case measure => omega
              case rel => exact ⟨j + 1, by omega, by go_num, by omega, HI6⟩
      · go_wp2_with fail
        go_ret
        obtain ⟨k, L, N, vL, vN, a, b, hm, _⟩ := HI1.out
        exact ⟨rfl, hm.bel⟩
    · go_wp2_with fail
      all_goals
        go_ret
        obtain ⟨k, L, N, vL, vN, a, b, hm, _⟩ := HI1.out
        exact ⟨rfl, hm.bel⟩

end Go.Proofs.Ytopmenioioljoaa.MacroW
