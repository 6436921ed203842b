/-
  THE LAW CountDoes (dactyllaw29): its walk: it returns true.
-/
import Derived.Test.YtopmenioioljoaaCountQ
import Derived.Test.YtopmenioioljoaaCountL
import Derived.Deep.DeepCutAuto
import Derived.Deep.LoopGhost
namespace Go.Proofs.Ytopmenioioljoaa.CountW
open Go.RowKit Go.Proofs.Ytopmenioioljoaa.Base Go.Proofs.YtopmenioioljoaaW.PrintWords Go.Proofs.Ytopmenioioljoaa.KeyW Go.Proofs.Ytopmenioioljoaa.PMacroDoes

theorem cell37 {w : World} {X : Nat} {z : ByteArray} (h : w.heap[X]? = some (.cells #[.string z] 37 (0, 0))) : w.cell? ⟨X, 0, none⟩ = some (.string z) ∧ w.frozen? ⟨X, 0, none⟩ = false := by
  constructor <;> simp [World.cell?, World.frozen?, h]

/-- A key of the argument, in whatever later world. -/
structure KeyAt (ad : Addr) (k : Nat) (f0 f1 : Int) (f2 : ByteArray) (f3 : Bool) (W : World) : Prop where
  h0 : W.cell? (ad.add (k * 4)) = some (.int .i64 f0)
  h1 : W.cell? ⟨(ad.add (k * 4)).block, (ad.add (k * 4)).off + 1, none⟩ = some (.int .i64 f1)
  h2 : W.cell? ⟨(ad.add (k * 4)).block, (ad.add (k * 4)).off + 2, none⟩ = some (.string f2)
  h3 : W.cell? ⟨(ad.add (k * 4)).block, (ad.add (k * 4)).off + 3, none⟩ = some (.bool f3)
theorem key_at {w : World} {A : Option Addr} {xs : List S41} (hl : Kd.C k41 w A xs.length xs) {k : Nat} (hk : k < xs.length) :
    ∃ ad f0 f1 f2 f3, A = some ad ∧ (⟨f0, f1, f2, f3⟩ : S41) ∈ xs ∧ ∀ W, Below w.heap.size w W → KeyAt ad k f0 f1 f2 f3 W := by
  obtain ⟨ad, e0, _⟩ := at_T41 hl k (by omega) (by omega)
  have hx2 : rd_T41 xs k ∈ xs := by
    have : rd_T41 xs k = xs[k] := by simp [rd_T41, List.getD_eq_getElem?_getD, hk]
    rw [this]; exact List.getElem_mem _
  refine ⟨ad, (rd_T41 xs k).f0, (rd_T41 xs k).f1, (rd_T41 xs k).f2, (rd_T41 xs k).f3, e0, hx2, fun W hb => ?_⟩
  obtain ⟨ad', e1, h0, h1, h2, h3⟩ := at_T41 (Kd.C_below hl hb) k (by omega) (by omega)
  simp only [Int.toNat_natCast] at h0 h1 h2 h3
  obtain rfl : ad = ad' := Option.some.inj (e0.symm.trans e1)
  exact ⟨h0, h1, h2, h3⟩

theorem value_bd {l : List UInt8} (h : Good l) : -9999 ≤ (value (abs l)).1 ∧ (value (abs l)).1 ≤ 9999 := by
  have := abs_bd l h
  unfold value
  repeat' split
  all_goals first | omega | (simp only; omega)

set_option maxRecDepth 100000 in
set_option maxHeartbeats 8000000 in
theorem law_walk (A B : Option Addr) (c d : Nat) (xs : List S41) (bs : List Bool) (w : World) (hl : Kd.C k41 w A xs.length xs) (hb : Kd.C Kd.bool w B bs.length bs) (hx : ∀ x ∈ xs, x.f2.size ≤ 9223372036854775807) :
    Calls Try.prog 5 #[.slice A xs.length c, .slice B bs.length d] w fun e w' => e = .returned (.bool true) ∧ Below w.heap.size w w' := by
  have hlm : xs.length ≤ 9223372036854775807 := hl.2.1
  have hbm : bs.length ≤ 9223372036854775807 := hb.2.1
  by_cases h60 : 60 < xs.length
  · go_enter Try.func5, Try.ntmps5
    go_wp2_with fail
    refine (awake21 _).mono ?_
    rintro e w1 ⟨rfl, hb1⟩
    go_wp2
    go_ret
    exact ⟨rfl, hb1⟩
  · have HL := Lib.hid hl
    have HB := Lib.hid hb
    have HXS := Lib.hid hx
    clear hl hb hx
    go_enter Try.func5, Try.ntmps5
    go_wp2_with fail
    refine (awake21 _).mono ?_
    rintro e w1 ⟨rfl, hb1⟩
    have hC0 : ((w1.alloc zero.cells).alloc (.cells #[.string ⟨#[]⟩] 37)).heap[w1.heap.size]? = some zero.cells := (Below.heap_alloc _ _ _ (by simp)).trans (heap_alloc_new _ _)
    have hX0 : ((w1.alloc zero.cells).alloc (.cells #[.string ⟨#[]⟩] 37)).heap[w1.heap.size + 1]? = some (.cells #[.string ⟨#[]⟩] 37 (0, 0)) := by
      have := heap_alloc_new (w1.alloc zero.cells) (.cells #[.string ⟨#[]⟩] 37)
      rwa [World.size_alloc] at this
    have HC0 := Lib.hid hC0
    have HX0 := Lib.hid hX0
    have hb2 := btr hb1 (btr (balloc w1 zero.cells) (balloc _ (.cells #[.string ⟨#[]⟩] 37)))
    have hw1 := hb1.size
    clear hC0 hX0 hb1
    go_wp2_with fail
    refine (new22 _).mono ?_
    rintro e w2 ⟨rfl, rfl⟩
    go_wp2_with fail
    go_loopg [7] xs.length (fun g vi wr => ∃ (k : Nat) (l : List UInt8), k + g = xs.length ∧ vi = .int .i64 k ∧ l.length ≤ k ∧ Hid (Good l) ∧ Hid (wr.heap[w1.heap.size]? = some (abs l).cells) ∧ Hid (wr.heap[w1.heap.size + 1]? = some (.cells #[.string (NumA.str l)] 37 (0, 0))) ∧ Below w.heap.size w wr ∧ w1.heap.size + 1 < wr.heap.size)
    case atStart => exact ⟨0, [], by omega, rfl, by simp, by intro c hc; simp at hc, HC0, HX0, hb2, by simp⟩
    case round =>
      obtain ⟨k, l, hk, rfl, hlk, HG, HC, HX, hbl, hsz⟩ := hrel
      by_cases hlt : k < xs.length
      · obtain ⟨g, rfl⟩ : ∃ g, gk = g + 1 := ⟨gk - 1, by omega⟩
        obtain ⟨ad, f0, f1, f2, f3, e0, hx2, hat⟩ := key_at HL.out hlt
        have hxt := HXS.out _ hx2
        simp only at hxt
        have HAT := Lib.hid hat
        clear hx2 hat
        subst e0
        obtain ⟨cx, fx⟩ := cell37 HX.out
        obtain ⟨h0, h1, h2, h3⟩ := HAT.out _ hbl
        have hn1 : w1.heap.size + 1 ≠ wr.heap.size := by omega
        go_upto_region 8 with (fail)
        go_cut [8, 9] (fun v8 v9 wx => ∃ Y : Nat, v8 = .pointer (some ⟨Y, 0, none⟩) ∧ v9 = .bool (rdo l f0 f1 f2 f3).2 ∧ w1.heap.size + 1 < Y ∧ Hid (wx.heap[w1.heap.size]? = some (abs l).cells) ∧ Hid (wx.heap[w1.heap.size + 1]? = some (.cells #[.string (NumA.str l)] 37 (0, 0))) ∧ Hid (wx.heap[Y]? = some (.cells #[.string (NumA.str (rdo l f0 f1 f2 f3).1)] 37 (0, 0))) ∧ Below w.heap.size w wx)
        case first =>
          go_region_held3 (fun w' => w'.cell? ⟨w1.heap.size + 1, 0, none⟩ = some (.string (NumA.str l)) ∧ w'.cell? (ad.add (k * 4)) = some (.int .i64 f0) ∧ w'.cell? ⟨(ad.add (k * 4)).block, (ad.add (k * 4)).off + 1, none⟩ = some (.int .i64 f1) ∧ w'.cell? ⟨(ad.add (k * 4)).block, (ad.add (k * 4)).off + 2, none⟩ = some (.string f2) ∧ w'.cell? ⟨(ad.add (k * 4)).block, (ad.add (k * 4)).off + 3, none⟩ = some (.bool f3)) (first | go_keep | exact ⟨(World.cell?_of_block (Below.heap_setCell _ _ _ _ hn1)).trans z4, (HAT.out _ (hbw.setCell hbl.size _)).h0, (HAT.out _ (hbw.setCell hbl.size _)).h1, (HAT.out _ (hbw.setCell hbl.size _)).h2, (HAT.out _ (hbw.setCell hbl.size _)).h3⟩ | exact ⟨(World.cell?_alloc_lt (h := hX2)).trans z4, (HAT.out _ (hbw.alloc hbw.size _)).h0, (HAT.out _ (hbw.alloc hbw.size _)).h1, (HAT.out _ (hbw.alloc hbw.size _)).h2, (HAT.out _ (hbw.alloc hbw.size _)).h3⟩ | exact ⟨(World.cell?_alloc_lt (h := hsz)).trans cx, (HAT.out _ (hbl.alloc hbl.size _)).h0, (HAT.out _ (hbl.alloc hbl.size _)).h1, (HAT.out _ (hbl.alloc hbl.size _)).h2, (HAT.out _ (hbl.alloc hbl.size _)).h3⟩)
            (first
              | (go_at_call 23; refine (rdo23 l (by omega) f0 f1 f2 f3 _).mono ?_; rintro e w2 ⟨rfl, hb3⟩; have hbw : Below w.heap.size w w2 := hbl.drew.trans (hb3.mono hbl.size); have hX2 : w1.heap.size + 1 < w2.heap.size := Nat.lt_of_lt_of_le hsz hb3.size; have z0 := (HAT.out _ hbw).h0; have z1 := (HAT.out _ hbw).h1; have z2 := (HAT.out _ hbw).h2; have z3 := (HAT.out _ hbw).h3; have z4 : w2.cell? ⟨w1.heap.size + 1, 0, none⟩ = some (.string (NumA.str l)) := (hb3.cell (p := ⟨w1.heap.size + 1, 0, none⟩) hsz).trans cx)
              | (go_at_call 23; refine (rdo23 l (by omega) f0 f1 f2 f3 _).mono ?_; rintro e w2 ⟨rfl, hb3⟩; have hbw : Below w.heap.size w w2 := ((hbl.alloc hbl.size _).drew).trans (hb3.mono (by have := hbl.size; simp; omega)); have z0 := (HAT.out _ hbw).h0; have z1 := (HAT.out _ hbw).h1; have z2 := (HAT.out _ hbw).h2; have z3 := (HAT.out _ hbw).h3; have z4 : w2.cell? ⟨w1.heap.size + 1, 0, none⟩ = some (.string (NumA.str l)) := (hb3.cell (p := ⟨w1.heap.size + 1, 0, none⟩) (by simp; omega)).trans (by go_simp); have z5 : w2.cell? ⟨wr.heap.size, 0, none⟩ = some (.string ⟨#[]⟩) := (hb3.cell (p := ⟨wr.heap.size, 0, none⟩) (by simp)).trans (by go_simp); have z6 : w2.frozen? ⟨wr.heap.size, 0, none⟩ = false := (hb3.frozen (p := ⟨wr.heap.size, 0, none⟩) (by simp)).trans (by go_simp)))
          all_goals
            go_wp2_with fail
            go_meet
            first
              | exact ⟨w2.heap.size, rfl, rfl, hX2, (Below.heap_alloc _ _ _ (by omega)).trans ((hb3.block _ (show _ < wr.heap.size by omega)).trans HC.out), (Below.heap_alloc _ _ _ hX2).trans ((hb3.block _ hsz).trans HX.out), heap_alloc_new _ _, hbw.alloc hbw.size _⟩
              | exact ⟨wr.heap.size, rfl, rfl, hsz, (Below.heap_setCell _ _ _ _ (show w1.heap.size ≠ wr.heap.size by omega)).trans ((hb3.block _ (by simp; omega)).trans ((Below.heap_alloc _ _ _ (by omega)).trans HC.out)), (Below.heap_setCell _ _ _ _ hn1).trans ((hb3.block _ (by simp; omega)).trans ((Below.heap_alloc _ _ _ hsz).trans HX.out)), set_at ((hb3.block _ (by simp)).trans (heap_alloc_new wr (.cells #[.string ⟨#[]⟩] 37))), hbw.setCell hbl.size _⟩
        case rest =>
          obtain ⟨Y, rfl, rfl, hY, HC1, HX1, HY1, hbl1⟩ := hcut
          obtain ⟨kb, hkb⟩ : ∃ kb, may f0 f1 f2 f3 = kb := ⟨_, rfl⟩
          obtain ⟨yl, hyl⟩ : ∃ yl, (if kb then (rdo l f0 f1 f2 f3).1 else l) = yl := ⟨_, rfl⟩
          obtain ⟨ok, hok⟩ : ∃ ok, (kb && (rdo l f0 f1 f2 f3).2) = ok := ⟨_, rfl⟩
          have HKB := Lib.hid hkb
          have HYL := Lib.hid hyl
          have HOK := Lib.hid hok
          have hsa := step_abs l f0 f1 f2 f3
          rw [hkb, hyl, hok] at hsa
          have hyg : Good yl := by
            rw [← hyl]; cases kb
            · exact HG.out
            · exact (rdo_good HG.out f0 f1 f2 f3).1
          have hyn : yl.length ≤ k + 1 := by
            rw [← hyl]; cases kb
            · show l.length ≤ k + 1; omega
            · show (rdo l f0 f1 f2 f3).1.length ≤ k + 1
              have := (rdo_good HG.out f0 f1 f2 f3).2; omega
          have HSA := Lib.hid hsa
          have HYG := Lib.hid hyg
          have HABD := Lib.hid (abs_bd l HG.out)
          clear hkb hyl hok hsa hyg
          obtain ⟨h0, h1, h2, h3⟩ := HAT.out _ hbl1
          have hYlt := lt_of_block HY1.out
          obtain ⟨cx1, fx1⟩ := cell37 HX1.out
          obtain ⟨cy1, fy1⟩ := cell37 HY1.out
          go_upto_if 45 with (go_at_call 24; refine (rmay24 f0 f1 f2 f3 _).mono ?_; rintro e w2 ⟨rfl, hb3⟩)
          have hC2 : w2.heap[w1.heap.size]? = some (abs l).cells := (hb3.block _ (by omega)).trans HC1.out
          have hX2 : w2.heap[w1.heap.size + 1]? = some (.cells #[.string (NumA.str l)] 37 (0, 0)) := (hb3.block _ (by omega)).trans HX1.out
          have hY2 : w2.heap[Y]? = some (.cells #[.string (NumA.str (rdo l f0 f1 f2 f3).1)] 37 (0, 0)) := (hb3.block _ hYlt).trans HY1.out
          have hbl2 := hbl1.trans (hb3.mono hbl1.size)
          have HC2 := Lib.hid hC2
          have HX2 := Lib.hid hX2
          have HY2 := Lib.hid hY2
          clear hC2 hX2 hY2
          go_cut [9] (fun v9 wx => v9 = .bool ok ∧ Hid (wx.heap[w1.heap.size]? = some (abs l).cells) ∧ Hid (wx.heap[w1.heap.size + 1]? = some (.cells #[.string (NumA.str l)] 37 (0, 0))) ∧ Hid (wx.heap[Y]? = some (.cells #[.string (NumA.str yl)] 37 (0, 0))) ∧ Below w.heap.size w wx)
          case first =>
            rw [HKB.out]
            obtain ⟨cx2, fx2⟩ := cell37 HX2.out
            obtain ⟨cy2, fy2⟩ := cell37 HY2.out
            cases kb with
            | true =>
              have e1 : (rdo l f0 f1 f2 f3).1 = yl := by have := HYL.out; simpa using this
              have e2 : (rdo l f0 f1 f2 f3).2 = ok := by have := HOK.out; simpa using this
              have E1 := Lib.hid e1
              have E2 := Lib.hid e2
              clear e1 e2
              go_wp2
              go_meet
              exact ⟨by rw [E2.out], HC2, HX2, by rw [← E1.out]; exact HY2, hbl2⟩
            | false =>
              have e1 : l = yl := by have := HYL.out; simpa using this
              have e2 : ok = false := by have := HOK.out; simpa using this.symm
              have E1 := Lib.hid e1
              have E2 := Lib.hid e2
              clear e1 e2
              go_wp2
              go_meet
              exact ⟨by rw [E2.out], (Below.heap_setCell _ _ _ _ (show w1.heap.size ≠ Y by omega)).trans HC2.out, (Below.heap_setCell _ _ _ _ (show w1.heap.size + 1 ≠ Y by omega)).trans HX2.out, by rw [← E1.out]; exact set_at HY2.out, hbl2.setCell (by show w.heap.size ≤ Y; omega) _⟩
          case rest =>
            obtain ⟨rfl, HC3, HX3, HY3, hbl3⟩ := hcut
            clear HC2 HX2 HY2
            obtain ⟨h0, h1, h2, h3⟩ := HAT.out _ hbl3
            have hYlt3 := lt_of_block HY3.out
            go_wp2_with fail
            refine (do25 _ _ f0 f1 f2 f3 _ HC3.out HABD.out.1 HABD.out.2 hxt).mono ?_
            rintro e w3 ⟨rfl, hC4, u4⟩
            rw [HSA.out] at hC4 ⊢
            have hX4 : w3.heap[w1.heap.size + 1]? = some (.cells #[.string (NumA.str l)] 37 (0, 0)) := (u4.block _ (by omega) (by simp)).trans HX3.out
            have hY4 : w3.heap[Y]? = some (.cells #[.string (NumA.str yl)] 37 (0, 0)) := (u4.block _ hYlt3 (by simp; omega)).trans HY3.out
            have hbl4 := u4.below hbl3 hw1
            obtain ⟨cx4, fx4⟩ := cell37 hX4
            obtain ⟨cy4, fy4⟩ := cell37 hY4
            have hlt4 := lt_of_block hX4
            have HC4 := Lib.hid hC4
            have HX4 := Lib.hid hX4
            clear hC4 hX4 hY4
            have hX5 := set_at (o := 0) (u := .string (NumA.str yl)) HX4.out
            have hC5 := (Below.heap_setCell w3 ⟨w1.heap.size + 1, 0, none⟩ (.string (NumA.str yl)) w1.heap.size (by simp)).trans HC4.out
            have hbl5 := hbl4.setCell (p := ⟨w1.heap.size + 1, 0, none⟩) (by show w.heap.size ≤ w1.heap.size + 1; omega) (.string (NumA.str yl))
            have HX5 := Lib.hid hX5
            have HC5 := Lib.hid hC5
            clear hX5 hC5
            have hgz : Good (NumA.str yl).data.toList := by rw [NumA.str_toList]; exact HYG.out
            go_wp2_with fail
            refine (value26 (NumA.str yl) _ (by rw [NumA.str_size]; omega) hgz).mono ?_
            rintro e w6 ⟨rfl, hb6⟩
            rw [NumA.str_toList]
            have hC6 : w6.heap[w1.heap.size]? = some (abs yl).cells := (hb6.block _ (by simp [World.setCell]; omega)).trans HC5.out
            have hX6 : w6.heap[w1.heap.size + 1]? = some (.cells #[.string (NumA.str yl)] 37 (0, 0)) := (hb6.block _ (by simp [World.setCell]; omega)).trans HX5.out
            have hbl6 := hbl5.trans (hb6.mono hbl5.size)
            have hvb := value_bd HYG.out
            have hnb := abs_bd yl HYG.out
            have hval : ∀ W, W.heap[w1.heap.size]? = some (abs yl).cells → Calls Try.prog 27 #[.pointer (some ⟨w1.heap.size, 0, none⟩)] W fun e w' => e = .returned (.tuple #[.int .i64 (value (abs yl)).1, .bool (value (abs yl)).2]) ∧ W = w' := fun W h => value27 _ _ W h hnb.1 hnb.2
            have htak : ∀ W, W.heap[w1.heap.size]? = some (abs yl).cells → Calls Try.prog 28 #[.pointer (some ⟨w1.heap.size, 0, none⟩)] W fun e w' => e = .returned (.tuple #[.int .i64 (value (abs yl)).1, .bool (value (abs yl)).2]) ∧ w'.heap[w1.heap.size]? = some zero.cells ∧ Upd w1.heap.size W w' := fun W h => take28 _ _ W h hnb.1 hnb.2
            obtain ⟨r, hr⟩ : ∃ r, value (abs yl) = r := ⟨_, rfl⟩
            rw [hr] at hvb hval htak ⊢
            obtain ⟨n, is⟩ := r
            simp only at hvb hval htak ⊢
            obtain ⟨hv1, hv2⟩ := hvb
            have HVAL := Lib.hid hval
            have HTAK := Lib.hid htak
            have HC6 := Lib.hid hC6
            have HX6 := Lib.hid hX6
            have hlt6 := lt_of_block hX6
            clear hval htak hC6 hX6 hr hnb
            have hnn : (n == n) = true := by simp
            go_wp2_with fail
            refine (HVAL.out _ HC6.out).mono ?_
            rintro e w7 ⟨rfl, rfl⟩
            by_cases htk : k < bs.length
            · obtain ⟨adb, cb, eB, hcl, hcK, hcell⟩ := Kd.C_get (Kd.C_below HB.out hbl6) false k (by omega) (by omega)
              subst eB
              obtain ⟨tk, htk2⟩ : ∃ tk, bs.getD (k : Int).toNat false = tk := ⟨_, rfl⟩
              rw [htk2] at hcK
              have hcb : cb = [.bool tk] := hcK
              have hct : w6.cell? (adb.add k) = some (.bool tk) := by
                have := hcell 0 (.bool tk) (by rw [hcb]; rfl)
                simpa [Kd.bool, Kd.scalar] using this
              clear hcK hcell hcb hcl htk2
              cases tk with
              | true =>
                cases is
                all_goals
                  go_wp2_with fail
                  refine (HTAK.out _ HC6.out).mono ?_
                  rintro e w8 ⟨rfl, hC8, u8⟩
                  have hX8 : w8.heap[w1.heap.size + 1]? = some (.cells #[.string (NumA.str yl)] 37 (0, 0)) := (u8.block _ (by omega) (by simp)).trans HX6.out
                  have hbl8 := u8.below hbl6 hw1
                  have hlt8 := lt_of_block hX8
                  obtain ⟨cx8, fx8⟩ := cell37 hX8
                  have HC8 := Lib.hid hC8
                  have HX8 := Lib.hid hX8
                  clear hC8 hX8
                  go_wp2
                  go_roundg g
                  case measure => omega
                  case rel => exact ⟨k + 1, [], by omega, by go_num, by simp, by (intro c hc; simp at hc), (Below.heap_setCell _ _ _ _ (by simp)).trans HC8.out, set_at HX8.out, hbl8.setCell (by show w.heap.size ≤ w1.heap.size + 1; omega) _, by simp [World.setCell]; exact hlt8⟩
              | false =>
                cases is
                all_goals
                  go_wp2
                  go_roundg g
                  case measure => omega
                  case rel => exact ⟨k + 1, yl, by omega, by go_num, hyn, HYG, HC6, HX6, hbl6, hlt6⟩
            · cases is
              all_goals
                go_wp2
                go_roundg g
                case measure => omega
                case rel => exact ⟨k + 1, yl, by omega, by go_num, hyn, HYG, HC6, HX6, hbl6, hlt6⟩
      · go_wp2
        go_ret
        exact ⟨rfl, hbl⟩

end Go.Proofs.Ytopmenioioljoaa.CountW
