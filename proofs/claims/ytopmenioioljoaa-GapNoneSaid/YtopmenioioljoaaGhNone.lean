/-
  THE GAP LAWS: texts GapNil, GapNoneW, GapNoneA in one.
-/
import Derived.Test.YtopmenioioljoaaGg4
import Derived.Deep.DeepCutAuto
import Derived.Deep.LoopGhost
/-
  THE CALLS OF PACKAGE gap WITHOUT A BUFFER.
-/
namespace Go.Proofs.Ytopmenioioljoaa.GapW
open Go.RowKit Go.Proofs.Ytopmenioioljoaa.Base Go.Proofs.YtopmenioioljoaaW.PrintWords Go.Proofs.YtopmenioioljoaaW.PrintLast Go.Proofs.YtopmenioioljoaaW.PrintMore Go.Proofs.Ytopmenioioljoaa.PGapDoes Go.Proofs.Ytopmenioioljoaa.CountW

theorem gmove_nil (z : Int) (w : World) : Calls Try.prog 50 #[.pointer none, .int .i64 z] w fun e w' => e = .returned (.tuple #[]) ∧ w = w' := by
  go_enter Try.func50, Try.ntmps50
  go_wp2
  refine bodyPost_ret (results_none rfl _ _ _) rfl ?_
  exact ⟨rfl, rfl⟩
theorem ginsert_nil (v : Value) (w : World) : Calls Try.prog 44 #[.pointer none, v] w fun e w' => e = .returned (.int .i64 1) ∧ w = w' := by
  go_enter Try.func44, Try.ntmps44
  go_wp2
  go_ret
  exact ⟨rfl, rfl⟩
theorem gset_nil (v : Value) (z : Int) (w : World) : Calls Try.prog 51 #[.pointer none, v, .int .i64 z] w fun e w' => e = .returned (.int .i64 1) ∧ w = w' := by
  go_enter Try.func51, Try.ntmps51
  go_wp2
  go_ret
  exact ⟨rfl, rfl⟩
theorem gcut_nil (z : Int) (w : World) : Calls Try.prog 48 #[.pointer none, .int .i64 z] w fun e w' => e = .returned (.slice none 0 0) ∧ w = w' := by
  go_enter Try.func48, Try.ntmps48
  go_wp2
  go_ret
  exact ⟨rfl, rfl⟩
set_option maxRecDepth 100000 in
theorem gline_nil (w : World) : Calls Try.prog 57 #[.pointer none] w fun e w' => e = .returned (.agg #[.slice none 0 0, .int .i64 0]) ∧ Below w.heap.size w w' := by
  have HBA := Aside0.mk (balloc w (.cells #[.slice none 0 0, .int .i64 0] 70))
  have hX := heap_alloc_new w (.cells #[.slice none 0 0, .int .i64 0] 70)
  have x0 : (w.alloc (.cells #[.slice none 0 0, .int .i64 0] 70)).cell? ⟨w.heap.size, 0, none⟩ = some (.slice none 0 0) := blk_cell hX 0
  have x1 : (w.alloc (.cells #[.slice none 0 0, .int .i64 0] 70)).cell? ⟨w.heap.size, 1, none⟩ = some (.int .i64 0) := blk_cell hX 1
  have y0 := blk_frozen hX 0
  have y1 := blk_frozen hX 1
  have HX := Lib.hid hX
  clear hX
  go_enter Try.func57, Try.ntmps57
  go_wp2_with fail
  refine (gall_nil _).mono ?_
  rintro e w1 ⟨rfl, rfl⟩
  go_wp2_with fail
  refine (at54_nil _).mono ?_
  rintro e w1 ⟨rfl, rfl⟩
  go_wp2_with fail
  refine bodyPost_ret (results_cell_row rfl _ _ w.heap.size 70 #[.slice none 0 0, .int .i64 0] (0, 0) _ rfl HX.out Try.underlying70 rfl (by kernel_rfl)) rfl ?_
  exact ⟨rfl, HBA.out⟩
set_option maxRecDepth 100000 in
theorem gget_nil (i : Int) (w : World) : Calls Try.prog 52 #[.pointer none, .int .i64 i] w fun e w' => e = .returned (.tuple #[.agg #[.int .i64 0, .int .i64 0], .bool false]) ∧ Below w.heap.size w w' := by
  have HBA := Aside0.mk (balloc w (.cells #[.int .i64 0, .int .i64 0] 82))
  by_cases h0 : i < 0
  · have d0 : decide (i < 0) = true := decide_eq_true h0
    go_enter Try.func52, Try.ntmps52
    go_wp2_with fail
    refine bodyPost_ret (results_ct rfl _ _ w.heap.size 82 #[.int .i64 0, .int .i64 0] (0, 0) _ rfl (heap_alloc_new w _) Try.underlying82 rfl (by kernel_rfl)) rfl ?_
    exact ⟨rfl, HBA.out⟩
  · have d0 : decide (i < 0) = false := decide_eq_false h0
    have d1 : decide (0 ≤ i) = true := decide_eq_true (by omega)
    clear h0
    go_enter Try.func52, Try.ntmps52
    go_wp2_with fail
    refine (len53_nil _).mono ?_
    rintro e w1 ⟨rfl, rfl⟩
    go_wp2_with fail
    refine bodyPost_ret (results_ct rfl _ _ w.heap.size 82 #[.int .i64 0, .int .i64 0] (0, 0) _ rfl (heap_alloc_new w (.cells #[.int .i64 0, .int .i64 0] 82)) Try.underlying82 rfl (by kernel_rfl)) rfl ?_
    exact ⟨rfl, HBA.out⟩

end Go.Proofs.Ytopmenioioljoaa.GapW

/-
  THE LAW GapNone (dactyllaw16): its walk: it returns true.
-/
namespace Go.Proofs.Ytopmenioioljoaa.GapW
open Go.RowKit Go.Proofs.Ytopmenioioljoaa.Base Go.Proofs.YtopmenioioljoaaW.PrintWords Go.Proofs.YtopmenioioljoaaW.PrintLast Go.Proofs.YtopmenioioljoaaW.PrintMore Go.Proofs.Ytopmenioioljoaa.PGapDoes Go.Proofs.Ytopmenioioljoaa.CountW

set_option maxRecDepth 100000 in
set_option maxHeartbeats 8000000 in
theorem gnone_long (A : Option Addr) (c n : Nat) (z : Int) (w : World) (hn : 60 < n) :
    Calls Try.prog 9 #[.slice A n c, .int .i64 z] w fun e w' => e = .returned (.bool true) ∧ Below w.heap.size w w' := by
  have d1 : decide (60 < n) = true := decide_eq_true hn
  have d2 : decide ((60 : Int) < (n : Int)) = true := decide_eq_true (by omega)
  clear hn
  go_enter Try.func9, Try.ntmps9
  go_wp2_with fail
  refine (awake41 _).mono ?_
  rintro e w1 ⟨rfl, hb1⟩
  go_wp2_with fail
  go_ret
  exact ⟨rfl, hb1⟩

set_option maxRecDepth 100000 in
set_option maxHeartbeats 8000000 in
theorem gnone_bad (A : Option Addr) (c : Nat) (l : List S82) (z : Int) (w : World) (hs : Src w A c l) (hn : l.length ≤ 60) (hb : l.all srt = false) :
    Calls Try.prog 9 #[.slice A l.length c, .int .i64 z] w fun e w' => e = .returned (.bool true) ∧ Below w.heap.size w w' := by
  have hR := rall hs (by omega)
  rw [hb] at hR
  obtain ⟨n, hln⟩ : ∃ n, l.length = n := ⟨_, rfl⟩
  rw [hln] at hR hn ⊢
  have HR := Lib.hid hR
  have d1 : decide (60 < n) = false := decide_eq_false (by omega)
  have d2 : decide ((60 : Int) < (n : Int)) = false := decide_eq_false (by omega)
  clear hn hR hb hln
  go_enter Try.func9, Try.ntmps9
  go_wp2_with fail
  refine HR.out.mono ?_
  rintro e w1 ⟨rfl, hb1⟩
  go_wp2_with fail
  refine (awake41 _).mono ?_
  rintro e w2 ⟨rfl, hb2⟩
  go_wp2_with fail
  go_ret
  exact ⟨rfl, btr hb1 hb2⟩

theorem rsame_m {w : World} {A B : Option Addr} {c d n : Nat} {l : List S82} (hn : l.length = n) (h : Src w A c l) (h2 : Src w B d l) (hl : n ≤ 1000000) :
    Calls Try.prog 47 #[.slice A n c, .slice B n d] w fun e w' => e = .returned (.bool true) ∧ Below w.heap.size w w' := by
  subst hn
  exact rsame h h2 hl
theorem field70 (W : World) : (Instr.field 70 (Value.agg #[.slice none 0 0, .int .i64 0]) 0).run Try.prog W = .ok (.slice none 0 0) W := by
  kernel_rfl
/-- A block that has as many cells. -/
theorem big_set {w : World} {g o m : Nat} {cs : Array Value} {u : Value} (h : w.heap[g]? = some (.cells cs 82 (0, 0))) (hm : m ≤ cs.size) : ∃ cs', (w.setCell ⟨g, o, none⟩ u).heap[g]? = some (.cells cs' 82 (0, 0)) ∧ m ≤ cs'.size := by
  refine ⟨_, set_at h, ?_⟩
  simpa using hm

set_option maxRecDepth 100000 in
set_option maxHeartbeats 8000000 in
theorem gnone_walk (A : Option Addr) (c : Nat) (l : List S82) (z : Int) (w : World) (hs : Src w A c l) (hn : l.length ≤ 60) (hb : l.all srt = true) :
    Calls Try.prog 9 #[.slice A l.length c, .int .i64 z] w fun e w' => e = .returned (.bool true) ∧ Below w.heap.size w w' := by
  have hR := rall hs (by omega)
  rw [hb] at hR
  have hf : fitE l 0 60 = 0 := by unfold fitE; rw [if_pos hb, if_neg (by omega)]
  have HF := Lib.hid hf
  obtain ⟨n, hln⟩ : ∃ n, l.length = n := ⟨_, rfl⟩
  have HS := Lib.hid hs
  have HLN := Lib.hid hln
  have HN := Lib.hid hn
  rw [hln] at hR hn ⊢
  have HR := Lib.hid hR
  have d1 : decide (60 < n) = false := decide_eq_false (by omega)
  have d2 : decide ((60 : Int) < (n : Int)) = false := decide_eq_false (by omega)
  have hset := fun (W : World) (G : Nat) (h : GSt w W G 60 [] [] [] (.slice none 0 0)) => gset_ok h A c l z (hs.below h.bel).C hs.nil (by omega) (by omega) (by omega) hf
  rw [hln] at hset
  have HSET := Lib.hid hset
  clear hn hR hb hln hs hf hset
  go_enter Try.func9, Try.ntmps9
  go_wp2_with fail
  refine HR.out.mono ?_
  rintro e w1 ⟨rfl, hb1⟩
  go_wp2_with fail
  refine (awake41 _).mono ?_
  rintro e w2 ⟨rfl, hb2⟩
  go_wp2_with fail
  refine (gmove_nil z _).mono ?_
  rintro e w3 ⟨rfl, rfl⟩
  go_wp2_with fail
  refine (gget_nil z _).mono ?_
  rintro e w3 ⟨rfl, hb3⟩
  have HB3 := Aside0.mk (btr (btr (btr hb1 hb2) hb3) (balloc w3 (.cells #[.int .i64 0, .int .i64 0] 82)))
  clear hb1 hb2 hb3
  go_wp2_with fail
  refine (gnew 60 w _ HB3.out (by decide) (by decide)).mono ?_
  rintro e w4 ⟨rfl, h4, _⟩
  rw [World.size_alloc] at h4
  have H4 := Aside0.mk h4
  clear h4
  go_wp2_with fail
  refine (HSET.out _ _ H4.out).mono ?_
  rintro e w5 ⟨rfl, gap5, v5, h5, _, _⟩
  have H5 := Aside0.mk h5
  clear h5
  go_wp2_with fail
  refine (gall H5.out).mono ?_
  rintro e w6 ⟨v6, rfl, hv6, hb6⟩
  have H6 := Aside0.mk (H5.out.below hb6)
  have hl6 : (l.take (plc n z) ++ l.drop (plc n z)) = l := List.take_append_drop _ _
  rw [hl6] at hv6
  have hnl := HN.out
  rcases hv6.form with ⟨rfl, hx⟩ | ⟨gA, cA, sp, rfl, hgA, hblk, _, _, _⟩
  · go_wp2_with fail
    go_loopg [12] 0 (fun g vi wr => vi = .int .i64 0 ∧ wr = w6)
    case atStart => exact ⟨rfl, rfl⟩
    case round =>
      obtain ⟨rfl, rfl⟩ := hrel
      have H7 := H6
      go_wp2_with fail
      refine (ginsert_nil _ _).mono ?_
      rintro e w8 ⟨rfl, rfl⟩
      go_wp2_with fail
      refine (gset_nil _ _ _).mono ?_
      rintro e w8 ⟨rfl, rfl⟩
      go_wp2_with fail
      refine (gcut_nil _ _).mono ?_
      rintro e w8 ⟨rfl, rfl⟩
      go_wp2_with fail
      refine (len53_nil _).mono ?_
      rintro e w8 ⟨rfl, rfl⟩
      go_wp2_with fail
      refine (at54_nil _).mono ?_
      rintro e w8 ⟨rfl, rfl⟩
      go_wp2_with fail
      refine (gall_nil _).mono ?_
      rintro e w8 ⟨rfl, rfl⟩
      go_wp2_with fail
      refine (gline_nil _).mono ?_
      rintro e w8 ⟨rfl, hb8⟩
      have H8 := Aside0.mk (H7.out.below hb8)
      have hfl := field70
      clear hb8
      go_wp2_with fail
      refine (gall H8.out).mono ?_
      rintro e w9 ⟨v9, rfl, hv9, hb9⟩
      have H9 := Aside0.mk (H8.out.below hb9)
      have hl9 : (l.take (plc n z) ++ l.drop (plc n z)) = l := List.take_append_drop _ _
      rw [hl9] at hv9
      obtain ⟨A9, c9, rfl, hs9⟩ := hv9.src
      have HS9 := Aside0.mk hs9
      rw [HLN.out]
      clear hl9 hv9 hs9 hb9
      go_wp2_with fail
      refine (rsame_m HLN.out HS9.out (HS.out.below H9.out.bel) (by have := HN.out; rw [HLN.out] at this; omega)).mono ?_
      rintro e w10 ⟨rfl, hb10⟩
      go_wp2_with fail
      go_ret
      exact ⟨by first | rfl | (simp; done), btr H9.out.bel hb10⟩
  · rw [HLN.out]
    have hb0 : ∃ cs : Array Value, w6.heap[gA]? = some (.cells cs 82 (0, 0)) ∧ n * 2 ≤ cs.size := ⟨_, hblk, by rw [List.size_toArray, List.length_append, enc2_len, HLN.out]; omega⟩
    have HB0 := Lib.hid hb0
    have HGA := Lib.hid (show w5.heap.size ≤ gA from hgA)
    have HG5 := Lib.hid (lt_of_block H5.out.blk)
    have HV5 := Lib.hid H5.out.row.lt
    have HW6 := Aside0.mk hb6
    have hn60 : n ≤ 60 := by rw [← HLN.out]; exact hnl
    clear hl6 hblk hb0 hgA hb6 hnl hv6
    go_wp2_with fail
    go_loopg [12] n (fun g vi wr => ∃ j : Nat, j + g = n ∧ vi = .int .i64 j ∧ Hid (Kept w6 wr (fun k => k = gA)) ∧ Hid (Below w5.heap.size w5 wr) ∧ Hid (∃ cs : Array Value, wr.heap[gA]? = some (.cells cs 82 (0, 0)) ∧ n * 2 ≤ cs.size))
    case atStart => exact ⟨0, by omega, rfl, Kept.refl _ _, HW6.out, HB0.out⟩
    case round =>
      obtain ⟨j, hj, rfl, HK, HBW, HC⟩ := hrel
      by_cases hlt : j < n
      · obtain ⟨g, rfl⟩ : ∃ g, gk = g + 1 := ⟨gk - 1, by omega⟩
        obtain ⟨cs, hcs, hsz⟩ := HC.out
        have k0 : ∃ u, wr.cell? ⟨gA, j * 2, none⟩ = some u := by
          rw [blk_cell hcs (j * 2)]
          exact ⟨_, Array.getElem?_eq_getElem (by omega)⟩
        have k1 : ∃ u, wr.cell? ⟨gA, j * 2 + 1, none⟩ = some u := by
          rw [blk_cell hcs (j * 2 + 1)]
          exact ⟨_, Array.getElem?_eq_getElem (by omega)⟩
        obtain ⟨u0, k0⟩ := k0
        obtain ⟨u1, k1⟩ := k1
        have f0 := blk_frozen hcs (j * 2)
        have f1 := blk_frozen hcs (j * 2 + 1)
        have HCS := Lib.hid hcs
        have HSZ := Lib.hid hsz
        clear hcs hsz
        go_wp2_with fail
        go_roundg g
        case measure => omega
        case rel =>
          obtain ⟨cs1, h1, hz1⟩ := big_set (o := j * 2) (u := .int .i64 122) HCS.out HSZ.out
          obtain ⟨cs2, h2, hz2⟩ := big_set (o := j * 2 + 1) (u := .int .i64 0) h1 hz1
          have hk1 : Kept w6 (wr.setCell ⟨gA, j * 2, none⟩ (.int .i64 122)) (fun k => k = gA) := Kept.setCell HK.out (p := ⟨gA, j * 2, none⟩) (.inl rfl) _
          exact ⟨j + 1, by omega, by go_num, Kept.setCell hk1 (p := ⟨gA, j * 2 + 1, none⟩) (.inl rfl) _, below_set (below_set HBW.out HGA.out) HGA.out, ⟨cs2, h2, hz2⟩⟩
      · have H7 := Aside0.mk (H6.out.kept HK.out (fun e => by have := HG5.out; have := HGA.out; omega) (fun k hk e => by have := HV5.out k hk; have := HGA.out; omega) (btr H5.out.bel HBW.out))
        go_wp2_with fail
        refine (ginsert_nil _ _).mono ?_
        rintro e w8 ⟨rfl, rfl⟩
        go_wp2_with fail
        refine (gset_nil _ _ _).mono ?_
        rintro e w8 ⟨rfl, rfl⟩
        go_wp2_with fail
        refine (gcut_nil _ _).mono ?_
        rintro e w8 ⟨rfl, rfl⟩
        go_wp2_with fail
        refine (len53_nil _).mono ?_
        rintro e w8 ⟨rfl, rfl⟩
        go_wp2_with fail
        refine (at54_nil _).mono ?_
        rintro e w8 ⟨rfl, rfl⟩
        go_wp2_with fail
        refine (gall_nil _).mono ?_
        rintro e w8 ⟨rfl, rfl⟩
        go_wp2_with fail
        refine (gline_nil _).mono ?_
        rintro e w8 ⟨rfl, hb8⟩
        have H8 := Aside0.mk (H7.out.below hb8)
        have hfl := field70
        clear hb8
        go_wp2_with fail
        refine (gall H8.out).mono ?_
        rintro e w9 ⟨v9, rfl, hv9, hb9⟩
        have H9 := Aside0.mk (H8.out.below hb9)
        have hl9 : (l.take (plc n z) ++ l.drop (plc n z)) = l := List.take_append_drop _ _
        rw [hl9] at hv9
        obtain ⟨A9, c9, rfl, hs9⟩ := hv9.src
        have HS9 := Aside0.mk hs9
        rw [HLN.out]
        clear hl9 hv9 hs9 hb9
        go_wp2_with fail
        refine (rsame_m HLN.out HS9.out (HS.out.below H9.out.bel) (by have := HN.out; rw [HLN.out] at this; omega)).mono ?_
        rintro e w10 ⟨rfl, hb10⟩
        go_wp2_with fail
        go_ret
        exact ⟨by first | rfl | (simp; done), btr H9.out.bel hb10⟩

end Go.Proofs.Ytopmenioioljoaa.GapW

/-
  THE LAW GapNone: its three ways in one.
-/
namespace Go.Proofs.Ytopmenioioljoaa.GapW
open Go.RowKit Go.Proofs.YtopmenioioljoaaW.PrintWords Go.Proofs.Ytopmenioioljoaa.PGapDoes

theorem gnone (A : Option Addr) (c : Nat) (l : List S82) (z : Int) (w : World) (hs : Src w A c l) :
    Calls Try.prog 9 #[.slice A l.length c, .int .i64 z] w fun e w' => e = .returned (.bool true) ∧ Below w.heap.size w w' := by
  by_cases hn : 60 < l.length
  · exact gnone_long A c _ z w hn
  · cases hb : l.all srt with
    | false => exact gnone_bad A c l z w hs (by omega) hb
    | true => exact gnone_walk A c l z w hs (by omega) hb

end Go.Proofs.Ytopmenioioljoaa.GapW
