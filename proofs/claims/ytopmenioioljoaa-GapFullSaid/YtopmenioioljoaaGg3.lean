/-
  THE GAP LAWS: texts GapQ, GapR, GapS, GapT, GapU, GapV, GapX, GapY in one.
-/
import Derived.Test.YtopmenioioljoaaGg2
import Derived.Lib.AppendZerosOnto
/-
  slices.Grow OF nil, at signs: an empty row with room.
-/
namespace Go.Proofs.Ytopmenioioljoaa.GapW
open Go.RowKit Go.Proofs.Ytopmenioioljoaa.Base Go.Proofs.YtopmenioioljoaaW.PrintWords Go.Proofs.YtopmenioioljoaaW.PrintLast Go.Proofs.YtopmenioioljoaaW.PrintMore Go.Proofs.Ytopmenioioljoaa.PGapDoes Go.Proofs.Ytopmenioioljoaa.CountW

theorem wpList_run {P : Program} {ops : Array Oper} {rest : List Oper} {o : Oper} {a : Act} {Q : Exit → Act → World → Prop} {W w1 : World} {v : Value} (hgd : o.guard = none)
    (hrun : (execOp a.eval o).run P W = .ok (.value v) w1) (h : wpList P ops Q rest (a.put o.dst v) w1) : wpList P ops Q (o :: rest) a W := by
  refine wpList_plain hgd fun K hK => ?_
  unfold Oper.wp
  rw [hrun]
  exact hK _ _ h

/-- append(nil, make([]Sign, n)...). -/
theorem zeros_run (w : World) (n : Nat) (h0 : 0 < n) (hn : n ≤ 1000000) : ∃ v w1, (Builtin.append_ #[68, 3] 68 #[.slice none 0 0, .int .i64 (n : Int)]).run Try.prog w = .ok v w1 ∧
    ∃ (cap : Nat) (sp : List Value), v = .slice (some ⟨w.heap.size, 0, none⟩) n cap ∧ n ≤ cap ∧ cap ≤ maxLen ∧ sp.length = cap * 2 ∧ w1.heap[w.heap.size]? = some (.cells sp.toArray 82 (0, 0)) ∧ Below w.heap.size w w1 := by
  obtain ⟨i, hi, hz⟩ := Option.map_eq_some_iff.1 info82
  simp only [Prod.mk.injEq] at hz
  have h := Lib.run_append_nil_zeros (P := Try.prog) w 68 3 68 82 i _ .i64 .i64 Try.underlying68 Try.underlying3 hi hz.1 n h0 (by rw [hz.2.1]; decide) (by omega) (by rw [hz.2.2]; omega)
  have hge := grownCap_ge w n 0 82
  refine ⟨_, _, h, grownCap w n 0 82, (Builtin.zeroCells (Value.agg #[Value.int .i64 0, Value.int .i64 0]).cells n ++ Builtin.zeroCells (Value.agg #[Value.int .i64 0, Value.int .i64 0]).cells (grownCap w n 0 82 - n)).toList, rfl, hge, grownCap_le_maxLen w n 0 82 (by unfold maxLen; omega), ?_, ?_, ?_⟩
  · rw [Array.length_toList, Array.size_append, size_zeroCells, size_zeroCells]
    show n * 2 + (grownCap w n 0 82 - n) * 2 = _
    omega
  · have := heap_alloc_new w.drew (.cells (Builtin.zeroCells (Value.agg #[Value.int .i64 0, Value.int .i64 0]).cells n ++ Builtin.zeroCells (Value.agg #[Value.int .i64 0, Value.int .i64 0]).cells (grownCap w n 0 82 - n)) 82)
    rw [Array.toArray_toList]
    exact this
  · exact btr (bdrew w) (balloc _ _)

set_option maxRecDepth 100000 in
theorem grow84 (n : Nat) (hn : n ≤ 1000000) (w : World) :
    Calls Try.prog 84 #[.slice none 0 0, .int .i64 (n : Int)] w fun e w' => ∃ v, e = .returned v ∧ Rw w' w.heap.size v [] ∧ Below w.heap.size w w' := by
  by_cases h0 : n = 0
  · subst h0
    go_enter Try.func84, Try.ntmps84
    go_wp2_with fail
    go_ret
    exact ⟨_, rfl, Rw.nil _ _, Below.refl _ _⟩
  · have d1 : decide ((n : Int) < 0) = false := decide_eq_false (by omega)
    have d2 : decide (0 < (n : Int)) = true := decide_eq_true (by omega)
    have d3 : decide (0 < n) = true := decide_eq_true (by omega)
    obtain ⟨v1, w1, hrun, cap, sp, rfl, h1, h2, h3, h4, h5⟩ := zeros_run w n (by omega) hn
    have HR := Lib.hid hrun
    clear hrun
    go_enter Try.func84, Try.ntmps84
    go_wp2_with (first | ((with_reducible refine gate_builtin (b := .append) (xs := #[.tmp 20, .tmp 21]) rfl ?_); at_builtin; refine wpList_run rfl (v := .slice (some ⟨w.heap.size, 0, none⟩) n cap) (w1 := w1) ?hr ?_; (case hr => simp [execOp, resolve, invoke, builtin, Act.eval, HR.out, Result.andThen])))
    go_ret
    exact ⟨_, rfl, Rw.of_block (xs := []) (sp := sp) (Nat.le_refl _) h4 (Nat.zero_le _) h2 (by rw [h3]; rfl), h5⟩

end Go.Proofs.Ytopmenioioljoaa.GapW

/-
  slices.Concat OF TWO, at signs.
-/
namespace Go.Proofs.Ytopmenioioljoaa.GapW
open Go.RowKit Go.Proofs.Ytopmenioioljoaa.Base Go.Proofs.YtopmenioioljoaaW.PrintWords Go.Proofs.YtopmenioioljoaaW.PrintLast Go.Proofs.YtopmenioioljoaaW.PrintMore Go.Proofs.Ytopmenioioljoaa.PGapDoes Go.Proofs.Ytopmenioioljoaa.CountW

/-- The j-th of two. -/
def ofTwo {α : Type} (a b : α) (j : Nat) : α := if j = 0 then a else b

set_option maxRecDepth 100000 in
theorem concat74 (T : Nat) (A B : Option Addr) (ca cb : Nat) (xs ys : List S82) (w : World) (hT : w.heap[T]? = some (.cells #[.slice A xs.length ca, .slice B ys.length cb] 68 (0, 0))) (hA : Kd.C k82 w A xs.length xs) (hB : Kd.C k82 w B ys.length ys) (hx : xs.length + ys.length ≤ 1000000) :
    Calls Try.prog 74 #[.slice (some ⟨T, 0, none⟩) 2 2] w fun e w' => ∃ v, e = .returned v ∧ Rw w' w.heap.size v (xs ++ ys) ∧ Below w.heap.size w w' := by
  have t0 : w.cell? ⟨T, 0, none⟩ = some (.slice A xs.length ca) := by simp [World.cell?, hT]
  have t1 : w.cell? ⟨T, 1, none⟩ = some (.slice B ys.length cb) := by simp [World.cell?, hT]
  have HA := Aside0.mk hA
  have HB := Aside0.mk hB
  have HT := Aside0.mk hT
  clear hA hB hT
  go_enter Try.func74, Try.ntmps74
  go_wp2_with fail
  have e1 : IntKind.i64.wrap (0 + (xs.length : Int)) = (xs.length : Int) := by rw [IntKind.wrap_i64]; omega
  have e2 : IntKind.i64.wrap ((xs.length : Int) + (ys.length : Int)) = ((xs.length + ys.length : Nat) : Int) := by rw [IntKind.wrap_i64]; omega
  go_loopw [3, 11] (fun v3 vi wr => (vi = .int .i64 0 ∧ v3 = .int .i64 0 ∨ vi = .int .i64 1 ∧ v3 = .int .i64 (xs.length : Int) ∨ vi = .int .i64 2 ∧ v3 = .int .i64 ((xs.length + ys.length : Nat) : Int)) ∧ wr = w) (fun _ vi _ => 2 - (intOf vi).toNat)
  case atStart => exact ⟨.inl ⟨rfl, rfl⟩, rfl⟩
  case round =>
    obtain ⟨hcase, hw⟩ := hrel
    have hw2 := hw.symm
    clear hw
    subst hw2
    rcases hcase with ⟨rfl, rfl⟩ | ⟨rfl, rfl⟩ | ⟨rfl, rfl⟩
    · go_wp2_with fail
      go_roundw
      case rel => exact ⟨.inr (.inl ⟨by go_num, by first | rfl | go_num⟩), trivial⟩
      case measure => simp [intOf]
    · go_wp2_with fail
      go_roundw
      case rel => exact ⟨.inr (.inr ⟨by go_num, by first | rfl | go_num⟩), trivial⟩
      case measure => simp [intOf]
    · have HG := Lib.hid (grow84 (xs.length + ys.length) hx w)
      go_wp2_with fail
      refine HG.out.mono ?_
      rintro e w1 ⟨v1, rfl, hv1, hb1⟩
      have HV1 := Aside0.mk hv1
      have HB1 := Aside0.mk hb1
      clear hv1 hb1
      go_wp2_with fail
      go_loopw [6, 27] (fun v6 vi w3 => ∃ zs : List S82, (vi = .int .i64 0 ∧ zs = [] ∨ vi = .int .i64 1 ∧ zs = xs ∨ vi = .int .i64 2 ∧ zs = xs ++ ys) ∧ Rw w3 w.heap.size v6 zs ∧ Below w.heap.size w w3) (fun _ vi _ => 2 - (intOf vi).toNat)
      case atStart => exact ⟨[], .inl ⟨rfl, rfl⟩, HV1.out, HB1.out⟩
      case round =>
        obtain ⟨zs, hcase, hv, hbl⟩ := hrel
        have HBL := Aside0.mk hbl
        have t0' := pw_cell_below hbl t0
        have t1' := pw_cell_below hbl t1
        have HV := Aside0.mk hv
        obtain ⟨A6, c6, rfl, _, _⟩ := hv.reads
        clear hbl hv
        rcases hcase with ⟨rfl, hz⟩ | ⟨rfl, hz⟩ | ⟨rfl, hz⟩
        · have HZ := Lib.hid hz
          clear hz
          go_wp2_with (first | ((with_reducible refine gate_builtin (b := .append) (xs := #[.tmp 31, .tmp 32]) rfl ?_); at_builtin; refine Kd.R_append_rows k82 (w0 := w) w.heap.size rfl (.tmp 31) (.tmp 32) 68 82 (.agg #[(.int .i64 0), (.int .i64 0)]) 16 rfl Try.underlying68 info82 rfl (by decide) (by omega) (.slice A6 zs.length c6) zs xs _ _ _ (fun _ => True) (fun _ => False) rfl rfl HV.out.r (Kd.C_below HA.out HBL.out) ?aK (fun _ h => h.elim) (fun _ _ => trivial) HBL.out HBL.out.size ?aL ?_; (case aK => exact fun _ _ h => k_to_m2 h); (case aL => have hzl := congrArg List.length HZ.out; (try simp only [List.length_nil] at hzl); omega); intro v7 w7 ho7 hb7 hg7 hat7; clear hg7 hat7; have HO7 := Aside0.mk ho7; have HB7 := Aside0.mk hb7; clear ho7 hb7))
          go_roundw
          case rel => exact ⟨zs ++ xs, .inr (.inl ⟨by go_num, by rw [HZ.out]; rfl⟩), ⟨HO7.out⟩, HB7.out⟩
          case measure => simp [intOf]
        · have HZ := Lib.hid hz
          clear hz
          go_wp2_with (first | ((with_reducible refine gate_builtin (b := .append) (xs := #[.tmp 31, .tmp 32]) rfl ?_); at_builtin; refine Kd.R_append_rows k82 (w0 := w) w.heap.size rfl (.tmp 31) (.tmp 32) 68 82 (.agg #[(.int .i64 0), (.int .i64 0)]) 16 rfl Try.underlying68 info82 rfl (by decide) (by omega) (.slice A6 zs.length c6) zs ys _ _ _ (fun _ => True) (fun _ => False) rfl rfl HV.out.r (Kd.C_below HB.out HBL.out) ?aK (fun _ h => h.elim) (fun _ _ => trivial) HBL.out HBL.out.size ?aL ?_; (case aK => exact fun _ _ h => k_to_m2 h); (case aL => have hzl := congrArg List.length HZ.out; (try simp only [List.length_nil] at hzl); omega); intro v7 w7 ho7 hb7 hg7 hat7; clear hg7 hat7; have HO7 := Aside0.mk ho7; have HB7 := Aside0.mk hb7; clear ho7 hb7))
          go_roundw
          case rel => exact ⟨zs ++ ys, .inr (.inr ⟨by go_num, by rw [HZ.out]⟩), ⟨HO7.out⟩, HB7.out⟩
          case measure => simp [intOf]
        · go_wp2_with fail
          go_ret
          rw [← hz]
          exact ⟨_, rfl, HV.out, HBL.out⟩

end Go.Proofs.Ytopmenioioljoaa.GapW

/-
  THE WALK OF PACKAGE gap: All.
-/
namespace Go.Proofs.Ytopmenioioljoaa.GapW
open Go.RowKit Go.Proofs.Ytopmenioioljoaa.Base Go.Proofs.YtopmenioioljoaaW.PrintWords Go.Proofs.YtopmenioioljoaaW.PrintLast Go.Proofs.YtopmenioioljoaaW.PrintMore Go.Proofs.Ytopmenioioljoaa.PGapDoes Go.Proofs.Ytopmenioioljoaa.CountW

/-- buf[:p:p]. -/
theorem cuthm82 (A : Option Addr) (N cap p : Nat) (h2 : p ≤ cap) :
    ∀ W : World, (Instr.slice 68 (.slice A N cap) none (some (.int .i64 (p : Int))) (some (.int .i64 (p : Int)))).run Try.prog W = .ok (.slice A p p) W := by
  intro W
  obtain ⟨i, hi, hz⟩ := Option.map_eq_some_iff.1 info82
  simp only [Prod.mk.injEq] at hz
  have hel : Try.prog.elem 68 = 82 := by simp [Program.elem, Try.underlying68]
  have hu : Try.prog.underlying 68 = some (.slice (Try.prog.elem 68)) := by rw [hel]; exact Try.underlying68
  rw [run_slice_hm W 68 A N cap hu .i64 .i64 (p : Int) (p : Int) (by omega) (by omega) (by omega), hel]
  simp only [sizeOf, typeInfo, sliced, Result.andThen, Int.toNat_natCast]
  cases A with
  | none => simp [hi]
  | some a => simp [hi, Addr.add]

theorem gall_nil (w : World) : Calls Try.prog 55 #[.pointer none] w fun e w' => e = .returned (.slice none 0 0) ∧ w = w' := by
  go_enter Try.func55, Try.ntmps55
  go_wp2
  go_ret
  exact ⟨rfl, rfl⟩

set_option maxRecDepth 100000 in
set_option maxHeartbeats 8000000 in
theorem gall {w0 w : World} {G : Nat} {most : Int} {pre gap post : List S82} {vB : Value} (h : GSt w0 w G most pre gap post vB) :
    Calls Try.prog 55 #[.pointer (some ⟨G, 0, none⟩)] w fun e w' => ∃ v, e = .returned v ∧ Rw w' w.heap.size v (pre ++ post) ∧ Below w.heap.size w w' := by
  obtain ⟨A, cap, rfl, hNc, hC⟩ := h.row.reads
  have hN : (pre ++ gap ++ post).length = pre.length + gap.length + post.length := by simp; omega
  have hbig := h.big
  obtain ⟨c0, c1, c2, c3, _⟩ := cells111 h.blk
  have hG := lt_of_block h.blk
  have hb1 : Kd.C k82 w A pre.length pre := by
    have := Kd.C_take (m := pre.length) hC (by omega)
    rwa [List.append_assoc, List.take_append_of_le_length (Nat.le_refl _), List.take_length] at this
  have hb2 : Kd.C k82 w (cutA A cap (pre.length + gap.length)) post.length post := by
    have := Kd.C_drop (m := pre.length + gap.length) (c := cap) hC (by omega) hNc
    rwa [← List.length_append, List.drop_append_of_le_length (Nat.le_refl _), List.drop_length, List.nil_append, List.length_append] at this
  have k1 := cuthm82 A (pre ++ gap ++ post).length cap pre.length (by omega)
  have k2 := cutf82 A (pre ++ gap ++ post).length cap (pre.length + gap.length) (by omega) hNc
  rw [hN, show pre.length + gap.length + post.length - (pre.length + gap.length) = post.length by omega] at k2
  rw [hN] at k1 c0
  obtain ⟨A2, hA2⟩ : ∃ A2, cutA A cap (pre.length + gap.length) = A2 := ⟨_, rfl⟩
  rw [hA2] at hb2 k2
  obtain ⟨r, hr⟩ : ∃ r, pre.length + gap.length = r := ⟨_, rfl⟩
  obtain ⟨N, hNN⟩ : ∃ N, r + post.length = N := ⟨_, rfl⟩
  rw [hr] at c2 k2
  rw [hr, hNN] at c0 k1
  rw [hNN] at k2
  have W1 := below_drew (Below.refl w.heap.size w)
  have HCC := Lib.hid (fun (W : World) (hT : W.heap[w.heap.size]? = some (.cells #[.slice A pre.length pre.length, .slice A2 post.length (cap - r)] 68 (0, 0))) (hb : Below w.heap.size w W) =>
    concat74 w.heap.size A A2 pre.length (cap - r) pre post W hT (Kd.C_below hb1 hb) (Kd.C_below hb2 hb) (by omega))
  have HBD := Aside0.mk (btr (bdrew w) (balloc w.drew (.cells #[.slice A pre.length pre.length, .slice A2 post.length (cap - r)] 68)))
  clear h hC hNc hN hbig hb1 hb2 hA2 hr hNN W1
  go_enter Try.func55, Try.ntmps55
  go_wp2_with fail
  go_region_held3 (fun w' => w'.cell? ⟨G, 0, none⟩ = some (.slice A N cap) ∧ w'.cell? ⟨G, 1, none⟩ = some (.int .i64 pre.length) ∧ w'.cell? ⟨G, 2, none⟩ = some (.int .i64 r)) (first | go_keep)
    (first | (go_at_call 74; refine (HCC.out _ (heap_alloc_new w.drew _) HBD.out).mono ?_; rintro e w6 ⟨v6, rfl, hv6, hb6⟩; have hbw := btr HBD.out hb6; have z0 := pw_cell_below hbw c0; have z1 := pw_cell_below hbw c1; have z2 := pw_cell_below hbw c2))
  go_wp2_with fail
  go_ret
  exact ⟨_, rfl, hv6.lower (by simp), hbw⟩

end Go.Proofs.Ytopmenioioljoaa.GapW

/-
  THE WALK OF PACKAGE gap: Line.
-/
namespace Go.Proofs.Ytopmenioioljoaa.GapW
open Go.RowKit Go.Proofs.Ytopmenioioljoaa.Base Go.Proofs.YtopmenioioljoaaW.PrintWords Go.Proofs.YtopmenioioljoaaW.PrintLast Go.Proofs.YtopmenioioljoaaW.PrintMore Go.Proofs.Ytopmenioioljoaa.PGapDoes Go.Proofs.Ytopmenioioljoaa.CountW

set_option maxRecDepth 100000 in
theorem gline {w0 w : World} {G : Nat} {most : Int} {pre gap post : List S82} {vB : Value} (h : GSt w0 w G most pre gap post vB) :
    Calls Try.prog 57 #[.pointer (some ⟨G, 0, none⟩)] w fun e w' => ∃ v, e = .returned (.agg #[v, .int .i64 (pre.length : Int)]) ∧ Rw w' w.heap.size v (pre ++ post) ∧ Below w.heap.size w w' := by
  have HBA := Aside0.mk (balloc w (.cells #[.slice none 0 0, .int .i64 0] 70))
  have H := Lib.hid (h.below HBA.out)
  have HX := Lib.hid (heap_alloc_new w (.cells #[.slice none 0 0, .int .i64 0] 70))
  clear h
  go_enter Try.func57, Try.ntmps57
  go_wp2_with fail
  refine (gall H.out).mono ?_
  rintro e w1 ⟨v1, rfl, hv1, hb1⟩
  have H1 := Lib.hid (H.out.below hb1)
  have X1 := Lib.hid ((hb1.block _ (lt_of_block HX.out)).trans HX.out)
  have HV := Aside0.mk hv1
  have HB := Aside0.mk (btr HBA.out hb1)
  obtain ⟨A1, c1, rfl, _, _⟩ := hv1.reads
  clear hv1 hb1
  go_wp2_with fail
  refine (at54 G vB _ _ most _ H1.out.blk).mono ?_
  rintro e w2 ⟨rfl, rfl⟩
  have x0 : w1.cell? ⟨w.heap.size, 0, none⟩ = some (.slice none 0 0) := blk_cell X1.out 0
  have x1 : w1.cell? ⟨w.heap.size, 1, none⟩ = some (.int .i64 0) := blk_cell X1.out 1
  have y0 := blk_frozen X1.out 0
  have y1 := blk_frozen X1.out 1
  go_wp2_with fail
  have hl : (pre ++ post).length = pre.length + post.length := List.length_append
  have hx2 := set_at (o := 1) (u := .int .i64 (pre.length : Int)) (set_at (o := 0) (u := .slice A1 (pre.length + post.length) c1) X1.out)
  refine bodyPost_ret (results_cell_row rfl _ _ w.heap.size 70 #[.slice A1 (pre.length + post.length) c1, .int .i64 (pre.length : Int)] (0, 0) _ rfl hx2 Try.underlying70 rfl (by kernel_rfl)) rfl ?_
  refine ⟨.slice A1 (pre.length + post.length) c1, rfl, ?_, below_set (below_set HB.out (Nat.le_refl _)) (Nat.le_refl _)⟩
  have hv := HV.out.kept (S := fun j => j = w.heap.size) (Kept.setCell (p := ⟨w.heap.size, 1, none⟩) (Kept.setCell (p := ⟨w.heap.size, 0, none⟩) (Kept.refl w1 (fun j => j = w.heap.size)) (.inl rfl) (.slice A1 (pre.length + post.length) c1)) (.inl rfl) (.int .i64 (pre.length : Int))) (fun j hj he => HV.out.ne X1.out (by decide) (by rw [← he]; exact hj))
  rw [hl] at hv
  exact hv.lower (by simp)

end Go.Proofs.Ytopmenioioljoaa.GapW

/-
  THE WALK OF PACKAGE gap: room.
-/
namespace Go.Proofs.Ytopmenioioljoaa.GapW
open Go.RowKit Go.Proofs.Ytopmenioioljoaa.Base Go.Proofs.YtopmenioioljoaaW.PrintWords Go.Proofs.YtopmenioioljoaaW.PrintLast Go.Proofs.YtopmenioioljoaaW.PrintMore Go.Proofs.Ytopmenioioljoaa.PGapDoes Go.Proofs.Ytopmenioioljoaa.CountW

set_option maxRecDepth 100000 in
theorem room83 {w0 w : World} {G : Nat} {most : Int} {pre gap post : List S82} {vB : Value} (h : GSt w0 w G most pre gap post vB) (Pb Nb n : Nat) (hn : n ≤ 100000) (hP : w.heap[Pb]? = some (.cells #[.pointer (some ⟨G, 0, none⟩)] 65 (0, 0))) (hN : w.heap[Nb]? = some (.cells #[.int .i64 (n : Int)] 3 (0, 0))) (hb : pre.length + post.length ≤ 100000) :
    Calls Try.prog 83 #[.pointer (some ⟨Pb, 0, none⟩), .pointer (some ⟨Nb, 0, none⟩)] w fun e w' => ∃ v, e = .returned v ∧ Rw w' w.heap.size v (List.replicate (2 * (pre.length + post.length + n)) z82) ∧ Below w.heap.size w w' := by
  have HL := Lib.hid (glen (h.below (bdrew w)))
  have p0 : w.cell? ⟨Pb, 0, none⟩ = some (.pointer (some ⟨G, 0, none⟩)) := by simp [World.cell?, hP]
  have n0 : w.cell? ⟨Nb, 0, none⟩ = some (.int .i64 (n : Int)) := by simp [World.cell?, hN]
  obtain ⟨q, hq⟩ : ∃ q, pre.length + post.length = q := ⟨_, rfl⟩
  obtain ⟨m, hm⟩ : ∃ m, 2 * (q + n) = m := ⟨_, rfl⟩
  rw [hq] at HL hb ⊢
  rw [hm]
  have e1 : IntKind.i64.wrap ((q : Int) + (n : Int)) = ((q + n : Nat) : Int) := by rw [IntKind.wrap_i64]; omega
  have e2 : IntKind.i64.wrap (2 * ((q + n : Nat) : Int)) = (m : Int) := by rw [IntKind.wrap_i64]; omega
  have e2b : IntKind.i64.wrap (2 * ((q : Int) + (n : Int))) = (m : Int) := by rw [IntKind.wrap_i64]; omega
  go_enter Try.func83, Try.ntmps83
  go_wp2_with fail
  refine start_ (n := 7) (S := fun w' => w'.cell? ⟨Pb, 0, none⟩ = some (.pointer (some ⟨G, 0, none⟩)) ∧ w'.cell? ⟨Nb, 0, none⟩ = some (.int .i64 (n : Int))) (ds := []) #[false, false, false, false, false, false, false] (by kernel_rfl) rfl rfl ?_ (fun hHeld => ?_)
  · exact ⟨p0, n0⟩
  refine take_ (i := 0) (N := some 3) (v := ?_) (a' := ?_) #[true, false, false, false, false, false, false] rfl rfl (by kernel_rfl) (fun _ _ _ h => h) (Or.inl ⟨by rfl, ?_⟩) hHeld ?_ ?_
  rotate_left
  · rintro w' ⟨s0, s1⟩; go_simp; first | done | with_reducible rfl
  rotate_left
  · simp only [Act.put, List.setIfInBounds_toArray, List.set_cons_zero, List.set_cons_succ]; rfl
  refine take_ (i := 2) (N := some 5) (v := ?_) (a' := ?_) #[true, false, true, false, false, false, false] rfl rfl (by kernel_rfl) (fun _ _ _ h => h) (Or.inl ⟨by rfl, ?_⟩) hHeld ?_ ?_
  rotate_left
  · rintro w' ⟨s0, s1⟩; go_simp; first | done | with_reducible rfl
  rotate_left
  · simp only [Act.put, List.setIfInBounds_toArray, List.set_cons_zero, List.set_cons_succ]; rfl
  refine one_ (i := 1) (N := some 4) #[true, true, true, false, false, false, false] rfl rfl (by kernel_rfl) (by decide) (fun K hK => ?_)
  go_simp
  go_at_call 53
  refine HL.out.mono ?_
  rintro e w' ⟨rfl, k, rfl⟩
  try dsimp only
  refine Shut.out hK _ _ ?_ (fun hHeld => ?_)
  · exact ⟨p0, n0⟩
  clear hK K
  refine take_ (i := 3) (N := some 6) (v := ?_) (a' := ?_) #[true, true, true, true, false, false, false] rfl rfl (by kernel_rfl) (fun _ _ _ h => h) (Or.inl ⟨by rfl, ?_⟩) hHeld ?_ ?_
  rotate_left
  · rintro w' ⟨s0, s1⟩; go_simp; first | done | with_reducible rfl
  rotate_left
  · simp only [Act.put, List.setIfInBounds_toArray, List.set_cons_zero, List.set_cons_succ]; rfl
  refine take_ (i := 4) (N := some 7) (v := ?_) (a' := ?_) #[true, true, true, true, true, false, false] rfl rfl (by kernel_rfl) (fun _ _ _ h => h) (Or.inl ⟨by rfl, ?_⟩) hHeld ?_ ?_
  rotate_left
  · rintro w' ⟨s0, s1⟩; go_simp; first | done | with_reducible rfl
  rotate_left
  · simp only [Act.put, List.setIfInBounds_toArray, List.set_cons_zero, List.set_cons_succ]; rfl
  refine one_ (i := 5) (N := some 8) #[true, true, true, true, true, true, false] rfl rfl (by kernel_rfl) (by decide) (fun K hK => ?_)
  refine Kd.R_make_step k82 (w0 := w) (W := w.drew.drewN k) w.heap.size 82 (by rfl) (N := 8) rfl 68 (.tmp 7) (.tmp 7) rfl (m : Int) rfl rfl Try.underlying68 (.agg #[(.int .i64 0), (.int .i64 0)]) 16 info82 rfl (by decide) (by decide) z82 (ok := fun _ => True) (okp := fun _ => True) (k82_mkM _ _ _ z82) (fun _ hk => hk) trivial (by omega) (by rw [Int.toNat_natCast]; omega) (pw_below_drewN (below_drew (Below.refl w.heap.size w)) k) (Nat.le_refl _) ?_
  intro v8 w8 ho hb8 hg8 hn8
  have HO := Aside0.mk ho
  have HB8 := Aside0.mk hb8
  clear ho hb8 hg8 hn8
  try dsimp only
  refine Shut.out hK _ _ ?_ (fun hHeld => ?_)
  · exact ⟨pw_cell_below HB8.out p0, pw_cell_below HB8.out n0⟩
  clear hK K
  refine norm_ (a' := ?_) ?_ ?_
  rotate_left
  · show Act.put _ (some 8) _ = _
    simp only [Act.put, List.setIfInBounds_toArray, List.set_cons_zero, List.set_cons_succ]; rfl
  refine take_ (i := 6) (N := some 2) (v := ?_) (a' := ?_) #[true, true, true, true, true, true, true] rfl rfl (by kernel_rfl) (fun _ _ _ h => h) (Or.inl ⟨by rfl, ?_⟩) hHeld ?_ ?_
  rotate_left
  · rintro w' ⟨s0, s1⟩; go_simp; first | done | with_reducible rfl
  rotate_left
  · simp only [Act.put, List.setIfInBounds_toArray, List.set_cons_zero, List.set_cons_succ]; rfl
  refine done_ (by kernel_rfl) ?_
  go_wp2_with fail
  go_ret
  have hr := HO.out
  rw [Int.toNat_natCast] at hr
  exact ⟨_, rfl, ⟨hr⟩, HB8.out⟩

end Go.Proofs.Ytopmenioioljoaa.GapW

/-
  THE WALK OF PACKAGE gap: room, where there is room.
-/
namespace Go.Proofs.Ytopmenioioljoaa.GapW
open Go.RowKit Go.Proofs.Ytopmenioioljoaa.Base Go.Proofs.YtopmenioioljoaaW.PrintWords Go.Proofs.YtopmenioioljoaaW.PrintLast Go.Proofs.YtopmenioioljoaaW.PrintMore Go.Proofs.Ytopmenioioljoaa.PGapDoes Go.Proofs.Ytopmenioioljoaa.CountW

/-- The two boxes of room's parameters. -/
def boxes (w : World) (G n : Nat) : World := (w.alloc (.cells #[.pointer (some ⟨G, 0, none⟩)] 65)).alloc (.cells #[.int .i64 (n : Int)] 3)
theorem boxes_below (w : World) (G n : Nat) : Below w.heap.size w (boxes w G n) := btr (balloc _ _) (balloc _ _)
theorem boxes_P (w : World) (G n : Nat) : (boxes w G n).heap[w.heap.size]? = some (.cells #[.pointer (some ⟨G, 0, none⟩)] 65 (0, 0)) := blk_alloc (heap_alloc_new _ _) _
theorem boxes_N (w : World) (G n : Nat) : (boxes w G n).heap[w.heap.size + 1]? = some (.cells #[.int .i64 (n : Int)] 3 (0, 0)) := by
  have := heap_alloc_new (w.alloc (.cells #[.pointer (some ⟨G, 0, none⟩)] 65)) (.cells #[.int .i64 (n : Int)] 3)
  rwa [World.size_alloc] at this

set_option maxRecDepth 100000 in
theorem room71_has {w0 w : World} {G : Nat} {most : Int} {pre gap post : List S82} {vB : Value} (h : GSt w0 w G most pre gap post vB) (n : Nat) (hn : n ≤ gap.length) :
    Calls Try.prog 71 #[.pointer (some ⟨G, 0, none⟩), .int .i64 (n : Int)] w fun e w' => e = .returned (.tuple #[]) ∧ Below w.heap.size w w' := by
  have hbig := h.big
  have h1 := h.below (boxes_below w G n)
  obtain ⟨c0, c1, c2, c3, _⟩ := cells111 h1.blk
  have p0 : (boxes w G n).cell? ⟨w.heap.size, 0, none⟩ = some (.pointer (some ⟨G, 0, none⟩)) := blk_cell (boxes_P w G n) 0
  have n0 : (boxes w G n).cell? ⟨w.heap.size + 1, 0, none⟩ = some (.int .i64 (n : Int)) := blk_cell (boxes_N w G n) 0
  have HBX := Aside0.mk (boxes_below w G n)
  obtain ⟨p, hp⟩ : ∃ p, pre.length = p := ⟨_, rfl⟩
  obtain ⟨r, hr⟩ : ∃ r, pre.length + gap.length = r := ⟨_, rfl⟩
  obtain ⟨gl, hgl⟩ : ∃ gl, gap.length = gl := ⟨_, rfl⟩
  rw [hp] at c1
  rw [hr] at c2
  have e1 : IntKind.i64.wrap ((r : Int) - (p : Int)) = (gl : Int) := by rw [IntKind.wrap_i64]; omega
  have d1 : decide ((n : Int) ≤ (gl : Int)) = true := decide_eq_true (by omega)
  have d2 : decide (n ≤ gl) = true := decide_eq_true (by omega)
  unfold boxes at c0 c1 c2 c3 p0 n0 HBX
  clear h h1 hn hp hr hgl hbig
  go_enter Try.func71, Try.ntmps71
  go_wp2_with fail
  go_quiet (fail)
  go_wp2_with fail
  refine bodyPost_ret (results_none rfl _ _ _) rfl ?_
  exact ⟨rfl, btr HBX.out (bdrewN _ _)⟩

/-- buf[:p]. -/
theorem cuth82 (A : Option Addr) (N cap p : Nat) (h2 : p ≤ cap) :
    ∀ W : World, (Instr.slice 68 (.slice A N cap) none (some (.int .i64 (p : Int))) none).run Try.prog W = .ok (.slice A p cap) W := by
  intro W
  obtain ⟨i, hi, hz⟩ := Option.map_eq_some_iff.1 info82
  simp only [Prod.mk.injEq] at hz
  have hel : Try.prog.elem 68 = 82 := by simp [Program.elem, Try.underlying68]
  have hu : Try.prog.underlying 68 = some (.slice (Try.prog.elem 68)) := by rw [hel]; exact Try.underlying68
  rw [run_slice_h W 68 A N cap hu .i64 (p : Int) (by omega) (by omega), hel]
  simp only [sizeOf, typeInfo, sliced, Result.andThen, Int.toNat_natCast]
  cases A with
  | none => simp [hi]
  | some a => simp [hi, Addr.add]

/-- A new buffer, the signs laid at both ends. -/
theorem room_splice (pre post : List S82) (Z : Nat) (z : S82) (h : pre.length + post.length ≤ Z) :
    splice (splice (List.replicate Z z) 0 pre) (Z - post.length) post = pre ++ List.replicate (Z - post.length - pre.length) z ++ post := by
  have e1 : splice (List.replicate Z z) 0 pre = pre ++ List.replicate (Z - pre.length) z := by
    unfold splice; simp
  rw [e1]
  unfold splice
  rw [List.take_append, List.take_of_length_le (by omega), List.take_replicate, List.drop_of_length_le (by rw [List.length_append, List.length_replicate]; omega), List.append_nil, show min (Z - post.length - pre.length) (Z - pre.length) = Z - post.length - pre.length by omega]

end Go.Proofs.Ytopmenioioljoaa.GapW

/-
  THE WALK OF PACKAGE gap: room, where a new buffer is made.
-/
namespace Go.Proofs.Ytopmenioioljoaa.GapW
open Go.RowKit Go.Proofs.Ytopmenioioljoaa.Base Go.Proofs.YtopmenioioljoaaW.PrintWords Go.Proofs.YtopmenioioljoaaW.PrintLast Go.Proofs.YtopmenioioljoaaW.PrintMore Go.Proofs.Ytopmenioioljoaa.PGapDoes Go.Proofs.Ytopmenioioljoaa.CountW

theorem below_grow {w W W' : World} {g : Nat} (h : Below w.heap.size w W) (hg : W.grownBy W' (some g)) (hw : w.heap.size ≤ g) : Below w.heap.size w W' :=
  h.grown hg h.size (fun k hk => by cases hk; exact hw)

/-- The cells behind a cut of a row. -/
theorem part_src {w : World} {base : Nat} {A : Option Addr} {N cap : Nat} {xs : List S82} (h : Rw w base (.slice A N cap) xs) (t n : Nat) (hl : t + n ≤ xs.length) (h0 : 0 < n) :
    ∃ ad, cutA A cap t = some ad ∧ ∀ j v, (enc2 ((xs.drop t).take n))[j]? = some v → w.cell? (ad.add j) = some v := by
  rcases h.form with ⟨_, hx⟩ | ⟨g, c, sp, hv, _, hb, h1, _, _⟩
  · subst hx; simp at hl; omega
  · simp only [Value.slice.injEq] at hv
    obtain ⟨rfl, rfl, rfl⟩ := hv
    exact ⟨⟨g, t * 2, none⟩, cutA_at (by omega), part_cells hb t n hl⟩
theorem part_src0 {w : World} {base : Nat} {A : Option Addr} {N cap : Nat} {xs : List S82} (h : Rw w base (.slice A N cap) xs) (n : Nat) (hl : n ≤ xs.length) (h0 : 0 < n) :
    ∃ ad, A = some ad ∧ ∀ j v, (enc2 (xs.take n))[j]? = some v → w.cell? (ad.add j) = some v := by
  rcases h.form with ⟨_, hx⟩ | ⟨g, c, sp, hv, _, hb, h1, _, _⟩
  · subst hx; simp at hl; omega
  · simp only [Value.slice.injEq] at hv
    obtain ⟨rfl, rfl, rfl⟩ := hv
    have := part_cells hb 0 n (by omega)
    rw [Nat.zero_mul, List.drop_zero] at this
    exact ⟨_, rfl, this⟩

theorem splice_len_ {xs ys : List Value} {off : Nat} (h : off + ys.length ≤ xs.length) : (splice xs off ys).length = xs.length := by
  unfold splice
  simp only [List.length_append, List.length_take, List.length_drop]
  omega
theorem Rw.len_ {w : World} {base N cap : Nat} {A : Option Addr} {xs : List S82} (h : Rw w base (.slice A xs.length cap) xs) (hN : xs.length = N) : Rw w base (.slice A N cap) xs := by subst hN; exact h

set_option maxRecDepth 100000 in
set_option maxHeartbeats 8000000 in
theorem room71_grow {w0 w : World} {G : Nat} {most : Int} {pre gap post : List S82} {vB : Value} (h : GSt w0 w G most pre gap post vB) (n : Nat) (hn : gap.length < n) (hn2 : n ≤ 100000) (hq : pre.length + post.length ≤ 100000) :
    Calls Try.prog 71 #[.pointer (some ⟨G, 0, none⟩), .int .i64 (n : Int)] w fun e w' => e = .returned (.tuple #[]) ∧ ∃ gap' vB', GSt w0 w' G most pre gap' post vB' ∧ n ≤ gap'.length ∧ Kept w w' (fun j => j = G) ∧ (∀ j, vB'.ownBlock = some j → w.heap.size ≤ j) := by
  have hmf : ∀ (fn : Fn) (first cap : Array Value) (w : World), (Instr.makeFunc fn first cap).run Try.prog w = .ok (.func fn first cap) w := fun _ _ _ _ => rfl
  have hbig := h.big
  have hGlt := lt_of_block h.blk
  have HBX := Aside0.mk (boxes_below w G n)
  have HP1 := Lib.hid (boxes_P w G n)
  have HN1 := Lib.hid (boxes_N w G n)
  obtain ⟨A, cap, rfl, hNc, _⟩ := h.row.reads
  have hN : (pre ++ gap ++ post).length = pre.length + gap.length + post.length := by simp; omega
  have H := Lib.hid h
  obtain ⟨c0, c1, c2, c3, _⟩ := cells111 (h.below (boxes_below w G n)).blk
  have p0 : (boxes w G n).cell? ⟨w.heap.size, 0, none⟩ = some (.pointer (some ⟨G, 0, none⟩)) := blk_cell (boxes_P w G n) 0
  have n0 : (boxes w G n).cell? ⟨w.heap.size + 1, 0, none⟩ = some (.int .i64 (n : Int)) := blk_cell (boxes_N w G n) 0
  obtain ⟨N, hNN⟩ : ∃ N, (pre ++ gap ++ post).length = N := ⟨_, rfl⟩
  obtain ⟨p, hp⟩ : ∃ p, pre.length = p := ⟨_, rfl⟩
  obtain ⟨r, hr⟩ : ∃ r, pre.length + gap.length = r := ⟨_, rfl⟩
  obtain ⟨gl, hgl⟩ : ∃ gl, gap.length = gl := ⟨_, rfl⟩
  rw [hNN] at c0 hNc
  rw [hp] at c1
  rw [hr] at c2
  have e1 : IntKind.i64.wrap ((r : Int) - (p : Int)) = (gl : Int) := by rw [IntKind.wrap_i64]; omega
  have d1 : decide ((n : Int) ≤ (gl : Int)) = false := decide_eq_false (by omega)
  have d2 : decide (n ≤ gl) = false := decide_eq_false (by omega)
  have H83 := fun a => room83 ((H.out.below HBX.out).below (bdrewN _ a)) w.heap.size (w.heap.size + 1) n hn2 (blk_drewN HP1.out a) (blk_drewN HN1.out a) hq
  have HR83 := Lib.hid H83
  clear h H83
  unfold boxes at c0 c1 c2 c3 p0 n0 HBX HP1 HN1 HR83
  go_enter Try.func71, Try.ntmps71
  go_wp2_with fail
  go_quiet (fail)
  go_wp2_with fail
  refine (HR83.out nq).mono ?_
  rintro e w1 ⟨v1, rfl, hrw, hb1⟩
  have hb1' : Below w.heap.size w w1 := btr (btr HBX.out (bdrewN _ nq)) hb1
  have hrw2 : Rw w1 (w.heap.size + 2) v1 _ := hrw.lower (by show _ ≤ ((w.alloc _).alloc _).heap.size; rw [World.size_alloc, World.size_alloc]; exact Nat.le_refl _)
  obtain ⟨t, ht⟩ : ∃ t, post.length = t := ⟨_, rfl⟩
  obtain ⟨Z, hZ⟩ : ∃ Z, 2 * (pre.length + post.length + n) = Z := ⟨_, rfl⟩
  obtain ⟨u, hu⟩ : ∃ u, Z - t = u := ⟨_, rfl⟩
  rw [hZ] at hrw2
  rcases hrw2.form with ⟨_, hx⟩ | ⟨gB, cB, sp, rfl, hgB, hblk, hZc, hcB, hsp⟩
  · have := congrArg List.length hx
    rw [List.length_replicate, List.length_nil] at this
    omega
  rw [List.length_replicate] at hZc hsp
  have hcB2 : cB ≤ 9223372036854775807 := hcB
  have GS1 := H.out.below hb1'
  have BG1 := GS1.blk
  rw [hNN, hr, hp] at BG1
  have BP1 : w1.heap[w.heap.size]? = some (.cells #[.pointer (some ⟨G, 0, none⟩)] 65 (0, 0)) := ((btr (bdrewN _ nq) hb1).block _ (lt_of_block HP1.out)).trans HP1.out
  have HBD := Lib.hid (show N = r + t ∧ p + gl = r ∧ p + t ≤ Z ∧ Z - t = u ∧ Z = 2 * (p + t + n) ∧ gl < n ∧ Z ≤ cB ∧ N ≤ cap ∧ cB ≤ 9223372036854775807 ∧ N ≤ 1000000 ∧ Z ≤ 1000000 from ⟨by omega, by omega, by omega, hu, by omega, by omega, hZc, hNc, hcB2, by omega, by omega⟩)
  have HT := Lib.hid ht
  have HPP := Lib.hid hp
  have HRR := Lib.hid hr
  have HNN := Lib.hid hNN
  have HGL := Lib.hid hgl
  have HB1 := Aside0.mk hb1'
  have HBLK := Lib.hid hblk
  have HSP := Lib.hid hsp
  have HGB := Lib.hid hgB
  have HBG := Lib.hid BG1
  have HBP := Lib.hid BP1
  have HGS := Lib.hid GS1
  have hGg : some G ≠ some gB := fun e => by simp only [Option.some.injEq] at e; omega
  have hPg : some w.heap.size ≠ some gB := fun e => by simp only [Option.some.injEq] at e; omega
  have HGLT := Lib.hid hGlt
  have kh := cuth82 A N cap p (by omega)
  clear c0 c1 c2 c3 p0 n0
  obtain ⟨c0, c1, c2, c3, _⟩ := cells111 BG1
  have p0 : w1.cell? ⟨w.heap.size, 0, none⟩ = some (.pointer (some ⟨G, 0, none⟩)) := blk_cell BP1 0
  clear hn hn2 hq hbig hGlt hN hNc hNN hp hr hgl e1 d1 d2 hb1 hb1' hrw hrw2 ht hZ hu hblk hZc hcB hcB2 hsp hgB GS1 BG1 BP1 HR83 HBX HP1 HN1 hmf
  go_wp2_with fail
  go_region_held3 (fun w' => w'.cell? ⟨w.heap.size, 0, none⟩ = some (.pointer (some ⟨G, 0, none⟩)) ∧ w'.cell? ⟨G, 0, none⟩ = some (.slice A N cap) ∧ w'.cell? ⟨G, 1, none⟩ = some (.int .i64 (p : Int))) (first | go_keep)
    (first | (refine step_copy rfl (.tmp 21) (.tmp 30) 68 68 rfl 82 2 Try.underlying68 size82 (some ⟨gB, 0, none⟩) A Z cB p cap rfl rfl gB 0 p _ 82 (show w1.drew.heap[gB]? = _ from HBLK.out) (enc2 ((pre ++ gap ++ post).take p)) ?cm ?cn ?cp ?cf (enc2_one _) ?_; (case cm => have := HBD.out; show p = min p Z; omega); (case cn => have := HBD.out; rw [enc2_len, List.length_take, HNN.out]; omega); (case cp => exact fun hh => ⟨rfl, part_src0 ((HGS.out.below (bdrew w1)).row.len_ HNN.out) p (by have := HBD.out; rw [HNN.out]; omega) hh⟩); (case cf => have := HBD.out; simp only [List.length_append, enc2_len, List.length_take, List.length_replicate, HSP.out, HNN.out]; omega); intro w2 hg2 hgr2; have z0 := blk_grown (show w1.drew.heap[G]? = _ from HBG.out) hgr2 hGg; have y0 := blk_grown (show w1.drew.heap[w.heap.size]? = _ from HBP.out) hgr2 hPg; obtain ⟨q0, q1, q2, q3, f0, f1, f2, f3⟩ := cells111 z0; have s0 : w2.cell? ⟨w.heap.size, 0, none⟩ = some (.pointer (some ⟨G, 0, none⟩)) := blk_cell y0 0))
  have Z0 := Lib.hid z0
  have Y0 := Lib.hid y0
  have HG2 := Lib.hid hg2
  have HGR := Aside0.mk hgr2
  have HB2 := Aside0.mk (below_grow (below_drew HB1.out) hgr2 (by have := HGB.out; omega))
  have HGS2 := Lib.hid (H.out.below HB2.out)
  have e1 : IntKind.i64.wrap ((N : Int) - (r : Int)) = (t : Int) := by have := HBD.out; rw [IntKind.wrap_i64]; omega
  have e2 : IntKind.i64.wrap ((Z : Int) - (t : Int)) = (u : Int) := by have := HBD.out; rw [IntKind.wrap_i64]; omega
  have k1 := cutf82 (some ⟨gB, 0, none⟩) Z cB u (by have := HBD.out; omega) (by have := HBD.out; omega)
  have k2 := cutf82 A N cap r (by have := HBD.out; omega) (by have := HBD.out; omega)
  obtain ⟨A1, hA1⟩ : ∃ A1, cutA (some ⟨gB, 0, none⟩) cB u = A1 := ⟨_, rfl⟩
  obtain ⟨A2, hA2⟩ : ∃ A2, cutA A cap r = A2 := ⟨_, rfl⟩
  rw [hA1] at k1
  rw [hA2] at k2
  have HA1 := Lib.hid hA1
  have HA2 := Lib.hid hA2
  have HLN := Lib.hid (show (splice (enc2 (List.replicate Z z82) ++ sp) 0 (enc2 ((pre ++ gap ++ post).take p))).length = cB * 2 from by
    have := HBD.out
    rw [splice_len_] <;> simp only [List.length_append, enc2_len, List.length_take, List.length_replicate, HSP.out, HNN.out] <;> omega)
  clear c0 c1 c2 c3 p0 z0 y0 hg2 hgr2 hA1 hA2 kh f0 f1 f2 f3
  go_wp2_with fail
  go_quiet (fail)
  go_wp2_with fail
  go_region_held3 (fun w' => w'.cell? ⟨w.heap.size, 0, none⟩ = some (.pointer (some ⟨G, 0, none⟩)) ∧ w'.cell? ⟨G, 0, none⟩ = some (.slice A N cap) ∧ w'.cell? ⟨G, 2, none⟩ = some (.int .i64 (r : Int))) (first | go_keep)
    (first | (refine step_copy rfl (.tmp 47) (.tmp 56) 68 68 rfl 82 2 Try.underlying68 size82 A1 A2 (Z - u) (cB - u) (N - r) (cap - r) rfl rfl gB (u * 2) t _ 82 (show (w2.drewN nq).drew.heap[gB]? = _ from HG2.out) (enc2 (((pre ++ gap ++ post).drop r).take t)) ?cm ?cn ?cp ?cf (enc2_one _) ?_; (case cm => have := HBD.out; show t = min (N - r) (Z - u); omega); (case cn => have := HBD.out; rw [enc2_len, List.length_take, List.length_drop, HNN.out]; omega); (case cp => exact fun hh => ⟨by rw [← HA1.out]; exact cutA_at (by have := HBD.out; omega), by rw [← HA2.out]; exact part_src (((HGS2.out.below (bdrewN w2 nq)).below (bdrew _)).row.len_ HNN.out) r t (by have := HBD.out; rw [HNN.out]; omega) hh⟩); (case cf => have := HBD.out; rw [HLN.out, enc2_len, List.length_take, List.length_drop, HNN.out]; omega); intro w3 hg3 hgr3; have z1 := blk_grown (show (w2.drewN nq).drew.heap[G]? = _ from Z0.out) hgr3 hGg; have y1 := blk_grown (show (w2.drewN nq).drew.heap[w.heap.size]? = _ from Y0.out) hgr3 hPg; obtain ⟨b0, b1, b2, b3, f0, f1, f2, f3⟩ := cells111 z1; have s1 : w3.cell? ⟨w.heap.size, 0, none⟩ = some (.pointer (some ⟨G, 0, none⟩)) := blk_cell y1 0))
  have Z1 := Lib.hid z1
  have Y1 := Lib.hid y1
  have HG3 := Lib.hid hg3
  have HGR3 := Aside0.mk hgr3
  have HB3 := Aside0.mk (below_grow (below_drew (btr HB2.out (bdrewN w2 nq))) hgr3 (by have := HGB.out; omega))
  have HGS3 := Lib.hid (H.out.below HB3.out)
  have hGP : G ≠ w.heap.size := fun e => by have := HGLT.out; omega
  have hPG : w.heap.size ≠ G := fun e => hGP e.symm
  clear q0 q1 q2 q3 s0 z1 y1 hg3 hgr3
  go_wp2_with fail
  go_region_held3 (fun w' => w'.cell? ⟨w.heap.size, 0, none⟩ = some (.pointer (some ⟨G, 0, none⟩))) (first | go_keep)
    (fail)
  refine bodyPost_end (results_none rfl _ _ _) rfl ?_
  obtain ⟨i1, i2, i3, i4, i5, i6, i7, i8, i9, i10, i11⟩ := HBD.out
  have hN := HNN.out
  have hp := HPP.out
  have ht := HT.out
  have hr := HRR.out
  have hgl := HGL.out
  have hgB := HGB.out
  have hpart : (pre ++ gap ++ post).take p = pre := by rw [List.append_assoc, ← hp, List.take_append_of_le_length (Nat.le_refl _), List.take_length]
  have hpart2 : ((pre ++ gap ++ post).drop r).take t = post := by
    rw [← hr, ← List.length_append, List.drop_append_of_le_length (Nat.le_refl _), List.drop_length, List.nil_append, ← ht, List.take_length]
  have hcells := HG3.out
  have hs1 := enc2_splice (List.replicate Z z82) pre sp 0 (by rw [List.length_replicate]; omega)
  rw [Nat.zero_mul] at hs1
  have hl1 : (splice (List.replicate Z z82) 0 pre).length = Z := by
    unfold splice
    simp only [List.length_append, List.length_take, List.length_drop, List.length_replicate]
    omega
  have hrs := room_splice pre post Z z82 (by omega)
  rw [hpart, hpart2, hs1, enc2_splice _ _ _ u (by rw [hl1]; omega), ← i4, ← ht, hrs, ht, hp] at hcells
  have hgp : (List.replicate (Z - t - p) z82).length = Z - t - p := List.length_replicate
  have hxl : (pre ++ List.replicate (Z - t - p) z82 ++ post).length = Z := by
    rw [List.length_append, List.length_append, List.length_replicate]
    omega
  have hGB : G ≠ gB := fun e => hGg (by rw [e])
  refine ⟨rfl, List.replicate (Z - t - p) z82, .slice (some ⟨gB, 0, none⟩) Z cB, ⟨?_, H.out.gG, ?_, ?_, ?_⟩, ?_, ?_, ?_⟩
  · show ((w3.setCell _ _).setCell _ _).heap[G]? = _
    rw [set_at (set_at Z1.out), hgp, hp, show p + (Z - t - p) = u by omega]; rfl
  · have hb2 := (Below.heap_setCell _ ⟨G, 2, none⟩ (.int .i64 (u : Int)) gB hGB.symm).trans ((Below.heap_setCell w3 ⟨G, 0, none⟩ (.slice (some ⟨gB, 0, none⟩) Z cB) gB hGB.symm).trans hcells)
    have hr := Rw.of_block (w := ((w3.setCell _ _).setCell _ _).drew) (base := w0.heap.size) (cap := cB) (by have := H.out.bel.size; omega) hb2 (by rw [hxl]; exact i7) i9 (by rw [hxl, HSP.out])
    rw [hxl] at hr
    exact hr
  · exact below_drew (below_set (below_set (btr H.out.bel HB3.out) H.out.gG) H.out.gG)
  · rw [hp, hgp, ht]
    omega
  · rw [hgp]
    omega
  · have hk1 : Kept w w3 (fun j => j = G) := Kept.of_below HB3.out _
    have hk2 : Kept w (w3.setCell ⟨G, 0, none⟩ (.slice (some ⟨gB, 0, none⟩) Z cB)) (fun j => j = G) := Kept.setCell hk1 (p := ⟨G, 0, none⟩) (Or.inl rfl) _
    have hk3 : Kept w ((w3.setCell ⟨G, 0, none⟩ (.slice (some ⟨gB, 0, none⟩) Z cB)).setCell ⟨G, 2, none⟩ (.int .i64 (u : Int))) (fun j => j = G) := Kept.setCell hk2 (p := ⟨G, 2, none⟩) (Or.inl rfl) _
    exact hk3.drew
  · intro j hj
    simp only [Value.ownBlock, Option.some.injEq] at hj
    omega

end Go.Proofs.Ytopmenioioljoaa.GapW

/-
  THE WALK OF PACKAGE gap: Insert.
-/
namespace Go.Proofs.Ytopmenioioljoaa.GapW
open Go.RowKit Go.Proofs.Ytopmenioioljoaa.Base Go.Proofs.YtopmenioioljoaaW.PrintWords Go.Proofs.YtopmenioioljoaaW.PrintLast Go.Proofs.YtopmenioioljoaaW.PrintMore Go.Proofs.Ytopmenioioljoaa.PGapDoes Go.Proofs.Ytopmenioioljoaa.CountW

theorem room71 {w0 w : World} {G : Nat} {most : Int} {pre gap post : List S82} {vB : Value} (h : GSt w0 w G most pre gap post vB) (n : Nat) (hn2 : n ≤ 100000) (hq : pre.length + post.length ≤ 100000) :
    Calls Try.prog 71 #[.pointer (some ⟨G, 0, none⟩), .int .i64 (n : Int)] w fun e w' => e = .returned (.tuple #[]) ∧ ∃ gap' vB', GSt w0 w' G most pre gap' post vB' ∧ n ≤ gap'.length ∧ Kept w w' (fun j => j = G) ∧ (vB' = vB ∨ ∀ j, vB'.ownBlock = some j → w.heap.size ≤ j) := by
  by_cases hn : n ≤ gap.length
  · refine (room71_has h n hn).mono ?_
    rintro e w' ⟨rfl, hb⟩
    exact ⟨rfl, gap, vB, h.below hb, hn, Kept.of_below hb _, .inl rfl⟩
  · refine (room71_grow h n (by omega) hn2 hq).mono ?_
    rintro e w' ⟨rfl, gap', vB', h1, h2, h3, h4⟩
    exact ⟨rfl, gap', vB', h1, h2, h3, .inr h4⟩

/-- What comes lies ahead of the gap. -/
theorem come_splice (pre gap post l : List S82) (hl : l.length ≤ gap.length) :
    splice (pre ++ gap ++ post) pre.length l = (pre ++ l) ++ gap.drop l.length ++ post := by
  unfold splice
  have e1 : (pre ++ gap ++ post).take pre.length = pre := by rw [List.append_assoc, List.take_append_of_le_length (Nat.le_refl _), List.take_length]
  have e2 : (pre ++ gap ++ post).drop (pre.length + l.length) = gap.drop l.length ++ post := by
    rw [List.append_assoc, ← List.drop_drop, List.drop_append_of_le_length (Nat.le_refl _), List.drop_length, List.nil_append, List.drop_append_of_le_length hl]
  rw [e1, e2]
  simp

theorem step_copy_zero {P : Program} {ops : Array Oper} {o : Oper} {a : Act} {w : World} {K : Act → World → Prop} {Q : Exit → Act → World → Prop} {E : Prop} (hgd : o.guard = none) (d s : Operand) (dT sT : TypeId)
    (ho : o.op = .call { callee := .builtin .copy, args := #[d, s], argTypes := #[dT, sT] }) (elem : TypeId) (sz : Nat) (hu : P.underlying dT = some (.slice elem)) (hsz : (P.info? elem).map (·.size) = some sz)
    (dp sp : Option Addr) (dLen dCap sLen sCap : Nat) (hd : a.eval d = .slice dp dLen dCap) (hs : a.eval s = .slice sp sLen sCap) (m : Nat) (hm : m = Nat.min sLen dLen) (h0 : m = 0)
    (h : K (a.put o.dst (goInt m)) w) :
    if Region.wanted o (yielded ops a.tmps) = true then Oper.wp P o a w K Q else E := by
  subst h0
  exact step_copy_none hgd d s dT sT ho elem sz hu hsz dp sp dLen dCap sLen sCap hd hs hm.symm h

/-- Cells that are told stay where their block stays. -/
theorem cells_stay {w w' : World} {ad : Addr} {cs : List Value} (h : ∀ j v, cs[j]? = some v → w.cell? (ad.add j) = some v) (hb : w'.heap[ad.block]? = w.heap[ad.block]?) : ∀ j v, cs[j]? = some v → w'.cell? (ad.add j) = some v := by
  intro j v hj
  have h1 := h j v hj
  have hblk : (ad.add j).block = ad.block := by unfold Addr.add; split <;> rfl
  unfold World.cell? at h1 ⊢
  rw [hblk] at h1 ⊢
  rw [hb]
  exact h1

set_option maxRecDepth 100000 in
set_option maxHeartbeats 8000000 in
theorem ginsert_bad {w0 w : World} {G : Nat} {most : Int} {pre gap post : List S82} {vB : Value} (h : GSt w0 w G most pre gap post vB) (A : Option Addr) (c : Nat) (l : List S82) (hC : Kd.C k82 w A l.length l) (hl : l.length ≤ 100000) (hm : 0 ≤ most) (hm2 : most ≤ 1000000) (f : Int) (hf : fitE l ((pre.length + post.length : Nat) : Int) most = f) (hf0 : (f == 0) = false) :
    Calls Try.prog 44 #[.pointer (some ⟨G, 0, none⟩), .slice A l.length c] w fun e w' => e = .returned (.int .i64 f) ∧ Below w.heap.size w w' := by
  have HL := Lib.hid (glen h)
  have hbig := h.big
  have HF := Lib.hid (fun m => fits70 G vB pre.length ((pre.length + gap.length : Nat) : Int) most ((pre.length + post.length : Nat) : Int) A c l (w.drewN m) (blk_drewN h.blk m) (Kd.C_below hC (bdrewN w m)) (by omega) (by omega) hm hm2 (by omega))
  have HFF := Lib.hid hf
  clear h hC hl hm hm2 hbig hf
  go_enter Try.func44, Try.ntmps44
  go_wp2_with fail
  refine HL.out.mono ?_
  rintro e w1 ⟨rfl, m, rfl⟩
  go_wp2_with fail
  refine (HF.out m).mono ?_
  rintro e w2 ⟨rfl, hb2⟩
  rw [HFF.out]
  go_wp2_with fail
  go_ret
  exact ⟨rfl, btr (bdrewN w m) hb2⟩

set_option maxRecDepth 100000 in
set_option maxHeartbeats 8000000 in
theorem ginsert_ok {w0 w : World} {G : Nat} {most : Int} {pre gap post : List S82} {vB : Value} (h : GSt w0 w G most pre gap post vB) (A : Option Addr) (c : Nat) (l : List S82) (hC : Kd.C k82 w A l.length l) (hA : 0 < l.length → ∀ ad, A = some ad → ad.block ≠ G ∧ vB.ownBlock ≠ some ad.block ∧ ad.block < w.heap.size) (hl : l.length ≤ 100000) (hq : pre.length + post.length ≤ 100000) (hm : 0 ≤ most) (hm2 : most ≤ 1000000) (hf : fitE l ((pre.length + post.length : Nat) : Int) most = 0) :
    Calls Try.prog 44 #[.pointer (some ⟨G, 0, none⟩), .slice A l.length c] w fun e w' => e = .returned (.int .i64 0) ∧ ∃ gap' vB', GSt w0 w' G most (pre ++ l) gap' post vB' ∧ Kept w w' (fun j => j = G ∨ vB.ownBlock = some j) ∧ (vB' = vB ∨ ∀ j, vB'.ownBlock = some j → w.heap.size ≤ j) := by
  have HL := Lib.hid (glen h)
  have hbig := h.big
  have HF := Lib.hid (fun m => fits70 G vB pre.length ((pre.length + gap.length : Nat) : Int) most ((pre.length + post.length : Nat) : Int) A c l (w.drewN m) (blk_drewN h.blk m) (Kd.C_below hC (bdrewN w m)) (by omega) (by omega) hm hm2 (by omega))
  have HFF := Lib.hid hf
  have HC := Aside0.mk hC
  have HA := Aside0.mk hA
  have H := Lib.hid h
  have HQ := Lib.hid (show l.length ≤ 100000 ∧ pre.length + post.length ≤ 100000 from ⟨hl, hq⟩)
  clear h hC hA hl hq hm hm2 hbig hf
  go_enter Try.func44, Try.ntmps44
  go_wp2_with fail
  refine HL.out.mono ?_
  rintro e w1 ⟨rfl, m, rfl⟩
  go_wp2_with fail
  refine (HF.out m).mono ?_
  rintro e w2 ⟨rfl, hb2⟩
  rw [HFF.out]
  have HB2 := Aside0.mk (btr (bdrewN w m) hb2)
  clear hb2
  go_wp2_with fail
  refine (room71 (H.out.below HB2.out) l.length HQ.out.1 HQ.out.2).mono ?_
  rintro e w3 ⟨rfl, gap', vB', h3, hn3, hk3, hv3⟩
  have hsz := HB2.out.size
  have hkk : Kept w w3 (fun j => j = G) := (Kept.of_below HB2.out _).then_ hk3 (fun _ hh => .inl hh)
  have hsrc : 0 < l.length → ∃ ad, A = some ad ∧ vB'.ownBlock ≠ some ad.block ∧ ∀ j v, (enc2 l)[j]? = some v → w3.cell? (ad.add j) = some v := by
    intro hp
    obtain ⟨ad, hAd, hcs⟩ := cells_of_C HC.out hp
    obtain ⟨a1, a2, a3⟩ := HA.out hp ad hAd
    refine ⟨ad, hAd, ?_, cells_stay hcs (hkk.2 _ a3 a1)⟩
    rcases hv3 with rfl | hv3
    · exact a2
    · intro e
      have := hv3 _ e
      omega
  have hv : vB' = vB ∨ ∀ j, vB'.ownBlock = some j → w.heap.size ≤ j := hv3.imp id (fun hh j hj => Nat.le_trans hsz (hh j hj))
  have hbig := h3.big
  obtain ⟨p, hp⟩ : ∃ p, pre.length = p := ⟨_, rfl⟩
  obtain ⟨n, hn⟩ : ∃ n, l.length = n := ⟨_, rfl⟩
  obtain ⟨pn, hpn⟩ : ∃ pn, p + n = pn := ⟨_, rfl⟩
  obtain ⟨A', cap, rfl, hNc, _⟩ := h3.row.reads
  have hNl : (pre ++ gap' ++ post).length = pre.length + gap'.length + post.length := by simp; omega
  obtain ⟨N, hNN⟩ : ∃ N, (pre ++ gap' ++ post).length = N := ⟨_, rfl⟩
  obtain ⟨r, hr⟩ : ∃ r, pre.length + gap'.length = r := ⟨_, rfl⟩
  have BG := h3.blk
  rw [hNN, hr, hp] at BG
  rw [hNN] at hNc
  obtain ⟨c0, c1, c2, c3, _⟩ := cells111 BG
  have HBG := Lib.hid BG
  have H3 := Lib.hid h3
  have HS := Lib.hid hsrc
  have HKK := Aside0.mk hkk
  have HV := Aside0.mk hv
  have HNN := Lib.hid hNN
  have HN := Lib.hid hn
  have HP := Lib.hid hp
  have HBD := Lib.hid (show p ≤ N ∧ n ≤ N - p ∧ N ≤ cap ∧ N ≤ 1000000 ∧ p + n = pn ∧ p + gap'.length = r ∧ n ≤ gap'.length ∧ N = r + post.length from ⟨by omega, by omega, hNc, by omega, hpn, by omega, by omega, by omega⟩)
  have e1 : IntKind.i64.wrap ((p : Int) + (n : Int)) = (pn : Int) := by rw [IntKind.wrap_i64]; omega
  have kf := cutf82 A' N cap p (by omega) hNc
  obtain ⟨A1, hA1⟩ : ∃ A1, cutA A' cap p = A1 := ⟨_, rfl⟩
  rw [hA1] at kf
  have HA1 := Lib.hid hA1
  rcases h3.row.form with ⟨hv0, hx⟩ | ⟨gB, cB, sp, hv0, hgB, hblk, hZc, hcB, hsp⟩
  · have HX := Lib.hid hx
    have HV0 := Lib.hid hv0
    clear h3 hn3 hk3 hv3 hsz hkk hsrc hv hbig hp hn hpn hNc hNl hNN hr BG hA1 hx hv0
    rw [HN.out]
    go_wp2_with fail
    refine start_ (n := 19) (S := fun w' => w'.cell? ⟨G, 0, none⟩ = some (.slice A' N cap) ∧ w'.cell? ⟨G, 1, none⟩ = some (.int .i64 (p : Int))) (ds := [18]) #[false, false, false, false, false, false, false, false, false, false, false, false, false, false, false, false, false, false, false] (by kernel_rfl) rfl rfl ?_ (fun hHeld => ?_)
    · exact ⟨c0, c1⟩
    refine take_ (i := 0) (N := some 20) (v := ?_) (a' := ?_) #[true, false, false, false, false, false, false, false, false, false, false, false, false, false, false, false, false, false, false] rfl rfl (by kernel_rfl) (fun _ _ _ h => h) (Or.inl ⟨by rfl, ?_⟩) hHeld ?_ ?_
    rotate_left
    · rintro w' ⟨s0, s1⟩; go_simp; first | done | with_reducible rfl
    rotate_left
    · simp only [Act.put, List.setIfInBounds_toArray, List.set_cons_zero, List.set_cons_succ]; rfl
    refine take_ (i := 1) (N := some 21) (v := ?_) (a' := ?_) #[true, true, false, false, false, false, false, false, false, false, false, false, false, false, false, false, false, false, false] rfl rfl (by kernel_rfl) (fun _ _ _ h => h) (Or.inl ⟨by rfl, ?_⟩) hHeld ?_ ?_
    rotate_left
    · rintro w' ⟨s0, s1⟩; go_simp; first | done | with_reducible rfl
    rotate_left
    · simp only [Act.put, List.setIfInBounds_toArray, List.set_cons_zero, List.set_cons_succ]; rfl
    refine take_ (i := 2) (N := some 22) (v := ?_) (a' := ?_) #[true, true, true, false, false, false, false, false, false, false, false, false, false, false, false, false, false, false, false] rfl rfl (by kernel_rfl) (fun _ _ _ h => h) (Or.inl ⟨by rfl, ?_⟩) hHeld ?_ ?_
    rotate_left
    · rintro w' ⟨s0, s1⟩; go_simp; first | done | with_reducible rfl
    rotate_left
    · simp only [Act.put, List.setIfInBounds_toArray, List.set_cons_zero, List.set_cons_succ]; rfl
    refine take_ (i := 3) (N := some 23) (v := ?_) (a' := ?_) #[true, true, true, true, false, false, false, false, false, false, false, false, false, false, false, false, false, false, false] rfl rfl (by kernel_rfl) (fun _ _ _ h => h) (Or.inl ⟨by rfl, ?_⟩) hHeld ?_ ?_
    rotate_left
    · rintro w' ⟨s0, s1⟩; go_simp; first | done | with_reducible rfl
    rotate_left
    · simp only [Act.put, List.setIfInBounds_toArray, List.set_cons_zero, List.set_cons_succ]; rfl
    refine take_ (i := 4) (N := some 24) (v := ?_) (a' := ?_) #[true, true, true, true, true, false, false, false, false, false, false, false, false, false, false, false, false, false, false] rfl rfl (by kernel_rfl) (fun _ _ _ h => h) (Or.inl ⟨by rfl, ?_⟩) hHeld ?_ ?_
    rotate_left
    · rintro w' ⟨s0, s1⟩; go_simp; first | done | with_reducible rfl
    rotate_left
    · simp only [Act.put, List.setIfInBounds_toArray, List.set_cons_zero, List.set_cons_succ]; rfl
    refine take_ (i := 5) (N := some 25) (v := ?_) (a' := ?_) #[true, true, true, true, true, true, false, false, false, false, false, false, false, false, false, false, false, false, false] rfl rfl (by kernel_rfl) (fun _ _ _ h => h) (Or.inl ⟨by rfl, ?_⟩) hHeld ?_ ?_
    rotate_left
    · rintro w' ⟨s0, s1⟩; go_simp; first | done | with_reducible rfl
    rotate_left
    · simp only [Act.put, List.setIfInBounds_toArray, List.set_cons_zero, List.set_cons_succ]; rfl
    refine take_ (i := 6) (N := some 26) (v := ?_) (a' := ?_) #[true, true, true, true, true, true, true, false, false, false, false, false, false, false, false, false, false, false, false] rfl rfl (by kernel_rfl) (fun _ _ _ h => h) (Or.inl ⟨by rfl, ?_⟩) hHeld ?_ ?_
    rotate_left
    · rintro w' ⟨s0, s1⟩; go_simp; first | done | with_reducible rfl
    rotate_left
    · simp only [Act.put, List.setIfInBounds_toArray, List.set_cons_zero, List.set_cons_succ]; rfl
    refine take_ (i := 7) (N := some 27) (v := ?_) (a' := ?_) #[true, true, true, true, true, true, true, true, false, false, false, false, false, false, false, false, false, false, false] rfl rfl (by kernel_rfl) (fun _ _ _ h => h) (Or.inl ⟨by rfl, ?_⟩) hHeld ?_ ?_
    rotate_left
    · rintro w' ⟨s0, s1⟩; go_simp; first | done | with_reducible rfl
    rotate_left
    · simp only [Act.put, List.setIfInBounds_toArray, List.set_cons_zero, List.set_cons_succ]; rfl
    refine take_ (i := 8) (N := some 28) (v := ?_) (a' := ?_) #[true, true, true, true, true, true, true, true, true, false, false, false, false, false, false, false, false, false, false] rfl rfl (by kernel_rfl) (fun _ _ _ h => h) (Or.inl ⟨by rfl, ?_⟩) hHeld ?_ ?_
    rotate_left
    · rintro w' ⟨s0, s1⟩; go_simp; first | done | with_reducible rfl
    rotate_left
    · simp only [Act.put, List.setIfInBounds_toArray, List.set_cons_zero, List.set_cons_succ]; rfl
    refine take_ (i := 9) (N := some 29) (v := ?_) (a' := ?_) #[true, true, true, true, true, true, true, true, true, true, false, false, false, false, false, false, false, false, false] rfl rfl (by kernel_rfl) (fun _ _ _ h => h) (Or.inl ⟨by rfl, ?_⟩) hHeld ?_ ?_
    rotate_left
    · rintro w' ⟨s0, s1⟩; go_simp; first | done | with_reducible rfl
    rotate_left
    · simp only [Act.put, List.setIfInBounds_toArray, List.set_cons_zero, List.set_cons_succ]; rfl
    refine take_ (i := 10) (N := some 30) (v := ?_) (a' := ?_) #[true, true, true, true, true, true, true, true, true, true, true, false, false, false, false, false, false, false, false] rfl rfl (by kernel_rfl) (fun _ _ _ h => h) (Or.inl ⟨by rfl, ?_⟩) hHeld ?_ ?_
    rotate_left
    · rintro w' ⟨s0, s1⟩; go_simp; first | done | with_reducible rfl
    rotate_left
    · simp only [Act.put, List.setIfInBounds_toArray, List.set_cons_zero, List.set_cons_succ]; rfl
    refine take_ (i := 11) (N := some 31) (v := ?_) (a' := ?_) #[true, true, true, true, true, true, true, true, true, true, true, true, false, false, false, false, false, false, false] rfl rfl (by kernel_rfl) (fun _ _ _ h => h) (Or.inl ⟨by rfl, ?_⟩) hHeld ?_ ?_
    rotate_left
    · rintro w' ⟨s0, s1⟩; go_simp; first | done | with_reducible rfl
    rotate_left
    · simp only [Act.put, List.setIfInBounds_toArray, List.set_cons_zero, List.set_cons_succ]; rfl
    refine take_ (i := 12) (N := some 32) (v := ?_) (a' := ?_) #[true, true, true, true, true, true, true, true, true, true, true, true, true, false, false, false, false, false, false] rfl rfl (by kernel_rfl) (fun _ _ _ h => h) (Or.inl ⟨by rfl, ?_⟩) hHeld ?_ ?_
    rotate_left
    · rintro w' ⟨s0, s1⟩; go_simp; first | done | with_reducible rfl
    rotate_left
    · simp only [Act.put, List.setIfInBounds_toArray, List.set_cons_zero, List.set_cons_succ]; rfl
    refine take_ (i := 13) (N := some 33) (v := ?_) (a' := ?_) #[true, true, true, true, true, true, true, true, true, true, true, true, true, true, false, false, false, false, false] rfl rfl (by kernel_rfl) (fun _ _ _ h => h) (Or.inl ⟨by rfl, ?_⟩) hHeld ?_ ?_
    rotate_left
    · rintro w' ⟨s0, s1⟩; go_simp; first | done | with_reducible rfl
    rotate_left
    · simp only [Act.put, List.setIfInBounds_toArray, List.set_cons_zero, List.set_cons_succ]; rfl
    refine one_ (i := 14) (N := some 34) #[true, true, true, true, true, true, true, true, true, true, true, true, true, true, true, false, false, false, false] rfl rfl (by kernel_rfl) (by decide) (fun K hK => ?_)
    refine step_copy_zero rfl (.tmp 32) (.tmp 33) 68 68 rfl 82 2 Try.underlying68 size82 A1 A (N - p) (cap - p) n c rfl rfl n (by have := HBD.out; show n = min n (N - p); omega) (by have := HBD.out; have h0 := congrArg List.length HX.out; rw [HNN.out, List.length_nil] at h0; omega) ?_
    have Z4 := Lib.hid (show w3.drew.heap[G]? = _ from HBG.out)
    try dsimp only
    refine Shut.out hK _ _ ?_ (fun hHeld => ?_)
    · exact ⟨(cells111 Z4.out).1, (cells111 Z4.out).2.1⟩
    clear hK K
    refine norm_ (a' := ?_) ?_ ?_
    rotate_left
    · show Act.put _ (some 34) _ = _
      simp only [Act.put, List.setIfInBounds_toArray, List.set_cons_zero, List.set_cons_succ]; rfl
    refine take_ (i := 15) (N := some 35) (v := ?_) (a' := ?_) #[true, true, true, true, true, true, true, true, true, true, true, true, true, true, true, true, false, false, false] rfl rfl (by kernel_rfl) (fun _ _ _ h => h) (Or.inl ⟨by rfl, ?_⟩) hHeld ?_ ?_
    rotate_left
    · rintro w' ⟨s0, s1⟩; go_simp; first | done | with_reducible rfl
    rotate_left
    · simp only [Act.put, List.setIfInBounds_toArray, List.set_cons_zero, List.set_cons_succ]; rfl
    refine take_ (i := 16) (N := some 36) (v := ?_) (a' := ?_) #[true, true, true, true, true, true, true, true, true, true, true, true, true, true, true, true, true, false, false] rfl rfl (by kernel_rfl) (fun _ _ _ h => h) (Or.inl ⟨by rfl, ?_⟩) hHeld ?_ ?_
    rotate_left
    · rintro w' ⟨s0, s1⟩; go_simp; first | done | with_reducible rfl
    rotate_left
    · simp only [Act.put, List.setIfInBounds_toArray, List.set_cons_zero, List.set_cons_succ]; rfl
    refine take_ (i := 17) (N := some 37) (v := ?_) (a' := ?_) #[true, true, true, true, true, true, true, true, true, true, true, true, true, true, true, true, true, true, false] rfl rfl (by kernel_rfl) (fun _ _ _ h => h) (Or.inl ⟨by rfl, ?_⟩) hHeld ?_ ?_
    rotate_left
    · rintro w' ⟨s0, s1⟩; go_simp; first | done | with_reducible rfl
    rotate_left
    · simp only [Act.put, List.setIfInBounds_toArray, List.set_cons_zero, List.set_cons_succ]; rfl
    refine last_ (i := 18) (N := none) #[true, true, true, true, true, true, true, true, true, true, true, true, true, true, true, true, true, true, true] rfl rfl (by kernel_rfl) (by decide) (fun K hK => ?_)
    have fz := (cells111 Z4.out).2.2.2.2.2.1
    refine skip_ (w1 := ?_) (by rfl) rfl ?_ ?_
    rotate_left
    · go_simp; rfl
    refine Shut.out hK _ _ ?_
    clear hK K
    refine done_ (by kernel_rfl) ?_
    go_wp2_with fail
    go_ret
    obtain ⟨i1, i2, i3, i4, i5, i6, i7, i8⟩ := HBD.out
    have hNN := HNN.out
    have hn := HN.out
    have hp := HP.out
    have hpl : (pre ++ l).length = pn := by rw [List.length_append]; omega
    have hdl : (gap'.drop l.length).length = gap'.length - l.length := List.length_drop
    have hb3 := H3.out.big
    obtain ⟨hpg, hpo⟩ := List.append_eq_nil_iff.mp HX.out
    obtain ⟨hpr, hga⟩ := List.append_eq_nil_iff.mp hpg
    have hl0 : l = [] := List.eq_nil_of_length_eq_zero (by rw [HX.out, List.length_nil] at hNN; omega)
    refine ⟨rfl, gap'.drop l.length, .slice A' (pre ++ gap' ++ post).length cap, ⟨?_, H.out.gG, ?_, ?_, ?_⟩, ?_, HV.out⟩
    · have Z5 : w3.heap[G]? = _ := Z4.out
      show (w3.setCell ⟨G, 1, none⟩ (.int .i64 (pn : Int))).heap[G]? = _
      rw [set_at Z5, hpl, hdl, show pn + (gap'.length - l.length) = r by omega, HNN.out]; rfl
    · rw [HV0.out, hpr, hga, hpo, hl0]
      exact Rw.nil _ _
    · exact below_drew (below_set H3.out.bel H.out.gG)
    · rw [hpl, hdl]
      omega
    · exact Kept.setCell ((HKK.out.mono (fun k hk => .inl hk)).drew) (p := ⟨G, 1, none⟩) (.inl (.inl rfl)) _
  · simp only [Value.slice.injEq] at hv0
    obtain ⟨rfl, _, rfl⟩ := hv0
    have HBLK := Lib.hid hblk
    have HSP := Lib.hid hsp
    have hcB2 := hcB
    have hGg : some G ≠ some gB := fun e => h3.row.ne h3.blk (by decide) e.symm
    clear h3 hn3 hk3 hv3 hsz hkk hsrc hv hbig hp hn hpn hNc hNl hNN hr BG hA1 hblk hsp hZc hcB
    rw [HN.out]
    go_wp2_with fail
    refine start_ (n := 19) (S := fun w' => w'.cell? ⟨G, 0, none⟩ = some (.slice (some ⟨gB, 0, none⟩) N cap) ∧ w'.cell? ⟨G, 1, none⟩ = some (.int .i64 (p : Int))) (ds := [18]) #[false, false, false, false, false, false, false, false, false, false, false, false, false, false, false, false, false, false, false] (by kernel_rfl) rfl rfl ?_ (fun hHeld => ?_)
    · exact ⟨c0, c1⟩
    refine take_ (i := 0) (N := some 20) (v := ?_) (a' := ?_) #[true, false, false, false, false, false, false, false, false, false, false, false, false, false, false, false, false, false, false] rfl rfl (by kernel_rfl) (fun _ _ _ h => h) (Or.inl ⟨by rfl, ?_⟩) hHeld ?_ ?_
    rotate_left
    · rintro w' ⟨s0, s1⟩; go_simp; first | done | with_reducible rfl
    rotate_left
    · simp only [Act.put, List.setIfInBounds_toArray, List.set_cons_zero, List.set_cons_succ]; rfl
    refine take_ (i := 1) (N := some 21) (v := ?_) (a' := ?_) #[true, true, false, false, false, false, false, false, false, false, false, false, false, false, false, false, false, false, false] rfl rfl (by kernel_rfl) (fun _ _ _ h => h) (Or.inl ⟨by rfl, ?_⟩) hHeld ?_ ?_
    rotate_left
    · rintro w' ⟨s0, s1⟩; go_simp; first | done | with_reducible rfl
    rotate_left
    · simp only [Act.put, List.setIfInBounds_toArray, List.set_cons_zero, List.set_cons_succ]; rfl
    refine take_ (i := 2) (N := some 22) (v := ?_) (a' := ?_) #[true, true, true, false, false, false, false, false, false, false, false, false, false, false, false, false, false, false, false] rfl rfl (by kernel_rfl) (fun _ _ _ h => h) (Or.inl ⟨by rfl, ?_⟩) hHeld ?_ ?_
    rotate_left
    · rintro w' ⟨s0, s1⟩; go_simp; first | done | with_reducible rfl
    rotate_left
    · simp only [Act.put, List.setIfInBounds_toArray, List.set_cons_zero, List.set_cons_succ]; rfl
    refine take_ (i := 3) (N := some 23) (v := ?_) (a' := ?_) #[true, true, true, true, false, false, false, false, false, false, false, false, false, false, false, false, false, false, false] rfl rfl (by kernel_rfl) (fun _ _ _ h => h) (Or.inl ⟨by rfl, ?_⟩) hHeld ?_ ?_
    rotate_left
    · rintro w' ⟨s0, s1⟩; go_simp; first | done | with_reducible rfl
    rotate_left
    · simp only [Act.put, List.setIfInBounds_toArray, List.set_cons_zero, List.set_cons_succ]; rfl
    refine take_ (i := 4) (N := some 24) (v := ?_) (a' := ?_) #[true, true, true, true, true, false, false, false, false, false, false, false, false, false, false, false, false, false, false] rfl rfl (by kernel_rfl) (fun _ _ _ h => h) (Or.inl ⟨by rfl, ?_⟩) hHeld ?_ ?_
    rotate_left
    · rintro w' ⟨s0, s1⟩; go_simp; first | done | with_reducible rfl
    rotate_left
    · simp only [Act.put, List.setIfInBounds_toArray, List.set_cons_zero, List.set_cons_succ]; rfl
    refine take_ (i := 5) (N := some 25) (v := ?_) (a' := ?_) #[true, true, true, true, true, true, false, false, false, false, false, false, false, false, false, false, false, false, false] rfl rfl (by kernel_rfl) (fun _ _ _ h => h) (Or.inl ⟨by rfl, ?_⟩) hHeld ?_ ?_
    rotate_left
    · rintro w' ⟨s0, s1⟩; go_simp; first | done | with_reducible rfl
    rotate_left
    · simp only [Act.put, List.setIfInBounds_toArray, List.set_cons_zero, List.set_cons_succ]; rfl
    refine take_ (i := 6) (N := some 26) (v := ?_) (a' := ?_) #[true, true, true, true, true, true, true, false, false, false, false, false, false, false, false, false, false, false, false] rfl rfl (by kernel_rfl) (fun _ _ _ h => h) (Or.inl ⟨by rfl, ?_⟩) hHeld ?_ ?_
    rotate_left
    · rintro w' ⟨s0, s1⟩; go_simp; first | done | with_reducible rfl
    rotate_left
    · simp only [Act.put, List.setIfInBounds_toArray, List.set_cons_zero, List.set_cons_succ]; rfl
    refine take_ (i := 7) (N := some 27) (v := ?_) (a' := ?_) #[true, true, true, true, true, true, true, true, false, false, false, false, false, false, false, false, false, false, false] rfl rfl (by kernel_rfl) (fun _ _ _ h => h) (Or.inl ⟨by rfl, ?_⟩) hHeld ?_ ?_
    rotate_left
    · rintro w' ⟨s0, s1⟩; go_simp; first | done | with_reducible rfl
    rotate_left
    · simp only [Act.put, List.setIfInBounds_toArray, List.set_cons_zero, List.set_cons_succ]; rfl
    refine take_ (i := 8) (N := some 28) (v := ?_) (a' := ?_) #[true, true, true, true, true, true, true, true, true, false, false, false, false, false, false, false, false, false, false] rfl rfl (by kernel_rfl) (fun _ _ _ h => h) (Or.inl ⟨by rfl, ?_⟩) hHeld ?_ ?_
    rotate_left
    · rintro w' ⟨s0, s1⟩; go_simp; first | done | with_reducible rfl
    rotate_left
    · simp only [Act.put, List.setIfInBounds_toArray, List.set_cons_zero, List.set_cons_succ]; rfl
    refine take_ (i := 9) (N := some 29) (v := ?_) (a' := ?_) #[true, true, true, true, true, true, true, true, true, true, false, false, false, false, false, false, false, false, false] rfl rfl (by kernel_rfl) (fun _ _ _ h => h) (Or.inl ⟨by rfl, ?_⟩) hHeld ?_ ?_
    rotate_left
    · rintro w' ⟨s0, s1⟩; go_simp; first | done | with_reducible rfl
    rotate_left
    · simp only [Act.put, List.setIfInBounds_toArray, List.set_cons_zero, List.set_cons_succ]; rfl
    refine take_ (i := 10) (N := some 30) (v := ?_) (a' := ?_) #[true, true, true, true, true, true, true, true, true, true, true, false, false, false, false, false, false, false, false] rfl rfl (by kernel_rfl) (fun _ _ _ h => h) (Or.inl ⟨by rfl, ?_⟩) hHeld ?_ ?_
    rotate_left
    · rintro w' ⟨s0, s1⟩; go_simp; first | done | with_reducible rfl
    rotate_left
    · simp only [Act.put, List.setIfInBounds_toArray, List.set_cons_zero, List.set_cons_succ]; rfl
    refine take_ (i := 11) (N := some 31) (v := ?_) (a' := ?_) #[true, true, true, true, true, true, true, true, true, true, true, true, false, false, false, false, false, false, false] rfl rfl (by kernel_rfl) (fun _ _ _ h => h) (Or.inl ⟨by rfl, ?_⟩) hHeld ?_ ?_
    rotate_left
    · rintro w' ⟨s0, s1⟩; go_simp; first | done | with_reducible rfl
    rotate_left
    · simp only [Act.put, List.setIfInBounds_toArray, List.set_cons_zero, List.set_cons_succ]; rfl
    refine take_ (i := 12) (N := some 32) (v := ?_) (a' := ?_) #[true, true, true, true, true, true, true, true, true, true, true, true, true, false, false, false, false, false, false] rfl rfl (by kernel_rfl) (fun _ _ _ h => h) (Or.inl ⟨by rfl, ?_⟩) hHeld ?_ ?_
    rotate_left
    · rintro w' ⟨s0, s1⟩; go_simp; first | done | with_reducible rfl
    rotate_left
    · simp only [Act.put, List.setIfInBounds_toArray, List.set_cons_zero, List.set_cons_succ]; rfl
    refine take_ (i := 13) (N := some 33) (v := ?_) (a' := ?_) #[true, true, true, true, true, true, true, true, true, true, true, true, true, true, false, false, false, false, false] rfl rfl (by kernel_rfl) (fun _ _ _ h => h) (Or.inl ⟨by rfl, ?_⟩) hHeld ?_ ?_
    rotate_left
    · rintro w' ⟨s0, s1⟩; go_simp; first | done | with_reducible rfl
    rotate_left
    · simp only [Act.put, List.setIfInBounds_toArray, List.set_cons_zero, List.set_cons_succ]; rfl
    refine one_ (i := 14) (N := some 34) #[true, true, true, true, true, true, true, true, true, true, true, true, true, true, true, false, false, false, false] rfl rfl (by kernel_rfl) (by decide) (fun K hK => ?_)
    refine step_copy rfl (.tmp 32) (.tmp 33) 68 68 rfl 82 2 Try.underlying68 size82 A1 A (N - p) (cap - p) n c rfl rfl gB (p * 2) n _ 82 (show w3.drew.heap[gB]? = _ from HBLK.out) (enc2 l) ?cm ?cn ?cp ?cf (enc2_one _) ?_
    case cm => have := HBD.out; show n = min n (N - p); omega
    case cn => rw [enc2_len, HN.out]
    case cp => exact fun hh => ⟨by rw [← HA1.out]; exact cutA_at (by have := HBD.out; omega), by obtain ⟨ad, q1, _, q2⟩ := HS.out (by rw [HN.out]; exact hh); exact ⟨ad, q1, q2⟩⟩
    case cf => have := HBD.out; simp only [List.length_append, enc2_len, HSP.out, HNN.out, HN.out]; omega
    intro w4 hg4 hgr4
    have Z4 := Lib.hid (blk_grown (show w3.drew.heap[G]? = _ from HBG.out) hgr4 hGg)
    have HG4 := Lib.hid hg4
    have HGR4 := Aside0.mk hgr4
    clear hg4 hgr4
    try dsimp only
    refine Shut.out hK _ _ ?_ (fun hHeld => ?_)
    · exact ⟨(cells111 Z4.out).1, (cells111 Z4.out).2.1⟩
    clear hK K
    refine norm_ (a' := ?_) ?_ ?_
    rotate_left
    · show Act.put _ (some 34) _ = _
      simp only [Act.put, List.setIfInBounds_toArray, List.set_cons_zero, List.set_cons_succ]; rfl
    refine take_ (i := 15) (N := some 35) (v := ?_) (a' := ?_) #[true, true, true, true, true, true, true, true, true, true, true, true, true, true, true, true, false, false, false] rfl rfl (by kernel_rfl) (fun _ _ _ h => h) (Or.inl ⟨by rfl, ?_⟩) hHeld ?_ ?_
    rotate_left
    · rintro w' ⟨s0, s1⟩; go_simp; first | done | with_reducible rfl
    rotate_left
    · simp only [Act.put, List.setIfInBounds_toArray, List.set_cons_zero, List.set_cons_succ]; rfl
    refine take_ (i := 16) (N := some 36) (v := ?_) (a' := ?_) #[true, true, true, true, true, true, true, true, true, true, true, true, true, true, true, true, true, false, false] rfl rfl (by kernel_rfl) (fun _ _ _ h => h) (Or.inl ⟨by rfl, ?_⟩) hHeld ?_ ?_
    rotate_left
    · rintro w' ⟨s0, s1⟩; go_simp; first | done | with_reducible rfl
    rotate_left
    · simp only [Act.put, List.setIfInBounds_toArray, List.set_cons_zero, List.set_cons_succ]; rfl
    refine take_ (i := 17) (N := some 37) (v := ?_) (a' := ?_) #[true, true, true, true, true, true, true, true, true, true, true, true, true, true, true, true, true, true, false] rfl rfl (by kernel_rfl) (fun _ _ _ h => h) (Or.inl ⟨by rfl, ?_⟩) hHeld ?_ ?_
    rotate_left
    · rintro w' ⟨s0, s1⟩; go_simp; first | done | with_reducible rfl
    rotate_left
    · simp only [Act.put, List.setIfInBounds_toArray, List.set_cons_zero, List.set_cons_succ]; rfl
    refine last_ (i := 18) (N := none) #[true, true, true, true, true, true, true, true, true, true, true, true, true, true, true, true, true, true, true] rfl rfl (by kernel_rfl) (by decide) (fun K hK => ?_)
    have fz := (cells111 Z4.out).2.2.2.2.2.1
    refine skip_ (w1 := ?_) (by rfl) rfl ?_ ?_
    rotate_left
    · go_simp; rfl
    refine Shut.out hK _ _ ?_
    clear hK K
    refine done_ (by kernel_rfl) ?_
    go_wp2_with fail
    go_ret
    obtain ⟨i1, i2, i3, i4, i5, i6, i7, i8⟩ := HBD.out
    have hNN := HNN.out
    have hn := HN.out
    have hp := HP.out
    have hpl : (pre ++ l).length = pn := by rw [List.length_append]; omega
    have hdl : (gap'.drop l.length).length = gap'.length - l.length := List.length_drop
    have hb3 := H3.out.big
    have hcells := HG4.out
    rw [enc2_splice _ _ _ p (by rw [HNN.out]; omega), ← hp, come_splice pre gap' post l (by omega)] at hcells
    have hxl : ((pre ++ l) ++ gap'.drop l.length ++ post).length = N := by
      rw [List.length_append, List.length_append, hpl, hdl]
      omega
    have hGB : G ≠ gB := fun e => hGg (by rw [e])
    have hown : vB.ownBlock = some gB ∨ w.heap.size ≤ gB := by
      rcases HV.out with hh | hh
      · exact .inl (by rw [← hh]; rfl)
      · exact .inr (hh gB rfl)
    refine ⟨rfl, gap'.drop l.length, .slice (some ⟨gB, 0, none⟩) (pre ++ gap' ++ post).length cap, ⟨?_, H.out.gG, ?_, ?_, ?_⟩, ?_, HV.out⟩
    · rw [set_at Z4.out, hpl, hdl, show pn + (gap'.length - l.length) = r by omega, HNN.out]; rfl
    · have hb2 := (Below.heap_setCell w4 ⟨G, 1, none⟩ (.int .i64 (pn : Int)) gB hGB.symm).trans hcells
      have hr := Rw.of_block (base := w0.heap.size) (cap := cap) hgB hb2 (by rw [hxl]; exact i3) hcB2 (by rw [hxl, HSP.out, HNN.out])
      rw [hxl] at hr
      rw [HNN.out]
      exact hr
    · exact below_set ((below_drew H3.out.bel).grown HGR4.out H3.out.bel.size (fun k hk => by cases hk; exact hgB)) H.out.gG
    · rw [hpl, hdl]
      omega
    · have hk1 : Kept w w4 (fun j => j = G ∨ vB.ownBlock = some j) := Kept.of_grown HGR4.out ((HKK.out.mono (fun k hk => .inl hk)).drew) (fun k hk => by cases hk; exact hown.imp .inr id)
      exact Kept.setCell hk1 (p := ⟨G, 1, none⟩) (.inl (.inl rfl)) _

end Go.Proofs.Ytopmenioioljoaa.GapW
