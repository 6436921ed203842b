/-
  THE WALKS OF PACKAGE macro: New, Keeps, Begin, End, Clone, Keys.
-/
import Derived.Test.YtopmenioioljoaaCountX
import Derived.Test.YtopmenioioljoaaPMacroDoesx0
import Derived.Lib.SliceRun
import Derived.Deep.RegionLaw
namespace Go.Proofs.Ytopmenioioljoaa.MacroW
open Go.RowKit Go.Proofs.Ytopmenioioljoaa.Base Go.Proofs.YtopmenioioljoaaW.PrintWords Go.Proofs.YtopmenioioljoaaW.PrintLast Go.Proofs.YtopmenioioljoaaW.PrintMore Go.Proofs.Ytopmenioioljoaa.CountW Go.Proofs.Ytopmenioioljoaa.PMacroDoes

/-- A macro's block. -/
def mblk (vL vN : Value) (k : Bool) (most : Int) : Obj := .cells #[vL, vN, .bool k, .int .i64 most] 108 (0, 0)

theorem cells108 {w : World} {B : Nat} {vL vN : Value} {k : Bool} {most : Int} (h : w.heap[B]? = some (mblk vL vN k most)) :
    w.cell? ⟨B, 0, none⟩ = some vL ∧ w.cell? ⟨B, 1, none⟩ = some vN ∧ w.cell? ⟨B, 2, none⟩ = some (.bool k) ∧ w.cell? ⟨B, 3, none⟩ = some (.int .i64 most) ∧
    w.frozen? ⟨B, 0, none⟩ = false ∧ w.frozen? ⟨B, 1, none⟩ = false ∧ w.frozen? ⟨B, 2, none⟩ = false ∧ w.frozen? ⟨B, 3, none⟩ = false := by
  simp only [mblk] at h
  refine ⟨?_, ?_, ?_, ?_, ?_, ?_, ?_, ?_⟩ <;> simp [World.cell?, World.frozen?, h]

theorem new30_bad (most : Int) (w : World) (h : most < 1 ∨ 9999 < most) :
    Calls Try.prog 30 #[.int .i64 most] w fun e w' => e = .returned (.tuple #[.pointer none, .int .i64 3]) ∧ w = w' := by
  by_cases h1 : most < 1
  · have d1 : decide (most < 1) = true := decide_eq_true h1
    clear h h1
    go_enter Try.func30, Try.ntmps30
    go_wp2
    go_ret2
    exact ⟨rfl, rfl⟩
  · have d1 : decide (most < 1) = false := decide_eq_false h1
    have d2 : decide (9999 < most) = true := decide_eq_true (by omega)
    clear h h1
    go_enter Try.func30, Try.ntmps30
    go_wp2
    go_ret2
    exact ⟨rfl, rfl⟩

theorem new30 (most : Int) (w : World) (h1 : 1 ≤ most) (h2 : most ≤ 9999) :
    Calls Try.prog 30 #[.int .i64 most] w fun e w' => e = .returned (.tuple #[.pointer (some ⟨w.heap.size, 0, none⟩), .int .i64 0]) ∧ w' = w.alloc (mblk (.slice none 0 0) (.slice none 0 0) false most) := by
  have d1 : decide (most < 1) = false := decide_eq_false (by omega)
  have d2 : decide (9999 < most) = false := decide_eq_false (by omega)
  clear h1 h2
  go_enter Try.func30, Try.ntmps30
  go_wp2
  go_ret2
  exact ⟨rfl, rfl⟩

theorem keeps39 (B : Nat) (vL vN : Value) (k : Bool) (most : Int) (w : World) (h : w.heap[B]? = some (mblk vL vN k most)) :
    Calls Try.prog 39 #[.pointer (some ⟨B, 0, none⟩)] w fun e w' => e = .returned (.bool k) ∧ w = w' := by
  obtain ⟨_, _, c2, _, _, _, _, _⟩ := cells108 h
  clear h
  go_enter Try.func39, Try.ntmps39
  go_wp2
  go_ret
  exact ⟨rfl, rfl⟩

/-- What Begin leaves. -/
def begN (k : Bool) (vN : Value) : Value := if k then vN else .slice none 0 0
theorem begin31 (B : Nat) (vL vN : Value) (k : Bool) (most : Int) (w : World) (h : w.heap[B]? = some (mblk vL vN k most)) :
    Calls Try.prog 31 #[.pointer (some ⟨B, 0, none⟩)] w fun e w' => e = .returned (.bool (!k)) ∧ w'.heap[B]? = some (mblk vL (begN k vN) true most) ∧ Upd B w w' := by
  obtain ⟨c0, c1, c2, c3, f0, f1, f2, f3⟩ := cells108 h
  have H := Lib.hid h
  clear h
  cases k with
  | true =>
    go_enter Try.func31, Try.ntmps31
    go_wp2
    go_ret
    exact ⟨rfl, H.out, Upd.refl _ _⟩
  | false =>
    go_enter Try.func31, Try.ntmps31
    go_wp2
    go_ret
    refine ⟨rfl, ?_, ((Upd.refl _ _).setCell _ _).setCell _ _⟩
    rw [set_at (set_at H.out)]; rfl

/-- What End leaves. -/
def endL (k : Bool) (n : Nat) (vL vN : Value) : Value := if k = true ∧ 0 < n then vN else vL
def endN (k : Bool) (vN : Value) : Value := if k then .slice none 0 0 else vN

theorem end35 (B : Nat) (vL : Value) (A : Option Addr) (n c : Nat) (k : Bool) (most : Int) (w : World) (h : w.heap[B]? = some (mblk vL (.slice A n c) k most)) :
    Calls Try.prog 35 #[.pointer (some ⟨B, 0, none⟩)] w fun e w' => e = .returned (.bool k) ∧ w'.heap[B]? = some (mblk (endL k n vL (.slice A n c)) (endN k (.slice A n c)) false most) ∧ Upd B w w' := by
  obtain ⟨c0, c1, c2, c3, f0, f1, f2, f3⟩ := cells108 h
  have hk := fun w (h : w.heap[B]? = some (mblk vL (.slice A n c) k most)) => keeps39 B vL (.slice A n c) k most w h
  have H := Lib.hid h
  have HK := Lib.hid hk
  clear h hk
  cases k with
  | false =>
    go_enter Try.func35, Try.ntmps35
    go_wp2_with (go_at_call 39; refine (HK.out _ H.out).mono ?_; rintro e w' ⟨rfl, rfl⟩)
    go_ret
    refine ⟨rfl, ?_, Upd.refl _ _⟩
    rw [H.out]; rfl
  | true =>
    by_cases hn : 0 < n
    · have d1 : decide (0 < (n : Int)) = true := decide_eq_true (by omega)
      have d2 : decide (0 < n) = true := decide_eq_true hn
      go_enter Try.func35, Try.ntmps35
      go_wp2_with (go_at_call 39; refine (HK.out _ H.out).mono ?_; rintro e w' ⟨rfl, rfl⟩)
      go_ret
      refine ⟨rfl, ?_, (((Upd.refl _ _).setCell _ _).setCell _ _).setCell _ _⟩
      rw [set_at (set_at (set_at H.out))]
      rw [show endL true n vL (.slice A n c) = .slice A n c from by simp [endL, hn]]; rfl
    · have d1 : decide (0 < (n : Int)) = false := decide_eq_false (by omega)
      have d2 : decide (0 < n) = false := decide_eq_false hn
      go_enter Try.func35, Try.ntmps35
      go_wp2_with (go_at_call 39; refine (HK.out _ H.out).mono ?_; rintro e w' ⟨rfl, rfl⟩)
      go_ret
      refine ⟨rfl, ?_, ((Upd.refl _ _).setCell _ _).setCell _ _⟩
      rw [set_at (set_at H.out)]
      rw [show endL true n vL (.slice A n c) = vL from by simp [endL, hn]]; rfl


theorem k_to_m {w W : World} {base : Nat} {ok : Nat → Prop} {x : S41} {cs : List Value} (h : k41.K w x cs) : k41.M W base ok x cs := by
  obtain rfl := k41_open h
  exact k41_mkM _ _ _ x

set_option maxRecDepth 100000 in
theorem clone69 (A : Option Addr) (c : Nat) (l : List S41) (w : World) (hC : Kd.C k41 w A l.length l) (hn : A = none → c = 0) (hl : l.length ≤ 1000000) :
    Calls Try.prog 69 #[.slice A l.length c] w fun e w' => ∃ v, e = .returned v ∧ Kd.R k41 41 w' w.heap.size (fun _ => True) v l ∧ Below w.heap.size w w' := by
  cases A with
  | none =>
    have h0 : l.length = 0 := by
      rcases Nat.eq_zero_or_pos l.length with h | h
      · exact h
      · obtain ⟨ad, h, _⟩ := hC.2.2 h; cases h
    have hl0 : l = [] := List.length_eq_zero_iff.mp h0
    subst hl0
    have hc := hn rfl
    subst hc
    clear hC hn hl h0
    have hE := fun w => Lib.run_eql_slice_nil (P := Try.prog) w 32 41 none 0 0 0 0 Try.underlying32
    go_enter Try.func69, Try.ntmps69
    go_wp2
    go_ret
    exact ⟨_, rfl, Kd.R_nil _ _ _ _ _, Below.refl _ _⟩
  | some ad =>
    have HC := Aside0.mk hC
    have HL := Aside0.mk hl
    clear hC hn hl
    have hE := fun w => Lib.run_eql_slice_nil (P := Try.prog) w 32 41 (some ad) l.length c 0 0 Try.underlying32
    go_enter Try.func69, Try.ntmps69
    go_wp2_with (first | ((with_reducible refine gate_dst (N := 5) rfl ?_); refine Kd.R_lit k41 w.heap.size 41 ?hg (N := 5) ?hd (xs := ([] : List S41)) (inner := []) (ok := fun _ => True) (okp := fun _ => True) ?hr ?hp (fun _ hk => hk) trivial (Below.refl _ _) (Nat.le_refl _) (by simp) ?_; (case hd => rfl); (case hg => rfl); (case hr => first | (go_simp; done) | (go_simp; rfl)); (case hp => exact (Reps.none _ _)); intro v5 w5 ho6 hb hg_ hnew_; clear hg_ hnew_; have HO := Aside0.mk ho6; have HB := Aside0.mk hb; clear ho6 hb) | ((with_reducible refine gate_builtin (b := .append) (xs := #[.tmp 5, .tmp 6]) rfl ?_); at_builtin; refine Kd.R_append_rows k41 (w0 := w) w.heap.size rfl (.tmp 5) (.tmp 6) 32 41 (.agg #[(.int .i64 0), (.int .i64 0), (.string ⟨#[]⟩), (.bool false)]) 40 rfl Try.underlying32 info41 rfl (by decide) (by omega) v5 [] l _ _ _ (fun _ => True) (fun _ => False) rfl rfl HO.out (Kd.C_below HC.out HB.out) ?aK (fun _ h => h.elim) (fun _ _ => trivial) HB.out HB.out.size ?aL ?_; (case aK => exact fun _ _ h => k_to_m h); (case aL => have := HL.out; simp; omega); intro v7 w7 ho7 hb7 hg7 hat7; clear hg7 hat7; have HO7 := Aside0.mk ho7; have HB7 := Aside0.mk hb7; clear ho7 hb7))
    go_ret
    exact ⟨_, rfl, HO7.out, HB7.out⟩


/-- A row of keys that lies in the macro: it can be read, and nil is written as nil. -/
structure Row (w : World) (base : Nat) (v : Value) (xs : List S41) : Prop where
  r : Kd.R k41 41 w base (fun _ => True) v xs
theorem Row.below {w w' : World} {base : Nat} {v : Value} {xs : List S41} (h : Row w base v xs) (hb : Below w.heap.size w w') : Row w' base v xs := ⟨Kd.R_below h.r hb⟩
theorem Row.nil (w : World) (base : Nat) : Row w base (.slice none 0 0) [] := ⟨Kd.R_nil _ _ _ _ _⟩
theorem Row.form {w : World} {base : Nat} {v : Value} {xs : List S41} (h : Row w base v xs) : ∃ A c, v = .slice A xs.length c ∧ Kd.C k41 w A xs.length xs ∧ xs.length ≤ c ∧ (A = none → c = 0) := by
  obtain ⟨A, c, rfl, hc, hC⟩ := Kd.R_reads h.r
  refine ⟨A, c, rfl, hC, hc, fun hA => ?_⟩
  subst hA
  obtain ⟨inner, ho⟩ := Kd.R_own h.r
  rcases ho.2 with ⟨h1, _⟩ | ⟨g, cap, cur, h1, _⟩
  · simp only [Value.slice.injEq] at h1; exact h1.2.2
  · simp at h1
/-- It is as it was where its block is. -/
theorem Row.same {w w' : World} {base : Nat} {v : Value} {xs : List S41} (h : Row w base v xs) (hs : ∀ k, v.ownBlock = some k → w'.heap[k]? = w.heap[k]?) : Row w' base v xs := by
  have h2 : Kd.R k41 41 w base (fun k => v.ownBlock = some k) v xs := ⟨fun _ hk => hk, h.r.2.imp_ (fun _ _ hp => by
    obtain rfl := k41_openM hp
    exact k41_mkM _ _ _ _)⟩
  exact ⟨Kd.R_mono (Kd.R_step h2 (fun k hk _ => hs k hk)) (fun _ _ => trivial)⟩

theorem keys40 (B base : Nat) (vL vN : Value) (k : Bool) (most : Int) (l : List S41) (w : World) (h : w.heap[B]? = some (mblk vL vN k most)) (hR : Row w base vL l) (hl : l.length ≤ 1000000) :
    Calls Try.prog 40 #[.pointer (some ⟨B, 0, none⟩)] w fun e w' => ∃ v, e = .returned v ∧ Row w' w.heap.size v l ∧ Below w.heap.size w w' := by
  obtain ⟨A, c, rfl, hC, hc, hA⟩ := hR.form
  obtain ⟨c0, c1, c2, c3, f0, f1, f2, f3⟩ := cells108 h
  have HC := Aside0.mk (clone69 A c l w hC hA hl)
  clear h hR hC hc hA hl
  go_enter Try.func40, Try.ntmps40
  go_wp2_with (go_at_call 69; refine HC.out.mono ?_; rintro e w1 ⟨v, rfl, hr, hb⟩; have HR := Aside0.mk hr; have HB := Aside0.mk hb; clear hr hb)
  go_ret
  exact ⟨_, rfl, ⟨HR.out⟩, HB.out⟩

/-- The closure that Play calls over and over. -/
theorem once68 (O Pb B : Nat) (A : Option Addr) (c : Nat) (l xs : List S41) (v : Value) (w0 w : World) (hb : Below w0.heap.size w0 w)
    (hO : w.heap[O]? = some (.cells #[v] 32)) (hP : w.heap[Pb]? = some (.cells #[.pointer (some ⟨B, 0, none⟩)] 49)) (hOb : w0.heap.size ≤ O)
    (hM : w0.cell? ⟨B, 0, none⟩ = some (.slice A l.length c)) (hC : Kd.C k41 w0 A l.length l) (hR : Row w w0.heap.size v xs) (hl : xs.length + l.length ≤ 1000000) :
    Calls Try.prog 68 #[.pointer (some ⟨O, 0, none⟩), .pointer (some ⟨Pb, 0, none⟩)] w fun e w' => ∃ v', e = .returned (.tuple #[]) ∧ w'.heap[O]? = some (.cells #[v'] 32) ∧ w'.heap[Pb]? = some (.cells #[.pointer (some ⟨B, 0, none⟩)] 49) ∧ Row w' w0.heap.size v' (xs ++ l) ∧ Below w0.heap.size w0 w' := by
  obtain ⟨A1, c1, rfl, hC1, hc1, hA1⟩ := hR.form
  have cM : w.cell? ⟨B, 0, none⟩ = some (.slice A l.length c) := pw_cell_below hb hM
  have cO : w.cell? ⟨O, 0, none⟩ = some (.slice A1 xs.length c1) := by simp [World.cell?, hO]
  have fO : w.frozen? ⟨O, 0, none⟩ = false := by simp [World.frozen?, hO]
  have cP : w.cell? ⟨Pb, 0, none⟩ = some (.pointer (some ⟨B, 0, none⟩)) := by simp [World.cell?, hP]
  have HR := Aside0.mk hR
  have HB := Aside0.mk hb
  have HO := Aside0.mk hO
  have HP := Aside0.mk hP
  have HC := Aside0.mk hC
  have HL := Aside0.mk hl
  have HM := Aside0.mk hM
  have HNE : Aside0 (Pb ≠ O) := Aside0.mk (by rintro rfl; rw [hO] at hP; simp at hP)
  have HNO := Aside0.mk (Kd.R_ne hR.r hO (by decide))
  have HNP := Aside0.mk (Kd.R_ne hR.r hP (by decide))
  clear hR hb hO hP hC hl hC1 hc1 hA1 hM
  go_enter Try.func68, Try.ntmps68
  go_region_law (first | (refine Kd.R_append_rows_step k41 (w0 := w0) (Rr := k41.K w.drew) w0.heap.size ?aw (.tmp 2) (.tmp 6) 32 41 (.agg #[(.int .i64 0), (.int .i64 0), (.string ⟨#[]⟩), (.bool false)]) 40 ?ao ?aty ?ai ?az ?a0 ?ab (.slice A1 xs.length c1) xs l A l.length c (fun _ => True) (fun _ => False) ?asl ?ax ?aO ?aR ?aK ?ap ?af ?aB ?aS ?aL ?_; (case aw => rfl); (case ao => rfl); (case aty => exact Try.underlying32); (case ai => exact info41); (case az => rfl); (case a0 => decide); (case ab => omega); (case asl => rfl); (case ax => rfl); (case aO => exact Kd.R_drew HR.out.r); (case aR => exact Kd.C_below HC.out HB.out.drew); (case aK => exact fun _ _ h => k_to_m h); (case ap => exact fun _ h => h.elim); (case af => exact fun _ _ => trivial); (case aB => exact HB.out.drew); (case aS => exact HB.out.drew.size); (case aL => have := HL.out; omega); intro v7 w7 ho7 hb7 hg7 hat7; obtain ⟨A7, c7, rfl⟩ := Kd.R_slice ho7; have z0 : w7.cell? ⟨O, 0, none⟩ = some (.slice A1 xs.length c1) := (hg7.cell_far ⟨O, 0, none⟩ (blk_lt HO.out) HNO.out).trans cO; have z1 : w7.frozen? ⟨O, 0, none⟩ = false := (hg7.frozen_far ⟨O, 0, none⟩ (blk_lt HO.out) HNO.out).trans fO; have z2 : w7.cell? ⟨Pb, 0, none⟩ = some (.pointer (some ⟨B, 0, none⟩)) := (hg7.cell_far ⟨Pb, 0, none⟩ (blk_lt HP.out) HNP.out).trans cP; have z3 : w7.cell? ⟨B, 0, none⟩ = some (.slice A l.length c) := pw_cell_below hb7 HM.out; have z4 := (blk_grown (blk_drew HO.out) hg7 HNO.out); have z5 := (blk_grown (blk_drew HP.out) hg7 HNP.out)))
  all_goals
    refine bodyPost_end (v := .tuple #[]) (by simp [results, Try.results68, go_sem]) rfl ?_
    refine ⟨.slice A7 (xs ++ l).length c7, rfl, ?_, ?_, ?_, ?_⟩
    · rw [set_at z4, List.length_append]; rfl
    · exact (Below.heap_setCell _ _ _ _ HNE.out).trans z5
    · refine Row.same ⟨ho7⟩ (fun k hk => Below.heap_setCell _ _ _ _ ?_)
      rintro rfl
      exact Kd.R_ne ho7 z4 (by decide) hk.symm
    · exact below_set hb7 hOb

end Go.Proofs.Ytopmenioioljoaa.MacroW
