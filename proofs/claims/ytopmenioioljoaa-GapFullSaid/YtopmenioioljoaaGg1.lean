/-
  THE GAP LAWS: texts GapC, GapA, GapB, GapW, GapL in one.
-/
import Derived.Laws.CopyOwn
import Derived.Test.YtopmenioioljoaaBase
import Derived.Test.YtopmenioioljoaaPGapDoesx0
import Derived.Test.YtopmenioioljoaaKey
import Derived.Test.YtopmenioioljoaaCountX
import Derived.Lib.SliceRun
import Derived.Deep.RegionLaw
/-
  copy OF ELEMENTS OF SEVERAL CELLS, as a law for the walk: the library's forms ask for elements of one cell.
-/
namespace Go.Proofs.Ytopmenioioljoaa.GapW
open Go.RowKit Go.Proofs.Ytopmenioioljoaa.Base Go.Proofs.YtopmenioioljoaaW.PrintWords

section
variable {P : Program}
theorem run_copy_rows (w : World) (dT sT ty elem : TypeId) (s g o dLen dCap : Nat) (a : Addr) (sLen sCap : Nat) (cur : Array Value) (t : TypeId) (cs : List Value)
    (hu : P.underlying dT = some (.slice elem)) (hs : (P.info? elem).map (·.size) = some s)
    (hg : w.heap[g]? = some (.cells cur t (0, 0))) (hn : cs.length = Nat.min sLen dLen * s)
    (hsrc : ∀ j v, cs[j]? = some v → w.cell? (a.add j) = some v) (hfit : o + cs.length ≤ cur.size) (h1 : ∀ v ∈ cs, v.oneCell' = true) :
    (Builtin.copy_ #[dT, sT] ty #[.slice (some ⟨g, o, none⟩) dLen dCap, .slice (some a) sLen sCap]).run P w =
      .ok (goInt (Nat.min sLen dLen)) (w.setRow g (cur.toList.take o ++ cs ++ cur.toList.drop (o + cs.length)).toArray) := by
  have hl := run_loadCells_list (P := P) w a cs hsrc
  have hst := run_storeCells_at P g o t cs 0 cur w hg (by simpa using hfit) h1
  cases hq : P.info? elem with
  | none => simp [hq] at hs
  | some i =>
    have hi : i.size = s := by simpa [hq] using hs
    simp [Builtin.copy_, run_underlying hu, Builtin.lenOf, Builtin.firstCells, sizeOf, typeInfo, hq, hi, ← hn, hl, hst]

theorem run_copy_nothing (w : World) (dT sT ty elem : TypeId) (s : Nat) (d a : Option Addr) (dLen dCap sLen sCap : Nat) (hu : P.underlying dT = some (.slice elem)) (hs : (P.info? elem).map (·.size) = some s) (hn : Nat.min sLen dLen = 0) :
    (Builtin.copy_ #[dT, sT] ty #[.slice d dLen dCap, .slice a sLen sCap]).run P w = .ok (goInt 0) w := by
  cases hq : P.info? elem with
  | none => simp [hq] at hs
  | some i =>
    have hl : ∀ (x : Addr), (loadCells x 0).run P w = .ok #[] w := fun x => by simpa using run_loadCells_list (P := P) w x [] (by simp)
    cases d <;> cases a <;> simp [Builtin.copy_, run_underlying hu, Builtin.lenOf, Builtin.firstCells, sizeOf, typeInfo, hq, hn, storeCells, hl]

/-- The row behind a copy. -/
theorem row_of_copy {w : World} {g : Nat} {cur : List Value} {t : TypeId} (hg : w.heap[g]? = some (.cells cur.toArray t (0, 0))) (o : Nat) (cs : List Value) :
    (w.setRow g (cur.toArray.toList.take o ++ cs ++ cur.toArray.toList.drop (o + cs.length)).toArray).heap[g]? = some (.cells (splice cur o cs).toArray t (0, 0)) := by
  have := setRow_heap w g _ (splice cur o cs).toArray t _ hg
  simpa [splice] using this

/-- ONE STEP OF A REGION THAT DRAWS: copy into a row that is known whole, the place and the cells given; nothing else turns. -/
theorem step_copy {ops : Array Oper} {o : Oper} {a : Act} {w : World} {K : Act → World → Prop} {Q : Exit → Act → World → Prop} {E : Prop} (hgd : o.guard = none) (d s : Operand) (dT sT : TypeId)
    (ho : o.op = .call { callee := .builtin .copy, args := #[d, s], argTypes := #[dT, sT] }) (elem : TypeId) (sz : Nat) (hu : P.underlying dT = some (.slice elem)) (hsz : (P.info? elem).map (·.size) = some sz)
    (dp sp : Option Addr) (dLen dCap sLen sCap : Nat) (hd : a.eval d = .slice dp dLen dCap) (hs : a.eval s = .slice sp sLen sCap)
    (g off m : Nat) (cur : List Value) (t : TypeId) (hg : w.heap[g]? = some (.cells cur.toArray t (0, 0))) (cs : List Value) (hm : m = Nat.min sLen dLen) (hn : cs.length = m * sz)
    (hpos : 0 < m → dp = some ⟨g, off, none⟩ ∧ ∃ ad, sp = some ad ∧ ∀ j v, cs[j]? = some v → w.cell? (ad.add j) = some v)
    (hfit : off + cs.length ≤ cur.length) (h1 : ∀ v ∈ cs, v.oneCell' = true)
    (h : ∀ w', w'.heap[g]? = some (.cells (splice cur off cs).toArray t (0, 0)) → w.grownBy w' (some g) → K (a.put o.dst (goInt m)) w') :
    if Region.wanted o (yielded ops a.tmps) = true then Oper.wp P o a w K Q else E := by
  have hw : Region.wanted o (yielded ops a.tmps) = true := by simp [Region.wanted, hgd]
  rw [if_pos hw]
  by_cases h0 : m = 0
  · subst h0
    obtain rfl : cs = [] := List.eq_nil_of_length_eq_zero (by simpa using hn)
    have hrun := run_copy_nothing (P := P) w dT sT o.type elem sz dp sp dLen dCap sLen sCap hu hsz hm.symm
    unfold Oper.wp
    simp [execOp, ho, resolve, invoke, builtin, hd, hs, hrun, Result.andThen]
    exact h w (by simpa [splice] using hg) ⟨rfl, rfl, rfl, Nat.le_refl _, fun _ _ _ => rfl⟩
  · obtain ⟨rfl, ad, rfl, hsrc⟩ := hpos (by omega)
    subst hm
    have hrun := run_copy_rows (P := P) w dT sT o.type elem sz g off dLen dCap ad sLen sCap cur.toArray t cs hu hsz hg hn hsrc (by simpa using hfit) h1
    unfold Oper.wp
    simp only [execOp, ho, resolve, invoke, builtin, hd, hs, hrun, Result.andThen, Sem.run_bind, Sem.run_pure, List.map_toArray, List.map_cons, List.map_nil]
    exact h _ (row_of_copy hg off cs) ⟨rfl, rfl, rfl, by simp [World.setRow], fun k _ hk => setRow_other w g k _ (fun e => hk (by rw [e]))⟩
end

end Go.Proofs.Ytopmenioioljoaa.GapW

/-
  THE WALKS OF PACKAGE sign that the gap laws reach: Right, Check.
-/
namespace Go.Proofs.Ytopmenioioljoaa.GapW
open Go.RowKit Go.Proofs.Ytopmenioioljoaa.Base Go.Proofs.YtopmenioioljoaaW.PrintWords Go.Proofs.Ytopmenioioljoaa.PGapDoes Go.Proofs.Ytopmenioioljoaa.KeyW

/-- May a sign be? -/
def srt (x : S82) : Bool := right x.f0 && decide (0 ≤ x.f1) && decide (x.f1 ≤ 5)

theorem right92 (v l : Int) (w : World) : Calls Try.prog 92 #[.agg #[.int .i64 v, .int .i64 l]] w fun e w' => e = .returned (.bool (srt ⟨v, l⟩)) ∧ Below w.heap.size w w' := by
  have hK := heap_alloc_new w (.cells #[.int .i64 v, .int .i64 l] 82)
  have hbA := balloc w (.cells #[.int .i64 v, .int .i64 l] 82)
  have HBA := Aside0.mk hbA
  have HR := Lib.hid (fun w => right78 v (right v) rfl w)
  clear hK hbA
  cases hr : right v with
  | false =>
    have HS : Hid (srt ⟨v, l⟩ = false) := by show _ = _; simp [srt, hr]
    have HR2 := Lib.hid (fun w => right78 v false hr w)
    clear hr
    go_enter Try.func92, Try.ntmps92
    go_wp2_with fail
    refine (HR2.out _).mono ?_
    rintro e w1 ⟨rfl, n, rfl⟩
    go_wp2_with fail
    go_ret
    rw [HS.out]
    exact ⟨rfl, btr HBA.out (bdrewN _ _)⟩
  | true =>
    have HR2 := Lib.hid (fun w => right78 v true hr w)
    have HS : Hid (srt ⟨v, l⟩ = (decide (0 ≤ l) && decide (l ≤ 5))) := by show _ = _; simp [srt, hr]
    clear hr
    by_cases h0 : 0 ≤ l
    · have d0 : decide (0 ≤ l) = true := decide_eq_true h0
      go_enter Try.func92, Try.ntmps92
      go_wp2_with fail
      refine (HR2.out _).mono ?_
      rintro e w1 ⟨rfl, n, rfl⟩
      go_wp2_with fail
      go_ret
      rw [HS.out]
      exact ⟨by rw [d0]; rfl, btr HBA.out (bdrewN _ _)⟩
    · have d0 : decide (0 ≤ l) = false := decide_eq_false h0
      go_enter Try.func92, Try.ntmps92
      go_wp2_with fail
      refine (HR2.out _).mono ?_
      rintro e w1 ⟨rfl, n, rfl⟩
      go_wp2_with fail
      go_ret
      rw [HS.out]
      exact ⟨by rw [d0]; rfl, btr HBA.out (bdrewN _ _)⟩

theorem not91 (v l : Int) (w : World) : Calls Try.prog 91 #[.agg #[.int .i64 v, .int .i64 l]] w fun e w' => e = .returned (.bool (!srt ⟨v, l⟩)) ∧ Below w.heap.size w w' := by
  have HBA := Aside0.mk (balloc w (.cells #[.int .i64 v, .int .i64 l] 82))
  go_enter Try.func91, Try.ntmps91
  go_wp2_with fail
  refine (right92 v l _).mono ?_
  rintro e w1 ⟨rfl, hb1⟩
  have HB1 := Aside0.mk hb1
  clear hb1
  go_wp2_with fail
  go_ret
  exact ⟨rfl, btr HBA.out HB1.out⟩

theorem idx95 (A : Option Addr) (c : Nat) (l : List S82) (w : World) (hC : Kd.C k82 w A l.length l) :
    Calls Try.prog 95 #[.slice A l.length c, .func (.func 91) #[] #[]] w fun e' w' =>
      (∃ i : Int, e' = .returned (.int .i64 i) ∧ (i < 0 ∧ i = -1 ∧ l.all srt = true ∨ 0 ≤ i ∧ i < l.length ∧ l.all srt = false)) ∧ Below w.heap.size w w' := by
  have hlm := Kd.C_max hC
  go_enter Try.func95, Try.ntmps95
  go_wp2
  go_loopw [8] (fun vi wr => ∃ k : Nat, k ≤ l.length ∧ vi = .int .i64 k ∧ Hid ((l.take k).all srt = true) ∧ Below w.heap.size w wr) (fun vi _ => l.length - (intOf vi).toNat)
  case atStart => exact ⟨0, Nat.zero_le _, rfl, rfl, Below.refl _ _⟩
  case round =>
    obtain ⟨k, hk, rfl, HT, hbl⟩ := hrel
    by_cases hlt : k < l.length
    · obtain ⟨ad, e0, h0, h1⟩ := at_T82 (Kd.C_below hC hbl) k (by omega) (by omega)
      simp only [Int.toNat_natCast] at h0 h1
      obtain ⟨x, hx⟩ : ∃ x, rd_T82 l k = x := ⟨_, rfl⟩
      rw [hx] at h0 h1
      have hx2 : l[k] = x := by rw [← hx]; simp [rd_T82, List.getD_eq_getElem?_getD, hlt]
      have hts : (l.take (k + 1)).all srt = ((l.take k).all srt && srt x) := by
        rw [List.take_succ_eq_append_getElem hlt, List.all_append, hx2]; simp
      have HX := Lib.hid hts
      clear hts hx hx2
      subst e0
      go_wp2_with fail
      refine (not91 _ _ _).mono ?_
      rintro e' w1 ⟨rfl, hb1⟩
      cases hh : srt x with
      | false =>
        have hh2 : srt ⟨x.f0, x.f1⟩ = false := hh
        have HY : Hid (l.all srt = false) := by
          show _ = _
          rw [← List.take_append_drop (k + 1) l, List.all_append, HX.out, hh]; simp
        clear hh hh2
        go_wp2
        go_ret
        exact ⟨⟨k, rfl, Or.inr ⟨by omega, by omega, HY.out⟩⟩, hbl.trans (hb1.mono hbl.size)⟩
      | true =>
        have hh2 : srt ⟨x.f0, x.f1⟩ = true := hh
        have HY : Hid ((l.take (k + 1)).all srt = true) := by
          show _ = _
          rw [HX.out, HT.out, hh]; rfl
        clear hh hh2
        go_wp2
        go_roundw
        case rel => exact ⟨k + 1, by omega, by go_num, HY, hbl.trans (hb1.mono hbl.size)⟩
        case measure => simp [intOf]; omega
    · go_wp2
      go_ret
      exact ⟨⟨-1, rfl, Or.inl ⟨by omega, rfl, by have := HT.out; rwa [List.take_of_length_le (by omega)] at this⟩⟩, hbl⟩

theorem contains90 (A : Option Addr) (c : Nat) (l : List S82) (w : World) (hC : Kd.C k82 w A l.length l) :
    Calls Try.prog 90 #[.slice A l.length c, .func (.func 91) #[] #[]] w fun e' w' => e' = .returned (.bool (!l.all srt)) ∧ Below w.heap.size w w' := by
  have HI := Lib.hid (idx95 A c l w hC)
  clear hC
  go_enter Try.func90, Try.ntmps90
  go_wp2_with fail
  refine HI.out.mono ?_
  rintro e w1 ⟨⟨i, rfl, hi⟩, hb1⟩
  have HB1 := Aside0.mk hb1
  clear hb1
  rcases hi with ⟨h1, rfl, h2⟩ | ⟨h1, _, h2⟩
  · have H2 := Lib.hid h2
    clear h2
    go_wp2_with fail
    go_ret
    exact ⟨by rw [H2.out]; rfl, HB1.out⟩
  · have H2 := Lib.hid h2
    have d1 : decide (0 ≤ i) = true := decide_eq_true h1
    clear h2
    go_wp2_with fail
    go_ret
    exact ⟨by rw [H2.out]; simp, HB1.out⟩

/-- What Check answers. -/
def chk (l : List S82) : Int := if l.all srt then 0 else 2
theorem check82 (A : Option Addr) (c : Nat) (l : List S82) (w : World) (hC : Kd.C k82 w A l.length l) :
    Calls Try.prog 82 #[.slice A l.length c] w fun e' w' => e' = .returned (.int .i64 (chk l)) ∧ Below w.heap.size w w' := by
  cases hs : l.all srt with
  | true =>
    have hI := contains90 A c l w hC
    rw [hs] at hI
    have HI := Lib.hid hI
    have HK : Hid (chk l = 0) := by show _ = _; simp [chk, hs]
    clear hC hI hs
    go_enter Try.func82, Try.ntmps82
    go_wp2_with fail
    refine HI.out.mono ?_
    rintro e w1 ⟨rfl, hb1⟩
    go_wp2_with fail
    go_ret
    exact ⟨by rw [HK.out]; rfl, hb1⟩
  | false =>
    have hI := contains90 A c l w hC
    rw [hs] at hI
    have HI := Lib.hid hI
    have HK : Hid (chk l = 2) := by show _ = _; simp [chk, hs]
    clear hC hI hs
    go_enter Try.func82, Try.ntmps82
    go_wp2_with fail
    refine HI.out.mono ?_
    rintro e w1 ⟨rfl, hb1⟩
    go_wp2_with fail
    go_ret
    exact ⟨by rw [HK.out]; rfl, hb1⟩

end Go.Proofs.Ytopmenioioljoaa.GapW

/-
  ROWS OF SIGNS: as blocks of cells, and back; what a copy leaves.
-/
namespace Go.Proofs.Ytopmenioioljoaa.GapW
open Go.RowKit Go.Proofs.Ytopmenioioljoaa.Base Go.Proofs.YtopmenioioljoaaW.PrintWords Go.Proofs.Ytopmenioioljoaa.PGapDoes

/-- The cells of signs. -/
def enc2 : List S82 → List Value
  | [] => []
  | x :: xs => .int .i64 x.f0 :: .int .i64 x.f1 :: enc2 xs
theorem enc2_len : ∀ xs : List S82, (enc2 xs).length = xs.length * 2
  | [] => rfl
  | x :: xs => by simp [enc2, enc2_len xs]; omega
theorem enc2_append : ∀ xs ys : List S82, enc2 (xs ++ ys) = enc2 xs ++ enc2 ys
  | [], ys => rfl
  | x :: xs, ys => by simp [enc2, enc2_append xs ys]
theorem enc2_take (xs : List S82) (n : Nat) : (enc2 xs).take (n * 2) = enc2 (xs.take n) := by
  rcases Nat.le_total n xs.length with h | h
  · conv => lhs; rw [← List.take_append_drop n xs, enc2_append]
    rw [List.take_append_of_le_length (by rw [enc2_len, List.length_take]; omega), List.take_of_length_le (by rw [enc2_len, List.length_take]; omega)]
  · rw [List.take_of_length_le (by rw [enc2_len]; omega), List.take_of_length_le h]
theorem enc2_drop (xs : List S82) (n : Nat) : (enc2 xs).drop (n * 2) = enc2 (xs.drop n) := by
  rcases Nat.le_total n xs.length with h | h
  · conv => lhs; rw [← List.take_append_drop n xs, enc2_append]
    rw [List.drop_append, List.drop_of_length_le (by rw [enc2_len, List.length_take]; omega), enc2_len, List.length_take]
    simp [show n * 2 - min n xs.length * 2 = 0 by omega]
  · rw [List.drop_of_length_le (by rw [enc2_len]; omega), List.drop_of_length_le h]; rfl
theorem enc2_one (xs : List S82) : ∀ v ∈ enc2 xs, v.oneCell' = true := by
  induction xs with
  | nil => intro v hv; simp [enc2] at hv
  | cons x xs ih =>
    intro v hv
    simp only [enc2, List.mem_cons] at hv
    rcases hv with rfl | rfl | hv
    · rfl
    · rfl
    · exact ih v hv
theorem enc2_splice (xs ys : List S82) (sp : List Value) (off : Nat) (h : off + ys.length ≤ xs.length) : splice (enc2 xs ++ sp) (off * 2) (enc2 ys) = enc2 (splice xs off ys) ++ sp := by
  unfold splice
  rw [List.take_append_of_le_length (by rw [enc2_len]; omega), enc2_take, List.drop_append_of_le_length (by rw [enc2_len, enc2_len]; omega), enc2_len, ← Nat.add_mul, enc2_drop, enc2_append, enc2_append]
  simp

theorem reps_enc {R : S82 → List Value → Prop} (hR : ∀ x cs, R x cs → cs = [.int .i64 x.f0, .int .i64 x.f1]) : ∀ (xs : List S82) (cs : List Value), Reps R 2 xs cs → cs = enc2 xs
  | [], cs, h => by have := h.1; simp at this; rw [this]; rfl
  | x :: xs, cs, h => by
    have h0 := hR _ _ (h.2 0 x rfl)
    have hl := h.1
    simp only [Nat.zero_mul, List.drop_zero] at h0
    have hr : Reps R 2 xs (cs.drop 2) := ⟨by rw [List.length_drop, hl]; simp only [List.length_cons]; omega, fun j p hj => by
      have := h.2 (j + 1) p (by simpa using hj)
      rwa [show (j + 1) * 2 = 2 + j * 2 by omega, ← List.drop_drop] at this⟩
    have h1 := reps_enc hR xs _ hr
    rw [← List.take_append_drop 2 cs, h0, h1]
    rfl
theorem enc_reps {R : S82 → List Value → Prop} (hR : ∀ x, R x [.int .i64 x.f0, .int .i64 x.f1]) (xs : List S82) : Reps R 2 xs (enc2 xs) := by
  refine ⟨enc2_len xs, fun j p hj => ?_⟩
  rw [enc2_drop]
  have hlt : j < xs.length := (List.getElem?_eq_some_iff.1 hj).1
  have hd : xs.drop j = p :: xs.drop (j + 1) := by
    rw [List.drop_eq_getElem_cons hlt]
    congr 1
    exact (List.getElem?_eq_some_iff.1 hj).2
  rw [hd]
  exact hR p

/-- A row of signs of the call's own. -/
structure Rw (w : World) (base : Nat) (v : Value) (xs : List S82) : Prop where
  r : Kd.R k82 82 w base (fun _ => True) v xs
theorem Rw.below {w w' : World} {base : Nat} {v : Value} {xs : List S82} (h : Rw w base v xs) (hb : Below w.heap.size w w') : Rw w' base v xs := ⟨Kd.R_below h.r hb⟩
theorem Rw.nil (w : World) (base : Nat) : Rw w base (.slice none 0 0) [] := ⟨Kd.R_nil _ _ _ _ _⟩
theorem Rw.lower {w : World} {base base' : Nat} {v : Value} {xs : List S82} (h : Rw w base v xs) (hb : base' ≤ base) : Rw w base' v xs := ⟨Kd.R_lower h.r hb⟩

/-- As a block. -/
theorem Rw.form {w : World} {base : Nat} {v : Value} {xs : List S82} (h : Rw w base v xs) : (v = .slice none 0 0 ∧ xs = []) ∨
    ∃ g cap sp, v = .slice (some ⟨g, 0, none⟩) xs.length cap ∧ base ≤ g ∧ w.heap[g]? = some (.cells (enc2 xs ++ sp).toArray 82 (0, 0)) ∧ xs.length ≤ cap ∧ cap ≤ maxLen ∧ sp.length = (cap - xs.length) * 2 := by
  obtain ⟨_, inner, ho, hr⟩ := h.r
  have hi := reps_enc (fun x cs hx => k82_openM hx) xs inner hr
  subst hi
  rcases ho.2 with ⟨h1, h2⟩ | ⟨g, cap, cur, h1, h2, h3, h4, h5, h6, h7⟩
  · exact .inl ⟨h1, List.length_eq_zero_iff.mp h2⟩
  · refine .inr ⟨g, cap, cur.toList.drop (xs.length * 2), h1, h2, ?_, h4, h5, ?_⟩
    · have e : enc2 xs ++ cur.toList.drop (xs.length * 2) = cur.toList := by rw [← h7]; exact List.take_append_drop _ _
      rw [e]; simpa using h3
    · rw [List.length_drop, Array.length_toList, h6]
      show cap * 2 - xs.length * 2 = _
      omega
theorem Rw.of_block {w : World} {base g cap : Nat} {xs : List S82} {sp : List Value} (hb : base ≤ g) (hg : w.heap[g]? = some (.cells (enc2 xs ++ sp).toArray 82 (0, 0))) (h1 : xs.length ≤ cap) (h2 : cap ≤ maxLen) (h3 : sp.length = (cap - xs.length) * 2) :
    Rw w base (.slice (some ⟨g, 0, none⟩) xs.length cap) xs := by
  refine ⟨fun _ _ => trivial, enc2 xs, ⟨enc2_len xs, .inr ⟨g, cap, _, rfl, hb, hg, h1, h2, ?_, ?_⟩⟩, enc_reps (fun x => k82_mkM _ _ _ x) xs⟩
  · simp only [List.size_toArray, List.length_append, enc2_len, h3]
    show xs.length * 2 + (cap - xs.length) * 2 = cap * 2
    omega
  · show (enc2 xs ++ sp).take (xs.length * 2) = _
    rw [List.take_append_of_le_length (by rw [enc2_len]; omega), List.take_of_length_le (by rw [enc2_len]; omega)]
/-- It can be read. -/
theorem Rw.reads {w : World} {base : Nat} {v : Value} {xs : List S82} (h : Rw w base v xs) : ∃ A c, v = .slice A xs.length c ∧ xs.length ≤ c ∧ Kd.C k82 w A xs.length xs := Kd.R_reads h.r
theorem Rw.lt {w : World} {base : Nat} {v : Value} {xs : List S82} (h : Rw w base v xs) : ∀ j, v.ownBlock = some j → j < w.heap.size := Kd.R_lt h.r
theorem Rw.ge {w : World} {base : Nat} {v : Value} {xs : List S82} (h : Rw w base v xs) : ∀ j, v.ownBlock = some j → base ≤ j := Kd.R_base h.r
theorem Rw.ne {w : World} {base g t : Nat} {cs : Array Value} {v : Value} {xs : List S82} (h : Rw w base v xs) (hb : w.heap[g]? = some (.cells cs t (0, 0))) (ht : (82 : Nat) ≠ t) : v.ownBlock ≠ some g := fun e => Kd.R_ne h.r hb ht e.symm
theorem Rw.same {w w' : World} {base : Nat} {v : Value} {xs : List S82} (h : Rw w base v xs) (hs : ∀ k, v.ownBlock = some k → w'.heap[k]? = w.heap[k]?) : Rw w' base v xs := by
  have h2 : Kd.R k82 82 w base (fun k => v.ownBlock = some k) v xs := ⟨fun _ hk => hk, h.r.2.imp_ (fun _ _ hp => by
    obtain rfl := k82_openM hp
    exact k82_mkM _ _ _ _)⟩
  exact ⟨Kd.R_mono (Kd.R_step h2 (fun k hk _ => hs k hk)) (fun _ _ => trivial)⟩
theorem Rw.kept {w w' : World} {base : Nat} {v : Value} {xs : List S82} {S : Nat → Prop} (h : Rw w base v xs) (hk : Kept w w' S) (hs : ∀ j, v.ownBlock = some j → ¬ S j) : Rw w' base v xs :=
  h.same (fun j hj => hk.2 j (h.lt j hj) (hs j hj))

/-- Cells of signs, told one by one. -/
theorem cells_of_C {w : World} {A : Option Addr} {xs : List S82} (h : Kd.C k82 w A xs.length xs) (hp : 0 < xs.length) : ∃ ad, A = some ad ∧ ∀ j v, (enc2 xs)[j]? = some v → w.cell? (ad.add j) = some v := by
  obtain ⟨ad, hA, hx⟩ := h.2.2 hp
  refine ⟨ad, hA, fun j v hj => ?_⟩
  have hlt : j < xs.length * 2 := by have := (List.getElem?_eq_some_iff.1 hj).1; rwa [enc2_len] at this
  obtain ⟨c, _, hK, hc⟩ := hx (j / 2) (xs[j / 2]'(by omega)) (List.getElem?_eq_getElem (by omega))
  obtain rfl := k82_open hK
  have e : enc2 xs = enc2 (xs.take (j / 2)) ++ ([.int .i64 (xs[j / 2]'(by omega)).f0, .int .i64 (xs[j / 2]'(by omega)).f1] ++ enc2 (xs.drop (j / 2 + 1))) := by
    conv => lhs; rw [← List.take_append_drop (j / 2) xs, enc2_append, List.drop_eq_getElem_cons (by omega)]
    rfl
  rw [e, List.getElem?_append_right (by rw [enc2_len, List.length_take]; omega), enc2_len, List.length_take, List.getElem?_append_left (by simp; omega)] at hj
  have h2 := hc (j - min (j / 2) xs.length * 2) v hj
  have : j / 2 * 2 + (j - min (j / 2) xs.length * 2) = j := by omega
  have h3 : (ad.add (j / 2 * 2 + (j - min (j / 2) xs.length * 2))) = ad.add j := by rw [this]
  rw [← h3]
  exact h2

end Go.Proofs.Ytopmenioioljoaa.GapW

/-
  THE WALKS OF PACKAGE gap: New, Len, At, fits, Clone.
-/
namespace Go.Proofs.Ytopmenioioljoaa.GapW
open Go.RowKit Go.Proofs.Ytopmenioioljoaa.Base Go.Proofs.YtopmenioioljoaaW.PrintWords Go.Proofs.YtopmenioioljoaaW.PrintLast Go.Proofs.YtopmenioioljoaaW.PrintMore Go.Proofs.Ytopmenioioljoaa.PGapDoes Go.Proofs.Ytopmenioioljoaa.CountW

/-- A buffer's block. -/
def gblk (vB : Value) (a b most : Int) : Obj := .cells #[vB, .int .i64 a, .int .i64 b, .int .i64 most] 111 (0, 0)
theorem cells111 {w : World} {G : Nat} {vB : Value} {a b most : Int} (h : w.heap[G]? = some (gblk vB a b most)) :
    w.cell? ⟨G, 0, none⟩ = some vB ∧ w.cell? ⟨G, 1, none⟩ = some (.int .i64 a) ∧ w.cell? ⟨G, 2, none⟩ = some (.int .i64 b) ∧ w.cell? ⟨G, 3, none⟩ = some (.int .i64 most) ∧
    w.frozen? ⟨G, 0, none⟩ = false ∧ w.frozen? ⟨G, 1, none⟩ = false ∧ w.frozen? ⟨G, 2, none⟩ = false ∧ w.frozen? ⟨G, 3, none⟩ = false := by
  simp only [gblk] at h
  refine ⟨?_, ?_, ?_, ?_, ?_, ?_, ?_, ?_⟩ <;> simp [World.cell?, World.frozen?, h]

theorem new42_bad (most : Int) (w : World) (h : most < 1 ∨ 65536 < most) :
    Calls Try.prog 42 #[.int .i64 most] w fun e w' => e = .returned (.tuple #[.pointer none, .int .i64 3]) ∧ w = w' := by
  by_cases h1 : most < 1
  · have d1 : decide (most < 1) = true := decide_eq_true h1
    clear h h1
    go_enter Try.func42, Try.ntmps42
    go_wp2
    go_ret2
    exact ⟨rfl, rfl⟩
  · have d1 : decide (most < 1) = false := decide_eq_false h1
    have d2 : decide (65536 < most) = true := decide_eq_true (by omega)
    clear h h1
    go_enter Try.func42, Try.ntmps42
    go_wp2
    go_ret2
    exact ⟨rfl, rfl⟩

theorem new42 (most : Int) (w : World) (h1 : 1 ≤ most) (h2 : most ≤ 65536) :
    Calls Try.prog 42 #[.int .i64 most] w fun e w' => e = .returned (.tuple #[.pointer (some ⟨w.heap.size, 0, none⟩), .int .i64 0]) ∧ w' = w.alloc (gblk (.slice none 0 0) 0 0 most) := by
  have d1 : decide (most < 1) = false := decide_eq_false (by omega)
  have d2 : decide (65536 < most) = false := decide_eq_false (by omega)
  clear h1 h2
  go_enter Try.func42, Try.ntmps42
  go_wp2
  go_ret2
  exact ⟨rfl, rfl⟩

theorem at54 (G : Nat) (vB : Value) (a b most : Int) (w : World) (h : w.heap[G]? = some (gblk vB a b most)) :
    Calls Try.prog 54 #[.pointer (some ⟨G, 0, none⟩)] w fun e w' => e = .returned (.int .i64 a) ∧ w = w' := by
  obtain ⟨c0, c1, c2, c3, _⟩ := cells111 h
  clear h
  go_enter Try.func54, Try.ntmps54
  go_wp2
  go_ret
  exact ⟨rfl, rfl⟩
theorem at54_nil (w : World) : Calls Try.prog 54 #[.pointer none] w fun e w' => e = .returned (.int .i64 0) ∧ w = w' := by
  go_enter Try.func54, Try.ntmps54
  go_wp2
  go_ret
  exact ⟨rfl, rfl⟩

theorem len53 (G : Nat) (A : Option Addr) (n c : Nat) (a b most : Int) (w : World) (h : w.heap[G]? = some (gblk (.slice A n c) a b most)) (h0 : 0 ≤ a) (h1 : a ≤ b) (h2 : b ≤ n) (h3 : n ≤ 1000000) :
    Calls Try.prog 53 #[.pointer (some ⟨G, 0, none⟩)] w fun e w' => e = .returned (.int .i64 (n - (b - a))) ∧ ∃ m, w' = w.drewN m := by
  obtain ⟨c0, c1, c2, c3, _⟩ := cells111 h
  clear h
  have e1 : IntKind.i64.wrap (b - a) = b - a := by rw [IntKind.wrap_i64]; omega
  have e2 : IntKind.i64.wrap ((n : Int) - (b - a)) = n - (b - a) := by rw [IntKind.wrap_i64]; omega
  go_enter Try.func53, Try.ntmps53
  go_wp2
  go_quiet (fail)
  go_wp2
  go_ret
  exact ⟨by go_num, _, rfl⟩
theorem len53_nil (w : World) : Calls Try.prog 53 #[.pointer none] w fun e w' => e = .returned (.int .i64 0) ∧ w = w' := by
  go_enter Try.func53, Try.ntmps53
  go_wp2
  go_ret
  exact ⟨rfl, rfl⟩

/-- What fits answers. -/
def fitE (l : List S82) (there most : Int) : Int := if l.all srt then (if most - there < (l.length : Int) then 8 else 0) else 2
theorem fits70 (G : Nat) (vB : Value) (a b most there : Int) (A : Option Addr) (c : Nat) (l : List S82) (w : World) (h : w.heap[G]? = some (gblk vB a b most)) (hC : Kd.C k82 w A l.length l) (h0 : 0 ≤ there) (h1 : there ≤ 1000000) (h2 : 0 ≤ most) (h3 : most ≤ 1000000) (_hl : l.length ≤ 1000000) :
    Calls Try.prog 70 #[.pointer (some ⟨G, 0, none⟩), .slice A l.length c, .int .i64 there] w fun e w' => e = .returned (.int .i64 (fitE l there most)) ∧ Below w.heap.size w w' := by
  have hG := lt_of_block h
  have HC := Lib.hid (check82 A c l w hC)
  have HG := Lib.hid h
  clear h hC
  cases hs : l.all srt with
  | false =>
    have HS := Lib.hid (show chk l = 2 by simp [chk, hs])
    have HF := Lib.hid (show fitE l there most = 2 by simp [fitE, hs])
    clear hs
    go_enter Try.func70, Try.ntmps70
    go_wp2_with fail
    refine HC.out.mono ?_
    rintro e w1 ⟨rfl, hb1⟩
    rw [HS.out]
    go_wp2_with fail
    go_ret
    exact ⟨by rw [HF.out]; rfl, hb1⟩
  | true =>
    have HS := Lib.hid (show chk l = 0 by simp [chk, hs])
    by_cases hb : most - there < (l.length : Int)
    · have HF := Lib.hid (show fitE l there most = 8 by simp [fitE, hs, hb])
      have d : decide (most - there < (l.length : Int)) = true := decide_eq_true hb
      clear hs hb
      go_enter Try.func70, Try.ntmps70
      go_wp2_with fail
      refine HC.out.mono ?_
      rintro e w1 ⟨rfl, hb1⟩
      rw [HS.out]
      obtain ⟨c0, c1, c2, c3, _⟩ := cells111 ((hb1.block G hG).trans HG.out)
      go_wp2_with fail
      go_ret
      exact ⟨by rw [HF.out]; rfl, hb1⟩
    · have HF := Lib.hid (show fitE l there most = 0 by simp [fitE, hs, hb])
      have d : decide (most - there < (l.length : Int)) = false := decide_eq_false hb
      clear hs hb
      go_enter Try.func70, Try.ntmps70
      go_wp2_with fail
      refine HC.out.mono ?_
      rintro e w1 ⟨rfl, hb1⟩
      rw [HS.out]
      obtain ⟨c0, c1, c2, c3, _⟩ := cells111 ((hb1.block G hG).trans HG.out)
      go_wp2_with fail
      go_ret
      exact ⟨by rw [HF.out]; rfl, hb1⟩

theorem k_to_m2 {w W : World} {base : Nat} {ok : Nat → Prop} {x : S82} {cs : List Value} (h : k82.K w x cs) : k82.M W base ok x cs := by
  obtain rfl := k82_open h
  exact k82_mkM _ _ _ x

set_option maxRecDepth 100000 in
theorem clone73 (A : Option Addr) (c : Nat) (l : List S82) (w : World) (hC : Kd.C k82 w A l.length l) (hn : A = none → c = 0) (hl : l.length ≤ 1000000) :
    Calls Try.prog 73 #[.slice A l.length c] w fun e w' => ∃ v, e = .returned v ∧ Rw w' w.heap.size v l ∧ Below w.heap.size w w' := by
  cases A with
  | none =>
    have h0 : l.length = 0 := by
      rcases Nat.eq_zero_or_pos l.length with h | h
      · exact h
      · obtain ⟨ad, h, _⟩ := hC.2.2 h; cases h
    have hl0 : l = [] := List.length_eq_zero_iff.mp h0
    subst hl0
    have hc := hn rfl
    subst hc
    clear hC hn hl h0
    have hE := fun w => Lib.run_eql_slice_nil (P := Try.prog) w 68 82 none 0 0 0 0 Try.underlying68
    go_enter Try.func73, Try.ntmps73
    go_wp2
    go_ret
    exact ⟨_, rfl, Rw.nil _ _, Below.refl _ _⟩
  | some ad =>
    have HC := Aside0.mk hC
    have HL := Aside0.mk hl
    clear hC hn hl
    have hE := fun w => Lib.run_eql_slice_nil (P := Try.prog) w 68 82 (some ad) l.length c 0 0 Try.underlying68
    go_enter Try.func73, Try.ntmps73
    go_wp2_with (first | ((with_reducible refine gate_dst (N := 5) rfl ?_); refine Kd.R_lit k82 w.heap.size 82 ?hg (N := 5) ?hd (xs := ([] : List S82)) (inner := []) (ok := fun _ => True) (okp := fun _ => True) ?hr ?hp (fun _ hk => hk) trivial (Below.refl _ _) (Nat.le_refl _) (by simp) ?_; (case hd => rfl); (case hg => rfl); (case hr => first | (go_simp; done) | (go_simp; rfl)); (case hp => exact (Reps.none _ _)); intro v5 w5 ho6 hb hg_ hnew_; clear hg_ hnew_; have HO := Aside0.mk ho6; have HB := Aside0.mk hb; clear ho6 hb) | ((with_reducible refine gate_builtin (b := .append) (xs := #[.tmp 5, .tmp 6]) rfl ?_); at_builtin; refine Kd.R_append_rows k82 (w0 := w) w.heap.size rfl (.tmp 5) (.tmp 6) 68 82 (.agg #[(.int .i64 0), (.int .i64 0)]) 16 rfl Try.underlying68 info82 rfl (by decide) (by omega) v5 [] l _ _ _ (fun _ => True) (fun _ => False) rfl rfl HO.out (Kd.C_below HC.out HB.out) ?aK (fun _ h => h.elim) (fun _ _ => trivial) HB.out HB.out.size ?aL ?_; (case aK => exact fun _ _ h => k_to_m2 h); (case aL => have := HL.out; simp; omega); intro v7 w7 ho7 hb7 hg7 hat7; clear hg7 hat7; have HO7 := Aside0.mk ho7; have HB7 := Aside0.mk hb7; clear ho7 hb7))
    go_ret
    exact ⟨_, rfl, ⟨HO7.out⟩, HB7.out⟩

end Go.Proofs.Ytopmenioioljoaa.GapW

/-
  CUTS OF A ROW OF SIGNS, AND WHAT THE COPIES OF PACKAGE gap LEAVE: plain lists.
-/
namespace Go.Proofs.Ytopmenioioljoaa.GapW
open Go.RowKit Go.Proofs.Ytopmenioioljoaa.Base Go.Proofs.YtopmenioioljoaaW.PrintWords Go.Proofs.Ytopmenioioljoaa.PGapDoes

/-- buf[u:r] of a row, u short of the row's room. -/
theorem cut82 (g N cap u r : Nat) (h1 : u ≤ r) (h2 : r ≤ N) (h3 : N ≤ cap) (h4 : cap ≠ u) :
    ∀ W : World, (Instr.slice 68 (.slice (some ⟨g, 0, none⟩) N cap) (some (.int .i64 (u : Int))) (some (.int .i64 (r : Int))) none).run Try.prog W = .ok (.slice (some ⟨g, u * 2, none⟩) (r - u) (cap - u)) W := by
  intro W
  obtain ⟨i, hi, hz⟩ := Option.map_eq_some_iff.1 info82
  simp only [Prod.mk.injEq] at hz
  have h := cut_mid (P := Try.prog) 68 82 .i64 .i64 Try.underlying68 hi 2 hz.2.1 (some ⟨g, 0, none⟩) N cap (u : Int) (r : Int) (by omega) (by omega) (by omega) h3 W
  simp only [Int.toNat_natCast, if_neg h4, Option.map_some, add_plain] at h
  exact h

/-- buf[u:]; buf[u:r], the address as the cut lays it. -/
def cutA (A : Option Addr) (cap u : Nat) : Option Addr := if cap = u then A else A.map (·.add (u * 2))
theorem cutA_at {g cap u : Nat} (h : cap ≠ u) : cutA (some ⟨g, 0, none⟩) cap u = some ⟨g, u * 2, none⟩ := by
  unfold cutA
  rw [if_neg h, Option.map_some, add_plain]
theorem cutm82 (A : Option Addr) (N cap u r : Nat) (h1 : u ≤ r) (h2 : r ≤ N) (h3 : N ≤ cap) :
    ∀ W : World, (Instr.slice 68 (.slice A N cap) (some (.int .i64 (u : Int))) (some (.int .i64 (r : Int))) none).run Try.prog W = .ok (.slice (cutA A cap u) (r - u) (cap - u)) W := by
  intro W
  obtain ⟨i, hi, hz⟩ := Option.map_eq_some_iff.1 info82
  simp only [Prod.mk.injEq] at hz
  have h := cut_mid (P := Try.prog) 68 82 .i64 .i64 Try.underlying68 hi 2 hz.2.1 A N cap (u : Int) (r : Int) (by omega) (by omega) (by omega) h3 W
  simp only [Int.toNat_natCast] at h
  exact h
theorem cutf82 (A : Option Addr) (N cap u : Nat) (h2 : u ≤ N) (_h3 : N ≤ cap) :
    ∀ W : World, (Instr.slice 68 (.slice A N cap) (some (.int .i64 (u : Int))) none none).run Try.prog W = .ok (.slice (cutA A cap u) (N - u) (cap - u)) W := by
  intro W
  obtain ⟨i, hi, hz⟩ := Option.map_eq_some_iff.1 info82
  simp only [Prod.mk.injEq] at hz
  have h := cut_from (P := Try.prog) 68 82 .i64 Try.underlying68 hi 2 hz.2.1 A N cap (u : Int) (by omega) (by omega) W
  simp only [Int.toNat_natCast] at h
  exact h

/-- The cells of a part of a row. -/
theorem part_cells {w : World} {g : Nat} {xs : List S82} {sp : List Value} (hg : w.heap[g]? = some (.cells (enc2 xs ++ sp).toArray 82 (0, 0))) (t n : Nat) (h : t + n ≤ xs.length) :
    ∀ j v, (enc2 ((xs.drop t).take n))[j]? = some v → w.cell? ((⟨g, t * 2, none⟩ : Addr).add j) = some v := by
  intro j v hj
  have hadd : (⟨g, t * 2, none⟩ : Addr).add j = ⟨g, t * 2 + j, none⟩ := by unfold Addr.add; split <;> simp_all
  have hlt := (List.getElem?_eq_some_iff.1 hj).1
  rw [enc2_len, List.length_take, List.length_drop] at hlt
  rw [hadd]
  have e : (enc2 xs ++ sp)[t * 2 + j]? = some v := by
    rw [List.getElem?_append_left (by rw [enc2_len]; omega), ← List.getElem?_drop, enc2_drop]
    rw [← enc2_take, List.getElem?_take_of_lt (by omega)] at hj
    exact hj
  simp [World.cell?, hg, e]

/-- Back: what ends ahead of the gap goes behind it. -/
theorem back_splice (pre gap post : List S82) (t : Nat) (ht : t ≤ pre.length) :
    splice (pre ++ gap ++ post) (t + gap.length) (pre.drop t) = pre.take t ++ (pre.drop t ++ gap).take gap.length ++ (pre.drop t ++ post) := by
  unfold splice
  have e1 : (pre ++ gap ++ post).take (t + gap.length) = pre.take t ++ (pre.drop t ++ gap).take gap.length := by
    conv => lhs; rw [show pre ++ gap ++ post = pre.take t ++ ((pre.drop t ++ gap) ++ post) by rw [← List.append_assoc, ← List.append_assoc, List.take_append_drop]]
    rw [List.take_append, List.take_of_length_le (by rw [List.length_take]; omega), List.length_take, show t + gap.length - min t pre.length = gap.length by omega, List.take_append_of_le_length (by rw [List.length_append]; omega)]
  have e2 : (pre ++ gap ++ post).drop (t + gap.length + (pre.drop t).length) = post := by
    rw [List.length_drop, show t + gap.length + (pre.length - t) = (pre ++ gap).length by rw [List.length_append]; omega, List.drop_append_of_le_length (Nat.le_refl _), List.drop_length]; rfl
  rw [e1, e2]
/-- Ahead: what begins behind the gap goes ahead of it. -/
theorem ahead_splice (pre gap post : List S82) (n : Nat) (hn : n ≤ post.length) :
    splice (pre ++ gap ++ post) pre.length (post.take n) = (pre ++ post.take n) ++ (gap ++ post.take n).drop n ++ post.drop n := by
  unfold splice
  have e1 : (pre ++ gap ++ post).take pre.length = pre := by rw [List.append_assoc, List.take_append_of_le_length (Nat.le_refl _), List.take_length]
  have hl : (post.take n).length = n := by rw [List.length_take]; omega
  have e2 : (pre ++ gap ++ post).drop (pre.length + (post.take n).length) = (gap ++ post.take n).drop n ++ post.drop n := by
    rw [hl, List.append_assoc, ← List.drop_drop, List.drop_append_of_le_length (Nat.le_refl _), List.drop_length, List.nil_append]
    conv => lhs; rw [show gap ++ post = (gap ++ post.take n) ++ post.drop n by rw [List.append_assoc, List.take_append_drop]]
    rw [List.drop_append_of_le_length (by rw [List.length_append, hl]; omega)]
  rw [e1, e2]
  simp

/-- ONE STEP: a copy of nothing. -/
theorem step_copy_none {P : Program} {ops : Array Oper} {o : Oper} {a : Act} {w : World} {K : Act → World → Prop} {Q : Exit → Act → World → Prop} {E : Prop} (hgd : o.guard = none) (d s : Operand) (dT sT : TypeId)
    (ho : o.op = .call { callee := .builtin .copy, args := #[d, s], argTypes := #[dT, sT] }) (elem : TypeId) (sz : Nat) (hu : P.underlying dT = some (.slice elem)) (hsz : (P.info? elem).map (·.size) = some sz)
    (dp sp : Option Addr) (dLen dCap sLen sCap : Nat) (hd : a.eval d = .slice dp dLen dCap) (hs : a.eval s = .slice sp sLen sCap) (hm : Nat.min sLen dLen = 0)
    (h : K (a.put o.dst (goInt 0)) w) :
    if Region.wanted o (yielded ops a.tmps) = true then Oper.wp P o a w K Q else E := by
  have hw : Region.wanted o (yielded ops a.tmps) = true := by simp [Region.wanted, hgd]
  rw [if_pos hw]
  have hrun := run_copy_nothing (P := P) w dT sT o.type elem sz dp sp dLen dCap sLen sCap hu hsz hm
  unfold Oper.wp
  simp [execOp, ho, resolve, invoke, builtin, hd, hs, hrun, Result.andThen]
  exact h

end Go.Proofs.Ytopmenioioljoaa.GapW
