/-
  THE WALKS OF PACKAGE count, on: Do.
-/
import Derived.Test.YtopmenioioljoaaCountX
import Derived.Test.YtopmenioioljoaaPMacroDoesx1
namespace Go.Proofs.Ytopmenioioljoaa.CountW
open Go.RowKit Go.Proofs.Ytopmenioioljoaa.Base Go.Proofs.YtopmenioioljoaaW.PrintWords Go.Proofs.YtopmenioioljoaaW.PrintLast Go.Proofs.YtopmenioioljoaaW.PrintMore Go.Proofs.Ytopmenioioljoaa.KeyW
attribute [local go_sem high] PMacroDoes.eqA41

theorem cells41 {w : World} {B : Nat} {k v : Int} {t : ByteArray} {c : Bool} (h : w.heap[B]? = some (.cells #[.int .i64 k, .int .i64 v, .string t, .bool c] 41 (0, 0))) :
    w.cell? ⟨B, 0, none⟩ = some (.int .i64 k) ∧ w.cell? ⟨B, 1, none⟩ = some (.int .i64 v) ∧ w.cell? ⟨B, 2, none⟩ = some (.string t) ∧ w.cell? ⟨B, 3, none⟩ = some (.bool c) := by
  refine ⟨?_, ?_, ?_, ?_⟩ <;> simp [World.cell?, h]

theorem fin_cells (x : Cn) (a b : Int) (h : a = b) :
    some (Obj.cells (((#[Value.bool x.b, .bool x.d, .bool x.m, .int .i64 x.n].setIfInBounds 0 (.bool true)).setIfInBounds 1 (.bool true)).setIfInBounds 3 (.int .i64 a)) 101 (0, 0)) = some (⟨true, true, x.m, b⟩ : Cn).cells := by
  subst h; rfl

theorem step_minus {x : Cn} {k v : Int} {t : ByteArray} {c : Bool} (hm : may k v t c = true) (hd : isDigit x.b k v = false) (h : k = 3 ∧ v = 45 ∧ t.toList = [] ∧ c = false) (hx : (!x.d) = true) :
    step x k v t c = (⟨true, x.d, !x.m, x.n⟩, true) := by
  obtain ⟨rfl, rfl, h3, rfl⟩ := h
  unfold step
  rw [hm, hd, h3, hx]; rfl
theorem step_late {x : Cn} {k v : Int} {t : ByteArray} {c : Bool} (hm : may k v t c = true) (hd : isDigit x.b k v = false) (hx : (!x.d) = false) :
    step x k v t c = (x, false) := by
  unfold step
  rw [hm, hd, hx]; simp
theorem step_other {x : Cn} {k v : Int} {t : ByteArray} {c : Bool} (hm : may k v t c = true) (hd : isDigit x.b k v = false) (h : ¬ (k = 3 ∧ v = 45 ∧ t.toList = [] ∧ c = false)) :
    step x k v t c = (x, false) := by
  unfold step
  rw [hm, hd, if_neg (by simp), if_neg (by simp), if_neg]
  intro h'
  simp only [Bool.and_eq_true, decide_eq_true_eq, Bool.not_eq_true', List.isEmpty_iff] at h'
  exact h ⟨h'.1.1.1.1, h'.1.1.1.2, h'.1.1.2, h'.1.2⟩

theorem do_nil (k v : Int) (t : ByteArray) (c : Bool) (w : World) : Calls Try.prog 25 #[.pointer none, .agg #[.int .i64 k, .int .i64 v, .string t, .bool c]] w fun e w' => e = .returned (.bool false) ∧ Below w.heap.size w w' := by
  go_enter Try.func25, Try.ntmps25
  go_wp2
  go_ret
  exact ⟨rfl, balloc _ _⟩

set_option maxHeartbeats 4000000 in
theorem do25 (B : Nat) (x : Cn) (k v : Int) (t : ByteArray) (c : Bool) (w : World) (h : w.heap[B]? = some x.cells) (h0 : 0 ≤ x.n) (h1 : x.n ≤ 9999) (ht : t.size ≤ 9223372036854775807) :
    Calls Try.prog 25 #[.pointer (some ⟨B, 0, none⟩), .agg #[.int .i64 k, .int .i64 v, .string t, .bool c]] w
      fun e w' => e = .returned (.bool (step x k v t c).2) ∧ w'.heap[B]? = some (step x k v t c).1.cells ∧ Upd B w w' := by
  have hlt := lt_of_block h
  have hA := (Below.heap_alloc w (.cells #[.int .i64 k, .int .i64 v, .string t, .bool c] 41) B hlt).trans h
  have hK := heap_alloc_new w (.cells #[.int .i64 k, .int .i64 v, .string t, .bool c] 41)
  have hBA := balloc w (.cells #[.int .i64 k, .int .i64 v, .string t, .bool c] 41)
  cases hm : may k v t c with
  | false =>
    have HE : Hid (step x k v t c = (x, false)) := by show _ = _; simp [step, hm]
    have HM := Lib.hid hm
    have HA := Lib.hid hA
    clear h hA hm hK
    go_enter Try.func25, Try.ntmps25
    go_wp2_with fail
    refine (check66 k v t c _ ht).mono ?_
    rintro e w1 ⟨rfl, hb1⟩
    rw [HM.out, show ok false = 2 from rfl]
    go_wp2
    go_ret
    refine ⟨by rw [HE.out]; rfl, ?_, Upd.of_below (btr hBA hb1)⟩
    rw [HE.out]
    exact (hb1.block B (by simp; omega)).trans HA.out
  | true =>
    cases hd : isDigit x.b k v with
    | true =>
      have HE : Hid (step x k v t c = (⟨true, true, x.m, min (10 * x.n + (v - 48)) 9999⟩, true)) := by show _ = _; simp [step, hm, hd]
      have hv : 48 ≤ v ∧ v ≤ 57 := by
        have := hd
        simp only [isDigit, Bool.and_eq_true, decide_eq_true_eq] at this
        exact this.2
      obtain ⟨hv1, hv2⟩ := hv
      have HM := Lib.hid hm
      have HD := Lib.hid hd
      have HA := Lib.hid hA
      have HK := Lib.hid hK
      clear h hA hm hK hd
      go_enter Try.func25, Try.ntmps25
      go_wp2_with fail
      refine (check66 k v t c _ ht).mono ?_
      rintro e w1 ⟨rfl, hb1⟩
      have hB1 : w1.heap[B]? = some x.cells := (hb1.block B (by simp; omega)).trans HA.out
      have hK1 : w1.heap[w.heap.size]? = some (.cells #[.int .i64 k, .int .i64 v, .string t, .bool c] 41 (0, 0)) := (hb1.block _ (by simp)).trans HK.out
      obtain ⟨c0, c1, c2, c3, f0, f1, f2, f3⟩ := cells101 hB1
      obtain ⟨k0, k1, k2, k3⟩ := cells41 hK1
      have hlt1 := lt_of_block hB1
      have hltK := lt_of_block hK1
      have HB1 := Lib.hid hB1
      have HK1 := Lib.hid hK1
      clear hB1 hK1
      rw [HM.out, show ok true = 0 from rfl]
      go_wp2
      go_region_held3 (fun w' => w'.cell? ⟨B, 0, none⟩ = some (.bool x.b) ∧ w'.cell? ⟨w.heap.size, 0, none⟩ = some (.int .i64 k) ∧ w'.cell? ⟨w.heap.size, 1, none⟩ = some (.int .i64 v) ∧ w'.cell? ⟨w.heap.size, 2, none⟩ = some (.string t) ∧ w'.cell? ⟨w.heap.size, 3, none⟩ = some (.bool c)) (first | go_keep)
        (first | (go_at_call 67; refine (digit67 _ _).mono ?_; rintro e w' ⟨rfl, rfl⟩) | (go_at_call 81; refine (digit81 _ _ _ _ x.b _ _ ?_ ?_).mono ?_; (go_simp); (simp); rintro e w2 ⟨d, rfl, hd, hb2⟩; have z0 : w2.cell? ⟨B, 0, none⟩ = some (.bool x.b) := (hb2.cell (p := ⟨B, 0, none⟩) (by simp; omega)).trans (by go_simp); have z1 : w2.cell? ⟨w.heap.size, 0, none⟩ = some (.int .i64 k) := (hb2.cell (p := ⟨w.heap.size, 0, none⟩) (by simp; omega)).trans (by go_simp); have z2 : w2.cell? ⟨w.heap.size, 1, none⟩ = some (.int .i64 v) := (hb2.cell (p := ⟨w.heap.size, 1, none⟩) (by simp; omega)).trans (by go_simp); have z3 : w2.cell? ⟨w.heap.size, 2, none⟩ = some (.string t) := (hb2.cell (p := ⟨w.heap.size, 2, none⟩) (by simp; omega)).trans (by go_simp); have z4 : w2.cell? ⟨w.heap.size, 3, none⟩ = some (.bool c) := (hb2.cell (p := ⟨w.heap.size, 3, none⟩) (by simp; omega)).trans (by go_simp)))
      have hB2 : w2.heap[B]? = some x.cells := (hb2.block B (by simp; omega)).trans ((Below.heap_alloc _ _ _ hlt1).trans HB1.out)
      have hU2 : Upd B w w2 := Upd.of_below (btr (btr hBA hb1) (btr (btr (balloc w1 _) (bdrew _)) hb2))
      obtain ⟨c0, c1, c2, c3, f0, f1, f2, f3⟩ := cells101 hB2
      have hdd := hd HD.out
      have hd0 : 0 ≤ d := by omega
      have hd1 : d ≤ 9 := by omega
      have HDD := Lib.hid hdd
      have HB2 := Lib.hid hB2
      clear hd hdd hB2 hb2 hb1
      rw [HD.out]
      go_wp2
      all_goals
        go_ret
        refine ⟨by rw [HE.out]; rfl, ?_, ((hU2.setCell _ _).setCell _ _).setCell _ _⟩
        rw [HE.out, set_at (set_at (set_at HB2.out))]
        exact fin_cells x _ _ (by have := HDD.out; omega)
    | false =>
      have HM := Lib.hid hm
      have HD := Lib.hid hd
      have HA := Lib.hid hA
      have HK := Lib.hid hK
      clear h hA hm hK hd
      go_enter Try.func25, Try.ntmps25
      go_wp2_with fail
      refine (check66 k v t c _ ht).mono ?_
      rintro e w1 ⟨rfl, hb1⟩
      have hB1 : w1.heap[B]? = some x.cells := (hb1.block B (by simp; omega)).trans HA.out
      have hK1 : w1.heap[w.heap.size]? = some (.cells #[.int .i64 k, .int .i64 v, .string t, .bool c] 41 (0, 0)) := (hb1.block _ (by simp)).trans HK.out
      obtain ⟨c0, c1, c2, c3, f0, f1, f2, f3⟩ := cells101 hB1
      obtain ⟨k0, k1, k2, k3⟩ := cells41 hK1
      have hlt1 := lt_of_block hB1
      have hltK := lt_of_block hK1
      have HB1 := Lib.hid hB1
      have HK1 := Lib.hid hK1
      clear hB1 hK1
      rw [HM.out, show ok true = 0 from rfl]
      go_wp2
      go_region_held3 (fun w' => w'.cell? ⟨B, 0, none⟩ = some (.bool x.b) ∧ w'.cell? ⟨w.heap.size, 0, none⟩ = some (.int .i64 k) ∧ w'.cell? ⟨w.heap.size, 1, none⟩ = some (.int .i64 v) ∧ w'.cell? ⟨w.heap.size, 2, none⟩ = some (.string t) ∧ w'.cell? ⟨w.heap.size, 3, none⟩ = some (.bool c)) (first | go_keep)
        (first | (go_at_call 67; refine (digit67 _ _).mono ?_; rintro e w' ⟨rfl, rfl⟩) | (go_at_call 81; refine (digit81 _ _ _ _ x.b _ _ ?_ ?_).mono ?_; (go_simp); (simp); rintro e w2 ⟨d, rfl, hd, hb2⟩; have z0 : w2.cell? ⟨B, 0, none⟩ = some (.bool x.b) := (hb2.cell (p := ⟨B, 0, none⟩) (by simp; omega)).trans (by go_simp); have z1 : w2.cell? ⟨w.heap.size, 0, none⟩ = some (.int .i64 k) := (hb2.cell (p := ⟨w.heap.size, 0, none⟩) (by simp; omega)).trans (by go_simp); have z2 : w2.cell? ⟨w.heap.size, 1, none⟩ = some (.int .i64 v) := (hb2.cell (p := ⟨w.heap.size, 1, none⟩) (by simp; omega)).trans (by go_simp); have z3 : w2.cell? ⟨w.heap.size, 2, none⟩ = some (.string t) := (hb2.cell (p := ⟨w.heap.size, 2, none⟩) (by simp; omega)).trans (by go_simp); have z4 : w2.cell? ⟨w.heap.size, 3, none⟩ = some (.bool c) := (hb2.cell (p := ⟨w.heap.size, 3, none⟩) (by simp; omega)).trans (by go_simp)))
      have hB2 : w2.heap[B]? = some x.cells := (hb2.block B (by simp; omega)).trans ((Below.heap_alloc _ _ _ hlt1).trans HB1.out)
      have hU2 : Upd B w w2 := Upd.of_below (btr (btr hBA hb1) (btr (btr (balloc w1 _) (bdrew _)) hb2))
      obtain ⟨c0, c1, c2, c3, f0, f1, f2, f3⟩ := cells101 hB2
      have HB2 := Lib.hid hB2
      clear hd hB2 hb2 hb1
      rw [HD.out]
      go_wp2
      · have hk : k = 3 ∧ v = 45 ∧ t.toList = [] ∧ c = false := by assumption
        have hx : (!x.d) = true := by assumption
        have HE := step_minus HM.out HD.out hk hx
        go_ret
        refine ⟨by rw [HE]; rfl, ?_, (hU2.setCell _ _).setCell _ _⟩
        rw [HE, set_at (set_at HB2.out)]
        rfl
      · have hx : (!x.d) = false := by assumption
        have HE := step_late HM.out HD.out hx
        go_ret
        refine ⟨by rw [HE]; rfl, ?_, hU2⟩
        rw [HE, HB2.out]
      · have hk : ¬ (k = 3 ∧ v = 45 ∧ t.toList = [] ∧ c = false) := by assumption
        have HE := step_other HM.out HD.out hk
        go_ret
        refine ⟨by rw [HE]; rfl, ?_, hU2⟩
        rw [HE, HB2.out]

end Go.Proofs.Ytopmenioioljoaa.CountW
