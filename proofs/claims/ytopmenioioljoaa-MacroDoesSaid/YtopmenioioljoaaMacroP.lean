/-
  THE WALK OF PACKAGE macro, on: Play.
-/
import Derived.Test.YtopmenioioljoaaMacroW
namespace Go.Proofs.Ytopmenioioljoaa.MacroW
open Go.RowKit Go.Proofs.Ytopmenioioljoaa.Base Go.Proofs.YtopmenioioljoaaW.PrintWords Go.Proofs.YtopmenioioljoaaW.PrintLast Go.Proofs.YtopmenioioljoaaW.PrintMore Go.Proofs.Ytopmenioioljoaa.CountW Go.Proofs.Ytopmenioioljoaa.PMacroDoes

/-- What Play answers. -/
def playf (k : Bool) (l : List S41) (n : Int) : List S41 × Int :=
  if k then ([], 12) else if l.length = 0 then ([], 7) else if n < 1 then ([], 3) else if (9999 : Int) / (l.length : Int) < n then ([], 4) else ((List.replicate n.toNat l).flatten, 0)

def Ans37 (k : Bool) (l : List S41) (n : Int) (w : World) (e : Ending) (w' : World) : Prop := ∃ v, e = .returned (.tuple #[v, .int .i64 (playf k l n).2]) ∧ Row w' w.heap.size v (playf k l n).1 ∧ Below w.heap.size w w'

theorem play37 (B base : Nat) (vL vN : Value) (k : Bool) (most n : Int) (l : List S41) (w : World) (h : w.heap[B]? = some (mblk vL vN k most)) (hR : Row w base vL l) (hl : l.length ≤ 1000000) :
    Calls Try.prog 37 #[.pointer (some ⟨B, 0, none⟩), .int .i64 n] w (Ans37 k l n w) := by
  have hmf : ∀ (fn : Fn) (first cap : Array Value) (w : World), (Instr.makeFunc fn first cap).run Try.prog w = .ok (.func fn first cap) w := fun _ _ _ _ => rfl
  obtain ⟨A, c, rfl, hC, hc, hA⟩ := hR.form
  obtain ⟨c0, c1, c2, c3, f0, f1, f2, f3⟩ := cells108 h
  have hlt : B < w.heap.size := lt_of_block h
  have HC := Aside0.mk hC
  have HL := Aside0.mk hl
  clear h hR hC hc hA hl
  unfold Ans37
  cases k with
  | true =>
    go_enter Try.func37, Try.ntmps37
    go_wp2
    go_ret2
    exact ⟨_, rfl, Row.nil _ _, balloc _ _⟩
  | false =>
    by_cases h0 : l.length = 0
    · have hz : l = [] := List.length_eq_zero_iff.mp h0
      subst hz
      go_enter Try.func37, Try.ntmps37
      go_wp2
      go_ret2
      exact ⟨_, rfl, Row.nil _ _, balloc _ _⟩
    · have e0 : decide (l.length = 0) = false := decide_eq_false h0
      have e1 : ((l.length : Int) == 0) = false := by simpa using h0
      by_cases h1 : n < 1
      · have d1 : decide (n < 1) = true := decide_eq_true h1
        go_enter Try.func37, Try.ntmps37
        go_wp2
        go_ret2
        exact ⟨.slice none 0 0, by simp [playf, h0, h1], by simpa [playf, h0, h1] using Row.nil _ _, balloc _ _⟩
      · have d1 : decide (n < 1) = false := decide_eq_false h1
        by_cases h2 : (9999 : Int) / (l.length : Int) < n
        · have d2 : decide ((9999 : Int) / (l.length : Int) < n) = true := decide_eq_true h2
          have HF : Hid (playf false l n = ([], 4)) := by show _ = _; simp [playf, h0, h1, h2]
          go_enter Try.func37, Try.ntmps37
          go_wp2
          go_ret2
          rw [HF.out]
          exact ⟨.slice none 0 0, rfl, Row.nil _ _, balloc _ _⟩
        · have d2 : decide ((9999 : Int) / (l.length : Int) < n) = false := decide_eq_false h2
          have hn : n.toNat * l.length ≤ 9999 := by
            have h4 : ((9999 / l.length : Nat) : Int) = (9999 : Int) / (l.length : Int) := by simp
            have h3 : n.toNat ≤ 9999 / l.length := by omega
            exact Nat.le_trans (Nat.mul_le_mul_right _ h3) (Nat.div_mul_le_self _ _)
          have HF : Hid (playf false l n = ((List.replicate n.toNat l).flatten, 0)) := by show _ = _; simp [playf, h0, h1, h2]
          have HP0 : Hid (((w.alloc (.cells #[.pointer (some ⟨B, 0, none⟩)] 49)).alloc (.cells #[.slice none 0 0] 32)).heap[w.heap.size]? = some (.cells #[.pointer (some ⟨B, 0, none⟩)] 49)) := (Below.heap_alloc _ _ _ (by simp)).trans (heap_alloc_new _ _)
          have HO0 : Hid (((w.alloc (.cells #[.pointer (some ⟨B, 0, none⟩)] 49)).alloc (.cells #[.slice none 0 0] 32)).heap[w.heap.size + 1]? = some (.cells #[.slice none 0 0] 32)) := by
            have := heap_alloc_new (w.alloc (.cells #[.pointer (some ⟨B, 0, none⟩)] 49)) (.cells #[.slice none 0 0] 32)
            show _ = _
            simpa using this
          have hn9 : n ≤ 9999 := by
            have : n.toNat * 1 ≤ n.toNat * l.length := Nat.mul_le_mul_left _ (by omega)
            omega
          have HN := Aside0.mk hn
          have HM := Aside0.mk c0
          clear hn
          go_enter Try.func37, Try.ntmps37
          go_wp2
          go_loopw [37] (fun vi wr => ∃ (j : Nat) (v : Value), (j : Int) ≤ n ∧ vi = .int .i64 j ∧ Hid (wr.heap[w.heap.size + 1]? = some (.cells #[v] 32)) ∧ Hid (wr.heap[w.heap.size]? = some (.cells #[.pointer (some ⟨B, 0, none⟩)] 49)) ∧ Row wr w.heap.size v (List.replicate j l).flatten ∧ Below w.heap.size w wr) (fun vi _ => n.toNat - (intOf vi).toNat)
          case atStart => exact ⟨0, .slice none 0 0, by omega, rfl, HO0, HP0, Row.nil _ _, btr (balloc _ _) (balloc _ _)⟩
          case round =>
            obtain ⟨j, v, hj, rfl, HO, HP, hRow, hbl⟩ := hrel
            by_cases hlt : (j : Int) < n
            · have hlen : (List.replicate j l).flatten.length + l.length ≤ 1000000 := by
                have := HN.out
                have h5 : (j + 1) * l.length ≤ n.toNat * l.length := Nat.mul_le_mul_right _ (by omega)
                rw [Nat.succ_mul] at h5
                simp [List.length_flatten]
                omega
              have H68 := Lib.hid (once68 (w.heap.size + 1) w.heap.size B A c l (List.replicate j l).flatten v w wr hbl HO.out HP.out (by omega) HM.out HC.out hRow hlen)
              clear hRow hbl hlen
              go_wp2_with (go_at_call 68; refine H68.out.mono ?_; rintro e w1 ⟨v', rfl, ho, hp, hr, hb⟩; have HO1 := Lib.hid ho; have HP1 := Lib.hid hp; have HR1 := Aside0.mk hr; have HB1 := Aside0.mk hb; clear ho hp hr hb)
              go_roundw
              case rel => exact ⟨j + 1, v', by omega, by go_num, HO1, HP1, by
                have : (List.replicate (j + 1) l).flatten = (List.replicate j l).flatten ++ l := by rw [List.replicate_succ', List.flatten_append]; simp
                rw [this]; exact HR1.out, HB1.out⟩
              case measure => simp [intOf]; omega
            · have hj2 : j = n.toNat := by omega
              subst hj2
              have cO : wr.cell? ⟨w.heap.size + 1, 0, none⟩ = some v := by simp [World.cell?, HO.out]
              obtain ⟨Av, cv, rfl⟩ := Kd.R_slice hRow.r
              go_wp2
              go_ret2
              rw [HF.out]
              rw [show (List.replicate n.toNat l).flatten.length = n.toNat * l.length from by simp [List.length_flatten]] at hRow
              exact ⟨.slice Av (n.toNat * l.length) cv, rfl, hRow, hbl⟩

end Go.Proofs.Ytopmenioioljoaa.MacroW
