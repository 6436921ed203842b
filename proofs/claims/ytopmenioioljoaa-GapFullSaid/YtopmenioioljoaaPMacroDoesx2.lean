-- PRINTED BY print.sh 35421559b90ae4d0a3588c463048766b98c2df88dd9212a6774a882060cdf62d: not written by this session
import Derived.Test.YtopmenioioljoaaPMacroDoesx0
namespace Go.Proofs.Ytopmenioioljoaa.PMacroDoes
open Go.RowKit Go.Proofs.YtopmenioioljoaaW.PrintWords Go.Proofs.YtopmenioioljoaaW.PrintLast Go.Proofs.YtopmenioioljoaaW.PrintMore
attribute [local go_sem] max2_int min2_int max_two min_two max_three min_three max_four min_four   -- for this text's walks alone
set_option linter.unusedVariables false
set_option linter.unusedSimpArgs false

-- NOT PRINTED: function 30 (macro_New)

-- NOT PRINTED: function 31 (macro_Macro_Begin)

-- NOT PRINTED: function 39 (macro_Macro_Keeps)

/-! ### utf_point: function 87 -/
def utf_point.f (a0 : Int) : Option (Bool) := if a0 ≥ 0 then (if a0 ≤ 1114111 then (if a0 < 55296 then (some true) else (some (decide (a0 > 57343)))) else (some false)) else (some false)
set_option maxHeartbeats 8000000 in
set_option maxRecDepth 100000 in
theorem utf_point.calls (a0 : Int) (r : Bool) (w : World) (h : utf_point.f a0 = some r) :
    Calls Try.prog 87 #[.int .i64 a0] w fun e w' => e = .returned (.bool r) ∧ Drawn0 w w' := by
  have H : (if a0 ≥ 0 then (if a0 ≤ 1114111 then (if a0 < 55296 then (some true) else (some (decide (a0 > 57343)))) else (some false)) else (some false)) = some r := h
  clear h
  by_cases c2 : a0 ≥ 0
  · rw [if_pos c2] at H
    have c2b0 : decide (0 ≤ a0) = true := decide_eq_true c2
    clear c2
    by_cases c3 : a0 ≤ 1114111
    · rw [if_pos c3] at H
      have c3b0 : decide (a0 ≤ 1114111) = true := decide_eq_true c3
      clear c3
      by_cases c4 : a0 < 55296
      · rw [if_pos c4] at H
        have c4b0 : decide (a0 < 55296) = true := decide_eq_true c4
        clear c4
        obtain rfl := Option.some.inj H
        go_enter Try.func87, Try.ntmps87
        go_wp2
        go_ret
        exact ⟨by first | rfl | (simp; done) | (simp [*]; done), by repeat (first | exact Drawn0.refl _ | apply Drawn0.step)⟩
      · rw [if_neg c4] at H
        have c4b0 : decide (a0 < 55296) = false := decide_eq_false c4
        clear c4
        obtain rfl := Option.some.inj H
        go_enter Try.func87, Try.ntmps87
        go_wp2
        go_ret
        exact ⟨by first | rfl | (simp; done) | (simp [*]; done), by repeat (first | exact Drawn0.refl _ | apply Drawn0.step)⟩
    · rw [if_neg c3] at H
      have c3b0 : decide (a0 ≤ 1114111) = false := decide_eq_false c3
      clear c3
      obtain rfl := Option.some.inj H
      go_enter Try.func87, Try.ntmps87
      go_wp2
      go_ret
      exact ⟨by first | rfl | (simp; done) | (simp [*]; done), by repeat (first | exact Drawn0.refl _ | apply Drawn0.step)⟩
  · rw [if_neg c2] at H
    have c2b0 : decide (0 ≤ a0) = false := decide_eq_false c2
    clear c2
    obtain rfl := Option.some.inj H
    go_enter Try.func87, Try.ntmps87
    go_wp2
    go_ret
    exact ⟨by first | rfl | (simp; done) | (simp [*]; done), by repeat (first | exact Drawn0.refl _ | apply Drawn0.step)⟩

/-! ### utf_Right: function 78 -/
def utf_Right.f (a0 : Int) : Option (Bool) := (utf_point.f a0).bind fun t101 => (if t101 = true then (some true) else (if a0 ≥ 1114240 then (some (decide (a0 ≤ 1114367))) else (some false)))
set_option maxHeartbeats 8000000 in
set_option maxRecDepth 100000 in
theorem utf_Right.calls (a0 : Int) (r : Bool) (w : World) (h : utf_Right.f a0 = some r) :
    Calls Try.prog 78 #[.int .i64 a0] w fun e w' => e = .returned (.bool r) ∧ Drawn0 w w' := by
  have H : ((utf_point.f a0).bind fun t101 => (if t101 = true then (some true) else (if a0 ≥ 1114240 then (some (decide (a0 ≤ 1114367))) else (some false)))) = some r := h
  clear h
  replace H := Option.bind_eq_some_iff.mp H
  obtain ⟨t101, A20, H⟩ := H
  replace H : (if t101 = true then (some true) else (if a0 ≥ 1114240 then (some (decide (a0 ≤ 1114367))) else (some false))) = some r := H
  have A2 := Aside0.mk A20
  clear A20
  by_cases c3 : t101 = true
  · subst c3
    have H1 : (some true) = some r := by rw [if_pos rfl] at H; exact H
    clear H
    have H := H1
    clear H1
    obtain rfl := Option.some.inj H
    go_enter Try.func78, Try.ntmps78
    go_wp2_with (first | ((with_reducible refine gate_callee (f := 87) rfl ?_); refine goesL_ (some 4) rfl rfl Try.func87 (by kernel_rfl) rfl #[.int .i64 a0] rfl (by (try simp only [List.map_toArray, List.map_cons, List.map_nil]); first | done | rfl | (simp only [List.length_drop, List.length_take]; rfl)) ?_; (with_reducible refine (utf_point.calls a0 true _ A2.out).mono ?_); rintro e w' ⟨rfl, ⟨nd, rfl⟩⟩; refine ⟨_, rfl, ?_⟩))
    go_ret
    exact ⟨by first | rfl | (simp; done) | (simp [*]; done), by repeat (first | exact Drawn0.refl _ | apply Drawn0.step)⟩
  · replace c3 := Bool.eq_false_iff.mpr c3
    subst c3
    have H1 : (if a0 ≥ 1114240 then (some (decide (a0 ≤ 1114367))) else (some false)) = some r := by rw [if_neg (show ¬ (false = true) by decide)] at H; exact H
    clear H
    have H := H1
    clear H1
    by_cases c4 : a0 ≥ 1114240
    · rw [if_pos c4] at H
      have c4b0 : decide (1114240 ≤ a0) = true := decide_eq_true c4
      clear c4
      obtain rfl := Option.some.inj H
      go_enter Try.func78, Try.ntmps78
      go_wp2_with (first | ((with_reducible refine gate_callee (f := 87) rfl ?_); refine goesL_ (some 4) rfl rfl Try.func87 (by kernel_rfl) rfl #[.int .i64 a0] rfl (by (try simp only [List.map_toArray, List.map_cons, List.map_nil]); first | done | rfl | (simp only [List.length_drop, List.length_take]; rfl)) ?_; (with_reducible refine (utf_point.calls a0 false _ A2.out).mono ?_); rintro e w' ⟨rfl, ⟨nd, rfl⟩⟩; refine ⟨_, rfl, ?_⟩))
      go_ret
      exact ⟨by first | rfl | (simp; done) | (simp [*]; done), by repeat (first | exact Drawn0.refl _ | apply Drawn0.step)⟩
    · rw [if_neg c4] at H
      have c4b0 : decide (1114240 ≤ a0) = false := decide_eq_false c4
      clear c4
      obtain rfl := Option.some.inj H
      go_enter Try.func78, Try.ntmps78
      go_wp2_with (first | ((with_reducible refine gate_callee (f := 87) rfl ?_); refine goesL_ (some 4) rfl rfl Try.func87 (by kernel_rfl) rfl #[.int .i64 a0] rfl (by (try simp only [List.map_toArray, List.map_cons, List.map_nil]); first | done | rfl | (simp only [List.length_drop, List.length_take]; rfl)) ?_; (with_reducible refine (utf_point.calls a0 false _ A2.out).mono ?_); rintro e w' ⟨rfl, ⟨nd, rfl⟩⟩; refine ⟨_, rfl, ?_⟩))
      go_ret
      exact ⟨by first | rfl | (simp; done) | (simp [*]; done), by repeat (first | exact Drawn0.refl _ | apply Drawn0.step)⟩

/-! ### key_control: function 79 -/
def key_control.f (a0 : Int) : Option (Bool) := if a0 ≥ 0 then (if a0 < 32 then (if a0 = 10 then (some false) else (if a0 = 13 then (some false) else (some (a0 != 27)))) else (some false)) else (some false)
set_option maxHeartbeats 8000000 in
set_option maxRecDepth 100000 in
theorem key_control.calls (a0 : Int) (r : Bool) (w : World) (h : key_control.f a0 = some r) :
    Calls Try.prog 79 #[.int .i64 a0] w fun e w' => e = .returned (.bool r) ∧ Drawn0 w w' := by
  have H : (if a0 ≥ 0 then (if a0 < 32 then (if a0 = 10 then (some false) else (if a0 = 13 then (some false) else (some (a0 != 27)))) else (some false)) else (some false)) = some r := h
  clear h
  by_cases c2 : a0 ≥ 0
  · rw [if_pos c2] at H
    have c2b0 : decide (0 ≤ a0) = true := decide_eq_true c2
    clear c2
    by_cases c3 : a0 < 32
    · rw [if_pos c3] at H
      have c3b0 : decide (a0 < 32) = true := decide_eq_true c3
      clear c3
      by_cases c4 : a0 = 10
      · rw [if_pos c4] at H
        have c4b0 : (a0 == 10) = true := beq_iff_eq.mpr c4
        have c4b1 : (a0 != 10) = false := bne_eq_false_iff_eq.mpr c4
        clear c4
        obtain rfl := Option.some.inj H
        go_enter Try.func79, Try.ntmps79
        go_wp2
        go_ret
        exact ⟨by first | rfl | (simp; done) | (simp [*]; done), by repeat (first | exact Drawn0.refl _ | apply Drawn0.step)⟩
      · rw [if_neg c4] at H
        have c4b0 : (a0 == 10) = false := beq_eq_false_iff_ne.mpr c4
        have c4b1 : (a0 != 10) = true := bne_iff_ne.mpr c4
        by_cases c5 : a0 = 13
        · rw [if_pos c5] at H
          have c5b0 : (a0 == 13) = true := beq_iff_eq.mpr c5
          have c5b1 : (a0 != 13) = false := bne_eq_false_iff_eq.mpr c5
          clear c5
          obtain rfl := Option.some.inj H
          go_enter Try.func79, Try.ntmps79
          go_wp2
          go_ret
          exact ⟨by first | rfl | (simp; done) | (simp [*]; done), by repeat (first | exact Drawn0.refl _ | apply Drawn0.step)⟩
        · rw [if_neg c5] at H
          have c5b0 : (a0 == 13) = false := beq_eq_false_iff_ne.mpr c5
          have c5b1 : (a0 != 13) = true := bne_iff_ne.mpr c5
          obtain rfl := Option.some.inj H
          go_enter Try.func79, Try.ntmps79
          go_wp2
          go_ret
          exact ⟨by first | rfl | (simp; done) | (simp [*]; done), by repeat (first | exact Drawn0.refl _ | apply Drawn0.step)⟩
    · rw [if_neg c3] at H
      have c3b0 : decide (a0 < 32) = false := decide_eq_false c3
      clear c3
      obtain rfl := Option.some.inj H
      go_enter Try.func79, Try.ntmps79
      go_wp2
      go_ret
      exact ⟨by first | rfl | (simp; done) | (simp [*]; done), by repeat (first | exact Drawn0.refl _ | apply Drawn0.step)⟩
  · rw [if_neg c2] at H
    have c2b0 : decide (0 ≤ a0) = false := decide_eq_false c2
    clear c2
    obtain rfl := Option.some.inj H
    go_enter Try.func79, Try.ntmps79
    go_wp2
    go_ret
    exact ⟨by first | rfl | (simp; done) | (simp [*]; done), by repeat (first | exact Drawn0.refl _ | apply Drawn0.step)⟩

/-! ### key_table: function 93 -/
def key_table.f  : Option ((List (S116))) := some (([(⟨4, 13, (⟨#[82, 69, 84]⟩ : ByteArray), (⟨#[13]⟩ : ByteArray)⟩ : S116), (⟨4, 10, (⟨#[76, 70, 68]⟩ : ByteArray), (⟨#[10]⟩ : ByteArray)⟩ : S116), (⟨5, 0, (⟨#[69, 83, 67]⟩ : ByteArray), (⟨#[27]⟩ : ByteArray)⟩ : S116), (⟨6, 0, (⟨#[68, 69, 76]⟩ : ByteArray), (⟨#[127]⟩ : ByteArray)⟩ : S116), (⟨7, 0, (⟨#[85, 80]⟩ : ByteArray), (⟨#[27, 91, 65]⟩ : ByteArray)⟩ : S116), (⟨8, 0, (⟨#[68, 79, 87, 78]⟩ : ByteArray), (⟨#[27, 91, 66]⟩ : ByteArray)⟩ : S116), (⟨9, 0, (⟨#[82, 73, 71, 72, 84]⟩ : ByteArray), (⟨#[27, 91, 67]⟩ : ByteArray)⟩ : S116), (⟨10, 0, (⟨#[76, 69, 70, 84]⟩ : ByteArray), (⟨#[27, 91, 68]⟩ : ByteArray)⟩ : S116), (⟨11, 0, (⟨#[72, 79, 77, 69]⟩ : ByteArray), (⟨#[27, 91, 72]⟩ : ByteArray)⟩ : S116), (⟨12, 0, (⟨#[69, 78, 68]⟩ : ByteArray), (⟨#[27, 91, 70]⟩ : ByteArray)⟩ : S116), (⟨13, 0, (⟨#[68, 69, 76, 69, 84, 69]⟩ : ByteArray), (⟨#[27, 91, 51, 126]⟩ : ByteArray)⟩ : S116), (⟨14, 0, (⟨#[80, 71, 85, 80]⟩ : ByteArray), (⟨#[27, 91, 53, 126]⟩ : ByteArray)⟩ : S116), (⟨14, 1, (⟨#[80, 71, 68, 78]⟩ : ByteArray), (⟨#[27, 91, 54, 126]⟩ : ByteArray)⟩ : S116)] : List (S116)))
set_option maxHeartbeats 8000000 in
set_option maxRecDepth 100000 in
theorem key_table.calls  (r : List (S116)) (w : World) (h : key_table.f  = some r) :
    Calls Try.prog 93 #[] w fun e w' => ∃ v0_ : Value, e = .returned (v0_) ∧ Kd.R k116 116 w' w.heap.size (fun _ => True) v0_ r ∧ Below w.heap.size w w' := by
  have hu116 := Try.underlying116
  have HB := Aside0.mk (Below.refl w.heap.size w)
  have H : (some (([(⟨4, 13, (⟨#[82, 69, 84]⟩ : ByteArray), (⟨#[13]⟩ : ByteArray)⟩ : S116), (⟨4, 10, (⟨#[76, 70, 68]⟩ : ByteArray), (⟨#[10]⟩ : ByteArray)⟩ : S116), (⟨5, 0, (⟨#[69, 83, 67]⟩ : ByteArray), (⟨#[27]⟩ : ByteArray)⟩ : S116), (⟨6, 0, (⟨#[68, 69, 76]⟩ : ByteArray), (⟨#[127]⟩ : ByteArray)⟩ : S116), (⟨7, 0, (⟨#[85, 80]⟩ : ByteArray), (⟨#[27, 91, 65]⟩ : ByteArray)⟩ : S116), (⟨8, 0, (⟨#[68, 79, 87, 78]⟩ : ByteArray), (⟨#[27, 91, 66]⟩ : ByteArray)⟩ : S116), (⟨9, 0, (⟨#[82, 73, 71, 72, 84]⟩ : ByteArray), (⟨#[27, 91, 67]⟩ : ByteArray)⟩ : S116), (⟨10, 0, (⟨#[76, 69, 70, 84]⟩ : ByteArray), (⟨#[27, 91, 68]⟩ : ByteArray)⟩ : S116), (⟨11, 0, (⟨#[72, 79, 77, 69]⟩ : ByteArray), (⟨#[27, 91, 72]⟩ : ByteArray)⟩ : S116), (⟨12, 0, (⟨#[69, 78, 68]⟩ : ByteArray), (⟨#[27, 91, 70]⟩ : ByteArray)⟩ : S116), (⟨13, 0, (⟨#[68, 69, 76, 69, 84, 69]⟩ : ByteArray), (⟨#[27, 91, 51, 126]⟩ : ByteArray)⟩ : S116), (⟨14, 0, (⟨#[80, 71, 85, 80]⟩ : ByteArray), (⟨#[27, 91, 53, 126]⟩ : ByteArray)⟩ : S116), (⟨14, 1, (⟨#[80, 71, 68, 78]⟩ : ByteArray), (⟨#[27, 91, 54, 126]⟩ : ByteArray)⟩ : S116)] : List (S116)))) = some r := h
  clear h
  obtain ⟨y102, hy102⟩ : ∃ y_ : List (S116), y_ = (([(⟨4, 13, (⟨#[82, 69, 84]⟩ : ByteArray), (⟨#[13]⟩ : ByteArray)⟩ : S116), (⟨4, 10, (⟨#[76, 70, 68]⟩ : ByteArray), (⟨#[10]⟩ : ByteArray)⟩ : S116), (⟨5, 0, (⟨#[69, 83, 67]⟩ : ByteArray), (⟨#[27]⟩ : ByteArray)⟩ : S116), (⟨6, 0, (⟨#[68, 69, 76]⟩ : ByteArray), (⟨#[127]⟩ : ByteArray)⟩ : S116), (⟨7, 0, (⟨#[85, 80]⟩ : ByteArray), (⟨#[27, 91, 65]⟩ : ByteArray)⟩ : S116), (⟨8, 0, (⟨#[68, 79, 87, 78]⟩ : ByteArray), (⟨#[27, 91, 66]⟩ : ByteArray)⟩ : S116), (⟨9, 0, (⟨#[82, 73, 71, 72, 84]⟩ : ByteArray), (⟨#[27, 91, 67]⟩ : ByteArray)⟩ : S116), (⟨10, 0, (⟨#[76, 69, 70, 84]⟩ : ByteArray), (⟨#[27, 91, 68]⟩ : ByteArray)⟩ : S116), (⟨11, 0, (⟨#[72, 79, 77, 69]⟩ : ByteArray), (⟨#[27, 91, 72]⟩ : ByteArray)⟩ : S116), (⟨12, 0, (⟨#[69, 78, 68]⟩ : ByteArray), (⟨#[27, 91, 70]⟩ : ByteArray)⟩ : S116), (⟨13, 0, (⟨#[68, 69, 76, 69, 84, 69]⟩ : ByteArray), (⟨#[27, 91, 51, 126]⟩ : ByteArray)⟩ : S116), (⟨14, 0, (⟨#[80, 71, 85, 80]⟩ : ByteArray), (⟨#[27, 91, 53, 126]⟩ : ByteArray)⟩ : S116), (⟨14, 1, (⟨#[80, 71, 68, 78]⟩ : ByteArray), (⟨#[27, 91, 54, 126]⟩ : ByteArray)⟩ : S116)] : List (S116))) := ⟨_, rfl⟩
  replace H : (some y102) = some r := by first | (rw [hy102]; with_reducible exact H) | (have H2_ := (Option.bind_some _ _).symm.trans H; rw [hy102]; with_reducible exact H2_) | (have H2_ := (Option.bind_some _ _).symm.trans H; with_reducible exact H2_) | with_reducible exact H | (rw [hy102]; exact H) | exact H
  have Ny102 := Aside0.mk hy102
  clear hy102
  obtain rfl := Option.some.inj H
  go_enter Try.func93, Try.ntmps93
  go_wp2_with (first | ((with_reducible refine gate_dst (N := 14) rfl ?_); refine Kd.R_lit k116 _ 116 ?hg (N := 14) ?hd (xs := ([(⟨4, 13, (⟨#[82, 69, 84]⟩ : ByteArray), (⟨#[13]⟩ : ByteArray)⟩ : S116), (⟨4, 10, (⟨#[76, 70, 68]⟩ : ByteArray), (⟨#[10]⟩ : ByteArray)⟩ : S116), (⟨5, 0, (⟨#[69, 83, 67]⟩ : ByteArray), (⟨#[27]⟩ : ByteArray)⟩ : S116), (⟨6, 0, (⟨#[68, 69, 76]⟩ : ByteArray), (⟨#[127]⟩ : ByteArray)⟩ : S116), (⟨7, 0, (⟨#[85, 80]⟩ : ByteArray), (⟨#[27, 91, 65]⟩ : ByteArray)⟩ : S116), (⟨8, 0, (⟨#[68, 79, 87, 78]⟩ : ByteArray), (⟨#[27, 91, 66]⟩ : ByteArray)⟩ : S116), (⟨9, 0, (⟨#[82, 73, 71, 72, 84]⟩ : ByteArray), (⟨#[27, 91, 67]⟩ : ByteArray)⟩ : S116), (⟨10, 0, (⟨#[76, 69, 70, 84]⟩ : ByteArray), (⟨#[27, 91, 68]⟩ : ByteArray)⟩ : S116), (⟨11, 0, (⟨#[72, 79, 77, 69]⟩ : ByteArray), (⟨#[27, 91, 72]⟩ : ByteArray)⟩ : S116), (⟨12, 0, (⟨#[69, 78, 68]⟩ : ByteArray), (⟨#[27, 91, 70]⟩ : ByteArray)⟩ : S116), (⟨13, 0, (⟨#[68, 69, 76, 69, 84, 69]⟩ : ByteArray), (⟨#[27, 91, 51, 126]⟩ : ByteArray)⟩ : S116), (⟨14, 0, (⟨#[80, 71, 85, 80]⟩ : ByteArray), (⟨#[27, 91, 53, 126]⟩ : ByteArray)⟩ : S116), (⟨14, 1, (⟨#[80, 71, 68, 78]⟩ : ByteArray), (⟨#[27, 91, 54, 126]⟩ : ByteArray)⟩ : S116)] : List (S116))) (inner := [.int .i64 4, .int .i64 13, .string (⟨#[82, 69, 84]⟩ : ByteArray), .string (⟨#[13]⟩ : ByteArray), .int .i64 4, .int .i64 10, .string (⟨#[76, 70, 68]⟩ : ByteArray), .string (⟨#[10]⟩ : ByteArray), .int .i64 5, .int .i64 0, .string (⟨#[69, 83, 67]⟩ : ByteArray), .string (⟨#[27]⟩ : ByteArray), .int .i64 6, .int .i64 0, .string (⟨#[68, 69, 76]⟩ : ByteArray), .string (⟨#[127]⟩ : ByteArray), .int .i64 7, .int .i64 0, .string (⟨#[85, 80]⟩ : ByteArray), .string (⟨#[27, 91, 65]⟩ : ByteArray), .int .i64 8, .int .i64 0, .string (⟨#[68, 79, 87, 78]⟩ : ByteArray), .string (⟨#[27, 91, 66]⟩ : ByteArray), .int .i64 9, .int .i64 0, .string (⟨#[82, 73, 71, 72, 84]⟩ : ByteArray), .string (⟨#[27, 91, 67]⟩ : ByteArray), .int .i64 10, .int .i64 0, .string (⟨#[76, 69, 70, 84]⟩ : ByteArray), .string (⟨#[27, 91, 68]⟩ : ByteArray), .int .i64 11, .int .i64 0, .string (⟨#[72, 79, 77, 69]⟩ : ByteArray), .string (⟨#[27, 91, 72]⟩ : ByteArray), .int .i64 12, .int .i64 0, .string (⟨#[69, 78, 68]⟩ : ByteArray), .string (⟨#[27, 91, 70]⟩ : ByteArray), .int .i64 13, .int .i64 0, .string (⟨#[68, 69, 76, 69, 84, 69]⟩ : ByteArray), .string (⟨#[27, 91, 51, 126]⟩ : ByteArray), .int .i64 14, .int .i64 0, .string (⟨#[80, 71, 85, 80]⟩ : ByteArray), .string (⟨#[27, 91, 53, 126]⟩ : ByteArray), .int .i64 14, .int .i64 1, .string (⟨#[80, 71, 68, 78]⟩ : ByteArray), .string (⟨#[27, 91, 54, 126]⟩ : ByteArray)]) (ok := fun _ => True) (okp := fun _ => True) ?hr ?hp (fun _ hk => hk) trivial (Below.refl _ _) (Nat.le_refl _) (by simp) ?_; (case hd => rfl); (case hg => rfl); (case hr => first | (go_simp; done) | (go_simp; rfl)); (case hp => exact (Reps.c4 (show Kd.M k116 _ _ _ (⟨4, 13, (⟨#[82, 69, 84]⟩ : ByteArray), (⟨#[13]⟩ : ByteArray)⟩ : S116) [.int .i64 4, .int .i64 13, .string (⟨#[82, 69, 84]⟩ : ByteArray), .string (⟨#[13]⟩ : ByteArray)] from (k116_mkM _ _ _ (⟨4, 13, (⟨#[82, 69, 84]⟩ : ByteArray), (⟨#[13]⟩ : ByteArray)⟩ : S116) )) (Reps.c4 (show Kd.M k116 _ _ _ (⟨4, 10, (⟨#[76, 70, 68]⟩ : ByteArray), (⟨#[10]⟩ : ByteArray)⟩ : S116) [.int .i64 4, .int .i64 10, .string (⟨#[76, 70, 68]⟩ : ByteArray), .string (⟨#[10]⟩ : ByteArray)] from (k116_mkM _ _ _ (⟨4, 10, (⟨#[76, 70, 68]⟩ : ByteArray), (⟨#[10]⟩ : ByteArray)⟩ : S116) )) (Reps.c4 (show Kd.M k116 _ _ _ (⟨5, 0, (⟨#[69, 83, 67]⟩ : ByteArray), (⟨#[27]⟩ : ByteArray)⟩ : S116) [.int .i64 5, .int .i64 0, .string (⟨#[69, 83, 67]⟩ : ByteArray), .string (⟨#[27]⟩ : ByteArray)] from (k116_mkM _ _ _ (⟨5, 0, (⟨#[69, 83, 67]⟩ : ByteArray), (⟨#[27]⟩ : ByteArray)⟩ : S116) )) (Reps.c4 (show Kd.M k116 _ _ _ (⟨6, 0, (⟨#[68, 69, 76]⟩ : ByteArray), (⟨#[127]⟩ : ByteArray)⟩ : S116) [.int .i64 6, .int .i64 0, .string (⟨#[68, 69, 76]⟩ : ByteArray), .string (⟨#[127]⟩ : ByteArray)] from (k116_mkM _ _ _ (⟨6, 0, (⟨#[68, 69, 76]⟩ : ByteArray), (⟨#[127]⟩ : ByteArray)⟩ : S116) )) (Reps.c4 (show Kd.M k116 _ _ _ (⟨7, 0, (⟨#[85, 80]⟩ : ByteArray), (⟨#[27, 91, 65]⟩ : ByteArray)⟩ : S116) [.int .i64 7, .int .i64 0, .string (⟨#[85, 80]⟩ : ByteArray), .string (⟨#[27, 91, 65]⟩ : ByteArray)] from (k116_mkM _ _ _ (⟨7, 0, (⟨#[85, 80]⟩ : ByteArray), (⟨#[27, 91, 65]⟩ : ByteArray)⟩ : S116) )) (Reps.c4 (show Kd.M k116 _ _ _ (⟨8, 0, (⟨#[68, 79, 87, 78]⟩ : ByteArray), (⟨#[27, 91, 66]⟩ : ByteArray)⟩ : S116) [.int .i64 8, .int .i64 0, .string (⟨#[68, 79, 87, 78]⟩ : ByteArray), .string (⟨#[27, 91, 66]⟩ : ByteArray)] from (k116_mkM _ _ _ (⟨8, 0, (⟨#[68, 79, 87, 78]⟩ : ByteArray), (⟨#[27, 91, 66]⟩ : ByteArray)⟩ : S116) )) (Reps.c4 (show Kd.M k116 _ _ _ (⟨9, 0, (⟨#[82, 73, 71, 72, 84]⟩ : ByteArray), (⟨#[27, 91, 67]⟩ : ByteArray)⟩ : S116) [.int .i64 9, .int .i64 0, .string (⟨#[82, 73, 71, 72, 84]⟩ : ByteArray), .string (⟨#[27, 91, 67]⟩ : ByteArray)] from (k116_mkM _ _ _ (⟨9, 0, (⟨#[82, 73, 71, 72, 84]⟩ : ByteArray), (⟨#[27, 91, 67]⟩ : ByteArray)⟩ : S116) )) (Reps.c4 (show Kd.M k116 _ _ _ (⟨10, 0, (⟨#[76, 69, 70, 84]⟩ : ByteArray), (⟨#[27, 91, 68]⟩ : ByteArray)⟩ : S116) [.int .i64 10, .int .i64 0, .string (⟨#[76, 69, 70, 84]⟩ : ByteArray), .string (⟨#[27, 91, 68]⟩ : ByteArray)] from (k116_mkM _ _ _ (⟨10, 0, (⟨#[76, 69, 70, 84]⟩ : ByteArray), (⟨#[27, 91, 68]⟩ : ByteArray)⟩ : S116) )) (Reps.c4 (show Kd.M k116 _ _ _ (⟨11, 0, (⟨#[72, 79, 77, 69]⟩ : ByteArray), (⟨#[27, 91, 72]⟩ : ByteArray)⟩ : S116) [.int .i64 11, .int .i64 0, .string (⟨#[72, 79, 77, 69]⟩ : ByteArray), .string (⟨#[27, 91, 72]⟩ : ByteArray)] from (k116_mkM _ _ _ (⟨11, 0, (⟨#[72, 79, 77, 69]⟩ : ByteArray), (⟨#[27, 91, 72]⟩ : ByteArray)⟩ : S116) )) (Reps.c4 (show Kd.M k116 _ _ _ (⟨12, 0, (⟨#[69, 78, 68]⟩ : ByteArray), (⟨#[27, 91, 70]⟩ : ByteArray)⟩ : S116) [.int .i64 12, .int .i64 0, .string (⟨#[69, 78, 68]⟩ : ByteArray), .string (⟨#[27, 91, 70]⟩ : ByteArray)] from (k116_mkM _ _ _ (⟨12, 0, (⟨#[69, 78, 68]⟩ : ByteArray), (⟨#[27, 91, 70]⟩ : ByteArray)⟩ : S116) )) (Reps.c4 (show Kd.M k116 _ _ _ (⟨13, 0, (⟨#[68, 69, 76, 69, 84, 69]⟩ : ByteArray), (⟨#[27, 91, 51, 126]⟩ : ByteArray)⟩ : S116) [.int .i64 13, .int .i64 0, .string (⟨#[68, 69, 76, 69, 84, 69]⟩ : ByteArray), .string (⟨#[27, 91, 51, 126]⟩ : ByteArray)] from (k116_mkM _ _ _ (⟨13, 0, (⟨#[68, 69, 76, 69, 84, 69]⟩ : ByteArray), (⟨#[27, 91, 51, 126]⟩ : ByteArray)⟩ : S116) )) (Reps.c4 (show Kd.M k116 _ _ _ (⟨14, 0, (⟨#[80, 71, 85, 80]⟩ : ByteArray), (⟨#[27, 91, 53, 126]⟩ : ByteArray)⟩ : S116) [.int .i64 14, .int .i64 0, .string (⟨#[80, 71, 85, 80]⟩ : ByteArray), .string (⟨#[27, 91, 53, 126]⟩ : ByteArray)] from (k116_mkM _ _ _ (⟨14, 0, (⟨#[80, 71, 85, 80]⟩ : ByteArray), (⟨#[27, 91, 53, 126]⟩ : ByteArray)⟩ : S116) )) (Reps.c4 (show Kd.M k116 _ _ _ (⟨14, 1, (⟨#[80, 71, 68, 78]⟩ : ByteArray), (⟨#[27, 91, 54, 126]⟩ : ByteArray)⟩ : S116) [.int .i64 14, .int .i64 1, .string (⟨#[80, 71, 68, 78]⟩ : ByteArray), .string (⟨#[27, 91, 54, 126]⟩ : ByteArray)] from (k116_mkM _ _ _ (⟨14, 1, (⟨#[80, 71, 68, 78]⟩ : ByteArray), (⟨#[27, 91, 54, 126]⟩ : ByteArray)⟩ : S116) )) (Reps.none _ _))))))))))))))); intro v103 w1 ho2 hb hg_ hnew_; clear hg_ hnew_; (first | rw [← Ny102.out] at ho2 | (simp only [Int.reduceToNat] at ho2; rw [← Ny102.out] at ho2)); have n0_ := Aside0.mk (Kd.R_lower ho2 (below_size (by repeat (first | (with_reducible first | exact HB.out | apply below_alloc | apply pw_below_drewN | apply below_drew1) | exact HB.out)))); have n1_ := Aside0.mk (below_step (by repeat (first | (with_reducible first | exact HB.out | apply below_alloc | apply pw_below_drewN | apply below_drew1) | exact HB.out)) hb); clear HB; have HO104 := n0_; have HB := n1_; clear n0_ n1_; clear hb ho2))
  go_ret
  exact ⟨_, by first | rfl | (simp [errW_none, errW_some] <;> rfl) | (simp [*, errW_none, errW_some] <;> rfl), by (with_reducible repeat (first | apply Kd.R_alloc | apply Kd.R_drewN | apply Kd.R_drew)); exact HO104.out, by repeat (first | (with_reducible first | exact HB.out | apply below_alloc | apply pw_below_drewN | apply below_drew1) | exact HB.out)⟩

-- NOT PRINTED: function 94 (key_named)

-- NOT PRINTED: function 88 (key_find)

-- NOT PRINTED: function 80 (key_of)

-- NOT PRINTED: function 66 (key_Check)

-- NOT PRINTED: function 34 (macro_Macro_Do)

-- NOT PRINTED: function 35 (macro_Macro_End)

-- NOT PRINTED: function 37 (macro_Macro_Play)

-- NOT PRINTED: function 69 (api_Key)

-- NOT PRINTED: function 40 (macro_Macro_Keys)

-- NOT PRINTED: function 29 (dactyllaw42_awake)

/-! ### dactylref42_M_Turn: function 32 -/
def dactylref42_M_Turn.f (l0_0 : List (S41)) (l0_1 : List (S41)) (a0_2 : Bool) : Option ((List (S41)) × (List (S41)) × Bool) := if a0_2 = true then (if (l0_1.length : Int) > 0 then (some (l0_1, ([] : List (S41)), false)) else (some (l0_0, ([] : List (S41)), false))) else (some (l0_0, ([] : List (S41)), true))
set_option maxHeartbeats 8000000 in
set_option maxRecDepth 100000 in
theorem dactylref42_M_Turn.calls (P0_0_ : Nat → Prop) (u9000_ : Value) (l0_0 : List (S41)) (P0_1_ : Nat → Prop) (u9001_ : Value) (l0_1 : List (S41)) (a0_2 : Bool) (r1 : List (S41)) (r2 : List (S41)) (r3 : Bool) (w0 w : World) (hB : Below w0.heap.size w0 w) (ho0_0 : Kd.R k41 41 w w0.heap.size P0_0_ u9000_ l0_0) (hp0_0_0_1 : ∀ k_, P0_0_ k_ → ¬ P0_1_ k_) (ho0_1 : Kd.R k41 41 w w0.heap.size P0_1_ u9001_ l0_1) (hp0_1_0_0 : ∀ k_, P0_1_ k_ → ¬ P0_0_ k_) (h : dactylref42_M_Turn.f l0_0 l0_1 a0_2 = some (r1, r2, r3)) :
    Calls Try.prog 32 #[.agg #[u9000_, u9001_, .bool a0_2]] w fun e w' => ∃ v0_ v1_ : Value, e = .returned (.agg #[v0_, v1_, .bool r3]) ∧ Kd.R k41 41 w' w0.heap.size (fun k_ => ((P0_0_ k_ ∨ P0_1_ k_) ∨ w.heap.size ≤ k_) ∧ some k_ ≠ (v1_ : Value).ownBlock) v0_ r1 ∧ Kd.R k41 41 w' w0.heap.size (fun k_ => ((P0_0_ k_ ∨ P0_1_ k_) ∨ w.heap.size ≤ k_) ∧ some k_ ≠ (v0_ : Value).ownBlock) v1_ r2 ∧ Below w0.heap.size w0 w' ∧ Kept w w' (fun k_ => P0_0_ k_ ∨ P0_1_ k_) := by
  have hu53 := Try.underlying53
  have HO0_0 := Aside0.mk (show Kd.R k41 41 w w0.heap.size (fun k_ => ((P0_0_ k_ ∨ P0_1_ k_) ∨ w.heap.size ≤ k_) ∧ some k_ ≠ (u9001_ : Value).ownBlock) u9000_ l0_0 from Kd.R_mono ho0_0 (fun k_ hk => ⟨(.inl (.inl hk)), fun e_ => hp0_0_0_1 k_ hk (ho0_1.1 k_ e_.symm)⟩))
  have HO0_1 := Aside0.mk (show Kd.R k41 41 w w0.heap.size (fun k_ => ((P0_0_ k_ ∨ P0_1_ k_) ∨ w.heap.size ≤ k_) ∧ some k_ ≠ (u9000_ : Value).ownBlock) u9001_ l0_1 from Kd.R_mono ho0_1 (fun k_ hk => ⟨(.inl (.inr hk)), fun e_ => hp0_1_0_0 k_ hk (ho0_0.1 k_ e_.symm)⟩))
  have HK := Aside0.mk (Kept.refl w (fun k_ => P0_0_ k_ ∨ P0_1_ k_))
  have HW0 := Aside0.mk hB.size
  have HB := Aside0.mk hB
  clear hB
  have H : (if a0_2 = true then (if (l0_1.length : Int) > 0 then (some (l0_1, ([] : List (S41)), false)) else (some (l0_0, ([] : List (S41)), false))) else (some (l0_0, ([] : List (S41)), true))) = some (r1, r2, r3) := h
  clear h
  by_cases c2 : a0_2 = true
  · subst c2
    have H1 : (if (l0_1.length : Int) > 0 then (some (l0_1, ([] : List (S41)), false)) else (some (l0_0, ([] : List (S41)), false))) = some (r1, r2, r3) := by rw [if_pos rfl] at H; exact H
    clear H
    have H := H1
    clear H1
    by_cases c3 : (l0_1.length : Int) > 0
    · rw [if_pos c3] at H
      have c3b0 : decide (0 < (l0_1.length : Int)) = true := decide_eq_true c3
      have c3b1 : decide (0 < l0_1.length) = true := decide_eq_true (by omega)
      clear c3
      simp only [Option.some.injEq, Prod.mk.injEq] at H
      obtain ⟨rfl, rfl, rfl⟩ := H
      obtain ⟨Ao4, co4, eo4⟩ := Kd.R_slice HO0_0.out
      subst eo4
      obtain ⟨Ao5, co5, eo5⟩ := Kd.R_slice HO0_1.out
      subst eo5
      go_enter Try.func32, Try.ntmps32
      go_wp2_with (first | ((with_reducible refine gate_dst (N := 1) rfl ?_); refine box_event ?hg (N := 1) ?hd (cs := #[.slice Ao4 l0_0.length co4, .slice Ao5 l0_1.length co5, .bool true]) (t := 53) ?hr ?_; (case hd => rfl); (case hg => rfl); (case hr => first | (go_simp; done) | (go_simp; rfl)); intro gb112 hg w6 hbox hb; have n0_ := Aside0.mk (Kd.R_below (by (with_reducible repeat (first | apply Kd.R_alloc | apply Kd.R_drewN | apply Kd.R_drew)); exact HO0_0.out) hb); have n1_ := Aside0.mk (Kd.R_below (by (with_reducible repeat (first | apply Kd.R_alloc | apply Kd.R_drewN | apply Kd.R_drew)); exact HO0_1.out) hb); have n2_ := Aside0.mk (Kept.below (S := (fun k_ => P0_0_ k_ ∨ P0_1_ k_)) (by repeat (first | (with_reducible first | exact HK.out | apply Kept.alloc | apply Kept.drewN | apply Kept.drew) | exact HK.out)) hb); have n3_ := Aside0.mk (below_step (by repeat (first | (with_reducible first | exact HB.out | apply below_alloc | apply pw_below_drewN | apply below_drew1) | exact HB.out)) hb); have n4_ := Aside0.mk (hbox); have n5_ := Aside0.mk ((by rw [hg]; exact (by first | exact HK.out.1 | exact (show Kept w _ (fun k_ => P0_0_ k_ ∨ P0_1_ k_) from by repeat (first | (with_reducible first | exact HK.out | apply Kept.alloc | apply Kept.drewN | apply Kept.drew) | exact HK.out)).1) : w.heap.size ≤ gb112)); have n6_ := Aside0.mk ((by rw [hg]; exact (below_size (by repeat (first | (with_reducible first | exact HB.out | apply below_alloc | apply pw_below_drewN | apply below_drew1) | exact HB.out))) : w0.heap.size ≤ gb112)); clear HO0_0; clear HO0_1; clear HK; clear HB; have HO0_0 := n0_; have HO0_1 := n1_; have HK := n2_; have HB := n3_; have BK112 := n4_; have GW112 := n5_; have GE112 := n6_; clear n0_ n1_ n2_ n3_ n4_ n5_ n6_; clear hb hbox hg) | ((with_reducible refine gate_dst (N := 2) rfl ?_); refine box_event ?hg (N := 2) ?hd (cs := #[.slice none 0 0, .slice none 0 0, .bool false]) (t := 53) ?hr ?_; (case hd => rfl); (case hg => rfl); (case hr => first | (go_simp; done) | (go_simp; rfl)); intro gb113 hg w7 hbox hb; have n0_ := Aside0.mk (Kd.R_below (by (with_reducible repeat (first | apply Kd.R_alloc | apply Kd.R_drewN | apply Kd.R_drew)); exact HO0_0.out) hb); have n1_ := Aside0.mk (Kd.R_below (by (with_reducible repeat (first | apply Kd.R_alloc | apply Kd.R_drewN | apply Kd.R_drew)); exact HO0_1.out) hb); have n2_ := Aside0.mk (blk_below (g := gb112) (o := .cells #[.slice Ao4 l0_0.length co4, .slice Ao5 l0_1.length co5, .bool true] 53 (0, 0)) (by (with_reducible repeat (first | refine blk_drewN ?_ _ | refine blk_drew ?_ | refine blk_alloc ?_ _)); exact BK112.out) hb); have n3_ := Aside0.mk (Kept.below (S := (fun k_ => P0_0_ k_ ∨ P0_1_ k_)) (by repeat (first | (with_reducible first | exact HK.out | apply Kept.alloc | apply Kept.drewN | apply Kept.drew | refine Kept.setCell ?_ (.inr GW112.out) _) | exact HK.out)) hb); have n4_ := Aside0.mk (below_step (by repeat (first | (with_reducible first | exact HB.out | apply below_alloc | apply pw_below_drewN | apply below_drew1 | refine below_set ?_ GE112.out) | exact HB.out)) hb); have n5_ := Aside0.mk (hbox); have n6_ := Aside0.mk ((by rw [hg]; exact (by first | exact HK.out.1 | exact (show Kept w _ (fun k_ => P0_0_ k_ ∨ P0_1_ k_) from by repeat (first | (with_reducible first | exact HK.out | apply Kept.alloc | apply Kept.drewN | apply Kept.drew | refine Kept.setCell ?_ (.inr GW112.out) _) | exact HK.out)).1) : w.heap.size ≤ gb113)); have n7_ := Aside0.mk ((by rw [hg]; exact (below_size (by repeat (first | (with_reducible first | exact HB.out | apply below_alloc | apply pw_below_drewN | apply below_drew1 | refine below_set ?_ GE112.out) | exact HB.out))) : w0.heap.size ≤ gb113)); have n8_ := Aside0.mk ((by rw [hg]; exact Nat.ne_of_lt (blk_lt (g := gb112) (o := .cells #[.slice Ao4 l0_0.length co4, .slice Ao5 l0_1.length co5, .bool true] 53 (0, 0)) (by (with_reducible repeat (first | refine blk_drewN ?_ _ | refine blk_drew ?_ | refine blk_alloc ?_ _)); exact BK112.out)) : gb112 ≠ gb113)); have n9_ := Aside0.mk ((by rw [hg]; exact Nat.ne_of_gt (blk_lt (g := gb112) (o := .cells #[.slice Ao4 l0_0.length co4, .slice Ao5 l0_1.length co5, .bool true] 53 (0, 0)) (by (with_reducible repeat (first | refine blk_drewN ?_ _ | refine blk_drew ?_ | refine blk_alloc ?_ _)); exact BK112.out)) : gb113 ≠ gb112)); clear HO0_0; clear HO0_1; clear BK112; clear HK; clear HB; have HO0_0 := n0_; have HO0_1 := n1_; have BK112 := n2_; have HK := n3_; have HB := n4_; have BK113 := n5_; have GW113 := n6_; have GE113 := n7_; have NB112_113 := n8_; have NB113_112 := n9_; clear n0_ n1_ n2_ n3_ n4_ n5_ n6_ n7_ n8_ n9_; clear hb hbox hg; have hnb8 := NB112_113.out; have hnc8 := NB113_112.out; have hcz9_0 : w7.cell? ⟨gb112, 0, none⟩ = some (.slice Ao4 l0_0.length co4) := (blk_cell BK112.out 0).trans rfl; have hcz9_1 : w7.cell? ⟨gb112, 1, none⟩ = some (.slice Ao5 l0_1.length co5) := (blk_cell BK112.out 1).trans rfl; have hcz9_2 : w7.cell? ⟨gb112, 2, none⟩ = some (.bool true) := (blk_cell BK112.out 2).trans rfl; have hfz9_0 := blk_frozen BK112.out 0; have hfz9_1 := blk_frozen BK112.out 1; have hfz9_2 := blk_frozen BK112.out 2; have hcz10_0 : w7.cell? ⟨gb113, 0, none⟩ = some (.slice none 0 0) := (blk_cell BK113.out 0).trans rfl; have hcz10_1 : w7.cell? ⟨gb113, 1, none⟩ = some (.slice none 0 0) := (blk_cell BK113.out 1).trans rfl; have hcz10_2 : w7.cell? ⟨gb113, 2, none⟩ = some (.bool false) := (blk_cell BK113.out 2).trans rfl; have hfz10_0 := blk_frozen BK113.out 0; have hfz10_1 := blk_frozen BK113.out 1; have hfz10_2 := blk_frozen BK113.out 2))
      refine bodyPost_ret (results_cell_row rfl _ _ gb113 53 #[.slice Ao5 l0_1.length co5, .slice none 0 0, .bool false] (0, 0) _ rfl (by (with_reducible repeat (first | refine blk_drewN ?_ _ | refine blk_drew ?_ | refine blk_alloc ?_ _)); refine blk_put (cs := #[.slice Ao5 l0_1.length co5, .slice none 0 0, .bool false]) ?_ 2 _ rfl; (with_reducible repeat (first | refine blk_drewN ?_ _ | refine blk_drew ?_ | refine blk_alloc ?_ _)); refine blk_put (cs := #[.slice Ao5 l0_1.length co5, .slice none 0 0, .bool false]) ?_ 1 _ rfl; (with_reducible repeat (first | refine blk_drewN ?_ _ | refine blk_drew ?_ | refine blk_alloc ?_ _)); refine blk_put (cs := #[.slice none 0 0, .slice none 0 0, .bool false]) ?_ 0 _ rfl; (with_reducible repeat (first | refine blk_drewN ?_ _ | refine blk_drew ?_ | refine blk_alloc ?_ _)); exact BK113.out) Try.underlying53 rfl (by kernel_rfl)) rfl ?_
      exact ⟨_, _, by first | rfl | (simp [errW_none, errW_some] <;> rfl) | (simp [*, errW_none, errW_some] <;> rfl), by (with_reducible repeat (first | apply Kd.R_alloc | apply Kd.R_drewN | apply Kd.R_drew)); exact Kd.R_mono (Kd.R_far (p := ⟨gb113, 2, none⟩) (Kd.R_far (p := ⟨gb113, 1, none⟩) (Kd.R_far (p := ⟨gb113, 0, none⟩) (Kd.R_types HO0_1.out BK113.out (by decide)) (fun _ hk => hk.2) (.slice Ao5 l0_1.length co5)) (fun _ hk => hk.2) (.slice none 0 0)) (fun _ hk => hk.2) (.bool false)) (fun _ hk => ⟨hk.1.1, (by simp [Value.ownBlock])⟩), by first | exact Kd.R_nil _ _ _ _ _ | exact Kd.N_nil _ _ _ _ _ | exact Kd.V_nil _ _ _ _ _ | exact Kd.Q_nil _ _ _ _ _ | exact Kd.S_nil _ _ _ _ _, by repeat (first | (with_reducible first | exact HB.out | apply below_alloc | apply pw_below_drewN | apply below_drew1 | refine below_set ?_ GE112.out | refine below_set ?_ GE113.out) | exact HB.out), by repeat (first | (with_reducible first | exact HK.out | apply Kept.alloc | apply Kept.drewN | apply Kept.drew | refine Kept.setCell ?_ (.inr GW112.out) _ | refine Kept.setCell ?_ (.inr GW113.out) _) | exact HK.out)⟩
    · rw [if_neg c3] at H
      have c3b0 : decide (0 < (l0_1.length : Int)) = false := decide_eq_false c3
      have c3b1 : decide (0 < l0_1.length) = false := decide_eq_false (by omega)
      clear c3
      simp only [Option.some.injEq, Prod.mk.injEq] at H
      obtain ⟨rfl, rfl, rfl⟩ := H
      obtain ⟨Ao11, co11, eo11⟩ := Kd.R_slice HO0_0.out
      subst eo11
      obtain ⟨Ao12, co12, eo12⟩ := Kd.R_slice HO0_1.out
      subst eo12
      go_enter Try.func32, Try.ntmps32
      go_wp2_with (first | ((with_reducible refine gate_dst (N := 1) rfl ?_); refine box_event ?hg (N := 1) ?hd (cs := #[.slice Ao11 l0_0.length co11, .slice Ao12 l0_1.length co12, .bool true]) (t := 53) ?hr ?_; (case hd => rfl); (case hg => rfl); (case hr => first | (go_simp; done) | (go_simp; rfl)); intro gb112 hg w13 hbox hb; have n0_ := Aside0.mk (Kd.R_below (by (with_reducible repeat (first | apply Kd.R_alloc | apply Kd.R_drewN | apply Kd.R_drew)); exact HO0_0.out) hb); have n1_ := Aside0.mk (Kd.R_below (by (with_reducible repeat (first | apply Kd.R_alloc | apply Kd.R_drewN | apply Kd.R_drew)); exact HO0_1.out) hb); have n2_ := Aside0.mk (Kept.below (S := (fun k_ => P0_0_ k_ ∨ P0_1_ k_)) (by repeat (first | (with_reducible first | exact HK.out | apply Kept.alloc | apply Kept.drewN | apply Kept.drew) | exact HK.out)) hb); have n3_ := Aside0.mk (below_step (by repeat (first | (with_reducible first | exact HB.out | apply below_alloc | apply pw_below_drewN | apply below_drew1) | exact HB.out)) hb); have n4_ := Aside0.mk (hbox); have n5_ := Aside0.mk ((by rw [hg]; exact (by first | exact HK.out.1 | exact (show Kept w _ (fun k_ => P0_0_ k_ ∨ P0_1_ k_) from by repeat (first | (with_reducible first | exact HK.out | apply Kept.alloc | apply Kept.drewN | apply Kept.drew) | exact HK.out)).1) : w.heap.size ≤ gb112)); have n6_ := Aside0.mk ((by rw [hg]; exact (below_size (by repeat (first | (with_reducible first | exact HB.out | apply below_alloc | apply pw_below_drewN | apply below_drew1) | exact HB.out))) : w0.heap.size ≤ gb112)); clear HO0_0; clear HO0_1; clear HK; clear HB; have HO0_0 := n0_; have HO0_1 := n1_; have HK := n2_; have HB := n3_; have BK112 := n4_; have GW112 := n5_; have GE112 := n6_; clear n0_ n1_ n2_ n3_ n4_ n5_ n6_; clear hb hbox hg) | ((with_reducible refine gate_dst (N := 2) rfl ?_); refine box_event ?hg (N := 2) ?hd (cs := #[.slice none 0 0, .slice none 0 0, .bool false]) (t := 53) ?hr ?_; (case hd => rfl); (case hg => rfl); (case hr => first | (go_simp; done) | (go_simp; rfl)); intro gb113 hg w14 hbox hb; have n0_ := Aside0.mk (Kd.R_below (by (with_reducible repeat (first | apply Kd.R_alloc | apply Kd.R_drewN | apply Kd.R_drew)); exact HO0_0.out) hb); have n1_ := Aside0.mk (Kd.R_below (by (with_reducible repeat (first | apply Kd.R_alloc | apply Kd.R_drewN | apply Kd.R_drew)); exact HO0_1.out) hb); have n2_ := Aside0.mk (blk_below (g := gb112) (o := .cells #[.slice Ao11 l0_0.length co11, .slice Ao12 l0_1.length co12, .bool true] 53 (0, 0)) (by (with_reducible repeat (first | refine blk_drewN ?_ _ | refine blk_drew ?_ | refine blk_alloc ?_ _)); exact BK112.out) hb); have n3_ := Aside0.mk (Kept.below (S := (fun k_ => P0_0_ k_ ∨ P0_1_ k_)) (by repeat (first | (with_reducible first | exact HK.out | apply Kept.alloc | apply Kept.drewN | apply Kept.drew | refine Kept.setCell ?_ (.inr GW112.out) _) | exact HK.out)) hb); have n4_ := Aside0.mk (below_step (by repeat (first | (with_reducible first | exact HB.out | apply below_alloc | apply pw_below_drewN | apply below_drew1 | refine below_set ?_ GE112.out) | exact HB.out)) hb); have n5_ := Aside0.mk (hbox); have n6_ := Aside0.mk ((by rw [hg]; exact (by first | exact HK.out.1 | exact (show Kept w _ (fun k_ => P0_0_ k_ ∨ P0_1_ k_) from by repeat (first | (with_reducible first | exact HK.out | apply Kept.alloc | apply Kept.drewN | apply Kept.drew | refine Kept.setCell ?_ (.inr GW112.out) _) | exact HK.out)).1) : w.heap.size ≤ gb113)); have n7_ := Aside0.mk ((by rw [hg]; exact (below_size (by repeat (first | (with_reducible first | exact HB.out | apply below_alloc | apply pw_below_drewN | apply below_drew1 | refine below_set ?_ GE112.out) | exact HB.out))) : w0.heap.size ≤ gb113)); have n8_ := Aside0.mk ((by rw [hg]; exact Nat.ne_of_lt (blk_lt (g := gb112) (o := .cells #[.slice Ao11 l0_0.length co11, .slice Ao12 l0_1.length co12, .bool true] 53 (0, 0)) (by (with_reducible repeat (first | refine blk_drewN ?_ _ | refine blk_drew ?_ | refine blk_alloc ?_ _)); exact BK112.out)) : gb112 ≠ gb113)); have n9_ := Aside0.mk ((by rw [hg]; exact Nat.ne_of_gt (blk_lt (g := gb112) (o := .cells #[.slice Ao11 l0_0.length co11, .slice Ao12 l0_1.length co12, .bool true] 53 (0, 0)) (by (with_reducible repeat (first | refine blk_drewN ?_ _ | refine blk_drew ?_ | refine blk_alloc ?_ _)); exact BK112.out)) : gb113 ≠ gb112)); clear HO0_0; clear HO0_1; clear BK112; clear HK; clear HB; have HO0_0 := n0_; have HO0_1 := n1_; have BK112 := n2_; have HK := n3_; have HB := n4_; have BK113 := n5_; have GW113 := n6_; have GE113 := n7_; have NB112_113 := n8_; have NB113_112 := n9_; clear n0_ n1_ n2_ n3_ n4_ n5_ n6_ n7_ n8_ n9_; clear hb hbox hg; have hnb15 := NB112_113.out; have hnc15 := NB113_112.out; have hcz16_0 : w14.cell? ⟨gb112, 0, none⟩ = some (.slice Ao11 l0_0.length co11) := (blk_cell BK112.out 0).trans rfl; have hcz16_1 : w14.cell? ⟨gb112, 1, none⟩ = some (.slice Ao12 l0_1.length co12) := (blk_cell BK112.out 1).trans rfl; have hcz16_2 : w14.cell? ⟨gb112, 2, none⟩ = some (.bool true) := (blk_cell BK112.out 2).trans rfl; have hfz16_0 := blk_frozen BK112.out 0; have hfz16_1 := blk_frozen BK112.out 1; have hfz16_2 := blk_frozen BK112.out 2; have hcz17_0 : w14.cell? ⟨gb113, 0, none⟩ = some (.slice none 0 0) := (blk_cell BK113.out 0).trans rfl; have hcz17_1 : w14.cell? ⟨gb113, 1, none⟩ = some (.slice none 0 0) := (blk_cell BK113.out 1).trans rfl; have hcz17_2 : w14.cell? ⟨gb113, 2, none⟩ = some (.bool false) := (blk_cell BK113.out 2).trans rfl; have hfz17_0 := blk_frozen BK113.out 0; have hfz17_1 := blk_frozen BK113.out 1; have hfz17_2 := blk_frozen BK113.out 2))
      refine bodyPost_ret (results_cell_row rfl _ _ gb113 53 #[.slice Ao11 l0_0.length co11, .slice none 0 0, .bool false] (0, 0) _ rfl (by (with_reducible repeat (first | refine blk_drewN ?_ _ | refine blk_drew ?_ | refine blk_alloc ?_ _)); refine blk_put (cs := #[.slice Ao11 l0_0.length co11, .slice none 0 0, .bool false]) ?_ 2 _ rfl; (with_reducible repeat (first | refine blk_drewN ?_ _ | refine blk_drew ?_ | refine blk_alloc ?_ _)); refine blk_put (cs := #[.slice Ao11 l0_0.length co11, .slice none 0 0, .bool false]) ?_ 1 _ rfl; (with_reducible repeat (first | refine blk_drewN ?_ _ | refine blk_drew ?_ | refine blk_alloc ?_ _)); refine blk_put (cs := #[.slice none 0 0, .slice none 0 0, .bool false]) ?_ 0 _ rfl; (with_reducible repeat (first | refine blk_drewN ?_ _ | refine blk_drew ?_ | refine blk_alloc ?_ _)); exact BK113.out) Try.underlying53 rfl (by kernel_rfl)) rfl ?_
      exact ⟨_, _, by first | rfl | (simp [errW_none, errW_some] <;> rfl) | (simp [*, errW_none, errW_some] <;> rfl), by (with_reducible repeat (first | apply Kd.R_alloc | apply Kd.R_drewN | apply Kd.R_drew)); exact Kd.R_mono (Kd.R_far (p := ⟨gb113, 2, none⟩) (Kd.R_far (p := ⟨gb113, 1, none⟩) (Kd.R_far (p := ⟨gb113, 0, none⟩) (Kd.R_types HO0_0.out BK113.out (by decide)) (fun _ hk => hk.2) (.slice Ao11 l0_0.length co11)) (fun _ hk => hk.2) (.slice none 0 0)) (fun _ hk => hk.2) (.bool false)) (fun _ hk => ⟨hk.1.1, (by simp [Value.ownBlock])⟩), by first | exact Kd.R_nil _ _ _ _ _ | exact Kd.N_nil _ _ _ _ _ | exact Kd.V_nil _ _ _ _ _ | exact Kd.Q_nil _ _ _ _ _ | exact Kd.S_nil _ _ _ _ _, by repeat (first | (with_reducible first | exact HB.out | apply below_alloc | apply pw_below_drewN | apply below_drew1 | refine below_set ?_ GE112.out | refine below_set ?_ GE113.out) | exact HB.out), by repeat (first | (with_reducible first | exact HK.out | apply Kept.alloc | apply Kept.drewN | apply Kept.drew | refine Kept.setCell ?_ (.inr GW112.out) _ | refine Kept.setCell ?_ (.inr GW113.out) _) | exact HK.out)⟩
  · replace c2 := Bool.eq_false_iff.mpr c2
    subst c2
    have H1 : (some (l0_0, ([] : List (S41)), true)) = some (r1, r2, r3) := by rw [if_neg (show ¬ (false = true) by decide)] at H; exact H
    clear H
    have H := H1
    clear H1
    simp only [Option.some.injEq, Prod.mk.injEq] at H
    obtain ⟨rfl, rfl, rfl⟩ := H
    obtain ⟨Ao18, co18, eo18⟩ := Kd.R_slice HO0_0.out
    subst eo18
    obtain ⟨Ao19, co19, eo19⟩ := Kd.R_slice HO0_1.out
    subst eo19
    go_enter Try.func32, Try.ntmps32
    go_wp2_with (first | ((with_reducible refine gate_dst (N := 1) rfl ?_); refine box_event ?hg (N := 1) ?hd (cs := #[.slice Ao18 l0_0.length co18, .slice Ao19 l0_1.length co19, .bool false]) (t := 53) ?hr ?_; (case hd => rfl); (case hg => rfl); (case hr => first | (go_simp; done) | (go_simp; rfl)); intro gb112 hg w20 hbox hb; have n0_ := Aside0.mk (Kd.R_below (by (with_reducible repeat (first | apply Kd.R_alloc | apply Kd.R_drewN | apply Kd.R_drew)); exact HO0_0.out) hb); have n1_ := Aside0.mk (Kd.R_below (by (with_reducible repeat (first | apply Kd.R_alloc | apply Kd.R_drewN | apply Kd.R_drew)); exact HO0_1.out) hb); have n2_ := Aside0.mk (Kept.below (S := (fun k_ => P0_0_ k_ ∨ P0_1_ k_)) (by repeat (first | (with_reducible first | exact HK.out | apply Kept.alloc | apply Kept.drewN | apply Kept.drew) | exact HK.out)) hb); have n3_ := Aside0.mk (below_step (by repeat (first | (with_reducible first | exact HB.out | apply below_alloc | apply pw_below_drewN | apply below_drew1) | exact HB.out)) hb); have n4_ := Aside0.mk (hbox); have n5_ := Aside0.mk ((by rw [hg]; exact (by first | exact HK.out.1 | exact (show Kept w _ (fun k_ => P0_0_ k_ ∨ P0_1_ k_) from by repeat (first | (with_reducible first | exact HK.out | apply Kept.alloc | apply Kept.drewN | apply Kept.drew) | exact HK.out)).1) : w.heap.size ≤ gb112)); have n6_ := Aside0.mk ((by rw [hg]; exact (below_size (by repeat (first | (with_reducible first | exact HB.out | apply below_alloc | apply pw_below_drewN | apply below_drew1) | exact HB.out))) : w0.heap.size ≤ gb112)); clear HO0_0; clear HO0_1; clear HK; clear HB; have HO0_0 := n0_; have HO0_1 := n1_; have HK := n2_; have HB := n3_; have BK112 := n4_; have GW112 := n5_; have GE112 := n6_; clear n0_ n1_ n2_ n3_ n4_ n5_ n6_; clear hb hbox hg) | ((with_reducible refine gate_dst (N := 2) rfl ?_); refine box_event ?hg (N := 2) ?hd (cs := #[.slice none 0 0, .slice none 0 0, .bool false]) (t := 53) ?hr ?_; (case hd => rfl); (case hg => rfl); (case hr => first | (go_simp; done) | (go_simp; rfl)); intro gb113 hg w21 hbox hb; have n0_ := Aside0.mk (Kd.R_below (by (with_reducible repeat (first | apply Kd.R_alloc | apply Kd.R_drewN | apply Kd.R_drew)); exact HO0_0.out) hb); have n1_ := Aside0.mk (Kd.R_below (by (with_reducible repeat (first | apply Kd.R_alloc | apply Kd.R_drewN | apply Kd.R_drew)); exact HO0_1.out) hb); have n2_ := Aside0.mk (blk_below (g := gb112) (o := .cells #[.slice Ao18 l0_0.length co18, .slice Ao19 l0_1.length co19, .bool false] 53 (0, 0)) (by (with_reducible repeat (first | refine blk_drewN ?_ _ | refine blk_drew ?_ | refine blk_alloc ?_ _)); exact BK112.out) hb); have n3_ := Aside0.mk (Kept.below (S := (fun k_ => P0_0_ k_ ∨ P0_1_ k_)) (by repeat (first | (with_reducible first | exact HK.out | apply Kept.alloc | apply Kept.drewN | apply Kept.drew | refine Kept.setCell ?_ (.inr GW112.out) _) | exact HK.out)) hb); have n4_ := Aside0.mk (below_step (by repeat (first | (with_reducible first | exact HB.out | apply below_alloc | apply pw_below_drewN | apply below_drew1 | refine below_set ?_ GE112.out) | exact HB.out)) hb); have n5_ := Aside0.mk (hbox); have n6_ := Aside0.mk ((by rw [hg]; exact (by first | exact HK.out.1 | exact (show Kept w _ (fun k_ => P0_0_ k_ ∨ P0_1_ k_) from by repeat (first | (with_reducible first | exact HK.out | apply Kept.alloc | apply Kept.drewN | apply Kept.drew | refine Kept.setCell ?_ (.inr GW112.out) _) | exact HK.out)).1) : w.heap.size ≤ gb113)); have n7_ := Aside0.mk ((by rw [hg]; exact (below_size (by repeat (first | (with_reducible first | exact HB.out | apply below_alloc | apply pw_below_drewN | apply below_drew1 | refine below_set ?_ GE112.out) | exact HB.out))) : w0.heap.size ≤ gb113)); have n8_ := Aside0.mk ((by rw [hg]; exact Nat.ne_of_lt (blk_lt (g := gb112) (o := .cells #[.slice Ao18 l0_0.length co18, .slice Ao19 l0_1.length co19, .bool false] 53 (0, 0)) (by (with_reducible repeat (first | refine blk_drewN ?_ _ | refine blk_drew ?_ | refine blk_alloc ?_ _)); exact BK112.out)) : gb112 ≠ gb113)); have n9_ := Aside0.mk ((by rw [hg]; exact Nat.ne_of_gt (blk_lt (g := gb112) (o := .cells #[.slice Ao18 l0_0.length co18, .slice Ao19 l0_1.length co19, .bool false] 53 (0, 0)) (by (with_reducible repeat (first | refine blk_drewN ?_ _ | refine blk_drew ?_ | refine blk_alloc ?_ _)); exact BK112.out)) : gb113 ≠ gb112)); clear HO0_0; clear HO0_1; clear BK112; clear HK; clear HB; have HO0_0 := n0_; have HO0_1 := n1_; have BK112 := n2_; have HK := n3_; have HB := n4_; have BK113 := n5_; have GW113 := n6_; have GE113 := n7_; have NB112_113 := n8_; have NB113_112 := n9_; clear n0_ n1_ n2_ n3_ n4_ n5_ n6_ n7_ n8_ n9_; clear hb hbox hg; have hnb22 := NB112_113.out; have hnc22 := NB113_112.out; have hcz23_0 : w21.cell? ⟨gb112, 0, none⟩ = some (.slice Ao18 l0_0.length co18) := (blk_cell BK112.out 0).trans rfl; have hcz23_1 : w21.cell? ⟨gb112, 1, none⟩ = some (.slice Ao19 l0_1.length co19) := (blk_cell BK112.out 1).trans rfl; have hcz23_2 : w21.cell? ⟨gb112, 2, none⟩ = some (.bool false) := (blk_cell BK112.out 2).trans rfl; have hfz23_0 := blk_frozen BK112.out 0; have hfz23_1 := blk_frozen BK112.out 1; have hfz23_2 := blk_frozen BK112.out 2; have hcz24_0 : w21.cell? ⟨gb113, 0, none⟩ = some (.slice none 0 0) := (blk_cell BK113.out 0).trans rfl; have hcz24_1 : w21.cell? ⟨gb113, 1, none⟩ = some (.slice none 0 0) := (blk_cell BK113.out 1).trans rfl; have hcz24_2 : w21.cell? ⟨gb113, 2, none⟩ = some (.bool false) := (blk_cell BK113.out 2).trans rfl; have hfz24_0 := blk_frozen BK113.out 0; have hfz24_1 := blk_frozen BK113.out 1; have hfz24_2 := blk_frozen BK113.out 2))
    refine bodyPost_ret (results_cell_row rfl _ _ gb113 53 #[.slice Ao18 l0_0.length co18, .slice none 0 0, .bool true] (0, 0) _ rfl (by (with_reducible repeat (first | refine blk_drewN ?_ _ | refine blk_drew ?_ | refine blk_alloc ?_ _)); refine blk_put (cs := #[.slice Ao18 l0_0.length co18, .slice none 0 0, .bool false]) ?_ 2 _ rfl; (with_reducible repeat (first | refine blk_drewN ?_ _ | refine blk_drew ?_ | refine blk_alloc ?_ _)); refine blk_put (cs := #[.slice Ao18 l0_0.length co18, .slice none 0 0, .bool false]) ?_ 1 _ rfl; (with_reducible repeat (first | refine blk_drewN ?_ _ | refine blk_drew ?_ | refine blk_alloc ?_ _)); refine blk_put (cs := #[.slice none 0 0, .slice none 0 0, .bool false]) ?_ 0 _ rfl; (with_reducible repeat (first | refine blk_drewN ?_ _ | refine blk_drew ?_ | refine blk_alloc ?_ _)); exact BK113.out) Try.underlying53 rfl (by kernel_rfl)) rfl ?_
    exact ⟨_, _, by first | rfl | (simp [errW_none, errW_some] <;> rfl) | (simp [*, errW_none, errW_some] <;> rfl), by (with_reducible repeat (first | apply Kd.R_alloc | apply Kd.R_drewN | apply Kd.R_drew)); exact Kd.R_mono (Kd.R_far (p := ⟨gb113, 2, none⟩) (Kd.R_far (p := ⟨gb113, 1, none⟩) (Kd.R_far (p := ⟨gb113, 0, none⟩) (Kd.R_types HO0_0.out BK113.out (by decide)) (fun _ hk => hk.2) (.slice Ao18 l0_0.length co18)) (fun _ hk => hk.2) (.slice none 0 0)) (fun _ hk => hk.2) (.bool true)) (fun _ hk => ⟨hk.1.1, (by simp [Value.ownBlock])⟩), by first | exact Kd.R_nil _ _ _ _ _ | exact Kd.N_nil _ _ _ _ _ | exact Kd.V_nil _ _ _ _ _ | exact Kd.Q_nil _ _ _ _ _ | exact Kd.S_nil _ _ _ _ _, by repeat (first | (with_reducible first | exact HB.out | apply below_alloc | apply pw_below_drewN | apply below_drew1 | refine below_set ?_ GE112.out | refine below_set ?_ GE113.out) | exact HB.out), by repeat (first | (with_reducible first | exact HK.out | apply Kept.alloc | apply Kept.drewN | apply Kept.drew | refine Kept.setCell ?_ (.inr GW112.out) _ | refine Kept.setCell ?_ (.inr GW113.out) _) | exact HK.out)⟩

/-! ### dactylref02_Right: function 64 -/
def dactylref02_Right.f (a0 : Int) : Option (Bool) := if a0 ≥ 0 then (if a0 < 55296 then (some true) else (if a0 > 57343 then (if a0 ≤ 1114111 then (some true) else (if a0 ≥ 1114240 then (some (decide (a0 ≤ 1114367))) else (some false))) else (if a0 ≥ 1114240 then (some (decide (a0 ≤ 1114367))) else (some false)))) else (if a0 > 57343 then (if a0 ≤ 1114111 then (some true) else (if a0 ≥ 1114240 then (some (decide (a0 ≤ 1114367))) else (some false))) else (if a0 ≥ 1114240 then (some (decide (a0 ≤ 1114367))) else (some false)))
set_option maxHeartbeats 8000000 in
set_option maxRecDepth 100000 in
theorem dactylref02_Right.calls (a0 : Int) (r : Bool) (w : World) (h : dactylref02_Right.f a0 = some r) :
    Calls Try.prog 64 #[.int .i64 a0] w fun e w' => e = .returned (.bool r) ∧ Drawn0 w w' := by
  have H : (if a0 ≥ 0 then (if a0 < 55296 then (some true) else (if a0 > 57343 then (if a0 ≤ 1114111 then (some true) else (if a0 ≥ 1114240 then (some (decide (a0 ≤ 1114367))) else (some false))) else (if a0 ≥ 1114240 then (some (decide (a0 ≤ 1114367))) else (some false)))) else (if a0 > 57343 then (if a0 ≤ 1114111 then (some true) else (if a0 ≥ 1114240 then (some (decide (a0 ≤ 1114367))) else (some false))) else (if a0 ≥ 1114240 then (some (decide (a0 ≤ 1114367))) else (some false)))) = some r := h
  clear h
  by_cases c2 : a0 ≥ 0
  · rw [if_pos c2] at H
    have c2b0 : decide (0 ≤ a0) = true := decide_eq_true c2
    clear c2
    by_cases c3 : a0 < 55296
    · rw [if_pos c3] at H
      have c3b0 : decide (a0 < 55296) = true := decide_eq_true c3
      clear c3
      obtain rfl := Option.some.inj H
      go_enter Try.func64, Try.ntmps64
      go_wp2
      go_ret
      exact ⟨by first | rfl | (simp; done) | (simp [*]; done), by repeat (first | exact Drawn0.refl _ | apply Drawn0.step)⟩
    · rw [if_neg c3] at H
      have c3b0 : decide (a0 < 55296) = false := decide_eq_false c3
      clear c3
      by_cases c4 : a0 > 57343
      · rw [if_pos c4] at H
        have c4b0 : decide (57343 < a0) = true := decide_eq_true c4
        clear c4
        by_cases c5 : a0 ≤ 1114111
        · rw [if_pos c5] at H
          have c5b0 : decide (a0 ≤ 1114111) = true := decide_eq_true c5
          clear c5
          obtain rfl := Option.some.inj H
          go_enter Try.func64, Try.ntmps64
          go_wp2
          go_ret
          exact ⟨by first | rfl | (simp; done) | (simp [*]; done), by repeat (first | exact Drawn0.refl _ | apply Drawn0.step)⟩
        · rw [if_neg c5] at H
          have c5b0 : decide (a0 ≤ 1114111) = false := decide_eq_false c5
          clear c5
          by_cases c6 : a0 ≥ 1114240
          · rw [if_pos c6] at H
            have c6b0 : decide (1114240 ≤ a0) = true := decide_eq_true c6
            clear c6
            obtain rfl := Option.some.inj H
            go_enter Try.func64, Try.ntmps64
            go_wp2
            go_ret
            exact ⟨by first | rfl | (simp; done) | (simp [*]; done), by repeat (first | exact Drawn0.refl _ | apply Drawn0.step)⟩
          · rw [if_neg c6] at H
            have c6b0 : decide (1114240 ≤ a0) = false := decide_eq_false c6
            clear c6
            obtain rfl := Option.some.inj H
            go_enter Try.func64, Try.ntmps64
            go_wp2
            go_ret
            exact ⟨by first | rfl | (simp; done) | (simp [*]; done), by repeat (first | exact Drawn0.refl _ | apply Drawn0.step)⟩
      · rw [if_neg c4] at H
        have c4b0 : decide (57343 < a0) = false := decide_eq_false c4
        clear c4
        by_cases c7 : a0 ≥ 1114240
        · rw [if_pos c7] at H
          have c7b0 : decide (1114240 ≤ a0) = true := decide_eq_true c7
          clear c7
          obtain rfl := Option.some.inj H
          go_enter Try.func64, Try.ntmps64
          go_wp2
          go_ret
          exact ⟨by first | rfl | (simp; done) | (simp [*]; done), by repeat (first | exact Drawn0.refl _ | apply Drawn0.step)⟩
        · rw [if_neg c7] at H
          have c7b0 : decide (1114240 ≤ a0) = false := decide_eq_false c7
          clear c7
          obtain rfl := Option.some.inj H
          go_enter Try.func64, Try.ntmps64
          go_wp2
          go_ret
          exact ⟨by first | rfl | (simp; done) | (simp [*]; done), by repeat (first | exact Drawn0.refl _ | apply Drawn0.step)⟩
  · rw [if_neg c2] at H
    have c2b0 : decide (0 ≤ a0) = false := decide_eq_false c2
    clear c2
    by_cases c8 : a0 > 57343
    · rw [if_pos c8] at H
      have c8b0 : decide (57343 < a0) = true := decide_eq_true c8
      clear c8
      by_cases c9 : a0 ≤ 1114111
      · rw [if_pos c9] at H
        have c9b0 : decide (a0 ≤ 1114111) = true := decide_eq_true c9
        clear c9
        obtain rfl := Option.some.inj H
        go_enter Try.func64, Try.ntmps64
        go_wp2
        go_ret
        exact ⟨by first | rfl | (simp; done) | (simp [*]; done), by repeat (first | exact Drawn0.refl _ | apply Drawn0.step)⟩
      · rw [if_neg c9] at H
        have c9b0 : decide (a0 ≤ 1114111) = false := decide_eq_false c9
        clear c9
        by_cases c10 : a0 ≥ 1114240
        · rw [if_pos c10] at H
          have c10b0 : decide (1114240 ≤ a0) = true := decide_eq_true c10
          clear c10
          obtain rfl := Option.some.inj H
          go_enter Try.func64, Try.ntmps64
          go_wp2
          go_ret
          exact ⟨by first | rfl | (simp; done) | (simp [*]; done), by repeat (first | exact Drawn0.refl _ | apply Drawn0.step)⟩
        · rw [if_neg c10] at H
          have c10b0 : decide (1114240 ≤ a0) = false := decide_eq_false c10
          clear c10
          obtain rfl := Option.some.inj H
          go_enter Try.func64, Try.ntmps64
          go_wp2
          go_ret
          exact ⟨by first | rfl | (simp; done) | (simp [*]; done), by repeat (first | exact Drawn0.refl _ | apply Drawn0.step)⟩
    · rw [if_neg c8] at H
      have c8b0 : decide (57343 < a0) = false := decide_eq_false c8
      clear c8
      by_cases c11 : a0 ≥ 1114240
      · rw [if_pos c11] at H
        have c11b0 : decide (1114240 ≤ a0) = true := decide_eq_true c11
        clear c11
        obtain rfl := Option.some.inj H
        go_enter Try.func64, Try.ntmps64
        go_wp2
        go_ret
        exact ⟨by first | rfl | (simp; done) | (simp [*]; done), by repeat (first | exact Drawn0.refl _ | apply Drawn0.step)⟩
      · rw [if_neg c11] at H
        have c11b0 : decide (1114240 ≤ a0) = false := decide_eq_false c11
        clear c11
        obtain rfl := Option.some.inj H
        go_enter Try.func64, Try.ntmps64
        go_wp2
        go_ret
        exact ⟨by first | rfl | (simp; done) | (simp [*]; done), by repeat (first | exact Drawn0.refl _ | apply Drawn0.step)⟩

/-! ### dactylref13_Control: function 65 -/
def dactylref13_Control.f (a0 : Int) : Option (Bool) := if a0 ≥ 0 then (if a0 ≤ 31 then (if a0 = 10 then (some false) else (if a0 = 13 then (some false) else (some (a0 != 27)))) else (some false)) else (some false)
set_option maxHeartbeats 8000000 in
set_option maxRecDepth 100000 in
theorem dactylref13_Control.calls (a0 : Int) (r : Bool) (w : World) (h : dactylref13_Control.f a0 = some r) :
    Calls Try.prog 65 #[.int .i64 a0] w fun e w' => e = .returned (.bool r) ∧ Drawn0 w w' := by
  have H : (if a0 ≥ 0 then (if a0 ≤ 31 then (if a0 = 10 then (some false) else (if a0 = 13 then (some false) else (some (a0 != 27)))) else (some false)) else (some false)) = some r := h
  clear h
  by_cases c2 : a0 ≥ 0
  · rw [if_pos c2] at H
    have c2b0 : decide (0 ≤ a0) = true := decide_eq_true c2
    clear c2
    by_cases c3 : a0 ≤ 31
    · rw [if_pos c3] at H
      have c3b0 : decide (a0 ≤ 31) = true := decide_eq_true c3
      clear c3
      by_cases c4 : a0 = 10
      · rw [if_pos c4] at H
        have c4b0 : (a0 == 10) = true := beq_iff_eq.mpr c4
        have c4b1 : (a0 != 10) = false := bne_eq_false_iff_eq.mpr c4
        clear c4
        obtain rfl := Option.some.inj H
        go_enter Try.func65, Try.ntmps65
        go_wp2
        go_ret
        exact ⟨by first | rfl | (simp; done) | (simp [*]; done), by repeat (first | exact Drawn0.refl _ | apply Drawn0.step)⟩
      · rw [if_neg c4] at H
        have c4b0 : (a0 == 10) = false := beq_eq_false_iff_ne.mpr c4
        have c4b1 : (a0 != 10) = true := bne_iff_ne.mpr c4
        by_cases c5 : a0 = 13
        · rw [if_pos c5] at H
          have c5b0 : (a0 == 13) = true := beq_iff_eq.mpr c5
          have c5b1 : (a0 != 13) = false := bne_eq_false_iff_eq.mpr c5
          clear c5
          obtain rfl := Option.some.inj H
          go_enter Try.func65, Try.ntmps65
          go_wp2
          go_ret
          exact ⟨by first | rfl | (simp; done) | (simp [*]; done), by repeat (first | exact Drawn0.refl _ | apply Drawn0.step)⟩
        · rw [if_neg c5] at H
          have c5b0 : (a0 == 13) = false := beq_eq_false_iff_ne.mpr c5
          have c5b1 : (a0 != 13) = true := bne_iff_ne.mpr c5
          obtain rfl := Option.some.inj H
          go_enter Try.func65, Try.ntmps65
          go_wp2
          go_ret
          exact ⟨by first | rfl | (simp; done) | (simp [*]; done), by repeat (first | exact Drawn0.refl _ | apply Drawn0.step)⟩
    · rw [if_neg c3] at H
      have c3b0 : decide (a0 ≤ 31) = false := decide_eq_false c3
      clear c3
      obtain rfl := Option.some.inj H
      go_enter Try.func65, Try.ntmps65
      go_wp2
      go_ret
      exact ⟨by first | rfl | (simp; done) | (simp [*]; done), by repeat (first | exact Drawn0.refl _ | apply Drawn0.step)⟩
  · rw [if_neg c2] at H
    have c2b0 : decide (0 ≤ a0) = false := decide_eq_false c2
    clear c2
    obtain rfl := Option.some.inj H
    go_enter Try.func65, Try.ntmps65
    go_wp2
    go_ret
    exact ⟨by first | rfl | (simp; done) | (simp [*]; done), by repeat (first | exact Drawn0.refl _ | apply Drawn0.step)⟩

end Go.Proofs.Ytopmenioioljoaa.PMacroDoes
