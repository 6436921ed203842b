/-
  THE WALKS OF PACKAGE count: a count lies in one block of four cells; what each call makes of it.
-/
import Derived.Test.YtopmenioioljoaaKey
import Derived.Deep.RegionHeld3
namespace Go.Proofs.Ytopmenioioljoaa.CountW
open Go.RowKit Go.Proofs.Ytopmenioioljoaa.Base Go.Proofs.YtopmenioioljoaaW.PrintWords Go.Proofs.Ytopmenioioljoaa.KeyW

/-- A count: begun, digits, below, the number. -/
structure Cn where
  b : Bool
  d : Bool
  m : Bool
  n : Int

def Cn.cells (x : Cn) : Obj := .cells #[.bool x.b, .bool x.d, .bool x.m, .int .i64 x.n] 101 (0, 0)
def zero : Cn := ⟨false, false, false, 0⟩

/-- Is it a digit's key? -/
def isDigit (b : Bool) (k v : Int) : Bool := (decide (k = 3) || decide (k = 1) && b) && decide (48 ≤ v ∧ v ≤ 57)
/-- A key comes. -/
def step (x : Cn) (k v : Int) (t : ByteArray) (c : Bool) : Cn × Bool :=
  if !may k v t c then (x, false)
  else if isDigit x.b k v then (⟨true, true, x.m, min (10 * x.n + (v - 48)) 9999⟩, true)
  else if decide (k = 3) && decide (v = 45) && t.toList.isEmpty && !c && !x.d then (⟨true, x.d, !x.m, x.n⟩, true)
  else (x, false)

theorem new22 (w : World) : Calls Try.prog 22 #[] w fun e w' => e = .returned (.pointer (some ⟨w.heap.size, 0, none⟩)) ∧ w' = w.alloc zero.cells := by
  go_enter Try.func22, Try.ntmps22
  go_wp2
  go_ret
  exact ⟨rfl, rfl⟩

theorem digit67 (b : Bool) (w : World) : Calls Try.prog 67 #[.bool b] w fun e w' => e = .returned (.func (.func 81) #[] #[.pointer (some ⟨w.heap.size, 0, none⟩)]) ∧ w' = w.alloc (.cells #[.bool b] 4) := by
  have hmf : ∀ (fn : Fn) (first cap : Array Value) (w : World), (Instr.makeFunc fn first cap).run Try.prog w = .ok (.func fn first cap) w := fun _ _ _ _ => rfl
  go_enter Try.func67, Try.ntmps67
  go_wp2
  go_ret
  exact ⟨rfl, rfl⟩

/-- What the digit's closure answers. -/
def D81 (v : Int) (b : Bool) (w : World) (e : Ending) (w' : World) : Prop := ∃ d : Int, e = .returned (.tuple #[.int .i64 d, .bool b]) ∧ (b = true → d = v - 48) ∧ Below w.heap.size w w'

set_option maxHeartbeats 2000000 in
theorem digit81 (k v : Int) (t : ByteArray) (c b : Bool) (pb : Nat) (w : World) (cb : w.cell? ⟨pb, 0, none⟩ = some (.bool b)) (hlt : pb < w.heap.size) :
    Calls Try.prog 81 #[.agg #[.int .i64 k, .int .i64 v, .string t, .bool c], .pointer (some ⟨pb, 0, none⟩)] w (D81 v (isDigit b k v) w) := by
  have cb' : (w.alloc (.cells #[.int .i64 k, .int .i64 v, .string t, .bool c] 41)).cell? ⟨pb, 0, none⟩ = some (.bool b) := by rw [World.cell?_alloc_lt (h := hlt)]; exact cb
  by_cases k3 : k = 3
  · subst k3
    have HK := Lib.hid (show isDigit b 3 v = decide (48 ≤ v ∧ v ≤ 57) by simp [isDigit])
    by_cases h1 : 48 ≤ v
    · by_cases h2 : v ≤ 57
      · have HE : Hid (isDigit b 3 v = true) := by show _ = _; rw [HK.out]; simp; omega
        have d1 : decide (48 ≤ v) = true := by simpa using h1
        have d2 : decide (v ≤ 57) = true := by simpa using h2
        go_enter Try.func81, Try.ntmps81
        go_wp2
        go_quiet (fail)
        go_wp2
        go_ret2
        exact ⟨_, by rw [HE.out]; rfl, fun _ => rfl, btr (balloc _ _) (bdrewN _ _)⟩
      · have HE : Hid (isDigit b 3 v = false) := by show _ = _; rw [HK.out]; simp; omega
        have d1 : decide (48 ≤ v) = true := by simpa using h1
        have d2 : decide (v ≤ 57) = false := by simpa using h2
        go_enter Try.func81, Try.ntmps81
        go_wp2
        go_quiet (fail)
        go_wp2
        go_ret2
        exact ⟨_, by rw [HE.out]; rfl, (fun h => by rw [HE.out] at h; cases h), btr (balloc _ _) (bdrewN _ _)⟩
    · have HE : Hid (isDigit b 3 v = false) := by show _ = _; rw [HK.out]; simp; omega
      have d1 : decide (48 ≤ v) = false := by simpa using h1
      go_enter Try.func81, Try.ntmps81
      go_wp2
      go_quiet (fail)
      go_wp2
      go_ret2
      exact ⟨_, by rw [HE.out]; rfl, (fun h => by rw [HE.out] at h; cases h), btr (balloc _ _) (bdrewN _ _)⟩
  · have e3 : (k == 3) = false := by simpa using k3
    by_cases k1 : k = 1
    · subst k1
      cases b with
      | true =>
        have HK := Lib.hid (show isDigit true 1 v = decide (48 ≤ v ∧ v ≤ 57) by simp [isDigit])
        by_cases h1 : 48 ≤ v
        · by_cases h2 : v ≤ 57
          · have HE : Hid (isDigit true 1 v = true) := by show _ = _; rw [HK.out]; simp; omega
            have d1 : decide (48 ≤ v) = true := by simpa using h1
            have d2 : decide (v ≤ 57) = true := by simpa using h2
            go_enter Try.func81, Try.ntmps81
            go_wp2
            go_quiet (fail)
            go_wp2
            go_ret2
            exact ⟨_, by rw [HE.out]; rfl, fun _ => rfl, btr (balloc _ _) (bdrewN _ _)⟩
          · have HE : Hid (isDigit true 1 v = false) := by show _ = _; rw [HK.out]; simp; omega
            have d1 : decide (48 ≤ v) = true := by simpa using h1
            have d2 : decide (v ≤ 57) = false := by simpa using h2
            go_enter Try.func81, Try.ntmps81
            go_wp2
            go_quiet (fail)
            go_wp2
            go_ret2
            exact ⟨_, by rw [HE.out]; rfl, (fun h => by rw [HE.out] at h; cases h), btr (balloc _ _) (bdrewN _ _)⟩
        · have HE : Hid (isDigit true 1 v = false) := by show _ = _; rw [HK.out]; simp; omega
          have d1 : decide (48 ≤ v) = false := by simpa using h1
          go_enter Try.func81, Try.ntmps81
          go_wp2
          go_quiet (fail)
          go_wp2
          go_ret2
          exact ⟨_, by rw [HE.out]; rfl, (fun h => by rw [HE.out] at h; cases h), btr (balloc _ _) (bdrewN _ _)⟩
      | false =>
        have HE : Hid (isDigit false 1 v = false) := by show _ = _; simp [isDigit]
        go_enter Try.func81, Try.ntmps81
        go_wp2
        go_quiet (fail)
        go_wp2
        go_ret2
        exact ⟨_, by rw [HE.out]; rfl, (fun h => by rw [HE.out] at h; cases h), btr (balloc _ _) (bdrewN _ _)⟩
    · have e1 : (k == 1) = false := by simpa using k1
      have HE : Hid (isDigit b k v = false) := by show _ = _; simp [isDigit, k3, k1]
      go_enter Try.func81, Try.ntmps81
      go_wp2
      go_quiet (fail)
      go_wp2
      go_ret2
      exact ⟨_, by rw [HE.out]; rfl, (fun h => by rw [HE.out] at h; cases h), btr (balloc _ _) (bdrewN _ _)⟩

end Go.Proofs.Ytopmenioioljoaa.CountW
