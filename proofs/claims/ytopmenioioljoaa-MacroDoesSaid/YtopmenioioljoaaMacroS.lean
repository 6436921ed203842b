/-
  PACKAGE macro: A MACRO'S STATE IN MEMORY, and what each call does to it.
-/
import Derived.Test.YtopmenioioljoaaMacroE
import Derived.Test.YtopmenioioljoaaMacroP
namespace Go.Proofs.Ytopmenioioljoaa.MacroW
open Go.RowKit Go.Proofs.Ytopmenioioljoaa.Base Go.Proofs.YtopmenioioljoaaW.PrintWords Go.Proofs.YtopmenioioljoaaW.PrintLast Go.Proofs.YtopmenioioljoaaW.PrintMore Go.Proofs.Ytopmenioioljoaa.CountW Go.Proofs.Ytopmenioioljoaa.PMacroDoes Go.Proofs.Ytopmenioioljoaa.KeyW

/-- Two rows do not share their block. -/
def Ap (a b : Value) : Prop := ∀ j, a.ownBlock = some j → b.ownBlock ≠ some j
theorem Ap.symm {a b : Value} (h : Ap a b) : Ap b a := fun j hb ha => h j ha hb
theorem Ap.nil (a : Value) : Ap a (.slice none 0 0) := fun j _ => by simp [Value.ownBlock]
theorem Ap.nil' (a : Value) : Ap (.slice none 0 0) a := fun j h => by simp [Value.ownBlock] at h

theorem Row.lt {w : World} {base : Nat} {v : Value} {xs : List S41} (h : Row w base v xs) : ∀ j, v.ownBlock = some j → j < w.heap.size := Kd.R_lt h.r
theorem Row.ge {w : World} {base : Nat} {v : Value} {xs : List S41} (h : Row w base v xs) : ∀ j, v.ownBlock = some j → base ≤ j := Kd.R_base h.r
theorem Row.lower {w : World} {base base' : Nat} {v : Value} {xs : List S41} (h : Row w base v xs) (hb : base' ≤ base) : Row w base' v xs := ⟨Kd.R_lower h.r hb⟩
theorem Row.ne {w : World} {base g t : Nat} {cs : Array Value} {v : Value} {xs : List S41} (h : Row w base v xs) (hb : w.heap[g]? = some (.cells cs t (0, 0))) (ht : (41 : Nat) ≠ t) : v.ownBlock ≠ some g := fun e => Kd.R_ne h.r hb ht e.symm
theorem Row.kept {w w' : World} {base : Nat} {v : Value} {xs : List S41} {S : Nat → Prop} (h : Row w base v xs) (hk : Kept w w' S) (hs : ∀ j, v.ownBlock = some j → ¬ S j) : Row w' base v xs :=
  h.same (fun j hj => hk.2 j (h.lt j hj) (hs j hj))

/-- A macro in memory: its block, its rows. -/
structure MSt (w0 w : World) (B : Nat) (k : Bool) (most : Int) (L N : List S41) (vL vN : Value) : Prop where
  blk : w.heap[B]? = some (mblk vL vN k most)
  bB : w0.heap.size ≤ B
  rL : Row w w0.heap.size vL L
  rN : Row w w0.heap.size vN N
  bel : Below w0.heap.size w0 w
  ap : Ap vL vN

theorem MSt.kept {w0 w w' : World} {B : Nat} {k : Bool} {most : Int} {L N : List S41} {vL vN : Value} {S : Nat → Prop} (h : MSt w0 w B k most L N vL vN) (hk : Kept w w' S) (hb : Below w0.heap.size w0 w')
    (hB : ¬ S B) (hL : ∀ j, vL.ownBlock = some j → ¬ S j) (hN : ∀ j, vN.ownBlock = some j → ¬ S j) : MSt w0 w' B k most L N vL vN :=
  ⟨blk_kept h.blk hk hB, h.bB, h.rL.kept hk hL, h.rN.kept hk hN, hb, h.ap⟩
theorem MSt.below {w0 w w' : World} {B : Nat} {k : Bool} {most : Int} {L N : List S41} {vL vN : Value} (h : MSt w0 w B k most L N vL vN) (hb : Below w.heap.size w w') : MSt w0 w' B k most L N vL vN :=
  h.kept (S := fun _ => False) (Kept.of_below hb _) (btr h.bel hb) (fun h => h) (fun _ _ h => h) (fun _ _ h => h)

theorem Upd.kept {B : Nat} {w w' : World} (h : Upd B w w') : Kept w w' (fun j => j = B) := ⟨h.size, fun i hi hn => h.block i hi (fun e => hn (by simpa using e))⟩

theorem mnew (most : Int) (w0 w : World) (hb : Below w0.heap.size w0 w) (h1 : 1 ≤ most) (h2 : most ≤ 9999) :
    Calls Try.prog 30 #[.int .i64 most] w fun e w' => e = .returned (.tuple #[.pointer (some ⟨w.heap.size, 0, none⟩), .int .i64 0]) ∧ MSt w0 w' w.heap.size false most [] [] (.slice none 0 0) (.slice none 0 0) ∧ Below w.heap.size w w' :=
  (new30 most w h1 h2).mono (by
    rintro e w' ⟨rfl, rfl⟩
    exact ⟨rfl, ⟨heap_alloc_new _ _, hb.size, Row.nil _ _, Row.nil _ _, btr hb (balloc _ _), Ap.nil _⟩, balloc _ _⟩)

/-- What Begin leaves in 'now'. -/
def begS (k : Bool) (N : List S41) : List S41 := if k then N else []

theorem mbegin {w0 w : World} {B : Nat} {k : Bool} {most : Int} {L N : List S41} {vL vN : Value} (h : MSt w0 w B k most L N vL vN) :
    Calls Try.prog 31 #[.pointer (some ⟨B, 0, none⟩)] w fun e w' => e = .returned (.bool (!k)) ∧ ∃ vN', MSt w0 w' B true most L (begS k N) vL vN' ∧ (vN' = vN ∨ vN' = .slice none 0 0) ∧ Kept w w' (fun j => j = B) :=
  (begin31 B vL vN k most w h.blk).mono (by
    rintro e w' ⟨rfl, hB, hu⟩
    have hk := Upd.kept hu
    have hL := h.rL.kept hk (fun j hj he => h.rL.ne h.blk (by decide) (by rw [← he]; exact hj))
    have hN := h.rN.kept hk (fun j hj he => h.rN.ne h.blk (by decide) (by rw [← he]; exact hj))
    have hb := hu.below h.bel h.bB
    cases k with
    | true => exact ⟨rfl, vN, ⟨hB, h.bB, hL, hN, hb, h.ap⟩, .inl rfl, hk⟩
    | false => exact ⟨rfl, _, ⟨hB, h.bB, hL, Row.nil _ _, hb, Ap.nil _⟩, .inr rfl, hk⟩)

/-- What End leaves. -/
def endS (k : Bool) (L N : List S41) : List S41 := if k = true ∧ 0 < N.length then N else L
def endT (k : Bool) (N : List S41) : List S41 := if k then [] else N

theorem mend {w0 w : World} {B : Nat} {k : Bool} {most : Int} {L N : List S41} {vL vN : Value} (h : MSt w0 w B k most L N vL vN) :
    Calls Try.prog 35 #[.pointer (some ⟨B, 0, none⟩)] w fun e w' => e = .returned (.bool k) ∧ ∃ vL' vN', MSt w0 w' B false most (endS k L N) (endT k N) vL' vN' ∧ (vL' = vL ∨ vL' = vN) ∧ (vN' = vN ∨ vN' = .slice none 0 0) ∧ Kept w w' (fun j => j = B) := by
  obtain ⟨A, c, rfl, _⟩ := h.rN.form
  refine (end35 B vL A N.length c k most w h.blk).mono ?_
  rintro e w' ⟨rfl, hB, hu⟩
  have hk := Upd.kept hu
  have hL := h.rL.kept hk (fun j hj he => h.rL.ne h.blk (by decide) (by rw [← he]; exact hj))
  have hN := h.rN.kept hk (fun j hj he => h.rN.ne h.blk (by decide) (by rw [← he]; exact hj))
  have hb := hu.below h.bel h.bB
  cases k with
  | false => exact ⟨rfl, vL, _, ⟨by simpa [endL, endN] using hB, h.bB, by simpa [endS] using hL, by simpa [endT] using hN, hb, h.ap⟩, .inl rfl, .inl rfl, hk⟩
  | true =>
    by_cases hp : 0 < N.length
    · exact ⟨rfl, _, _, ⟨by simpa [endL, endN, hp] using hB, h.bB, by simpa [endS, hp] using hN, by simpa [endT] using Row.nil _ _, hb, Ap.nil _⟩, .inr rfl, .inr rfl, hk⟩
    · exact ⟨rfl, vL, _, ⟨by simpa [endL, endN, hp] using hB, h.bB, by simpa [endS, hp] using hL, by simpa [endT] using Row.nil _ _, hb, Ap.nil _⟩, .inl rfl, .inr rfl, hk⟩

/-- Whether Do keeps a key, and what it leaves. -/
def doB (b : Bool) (N : List S41) (most : Int) (x : S41) : Bool := b && may x.f0 x.f1 x.f2 x.f3 && decide ((N.length : Int) < most)
def doN (b : Bool) (N : List S41) (most : Int) (x : S41) : List S41 := if doB b N most x then N ++ [x] else N

theorem mdo {w0 w : World} {B : Nat} {b : Bool} {most : Int} {L N : List S41} {vL vN : Value} (h : MSt w0 w B b most L N vL vN) (k v : Int) (t : ByteArray) (c : Bool) (ht : t.size ≤ 9223372036854775807) (hl : N.length ≤ 1000000) :
    Calls Try.prog 34 #[.pointer (some ⟨B, 0, none⟩), .agg #[.int .i64 k, .int .i64 v, .string t, .bool c]] w fun e w' => e = .returned (.bool (doB b N most ⟨k, v, t, c⟩)) ∧ ∃ vN', MSt w0 w' B b most L (doN b N most ⟨k, v, t, c⟩) vL vN' ∧ (vN'.ownBlock = vN.ownBlock ∨ ∃ g, vN'.ownBlock = some g ∧ w.heap.size ≤ g) ∧ Kept w w' (fun j => j = B ∨ vN.ownBlock = some j) := by
  cases hd : doB b N most ⟨k, v, t, c⟩ with
  | false =>
    refine (do34_no B w0.heap.size vL vN b most N k v t c w h.blk h.rN ht hd).mono ?_
    rintro e w' ⟨rfl, hb⟩
    exact ⟨rfl, vN, by simpa [doN, hd] using h.below hb, .inl rfl, Kept.of_below hb _⟩
  | true =>
    have hd' := hd
    simp only [doB, Bool.and_eq_true, decide_eq_true_eq] at hd'
    obtain ⟨⟨rfl, hm⟩, hlen⟩ := hd'
    refine (do34_yes B vL vN most N k v t c w0 w h.blk h.rN ht h.bel h.bB hm hlen hl).mono ?_
    rintro e w' ⟨rfl, vN', hB, hR, hk, hbel, hat⟩
    have hL := h.rL.kept hk (fun j hj he => he.elim (fun he => h.rL.ne h.blk (by decide) (by rw [← he]; exact hj)) (fun he => h.ap j hj he))
    refine ⟨rfl, vN', ⟨hB, h.bB, hL, by simpa [doN, hd] using hR, hbel, fun j hj he => ?_⟩, hat, hk⟩
    rcases hat with h1 | ⟨g, h1, h2⟩
    · exact h.ap j hj (by rw [← h1]; exact he)
    · have h3 := h.rL.lt j hj
      rw [h1] at he
      have h4 : g = j := Option.some.inj he
      omega

theorem mkeeps {w0 w : World} {B : Nat} {k : Bool} {most : Int} {L N : List S41} {vL vN : Value} (h : MSt w0 w B k most L N vL vN) :
    Calls Try.prog 39 #[.pointer (some ⟨B, 0, none⟩)] w fun e w' => e = .returned (.bool k) ∧ w = w' := keeps39 B vL vN k most w h.blk
theorem mkeys {w0 w : World} {B : Nat} {k : Bool} {most : Int} {L N : List S41} {vL vN : Value} (h : MSt w0 w B k most L N vL vN) (hl : L.length ≤ 1000000) :
    Calls Try.prog 40 #[.pointer (some ⟨B, 0, none⟩)] w fun e w' => ∃ v, e = .returned v ∧ Row w' w.heap.size v L ∧ Below w.heap.size w w' := keys40 B w0.heap.size vL vN k most L w h.blk h.rL hl
theorem mplay {w0 w : World} {B : Nat} {k : Bool} {most : Int} {L N : List S41} {vL vN : Value} (h : MSt w0 w B k most L N vL vN) (n : Int) (hl : L.length ≤ 1000000) :
    Calls Try.prog 37 #[.pointer (some ⟨B, 0, none⟩), .int .i64 n] w (Ans37 k L n w) := play37 B w0.heap.size vL vN k most n L w h.blk h.rL hl

end Go.Proofs.Ytopmenioioljoaa.MacroW
