/-
  THE REFERENCE's count (dactylref29): its text of keys, what it says; and what may be a key (dactylref13).
-/
import Derived.Test.YtopmenioioljoaaCountY
import Derived.Test.YtopmenioioljoaaPCountDoesx2
import Derived.Test.YtopmenioioljoaaNumA
namespace Go.Proofs.Ytopmenioioljoaa.CountW
open Go.RowKit Go.Proofs.Ytopmenioioljoaa.Base Go.Proofs.YtopmenioioljoaaW.PrintWords Go.Proofs.Ytopmenioioljoaa.KeyW

/-- A key of a count's text. -/
def put (x : Cn) (c : UInt8) : Cn := if c = 45 then ⟨true, x.d, !x.m, x.n⟩ else ⟨true, true, x.m, min (10 * x.n + ((c.toNat : Int) - 48)) 9999⟩
/-- What a text of keys comes to. -/
def abs (l : List UInt8) : Cn := l.foldl put zero
def Good (l : List UInt8) : Prop := ∀ c ∈ l, c = 45 ∨ 48 ≤ c.toNat ∧ c.toNat ≤ 57
theorem abs_snoc (l : List UInt8) (c : UInt8) : abs (l ++ [c]) = put (abs l) c := by simp [abs, List.foldl_append]

theorem Good.snoc {l : List UInt8} {c : UInt8} (h : Good l) (hc : c = 45 ∨ 48 ≤ c.toNat ∧ c.toNat ≤ 57) : Good (l ++ [c]) := by
  intro x hx
  rcases List.mem_append.1 hx with hx | hx
  · exact h x hx
  · rw [List.mem_singleton.1 hx]; exact hc
theorem Good.init {l : List UInt8} {c : UInt8} (h : Good (l ++ [c])) : Good l ∧ (c = 45 ∨ 48 ≤ c.toNat ∧ c.toNat ≤ 57) :=
  ⟨fun x hx => h x (List.mem_append_left _ hx), h c (by simp)⟩

theorem put_bd {x : Cn} {c : UInt8} (h0 : 0 ≤ x.n) (h1 : x.n ≤ 9999) (hc : c = 45 ∨ 48 ≤ c.toNat ∧ c.toNat ≤ 57) : 0 ≤ (put x c).n ∧ (put x c).n ≤ 9999 := by
  unfold put
  split
  · exact ⟨h0, h1⟩
  · rename_i h
    rcases hc with hc | hc
    · exact absurd hc h
    · simp only; omega

theorem abs_bd : ∀ (l : List UInt8), Good l → 0 ≤ (abs l).n ∧ (abs l).n ≤ 9999 := by
  have h : ∀ (n : Nat) (l : List UInt8), l.length = n → Good l → 0 ≤ (abs l).n ∧ (abs l).n ≤ 9999 := by
    intro n
    induction n with
    | zero =>
      intro l hl _
      obtain rfl : l = [] := List.length_eq_zero_iff.1 hl
      decide
    | succ n ih =>
      intro l hl hg
      rcases List.eq_nil_or_concat l with rfl | ⟨l', c, rfl⟩
      · simp at hl
      · rw [List.concat_eq_append] at *
        rw [abs_snoc]
        have := ih l' (by simpa using hl) hg.init.1
        exact put_bd this.1 this.2 hg.init.2
  exact fun l hg => h l.length l rfl hg

/-- Has begun: there is a key. Has digits: some key is none of minus. -/
theorem abs_b : ∀ (l : List UInt8), (abs l).b = !l.isEmpty := by
  have h : ∀ (n : Nat) (l : List UInt8), l.length = n → (abs l).b = !l.isEmpty := by
    intro n l hl
    rcases List.eq_nil_or_concat l with rfl | ⟨l', c, rfl⟩
    · rfl
    · rw [List.concat_eq_append, abs_snoc]; unfold put; split <;> simp
  exact fun l => h l.length l rfl
theorem abs_d : ∀ (l : List UInt8), (abs l).d = l.any (· != 45) := by
  have h : ∀ (n : Nat) (l : List UInt8), l.length = n → (abs l).d = l.any (· != 45) := by
    intro n
    induction n with
    | zero =>
      intro l hl
      obtain rfl : l = [] := List.length_eq_zero_iff.1 hl
      rfl
    | succ n ih =>
      intro l hl
      rcases List.eq_nil_or_concat l with rfl | ⟨l', c, rfl⟩
      · simp at hl
      · rw [List.concat_eq_append] at *
        rw [abs_snoc, List.any_append, ← ih l' (by simpa using hl)]
        unfold put
        by_cases hc : c = 45
        · rw [if_pos hc]; simp [hc]
        · rw [if_neg hc]; simp [hc]
  exact fun l => h l.length l rfl

/-- What the reference's count answers to a key that may be. -/
def rdo (l : List UInt8) (k v : Int) (t : ByteArray) (c : Bool) : List UInt8 × Bool :=
  if (decide (k = 3) || decide (k = 1) && !l.isEmpty) && t.toList.isEmpty && !c then
    (if decide (48 ≤ v ∧ v ≤ 57) then (l ++ [UInt8.ofNat v.toNat], true)
     else if decide (k = 3) && decide (v = 45) && !l.any (· != 45) then (l ++ [45], true) else (l, false))
  else (l, false)

theorem byte_digit : ∀ d : Nat, 48 ≤ d → d ≤ 57 → (UInt8.ofNat d).toNat = d ∧ UInt8.ofNat d ≠ 45 := by
  intro d h1 h2
  have h : ∀ d : Fin 58, 48 ≤ d.val → (UInt8.ofNat d.val).toNat = d.val ∧ UInt8.ofNat d.val ≠ 45 := by decide
  exact h ⟨d, by omega⟩ h1

/-- The two counts go together. -/
theorem step_abs (l : List UInt8) (k v : Int) (t : ByteArray) (c : Bool) :
    step (abs l) k v t c = (abs (if may k v t c then (rdo l k v t c).1 else l), may k v t c && (rdo l k v t c).2) := by
  unfold step
  cases hm : may k v t c with
  | false => simp
  | true =>
    simp only [Bool.not_true, Bool.false_eq_true, if_false, if_true, Bool.true_and]
    have hf : k ≠ 15 → t.toList.isEmpty = true ∧ c = false := by
      intro hk
      have := hm
      unfold may at this
      rw [if_neg hk] at this
      simp only [Bool.and_eq_true, Bool.not_eq_true'] at this
      exact ⟨this.1.2, this.2⟩
    unfold rdo isDigit
    rw [abs_b, abs_d]
    by_cases hk : (decide (k = 3) || decide (k = 1) && !l.isEmpty) = true
    · have hk15 : k ≠ 15 := by
        rintro rfl; simp at hk
      obtain ⟨h1, h2⟩ := hf hk15
      rw [hk, h1, h2]
      simp only [Bool.true_and, Bool.not_false, Bool.and_true, if_true]
      cases hd : decide (48 ≤ v ∧ v ≤ 57) with
      | true =>
        have hd' := of_decide_eq_true hd
        obtain ⟨e1, e2⟩ := byte_digit v.toNat (by omega) (by omega)
        simp only [if_true]
        rw [abs_snoc]
        unfold put
        rw [if_neg e2, e1]
        have : ((v.toNat : Nat) : Int) = v := by omega
        rw [this]
      | false =>
        simp only [Bool.false_eq_true, if_false]
        cases h3 : (decide (k = 3) && decide (v = 45) && !l.any (· != 45)) with
        | true =>
          simp only [if_true]
          rw [abs_snoc]
          unfold put
          rw [if_pos rfl, abs_d]
        | false => simp
    · have hk' := Bool.eq_false_iff.2 hk
      rw [hk']
      simp only [Bool.false_and, Bool.false_eq_true, if_false]
      have h3 : ¬ k = 3 := by
        rintro rfl; simp at hk'
      rw [decide_eq_false h3]
      simp

theorem rdo_good {l : List UInt8} (h : Good l) (k v : Int) (t : ByteArray) (c : Bool) : Good (rdo l k v t c).1 ∧ (rdo l k v t c).1.length ≤ l.length + 1 := by
  unfold rdo
  split
  · split
    · rename_i hd
      have hd := of_decide_eq_true hd
      obtain ⟨e1, e2⟩ := byte_digit v.toNat (by omega) (by omega)
      exact ⟨h.snoc (Or.inr (by rw [e1]; omega)), by simp⟩
    · split
      · exact ⟨h.snoc (Or.inl rfl), by simp⟩
      · exact ⟨h, by simp⟩
  · exact ⟨h, by simp⟩

theorem strOfNums_one (v : Int) (h1 : 48 ≤ v) (h2 : v ≤ 57) : strOfNums [v % 256] = NumA.str [UInt8.ofNat v.toNat] := by
  have h : ∀ d : Fin 58, strOfNums [((d.val : Nat) : Int) % 256] = NumA.str [UInt8.ofNat d.val] := by
    intro d
    have hd := d.isLt
    have e : ((d.val : Nat) : Int) % 256 = ((d.val : Nat) : Int) := by omega
    rw [e]
    apply ByteArray.ext
    simp [strOfNums, NumA.str]
  have := h ⟨v.toNat, by omega⟩
  simp only at this
  rwa [show ((v.toNat : Nat) : Int) = v from by omega] at this

theorem str_isEmpty (l : List UInt8) : ((NumA.str l).toList = []) ↔ l = [] := by
  rw [Lib.toList_data, NumA.str_toList]

theorem l0_f (l : List UInt8) (hl : l.length ≤ 1000) : ∀ (d i K : Nat), i + d = l.length → d + 1 ≤ K → (l.take i).any (· != 45) = false →
    PCountDoes.dactylref29_C_Do.l0 K (i : Int) (NumA.str l) = some (if l.any (· != 45) then (NumA.str l, false) else (NumA.str (l ++ [45]), true)) := by
  intro d
  induction d with
  | zero =>
    intro i K hi hK ht
    obtain ⟨K, rfl⟩ : ∃ m, K = m + 1 := ⟨K - 1, by omega⟩
    rw [List.take_of_length_le (by omega)] at ht
    simp only [PCountDoes.dactylref29_C_Do.l0]
    rw [NumA.str_size, if_neg (by omega), if_pos (by omega), ht, if_neg (by simp)]
    exact congrArg some (by rw [← NumA.str_append]; rfl)
  | succ d ih =>
    intro i K hi hK ht
    obtain ⟨K, rfl⟩ : ∃ m, K = m + 1 := ⟨K - 1, by omega⟩
    have hlt : i < l.length := by omega
    have hsz : i < (NumA.str l).size := by rw [NumA.str_size]; exact hlt
    have hb : bt (NumA.str l) (i : Int) = (l[i].toNat : Int) := by
      unfold bt
      rw [dif_pos (by simpa using hsz)]
      simp only [Int.toNat_natCast]
      rfl
    simp only [PCountDoes.dactylref29_C_Do.l0]
    rw [NumA.str_size, if_pos (by omega), if_pos (by omega), hb]
    by_cases hc : l[i] = 45
    · rw [if_pos (by rw [hc]; rfl), show wrap64 ((i : Int) + 1) = ((i + 1 : Nat) : Int) from by unfold wrap64; omega]
      refine ih (i + 1) K (by omega) (by omega) ?_
      rw [List.take_succ_eq_append_getElem hlt, List.any_append, ht]; simp; exact hc
    · rw [if_neg (by intro h; apply hc; apply UInt8.toNat.inj; have h2 : (45 : UInt8).toNat = 45 := rfl; omega)]
      have hany : l.any (· != 45) = true := by
        rw [List.any_eq_true]; exact ⟨l[i], List.getElem_mem _, by simpa using hc⟩
      rw [hany, if_pos rfl]

theorem rdo_f (l : List UInt8) (hl : l.length ≤ 1000) (k v : Int) (t : ByteArray) (c : Bool) :
    PCountDoes.dactylref29_C_Do.f (l.length + 10) (NumA.str l) k v t c = some (NumA.str (rdo l k v t c).1, (rdo l k v t c).2) := by
  have j2 : ∀ b : Bool, PCountDoes.dactylref29_C_Do.j2 (l.length + 8) b (NumA.str l) = some (if b || l.any (· != 45) then (NumA.str l, false) else (NumA.str (l ++ [45]), true)) := by
    intro b
    simp only [PCountDoes.dactylref29_C_Do.j2]
    cases b with
    | true => rfl
    | false =>
      rw [if_neg (by decide)]
      have := l0_f l hl l.length 0 (l.length + 7) (by omega) (by omega) rfl
      rw [Bool.false_or]; exact this
  have j1 : ∀ b : Bool, (b = true → 48 ≤ v ∧ v ≤ 57) → PCountDoes.dactylref29_C_Do.j1 (l.length + 9) b (NumA.str l) k v t c = some (if b then (NumA.str (l ++ [UInt8.ofNat v.toNat]), true) else if decide (k = 3) && decide (v = 45) && !l.any (· != 45) then (NumA.str (l ++ [45]), true) else (NumA.str l, false)) := by
    intro b hb
    simp only [PCountDoes.dactylref29_C_Do.j1]
    cases b with
    | true =>
      obtain ⟨h1, h2⟩ := hb rfl
      rw [if_pos rfl, if_pos rfl, Option.bind_some, strOfNums_one v h1 h2, if_pos (by rw [NumA.str_size, NumA.str_size]; simp; omega), NumA.str_append]
    | false =>
      simp only [Bool.false_eq_true, if_false]
      by_cases hk : k = 3
      · rw [if_pos hk, j2, decide_eq_true hk]
        by_cases hv : v = 45
        · have : (v != 45) = false := by simpa using hv
          rw [this, decide_eq_true hv]
          cases l.any (· != 45) <;> rfl
        · have : (v != 45) = true := by simpa using hv
          rw [this, decide_eq_false hv]; rfl
      · rw [if_neg hk, j2, decide_eq_false hk]; rfl
  have j0 : ∀ b : Bool, PCountDoes.dactylref29_C_Do.j0 (l.length + 10) b (NumA.str l) k v t c = some (if b then (NumA.str l, false) else if decide (48 ≤ v ∧ v ≤ 57) then (NumA.str (l ++ [UInt8.ofNat v.toNat]), true) else if decide (k = 3) && decide (v = 45) && !l.any (· != 45) then (NumA.str (l ++ [45]), true) else (NumA.str l, false)) := by
    intro b
    simp only [PCountDoes.dactylref29_C_Do.j0]
    cases b with
    | true => rfl
    | false =>
      simp only [Bool.false_eq_true, if_false]
      by_cases h1 : 48 ≤ v
      · rw [if_pos h1, j1 _ (fun h => ⟨h1, of_decide_eq_true h⟩)]
        by_cases h2 : v ≤ 57
        · rw [decide_eq_true h2, decide_eq_true (⟨h1, h2⟩ : 48 ≤ v ∧ v ≤ 57)]
        · rw [decide_eq_false h2, decide_eq_false (fun h : 48 ≤ v ∧ v ≤ 57 => h2 h.2)]
      · rw [if_neg h1, j1 _ (fun h => by cases h), decide_eq_false (fun h : 48 ≤ v ∧ v ≤ 57 => h1 h.1)]
  have fin : ∀ b : Bool, ((decide (k = 3) || decide (k = 1) && !l.isEmpty) && t.toList.isEmpty && !c) = !b → PCountDoes.dactylref29_C_Do.j0 (l.length + 10) b (NumA.str l) k v t c = some (NumA.str (rdo l k v t c).1, (rdo l k v t c).2) := by
    intro b hb
    rw [j0, rdo, hb]
    cases b with
    | true => rfl
    | false =>
      simp only [Bool.not_false, if_true, Bool.false_eq_true, if_false]
      cases decide (48 ≤ v ∧ v ≤ 57) with
      | true => rfl
      | false =>
        simp only [Bool.false_eq_true, if_false]
        cases (decide (k = 3) && decide (v = 45) && !l.any (· != 45)) <;> rfl
  unfold PCountDoes.dactylref29_C_Do.f
  by_cases h3 : k = 3
  · rw [if_pos h3]
    by_cases ht : t.toList = []
    · rw [if_pos ht]; exact fin c (by rw [decide_eq_true h3, ht]; simp)
    · rw [if_neg ht]; exact fin true (by simp [ht])
  · rw [if_neg h3]
    by_cases h1 : k = 1
    · rw [if_pos h1]
      by_cases he : l = []
      · rw [if_pos ((str_isEmpty l).2 he)]; exact fin true (by rw [decide_eq_false h3, he]; simp)
      · rw [if_neg (fun h => he ((str_isEmpty l).1 h))]
        by_cases ht : t.toList = []
        · rw [if_pos ht]; exact fin c (by rw [decide_eq_true h1, ht]; simp [he])
        · rw [if_neg ht]; exact fin true (by simp [ht])
    · rw [if_neg h1]; exact fin true (by rw [decide_eq_false h3, decide_eq_false h1]; simp)

theorem rdo23 (l : List UInt8) (hl : l.length ≤ 1000) (k v : Int) (t : ByteArray) (c : Bool) (w : World) :
    Calls Try.prog 23 #[.agg #[.string (NumA.str l)], .agg #[.int .i64 k, .int .i64 v, .string t, .bool c]] w
      fun e w' => e = .returned (.tuple #[.agg #[.string (NumA.str (rdo l k v t c).1)], .bool (rdo l k v t c).2]) ∧ Below w.heap.size w w' :=
  PCountDoes.dactylref29_C_Do.calls _ _ _ _ _ _ _ _ w (rdo_f l hl k v t c)

end Go.Proofs.Ytopmenioioljoaa.CountW
