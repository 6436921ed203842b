/-
  THE PLAIN LAW OF num: digits of a number to a base, at least so many; no Go in it.
-/
import Derived.Lib.Bytealg
import Derived.Lib.Strings
namespace Go.Proofs.Ytopmenioioljoaa.NumA

/-- The digits' letters. -/
def dgs : List UInt8 := [48, 49, 50, 51, 52, 53, 54, 55, 56, 57, 65, 66, 67, 68, 69, 70]
def dg (d : Nat) : UInt8 := dgs.getD d 0

/-- The digits of u to base b, at least so many. -/
def digs (b least u : Nat) : List UInt8 :=
  if _h : (u = 0 ∧ least = 0) ∨ b < 2 then [] else digs b (least - 1) (u / b) ++ [dg (u % b)]
termination_by u + least
decreasing_by
  have _hb : 2 ≤ b := by omega
  by_cases hu : u = 0
  · subst hu; simp; omega
  · have : u / b < u := Nat.div_lt_self (by omega) (by omega)
    omega

theorem digs_nil (b : Nat) : digs b 0 0 = [] := by rw [digs]; simp
theorem digs_step {b least u : Nat} (hb : 2 ≤ b) (h : 0 < u ∨ 0 < least) : digs b least u = digs b (least - 1) (u / b) ++ [dg (u % b)] := by
  rw [digs]
  rw [dif_neg (by omega)]

theorem digs_len_ge {b : Nat} (hb : 2 ≤ b) : ∀ (n least u : Nat), u + least ≤ n → least ≤ (digs b least u).length := by
  intro n
  induction n with
  | zero => intro least u h; omega
  | succ n ih =>
    intro least u h
    by_cases h0 : 0 < u ∨ 0 < least
    · rw [digs_step hb h0]
      have hlt : u / b + (least - 1) ≤ n := by
        by_cases hu : u = 0
        · subst hu; simp; omega
        · have : u / b < u := Nat.div_lt_self (by omega) (by omega)
          omega
      have := ih (least - 1) (u / b) hlt
      simp; omega
    · omega

/-- What the digits say, to base b. -/
def value (b : Nat) (l : List UInt8) : Nat := l.foldl (fun u c => b * u + (Lib.indexByte dgs c).toNat) 0

theorem value_snoc (b : Nat) (l : List UInt8) (c : UInt8) : value b (l ++ [c]) = b * value b l + (Lib.indexByte dgs c).toNat := by
  simp [value, List.foldl_append]

theorem index_dg : ∀ d : Nat, d < 16 → Lib.indexByte dgs (dg d) = d := by decide

theorem value_digs {b : Nat} (hb : 2 ≤ b) (hb2 : b ≤ 16) : ∀ (n least u : Nat), u + least ≤ n → value b (digs b least u) = u := by
  intro n
  induction n with
  | zero =>
    intro least u h
    obtain ⟨rfl, rfl⟩ : u = 0 ∧ least = 0 := by omega
    rw [digs_nil]; rfl
  | succ n ih =>
    intro least u h
    by_cases h0 : 0 < u ∨ 0 < least
    · rw [digs_step hb h0]
      have hlt : u / b + (least - 1) ≤ n := by
        by_cases hu : u = 0
        · subst hu; simp; omega
        · have : u / b < u := Nat.div_lt_self (by omega) (by omega)
          omega
      rw [value_snoc, ih _ _ hlt, index_dg _ (Nat.lt_of_lt_of_le (Nat.mod_lt _ (by omega)) hb2)]
      simp only [Int.toNat_natCast]
      exact Nat.div_add_mod u b
    · obtain ⟨rfl, rfl⟩ : u = 0 ∧ least = 0 := by omega
      rw [digs_nil]; rfl

theorem digs_len_le {b : Nat} (hb : 2 ≤ b) : ∀ (k least u : Nat), least ≤ k → u < b ^ k → (digs b least u).length ≤ k := by
  intro k
  induction k with
  | zero =>
    intro least u h hu
    obtain ⟨rfl, rfl⟩ : u = 0 ∧ least = 0 := by simp at hu; omega
    rw [digs_nil]; simp
  | succ k ih =>
    intro least u h hu
    by_cases h0 : 0 < u ∨ 0 < least
    · rw [digs_step hb h0]
      have := ih (least - 1) (u / b) (by omega) (by
        rw [Nat.div_lt_iff_lt_mul (by omega)]; rw [Nat.pow_succ] at hu; exact hu)
      simp; omega
    · obtain ⟨rfl, rfl⟩ : u = 0 ∧ least = 0 := by omega
      rw [digs_nil]; simp

theorem dg_ne_minus : ∀ d : Nat, d < 16 → dg d ≠ 45 := by decide

theorem digs_mem {b : Nat} (hb : 2 ≤ b) (hb2 : b ≤ 16) : ∀ (n least u : Nat), u + least ≤ n → ∀ c ∈ digs b least u, c ≠ 45 := by
  intro n
  induction n with
  | zero =>
    intro least u h
    obtain ⟨rfl, rfl⟩ : u = 0 ∧ least = 0 := by omega
    rw [digs_nil]; simp
  | succ n ih =>
    intro least u h
    by_cases h0 : 0 < u ∨ 0 < least
    · rw [digs_step hb h0]
      have hlt : u / b + (least - 1) ≤ n := by
        by_cases hu : u = 0
        · subst hu; simp; omega
        · have : u / b < u := Nat.div_lt_self (by omega) (by omega)
          omega
      intro c hc
      rcases List.mem_append.1 hc with hc | hc
      · exact ih _ _ hlt c hc
      · have e : c = dg (u % b) := by simpa using hc
        rw [e]; exact dg_ne_minus _ (Nat.lt_of_lt_of_le (Nat.mod_lt _ (by omega)) hb2)
    · obtain ⟨rfl, rfl⟩ : u = 0 ∧ least = 0 := by omega
      rw [digs_nil]; simp

/-- The text of a number's digits, as a string. -/
def str (l : List UInt8) : ByteArray := ⟨l.toArray⟩
@[simp] theorem str_toList (l : List UInt8) : (str l).data.toList = l := by simp [str]
@[simp] theorem str_size (l : List UInt8) : (str l).size = l.length := by simp [str, ByteArray.size]
theorem str_of (s : ByteArray) : str s.data.toList = s := by cases s; simp [str]
theorem str_append (a b : List UInt8) : str a ++ str b = str (a ++ b) := by
  apply ByteArray.ext
  simp [str, ByteArray.data_append]
theorem str_inj {a b : List UInt8} (h : str a = str b) : a = b := by
  have := congrArg (fun s : ByteArray => s.data.toList) h
  simpa using this

/-- A number's digits. -/
def dec (n : Int) : List UInt8 := if n < 0 then 45 :: digs 10 1 n.natAbs else digs 10 1 n.natAbs
/-- Its hex digits, at least so many. -/
def hex (n : Int) (least : Int) : List UInt8 := if n < 0 then [] else digs 16 (min (max least 1) 16).toNat n.natAbs

/-- A minus sign ahead: what is behind it. -/
def cutM (s : List UInt8) : List UInt8 × Bool := match s with
  | [] => ([], false)
  | c :: t => if c = 45 then (t, true) else (c :: t, false)

/-- What the first bytes say, in 64 bits. -/
def vstep (u : Nat) (c : UInt8) : Nat := (10 * u + (Lib.indexByte dgs c).toNat) % 18446744073709551616
def vw (l : List UInt8) : Nat := l.foldl vstep 0
theorem vw_snoc (l : List UInt8) (c : UInt8) : vw (l ++ [c]) = vstep (vw l) c := by simp [vw, List.foldl_append]
theorem vstep_lt (u : Nat) (c : UInt8) : vstep u c < 18446744073709551616 := Nat.mod_lt _ (by omega)

theorem vw_value (l : List UInt8) : vw l = value 10 l % 18446744073709551616 := by
  have h : ∀ (l : List UInt8) (a b : Nat), a = b % 18446744073709551616 → l.foldl vstep a = (l.foldl (fun u c => 10 * u + (Lib.indexByte dgs c).toNat) b) % 18446744073709551616 := by
    intro l
    induction l with
    | nil => intro a b h; simpa using h
    | cons c l ih =>
      intro a b h
      simp only [List.foldl_cons]
      refine ih _ _ ?_
      unfold vstep
      rw [h]
      omega
  exact h l 0 0 rfl

def sign64 (u : Int) : Int := (u + 9223372036854775808) % 18446744073709551616 - 9223372036854775808

/-- The number that Undec tries. -/
def tried (s : List UInt8) : Int :=
  if (cutM s).2 then sign64 (-(vw ((cutM s).1.take 20) : Int)) else sign64 (vw ((cutM s).1.take 20))

theorem tried_bd (s : List UInt8) : -9223372036854775808 ≤ tried s ∧ tried s ≤ 9223372036854775807 := by
  unfold tried sign64
  split <;> omega

/-- What Undec answers. -/
def undec (s : List UInt8) : Int × Int := if dec (tried s) = s then (tried s, 0) else (0, 6)

theorem digs_ne {b l u : Nat} (hb : 2 ≤ b) (hl : 1 ≤ l) : digs b l u ≠ [] := by
  have := digs_len_ge hb (u + l) l u (Nat.le_refl _)
  intro h; rw [h] at this; simp at this; omega

theorem natAbs_lt {n : Int} (h0 : -9223372036854775808 ≤ n) (h1 : n ≤ 9223372036854775807) : n.natAbs ≤ 9223372036854775808 := by omega

theorem tried_dec (n : Int) (h0 : -9223372036854775808 ≤ n) (h1 : n ≤ 9223372036854775807) : tried (dec n) = n := by
  have hu := natAbs_lt h0 h1
  have hv : vw ((digs 10 1 n.natAbs).take 20) = n.natAbs := by
    rw [List.take_of_length_le (digs_len_le (by omega) 20 1 n.natAbs (by omega) (by omega)), vw_value, value_digs (by omega) (by omega) (n.natAbs + 1) 1 _ (Nat.le_refl _)]
    omega
  by_cases hn : n < 0
  · have hc : cutM (dec n) = (digs 10 1 n.natAbs, true) := by simp [dec, hn, cutM]
    unfold tried
    rw [hc]
    simp only [if_true, hv]
    unfold sign64; omega
  · have hc : cutM (dec n) = (digs 10 1 n.natAbs, false) := by
      have hne := digs_ne (b := 10) (l := 1) (u := n.natAbs) (by omega) (by omega)
      have hm := digs_mem (b := 10) (by omega) (by omega) (n.natAbs + 1) 1 n.natAbs (Nat.le_refl _)
      simp only [dec, hn, if_false]
      cases hd : digs 10 1 n.natAbs with
      | nil => exact absurd hd hne
      | cons c t =>
        have : c ≠ 45 := hm c (by rw [hd]; simp)
        simp [cutM, this]
    unfold tried
    rw [hc]
    simp only [Bool.false_eq_true, if_false, hv]
    unfold sign64; omega

theorem undec_dec (n : Int) (h0 : -9223372036854775808 ≤ n) (h1 : n ≤ 9223372036854775807) : undec (dec n) = (n, 0) := by
  unfold undec
  rw [tried_dec n h0 h1, if_pos rfl]

/-- What Unhex answers. -/
def unhexTo (l : List UInt8) : Option Nat := l.foldl (fun u c => u.bind fun u => if Lib.indexByte dgs c < 0 then none else some (16 * u + (Lib.indexByte dgs c).toNat)) (some 0)
theorem unhexTo_snoc (l : List UInt8) (c : UInt8) : unhexTo (l ++ [c]) = (unhexTo l).bind fun u => if Lib.indexByte dgs c < 0 then none else some (16 * u + (Lib.indexByte dgs c).toNat) := by
  simp [unhexTo, List.foldl_append]
theorem unhexTo_none (l r : List UInt8) (h : unhexTo l = none) : unhexTo (l ++ r) = none := by
  unfold unhexTo at *
  rw [List.foldl_append, h]
  induction r with
  | nil => rfl
  | cons c r ih => simpa using ih
def unhex (s : List UInt8) : Int × Int := if s.length = 0 ∨ 15 < s.length then (0, 6) else match unhexTo s with
  | none => (0, 6)
  | some u => (u, 0)

theorem index_le (c : UInt8) : Lib.indexByte dgs c ≤ 15 := by
  have h : ∀ n : Fin 256, Lib.indexByte dgs (UInt8.ofNat n.val) ≤ 15 := by decide +kernel
  have := h ⟨c.toNat, c.toNat_lt⟩
  simpa using this

theorem unhexTo_lt : ∀ (l : List UInt8) (u : Nat), unhexTo l = some u → u < 16 ^ l.length := by
  have h : ∀ (n : Nat) (l : List UInt8) (u : Nat), l.length = n → unhexTo l = some u → u < 16 ^ l.length := by
    intro n
    induction n with
    | zero =>
      intro l u hl h
      obtain rfl : l = [] := List.length_eq_zero_iff.1 hl
      simp [unhexTo] at h; subst h; simp
    | succ n ih =>
      intro l u hl h
      rcases List.eq_nil_or_concat l with rfl | ⟨l', c, rfl⟩
      · simp at hl
      · simp only [List.concat_eq_append] at *
        rw [unhexTo_snoc] at h
        cases hu : unhexTo l' with
        | none => rw [hu] at h; simp at h
        | some v =>
          rw [hu] at h
          simp only [Option.bind_some] at h
          split at h
          · simp at h
          · have := ih l' v (by simpa using hl) hu
            have hi := index_le c
            simp at h
            simp only [List.length_append, List.length_cons, List.length_nil, Nat.pow_succ, Nat.zero_add]
            omega
  exact fun l u hu => h l.length l u rfl hu

end Go.Proofs.Ytopmenioioljoaa.NumA
