/-
  THE REFERENCE's Hex, Unhex (dactylref01): they return a number's hex digits, and the number of hex digits.
-/
import Derived.Test.YtopmenioioljoaaNumLaw
namespace Go.Proofs.Ytopmenioioljoaa.NumW
open Go.RowKit Go.Proofs.Ytopmenioioljoaa.NumA Go.Proofs.Ytopmenioioljoaa.Base Go.Proofs.YtopmenioioljoaaW.PrintWords

theorem hwrap64_in {n : Int} (h0 : -9223372036854775808 ≤ n) (h1 : n ≤ 9223372036854775807) : wrap64 n = n := by unfold wrap64; omega

theorem hdigit_f (d : Nat) (h : d < 16) : PNumHexes.dactylref01_Digit.f (d : Int) = some (str [dg d]) := by
  have hx0 : ∀ d : Nat, d < 16 → ((⟨#[48, 49, 50, 51, 52, 53, 54, 55, 56, 57, 65, 66, 67, 68, 69, 70]⟩ : ByteArray).extract d (d + 1)).data = (str [dg d]).data := by decide
  unfold PNumHexes.dactylref01_Digit.f
  rw [hwrap64_in (by omega) (by omega), if_pos (by omega), if_pos (by omega), if_pos (by omega), show ((d : Int)).toNat = d from by omega, show ((d : Int) + 1).toNat = d + 1 from by omega]
  exact congrArg some (ByteArray.ext (hx0 d h))

theorem digs_one {n : Nat} (h : n < 16) : digs 16 1 n = [dg n] := by
  rw [digs_step (by omega) (by omega), Nat.div_eq_of_lt h, digs_nil, Nat.mod_eq_of_lt h]; rfl

theorem digs_more {n : Nat} {l : Int} (h : ¬ (n < 16 ∧ l ≤ 1)) : digs 16 (max l 1).toNat n = digs 16 (max (l - 1) 1).toNat (n / 16) ++ [dg (n % 16)] := by
  rw [digs_step (by omega) (by omega)]
  by_cases hl : 2 ≤ l
  · rw [show (max l 1).toNat - 1 = (max (l - 1) 1).toNat from by omega]
  · have e : digs 16 0 (n / 16) = digs 16 1 (n / 16) := by rw [digs_step (least := 0) (by omega) (by omega), digs_step (least := 1) (by omega) (by omega)]
    rw [show (max l 1).toNat - 1 = 0 from by omega, show (max (l - 1) 1).toNat = 1 from by omega, e]

theorem hexdigs_len {n : Nat} {l : Int} (hn : n < 9223372036854775808) (hl : l ≤ 16) : (digs 16 (max l 1).toNat n).length ≤ 16 :=
  digs_len_le (by omega) 16 _ _ (by omega) (by omega)

theorem hex_cat (a b : List UInt8) (h : a.length + b.length ≤ 100) : (if (str a).size + (str b).size ≤ 9223372036854775807 then some (str a ++ str b) else none) = some (str (a ++ b)) := by
  rw [str_size, str_size, if_pos (by omega), ← str_append]

theorem hex_f : ∀ (m n : Nat) (l : Int) (j : Nat), n + l.toNat ≤ m → n < 16 ^ j → j ≤ 16 → n < 9223372036854775808 → (j : Int) - 16 ≤ l → l ≤ 16 → ∃ k, PNumHexes.dactylref01_Hex.f k n l = some (str (digs 16 (max l 1).toNat n)) := by
  intro m
  induction m with
  | zero =>
    intro n l j hm hj hj16 hn hl0 hl1
    obtain rfl : n = 0 := by omega
    refine ⟨2, ?_⟩
    simp only [PNumHexes.dactylref01_Hex.f]
    rw [if_pos (by omega)]
    simp only [PNumHexes.dactylref01_Hex.j0]
    rw [if_pos (by simp; omega), show (max l 1).toNat = 1 from by omega, digs_one (by omega), hdigit_f 0 (by omega)]; rfl
  | succ m ih =>
    intro n l j hm hj hj16 hn hl0 hl1
    by_cases hs : n < 16 ∧ l ≤ 1
    · refine ⟨2, ?_⟩
      simp only [PNumHexes.dactylref01_Hex.f]
      rw [if_pos (by omega)]
      simp only [PNumHexes.dactylref01_Hex.j0]
      rw [if_pos (by simp; omega), show (max l 1).toNat = 1 from by omega, digs_one (by omega), hdigit_f n (by omega)]; rfl
    · have hd : ((n : Int)).tdiv 16 = ((n / 16 : Nat) : Int) := by rw [Int.tdiv_eq_ediv_of_nonneg (by omega)]; omega
      have hmd : ((n : Int)).tmod 16 = ((n % 16 : Nat) : Int) := by rw [Int.tmod_eq_emod_of_nonneg (by omega)]; omega
      obtain ⟨k, hk⟩ : ∃ k, PNumHexes.dactylref01_Hex.f k ((n / 16 : Nat) : Int) (l - 1) = some (str (digs 16 (max (l - 1) 1).toNat (n / 16))) := by
        by_cases hn16 : n < 16
        · refine ih (n / 16) (l - 1) 0 (by omega) (by rw [Nat.div_eq_of_lt hn16]; decide) (by omega) (by omega) (by omega) (by omega)
        · cases j with
          | zero => simp at hj; omega
          | succ j =>
            refine ih (n / 16) (l - 1) j (by omega) ?_ (by omega) (by omega) (by omega) (by omega)
            rw [Nat.div_lt_iff_lt_mul (by omega)]; rw [Nat.pow_succ] at hj; exact hj
      have hlen := hexdigs_len (n := n / 16) (l := l - 1) (by omega) (by omega)
      refine ⟨k + 2, ?_⟩
      have e : PNumHexes.dactylref01_Hex.f (k + 2) n l = PNumHexes.dactylref01_Hex.j0 (k + 1) n l false := by
        simp only [PNumHexes.dactylref01_Hex.f]
        by_cases hn16 : n < 16
        · rw [if_pos (by omega), decide_eq_false (by omega)]
        · rw [if_neg (by omega)]
      rw [e, digs_more hs]
      generalize digs 16 (max (l - 1) 1).toNat (n / 16) = D at hk hlen ⊢
      simp only [PNumHexes.dactylref01_Hex.j0]
      rw [if_neg (by decide), hd, hwrap64_in (by omega) (by omega), hwrap64_in (by omega) (by omega), hk]
      rw [Option.bind_some, hmd, hdigit_f _ (by omega), Option.bind_some]
      exact hex_cat _ _ (by simp only [List.length_cons, List.length_nil]; omega)

theorem rhex16 (n l : Int) (w : World) (h0 : 0 ≤ n) (h1 : n ≤ 9223372036854775807) (h2 : 1 ≤ l) (h3 : l ≤ 16) :
    Calls Try.prog 16 #[.int .i64 n, .int .i64 l] w fun e w' => e = .returned (.string (str (digs 16 l.toNat n.natAbs))) ∧ Below w.heap.size w w' := by
  obtain ⟨k, hk⟩ := hex_f _ n.natAbs l 16 (Nat.le_refl _) (by omega) (by omega) (by omega) (by omega) h3
  rw [show ((n.natAbs : Nat) : Int) = n from by omega, show (max l 1).toNat = l.toNat from by omega] at hk
  exact (PNumHexes.dactylref01_Hex.calls k n l _ w hk).mono fun _ _ ⟨h, hb⟩ => ⟨h, hb.below⟩

theorem low17 (a b : Int) (w : World) : Calls Try.prog 17 #[.int .i64 a, .int .i64 b] w fun e w' => e = .returned (.int .i64 (min a b)) ∧ Below w.heap.size w w' := by
  have h : PNumHexes.dactylref01_Low.f a b = some (min a b) := by
    unfold PNumHexes.dactylref01_Low.f; split <;> exact congrArg some (by omega)
  exact (PNumHexes.dactylref01_Low.calls a b _ w h).mono fun _ _ ⟨h, hb⟩ => ⟨h, hb.below⟩
theorem high18 (a b : Int) (w : World) : Calls Try.prog 18 #[.int .i64 a, .int .i64 b] w fun e w' => e = .returned (.int .i64 (max a b)) ∧ Below w.heap.size w w' := by
  have h : PNumHexes.dactylref01_High.f a b = some (max a b) := by
    unfold PNumHexes.dactylref01_High.f; split <;> exact congrArg some (by omega)
  exact (PNumHexes.dactylref01_High.calls a b _ w h).mono fun _ _ ⟨h, hb⟩ => ⟨h, hb.below⟩

/-- The number of hex digits; below 0: these are none. -/
def runh (s : List UInt8) : Int := if s.length = 0 ∨ 15 < s.length then -1 else match unhexTo s with
  | none => -1
  | some u => u

theorem value_f (k : Nat) (c : UInt8) : PNumHexes.dactylref01_Value.f (k + 1) (c.toNat : Int) = some (Lib.indexByte dgs c) := by
  have h : ∀ n : Fin 256, PNumHexes.dactylref01_Value.f 1 (((UInt8.ofNat n.val).toNat : Nat) : Int) = some (Lib.indexByte dgs (UInt8.ofNat n.val)) := by decide +kernel
  have := h ⟨c.toNat, c.toNat_lt⟩
  simp only [UInt8.ofNat_toNat] at this
  rw [← this]
  rfl

theorem bt_eq {s : ByteArray} {i : Nat} (h : i < s.size) : bt s (i : Int) = (s[i].toNat : Int) := by
  unfold bt
  rw [dif_pos (by simpa using h)]
  simp

theorem unhexTo_cut {s : ByteArray} {k : Nat} (h2 : unhexTo (s.data.toList.take k) = none) : unhexTo s.data.toList = none := by
  have := unhexTo_none _ (s.data.toList.drop k) h2
  rwa [List.take_append_drop] at this

theorem unhex_l0 (s : ByteArray) (hs : s.size ≤ 15) : ∀ (d k i u : Nat), i + d = s.size → d + 2 ≤ k → unhexTo (s.data.toList.take i) = some u →
    PNumHexes.dactylref01_Unhex.l0 k s (u : Int) (i : Int) = some (match unhexTo s.data.toList with | none => -1 | some u => (u : Int)) := by
  intro d
  induction d with
  | zero =>
    intro k i u hi hk hu
    obtain ⟨k, rfl⟩ : ∃ m, k = m + 1 := ⟨k - 1, by omega⟩
    rw [List.take_of_length_le (by rw [← Lib.size_eq]; omega)] at hu
    simp only [PNumHexes.dactylref01_Unhex.l0]
    rw [if_neg (by omega), hu]
  | succ d ih =>
    intro k i u hi hk hu
    obtain ⟨k, rfl⟩ : ∃ m, k = m + 1 := ⟨k - 1, by omega⟩
    have hv : ∀ c : UInt8, PNumHexes.dactylref01_Value.f k (c.toNat : Int) = some (Lib.indexByte dgs c) := by
      intro c
      obtain ⟨k', rfl⟩ : ∃ m, k = m + 1 := ⟨k - 1, by omega⟩
      exact value_f k' c
    have hlt : i < s.size := by omega
    have hub := unhex_bd (by omega : i < 15) hu
    have hle := index_le s[i]
    have hge := Lib.indexByte_ge dgs s[i]
    simp only [PNumHexes.dactylref01_Unhex.l0]
    rw [if_pos (by omega), if_pos (by omega), bt_eq hlt, hv]
    simp only [Option.bind_some]
    by_cases hn : Lib.indexByte dgs s[i] < 0
    · rw [if_pos hn]
      have h2 : unhexTo (s.data.toList.take (i + 1)) = none := by rw [take_snoc s i hlt, unhexTo_snoc, hu]; simp [hn]
      rw [unhexTo_cut h2]
    · rw [if_neg hn]
      obtain ⟨dd, hdd⟩ : ∃ dd : Nat, Lib.indexByte dgs s[i] = dd := ⟨(Lib.indexByte dgs s[i]).toNat, by omega⟩
      have := ih k (i + 1) (16 * u + dd) (by omega) (by omega) (unhex_on hlt hu hdd)
      rw [hdd] at hle ⊢
      rw [show wrap64 ((u : Int) * 16) = (u : Int) * 16 from hwrap64_in (by omega) (by omega), show wrap64 ((u : Int) * 16 + (dd : Int)) = (u : Int) * 16 + (dd : Int) from hwrap64_in (by omega) (by omega), show wrap64 ((i : Int) + 1) = (i : Int) + 1 from hwrap64_in (by omega) (by omega)]
      rw [show (u : Int) * 16 + (dd : Int) = ((16 * u + dd : Nat) : Int) from by omega, show (i : Int) + 1 = ((i + 1 : Nat) : Int) from rfl]
      exact this

theorem runh_f (s : ByteArray) : ∃ k, PNumHexes.dactylref01_Unhex.f k s = some (runh s.data.toList) := by
  refine ⟨30, ?_⟩
  unfold PNumHexes.dactylref01_Unhex.f runh
  rw [← Lib.size_eq]
  by_cases h0 : s.size = 0
  · rw [if_pos (by omega), if_pos (by omega)]
    simp only [PNumHexes.dactylref01_Unhex.j0, if_true]
  · rw [if_neg (by omega)]
    by_cases h1 : 15 < s.size
    · rw [if_pos (by omega), decide_eq_true (by omega)]
      simp only [PNumHexes.dactylref01_Unhex.j0, if_true]
    · rw [if_neg (by omega), decide_eq_false (by omega)]
      simp only [PNumHexes.dactylref01_Unhex.j0]
      rw [if_neg (by decide)]
      exact unhex_l0 s (by omega) s.size 29 0 0 (by omega) (by omega) (by simp [unhexTo])

theorem runhex20 (s : ByteArray) (w : World) :
    Calls Try.prog 20 #[.string s] w fun e w' => e = .returned (.int .i64 (runh s.data.toList)) ∧ Below w.heap.size w w' := by
  obtain ⟨k, hk⟩ := runh_f s
  exact (PNumHexes.dactylref01_Unhex.calls k s _ w hk).mono fun _ _ ⟨h, hb⟩ => ⟨h, hb.below⟩

theorem unhexTo_digs : ∀ (n least u : Nat), u + least ≤ n → unhexTo (digs 16 least u) = some u := by
  intro n
  induction n with
  | zero =>
    intro least u h
    obtain ⟨rfl, rfl⟩ : u = 0 ∧ least = 0 := by omega
    rw [digs_nil]; rfl
  | succ n ih =>
    intro least u h
    by_cases h0 : 0 < u ∨ 0 < least
    · rw [digs_step (by omega) h0, unhexTo_snoc, ih _ _ (by omega), index_dg _ (by omega)]
      simp only [Option.bind_some, Int.toNat_natCast]
      rw [if_neg (by omega)]
      exact congrArg some (Nat.div_add_mod u 16)
    · obtain ⟨rfl, rfl⟩ : u = 0 ∧ least = 0 := by omega
      rw [digs_nil]; rfl

theorem unhex_hex {n l : Int} (h0 : 0 ≤ n) (hl : (hex n l).length ≤ 15) : unhex (hex n l) = (n, 0) := by
  have e : hex n l = digs 16 (min (max l 1) 16).toNat n.natAbs := by unfold hex; rw [if_neg (by omega)]
  have hne : (hex n l).length ≠ 0 := by
    have := digs_len_ge (b := 16) (by omega) _ (min (max l 1) 16).toNat n.natAbs (Nat.le_refl _)
    rw [e]; omega
  unfold unhex
  rw [if_neg (by omega), e, unhexTo_digs _ _ _ (Nat.le_refl _)]
  show (((n.natAbs : Nat) : Int), (0 : Int)) = (n, 0)
  rw [show ((n.natAbs : Nat) : Int) = n from by omega]

theorem hex_len (n l : Int) (h0 : 0 ≤ n) (h1 : n ≤ 9223372036854775807) : 1 ≤ (hex n l).length ∧ (hex n l).length ≤ 16 := by
  have e : hex n l = digs 16 (min (max l 1) 16).toNat n.natAbs := by unfold hex; rw [if_neg (by omega)]
  rw [e]
  have := digs_len_ge (b := 16) (by omega) _ (min (max l 1) 16).toNat n.natAbs (Nat.le_refl _)
  have := digs_len_le (b := 16) (by omega) 16 (min (max l 1) 16).toNat n.natAbs (by omega) (by omega)
  omega

theorem unhex_cases (s : List UInt8) : (∃ u : Nat, unhex s = ((u : Int), 0) ∧ runh s = u ∧ u < 1152921504606846976) ∨ (unhex s = (0, 6) ∧ runh s = -1) := by
  unfold unhex runh
  by_cases h : s.length = 0 ∨ 15 < s.length
  · rw [if_pos h, if_pos h]; exact Or.inr ⟨rfl, rfl⟩
  · rw [if_neg h, if_neg h]
    cases hu : unhexTo s with
    | none => exact Or.inr ⟨rfl, rfl⟩
    | some u =>
      refine Or.inl ⟨u, rfl, rfl, ?_⟩
      have h1 := unhexTo_lt _ _ hu
      have h3 : (16 : Nat) ^ s.length ≤ 16 ^ 15 := Nat.pow_le_pow_right (by omega) (by omega)
      have : (16 : Nat) ^ 15 = 1152921504606846976 := by decide
      omega

end Go.Proofs.Ytopmenioioljoaa.NumW
