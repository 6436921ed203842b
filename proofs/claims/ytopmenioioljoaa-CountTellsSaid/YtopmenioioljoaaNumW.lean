/-
  THE WALKS OF PACKAGE num: laid and its closure, Dec, Undec, Hex, Unhex: each returns what the plain functions of NumA say.
-/
import Derived.Test.YtopmenioioljoaaNumA
import Derived.Test.YtopmenioioljoaaPNumHexesx1
import Derived.Lib.Bytealg
import Derived.Lib.Hide
namespace Go.Proofs.Ytopmenioioljoaa.NumW
open Go.RowKit Go.Proofs.Ytopmenioioljoaa.NumA Go.Proofs.YtopmenioioljoaaW.PrintWords

theorem index77 (s : ByteArray) (c : Int) (w : World) :
    Calls Try.prog 77 #[.string s, .int .u8 c] w fun e w' => e = .returned (.int .i64 (Lib.indexByte s.data.toList c.toNat.toUInt8)) ∧ w' = w := by
  go_enter Try.func77, Try.ntmps77
  go_wp2
  rw [run_callFunc_extern Try.func86 (by kernel_rfl) (by kernel_rfl) (by kernel_rfl) (e := Extern.BytealgIndexByte.indexByte) (by kernel_rfl), Lib.run_indexByteString]
  simp only [Result.andThen]
  rw [Oper.upon_value]
  go_wp2
  go_ret
  exact ⟨rfl, rfl⟩

theorem index61 (s : ByteArray) (c : Int) (w : World) :
    Calls Try.prog 61 #[.string s, .int .u8 c] w fun e w' => e = .returned (.int .i64 (Lib.indexByte s.data.toList c.toNat.toUInt8)) ∧ w' = w := by
  go_enter Try.func61, Try.ntmps61
  go_wp2_with (go_at_call 77; refine (index77 _ _ _).mono ?_; rintro e w' ⟨rfl, rfl⟩)
  go_ret
  exact ⟨rfl, rfl⟩

theorem laid59 (b l : Int) (w : World) :
    Calls Try.prog 59 #[.int .u64 b, .int .i64 l] w fun e w' => e = .returned (.func (.func 75) #[] #[.pointer (some ⟨w.heap.size + 1, 0, none⟩), .pointer (some ⟨w.heap.size, 0, none⟩)]) ∧ w' = (w.alloc (.cells #[.int .u64 b] 95)).alloc (.cells #[.int .i64 l] 3) := by
  have hmf : ∀ (fn : Fn) (first cap : Array Value) (w : World), (Instr.makeFunc fn first cap).run Try.prog w = .ok (.func fn first cap) w := fun _ _ _ _ => rfl
  go_enter Try.func59, Try.ntmps59
  go_wp2
  go_ret
  exact ⟨rfl, rfl⟩

theorem slice_dg {d : Nat} (h : d < 16) (w : World) :
    (Instr.slice 9 (.string ⟨#[48, 49, 50, 51, 52, 53, 54, 55, 56, 57, 65, 66, 67, 68, 69, 70]⟩) (some (.int .u64 d)) (some (.int .u64 ((d : Int) + 1))) none).run Try.prog w = .ok (.string (str [dg d])) w := by
  have hx0 : ∀ d : Nat, d < 16 → ((⟨#[48, 49, 50, 51, 52, 53, 54, 55, 56, 57, 65, 66, 67, 68, 69, 70]⟩ : ByteArray).extract d (d + 1)).data = (str [dg d]).data := by decide
  have hx : ∀ d : Nat, d < 16 → (⟨#[48, 49, 50, 51, 52, 53, 54, 55, 56, 57, 65, 66, 67, 68, 69, 70]⟩ : ByteArray).extract d (d + 1) = str [dg d] := fun d h => ByteArray.ext (hx0 d h)
  have hs : (⟨#[48, 49, 50, 51, 52, 53, 54, 55, 56, 57, 65, 66, 67, 68, 69, 70]⟩ : ByteArray).size = 16 := rfl
  rw [run_slice_string w 9 _ .u64 .u64 (d : Int) ((d : Int) + 1) Try.underlying9 (by omega) (by omega) (by rw [hs]; omega)]
  rw [show ((d : Int)).toNat = d from by omega, show ((d : Int) + 1).toNat = d + 1 from by omega, hx d h]

theorem digs_move {b l u u' d : Nat} {l' : List UInt8} (hb : 2 ≤ b) (h : 0 < u' ∨ l'.length < l) (hd : d = u' % b) (HD : digs b (l - l'.length) u' ++ l' = digs b l u) :
    digs b (l - (dg d :: l').length) (u' / b) ++ dg d :: l' = digs b l u := by
  rw [← HD, digs_step hb (by omega : 0 < u' ∨ 0 < l - l'.length), hd]
  simp [Nat.sub_sub]

theorem digs_length {b l u u' : Nat} {l' : List UInt8} (HD : digs b l u' ++ l' = digs b l u) : l'.length ≤ (digs b l u).length := by
  rw [← HD]; simp

def lenOf : Value → Nat | .string s => s.size | _ => 0

set_option maxHeartbeats 1000000 in
theorem laid75 (b l u : Nat) (pl pb : Addr) (w : World) (hb2 : 2 ≤ b) (hb16 : b ≤ 16) (hl : l ≤ 16) (hu : u < 18446744073709551616)
    (cl : w.cell? pl = some (.int .i64 l)) (cb : w.cell? pb = some (.int .u64 b)) :
    Calls Try.prog 75 #[.int .u64 u, .pointer (some pl), .pointer (some pb)] w fun e w' => e = .returned (.string (str (digs b l u))) ∧ ∃ n, w' = w.drewN n := by
  have hlen : (digs b l u).length ≤ 64 := digs_len_le hb2 64 l u (by omega) (Nat.lt_of_lt_of_le hu (by
    have : (2:Nat) ^ 64 ≤ b ^ 64 := Nat.pow_le_pow_left hb2 64
    exact Nat.le_trans (by decide) this))
  have HL := Lib.hid hlen
  clear hlen
  go_enter Try.func75, Try.ntmps75
  go_wp2
  go_loopw [0, 5] (fun vu vs wr => ∃ (u' : Nat) (l' : List UInt8), vu = .int .u64 u' ∧ vs = .string (str l') ∧ u' < 18446744073709551616 ∧ l'.length ≤ 64 ∧ Hid (digs b (l - l'.length) u' ++ l' = digs b l u) ∧ ∃ n, wr = w.drewN n)
    (fun vu vs _ => (intOf vu).toNat + (l - lenOf vs))
  case atStart => exact ⟨u, [], rfl, rfl, hu, by simp, by simp [Hid], 0, rfl⟩
  case round =>
    obtain ⟨u', l', rfl, rfl, hu', hl', HD, n, rfl⟩ := hrel
    have hb0 : ¬ b = 0 := by omega
    obtain ⟨d, hd⟩ : ∃ d, d = u' % b := ⟨_, rfl⟩
    have hd16 : d < 16 := by rw [hd]; exact Nat.lt_of_lt_of_le (Nat.mod_lt _ (by omega)) hb16
    have HDD := Lib.hid hd
    have hmod : (u' : Int).tmod b = (d : Int) := by rw [hd]; simp [Int.tmod_eq_emod_of_nonneg]
    clear hd
    have hwr : IntKind.u64.wrap ((d : Int) + 1) = (d : Int) + 1 := IntWalk.u64_in _ (by omega)
    have hsl := slice_dg (d := d) hd16
    have happ : str [dg d] ++ str l' = str (dg d :: l') := str_append _ _
    have hsz : (1 : Nat) + l'.length ≤ 9223372036854775807 := by omega
    obtain ⟨q, hq⟩ : ∃ q, q = u' / b := ⟨_, rfl⟩
    have hq1 : 0 < u' → q < u' := fun h0 => by rw [hq]; exact Nat.div_lt_self h0 (by omega : 1 < b)
    have hq0 : q ≤ u' := by rw [hq]; exact Nat.div_le_self u' b
    have HQ := Lib.hid hq
    have HQ1 := Lib.hid hq1
    have hquo : IntKind.u64.wrap ((u' : Int) / (b : Int)) = (q : Int) := by
      rw [show ((u' : Int) / (b : Int)) = ((u' / b : Nat) : Int) from rfl, ← hq]
      exact IntWalk.u64_in _ (by omega)
    clear hq hq1
    by_cases hc : 0 < u' ∨ l'.length < l
    · have hmv := digs_move (l' := l') (d := d) (u' := u') (l := l) (u := u) hb2 hc HDD.out HD.out
      rw [← HQ.out] at hmv
      have hlen2 : (dg d :: l').length ≤ 64 := by
        have := HL.out; rw [← hmv] at this; simp at this ⊢; omega
      have HC := Lib.hid hc
      clear hc
      have hrel : ∀ n : Nat, ∃ (u'' : Nat) (l'' : List UInt8), Value.int .u64 (q : Int) = .int .u64 u'' ∧ Value.string (str (dg d :: l')) = .string (str l'') ∧ u'' < 18446744073709551616 ∧ l''.length ≤ 64 ∧ Hid (digs b (l - l''.length) u'' ++ l'' = digs b l u) ∧ ∃ n', w.drewN n = w.drewN n' :=
        fun n => ⟨q, dg d :: l', rfl, rfl, by omega, hlen2, hmv, n, rfl⟩
      have HR := Lib.hid hrel
      clear hrel hmv hlen2
      by_cases h0 : 0 < u'
      · go_wp2
        go_quiet (fail)
        go_wp2
        go_roundw
        case rel => exact HR.out (n + nq)
        case measure =>
          have h1 := HQ1.out h0
          simp [intOf, lenOf]; omega
      · have h1 : l'.length < l := by have := HC.out; omega
        go_wp2
        go_quiet (fail)
        go_wp2
        go_roundw
        case rel => exact HR.out (n + nq)
        case measure => simp [intOf, lenOf]; omega
    · have h0 : ¬ 0 < u' := by omega
      have h1 : ¬ l'.length < l := by omega
      clear hc
      have HE : Hid (str l' = str (digs b l u)) := by
        have := HD.out
        rw [show l - l'.length = 0 from by omega, show u' = 0 from by omega, digs_nil, List.nil_append] at this
        rw [this]; rfl
      go_wp2
      go_ret
      exact ⟨by rw [HE.out]; rfl, n, rfl⟩

theorem bel_two (w : World) (a b : Obj) (n : Nat) : Below w.heap.size w (((w.alloc a).alloc b).drewN n) := by
  have h := ((Below.refl w.heap.size w).alloc (Nat.le_refl _) a).alloc (by simp) b
  exact ⟨h.os, h.tape, h.output, h.size, h.block⟩

/-- A new closure of laid, called. -/
theorem laid_two (b l u : Nat) (w : World) (hb2 : 2 ≤ b) (hb16 : b ≤ 16) (hl : l ≤ 16) (hu : u < 18446744073709551616) (v lv : Int) (hv : v = u) (hlv : lv = l) :
    Calls Try.prog 75 #[.int .u64 v, .pointer (some ⟨w.heap.size + 1, 0, none⟩), .pointer (some ⟨w.heap.size, 0, none⟩)] ((w.alloc (.cells #[.int .u64 b] 95)).alloc (.cells #[.int .i64 lv] 3))
      fun e w' => e = .returned (.string (str (digs b l u))) ∧ Below w.heap.size w w' := by
  subst hv
  subst hlv
  refine (laid75 b l u _ _ _ hb2 hb16 hl hu ?_ ?_).mono ?_
  · have := cell_of_one (heap_alloc_new (w.alloc (.cells #[.int .u64 b] 95)) (.cells #[.int .i64 l] 3))
    rwa [World.size_alloc] at this
  · have := cell_of_one (heap_alloc_new w (.cells #[.int .u64 b] 95))
    exact (World.cell?_of_block (Below.heap_alloc _ _ _ (by simp))).trans this
  · rintro e w' ⟨rfl, n, rfl⟩
    exact ⟨rfl, bel_two _ _ _ _⟩

theorem neg64 (n : Int) (h0 : -9223372036854775808 ≤ n) (hn : n < 0) : IntKind.u64.wrap (-IntKind.u64.wrap n) = (n.natAbs : Int) := by
  simp [IntKind.wrap, IntKind.bits, IntKind.signed]; omega

set_option maxHeartbeats 1000000 in
theorem dec12 (n : Int) (w : World) (h0 : -9223372036854775808 ≤ n) (h1 : n ≤ 9223372036854775807) :
    Calls Try.prog 12 #[.int .i64 n] w fun e w' => e = .returned (.string (str (dec n))) ∧ Below w.heap.size w w' := by
  have hu : n.natAbs < 18446744073709551616 := by omega
  have hlen := digs_len_le (b := 10) (by omega) 20 1 n.natAbs (by omega) (by omega)
  by_cases hn : n < 0
  · have HV := Lib.hid (neg64 n h0 hn)
    have HE : Hid (str [45] ++ str (digs 10 1 n.natAbs) = str (dec n)) := by
      show _ = _
      rw [str_append]; simp [dec, hn]
    go_enter Try.func12, Try.ntmps12
    go_wp2_with (go_at_call 59; refine (laid59 _ _ _).mono ?_; rintro e w' ⟨rfl, rfl⟩)
    refine (laid_two 10 1 n.natAbs w (by omega) (by omega) (by omega) hu _ _ HV.out rfl).mono ?_
    rintro e w' ⟨rfl, hb⟩
    have hsz : 1 + (digs 10 1 n.natAbs).length ≤ 9223372036854775807 := by omega
    go_wp2
    go_ret
    exact ⟨by rw [← HE.out]; rfl, hb⟩
  · have HE : Hid (digs 10 1 n.natAbs = dec n) := by show _ = _; simp [dec, hn]
    go_enter Try.func12, Try.ntmps12
    go_wp2_with (go_at_call 59; refine (laid59 _ _ _).mono ?_; rintro e w' ⟨rfl, rfl⟩)
    refine (laid_two 10 1 n.natAbs w (by omega) (by omega) (by omega) hu _ _ (by omega) rfl).mono ?_
    rintro e w' ⟨rfl, hb⟩
    go_wp2
    go_ret
    exact ⟨by rw [← HE.out]; rfl, hb⟩

set_option maxHeartbeats 1000000 in
theorem hex15 (n l : Int) (w : World) (h0 : -9223372036854775808 ≤ n) (h1 : n ≤ 9223372036854775807) (h2 : -9223372036854775808 ≤ l) (h3 : l ≤ 9223372036854775807) :
    Calls Try.prog 15 #[.int .i64 n, .int .i64 l] w fun e w' => e = .returned (.string (str (hex n l))) ∧ Below w.heap.size w w' := by
  have hu : n.natAbs < 18446744073709551616 := by omega
  by_cases hn : n < 0
  · have HE : Hid (hex n l = []) := by show _ = _; simp [hex, hn]
    go_enter Try.func15, Try.ntmps15
    go_wp2
    go_ret
    exact ⟨by rw [HE.out]; rfl, Below.refl _ _⟩
  · obtain ⟨m, hm⟩ : ∃ m : Nat, m = (min (max l 1) 16).toNat := ⟨_, rfl⟩
    have HE : Hid (digs 16 m n.natAbs = hex n l) := by show _ = _; simp [hex, hn, hm]
    have hmi : min (max l 1) 16 = (m : Int) := by omega
    have hm16 : m ≤ 16 := by omega
    have HM := Lib.hid hm
    clear hm
    go_enter Try.func15, Try.ntmps15
    go_wp2_with fail
    all_goals
      refine (laid59 _ _ _).mono ?_
      rintro e w' ⟨rfl, rfl⟩
      go_wp2_with fail
      refine (laid_two 16 m n.natAbs w (by omega) (by omega) (by omega) hu _ _ (by omega) (by omega)).mono ?_
      rintro e w' ⟨rfl, hb⟩
      go_wp2
      go_ret
      exact ⟨by rw [← HE.out]; rfl, hb⟩

theorem index_d (c : UInt8) (d : Int) (hd : Lib.indexByte dgs c = d) (w : World) :
    Calls Try.prog 61 #[.string ⟨#[48, 49, 50, 51, 52, 53, 54, 55, 56, 57, 65, 66, 67, 68, 69, 70]⟩, .int .u8 c.toNat] w fun e w' => e = .returned (.int .i64 d) ∧ w = w' := by
  refine (index61 _ _ w).mono ?_
  rintro e w' ⟨rfl, rfl⟩
  refine ⟨?_, rfl⟩
  rw [← hd]
  have : (c.toNat : Int).toNat.toUInt8 = c := by simp
  rw [this]; rfl

theorem take_snoc (s : ByteArray) (k : Nat) (h : k < s.size) : s.data.toList.take (k + 1) = s.data.toList.take k ++ [s[k]] := by
  rw [List.take_succ_eq_append_getElem (by simpa using h)]; rfl

theorem unhex_in {s : ByteArray} (h0 : s.toList ≠ []) (h1 : ¬ 15 < s.size) : unhex s.data.toList = match unhexTo s.data.toList with | none => (0, 6) | some u => (u, 0) := by
  unfold unhex
  rw [Lib.toList_data] at h0
  have : s.size ≠ 0 := by
    intro h; apply h0; apply List.length_eq_zero_iff.1; rw [← Lib.size_eq]; exact h
  rw [if_neg (by rw [← Lib.size_eq]; omega)]
  cases unhexTo s.data.toList <;> rfl

theorem unhex_stop {s : ByteArray} {k u : Nat} (h0 : s.toList ≠ []) (h1 : ¬ 15 < s.size) (hk : k < s.size) (hu : unhexTo (s.data.toList.take k) = some u) (hd : Lib.indexByte dgs s[k] < 0) : unhex s.data.toList = (0, 6) := by
  rw [unhex_in h0 h1]
  have h2 : unhexTo (s.data.toList.take (k + 1)) = none := by
    rw [take_snoc s k hk, unhexTo_snoc, hu]; simp [hd]
  have h3 : unhexTo s.data.toList = none := by
    have := unhexTo_none _ (s.data.toList.drop (k + 1)) h2
    rwa [List.take_append_drop] at this
  rw [h3]

theorem unhex_on {s : ByteArray} {k u : Nat} (hk : k < s.size) (hu : unhexTo (s.data.toList.take k) = some u) {d : Nat} (hd : Lib.indexByte dgs s[k] = d) : unhexTo (s.data.toList.take (k + 1)) = some (16 * u + d) := by
  rw [take_snoc s k hk, unhexTo_snoc, hu]
  simp [hd]

theorem unhex_bd {s : ByteArray} {k u : Nat} (hk : k < 15) (hu : unhexTo (s.data.toList.take k) = some u) : u < 72057594037927936 := by
  have h := unhexTo_lt _ _ hu
  have h2 : (s.data.toList.take k).length ≤ 14 := by simp; omega
  have h3 : (16 : Nat) ^ (s.data.toList.take k).length ≤ 16 ^ 14 := Nat.pow_le_pow_right (by omega) h2
  have : (16 : Nat) ^ 14 = 72057594037927936 := by decide
  omega

set_option maxHeartbeats 1000000 in
theorem unhex19 (s : ByteArray) (w : World) :
    Calls Try.prog 19 #[.string s] w fun e w' => e = .returned (.tuple #[.int .i64 (unhex s.data.toList).1, .int .i64 (unhex s.data.toList).2]) ∧ w' = w := by
  by_cases h0 : s.toList = []
  · have HE : Hid (unhex s.data.toList = (0, 6)) := by
      show _ = _
      rw [Lib.toList_data] at h0; rw [h0]; rfl
    go_enter Try.func19, Try.ntmps19
    go_wp2
    go_ret2
    exact ⟨by rw [HE.out]; rfl, rfl⟩
  by_cases h1 : 15 < s.size
  · have HE : Hid (unhex s.data.toList = (0, 6)) := by
      show _ = _
      unfold unhex; rw [if_pos]; rw [← Lib.size_eq]; exact Or.inr h1
    go_enter Try.func19, Try.ntmps19
    go_wp2
    go_ret2
    exact ⟨by rw [HE.out]; rfl, rfl⟩
  · have H0 := Lib.hid h0
    have hE : s.toList.isEmpty = false := by simpa using h0
    go_enter Try.func19, Try.ntmps19
    go_wp2
    go_loop [4, 16] (fun vn vi => ∃ k u : Nat, k ≤ s.size ∧ vi = .int .i64 k ∧ vn = .int .i64 u ∧ Hid (unhexTo (s.data.toList.take k) = some u)) (fun _ vi => s.size - (intOf vi).toNat)
    case atStart => exact ⟨0, 0, Nat.zero_le _, rfl, rfl, by simp [Hid, unhexTo]⟩
    case round =>
      obtain ⟨k, u, hk, rfl, rfl, HU⟩ := hrel
      by_cases hlt : k < s.size
      · have hu := unhex_bd (by omega) HU.out
        obtain ⟨d, hd⟩ : ∃ d, Lib.indexByte dgs s[k] = d := ⟨_, rfl⟩
        have hge := Lib.indexByte_ge dgs s[k]
        have hle := index_le s[k]
        rw [hd] at hge hle
        by_cases hneg : d < 0
        · have HE := Lib.hid (unhex_stop H0.out h1 hlt HU.out (by rw [hd]; exact hneg))
          have HD := Lib.hid hd
          clear hd
          go_wp2_with (go_at_call 61; refine (index_d _ _ HD.out _).mono ?_; rintro e w' ⟨rfl, rfl⟩)
          go_ret2
          exact ⟨by rw [HE.out]; rfl, rfl⟩
        · obtain ⟨d', rfl⟩ : ∃ d' : Nat, d = d' := ⟨d.toNat, by omega⟩
          have HE := Lib.hid (unhex_on hlt HU.out hd)
          have HD := Lib.hid hd
          clear hd
          go_wp2_with (go_at_call 61; refine (index_d _ _ HD.out _).mono ?_; rintro e w' ⟨rfl, rfl⟩)
          go_round
          case rel => exact ⟨k + 1, 16 * u + d', by omega, by go_num, by go_num, HE⟩
          case measure => simp [intOf]; omega
      · have HE : Hid (unhex s.data.toList = ((u : Int), 0)) := by
          show _ = _
          rw [unhex_in H0.out h1]
          have := HU.out
          rw [List.take_of_length_le (by rw [← Lib.size_eq]; omega)] at this
          rw [this]
        go_wp2
        go_ret2
        exact ⟨by rw [HE.out]; rfl, rfl⟩

theorem below_drawn {w w' : World} (h : Drawn0 w w') : Below w.heap.size w w' := h.below

theorem cut_f (s : ByteArray) (hs : s.size ≤ 9223372036854775807) : PNumHexes.strings_CutPrefix.f s ⟨#[45]⟩ = some (str (cutM s.data.toList).1, (cutM s.data.toList).2) := by
  have h1 : (⟨#[45]⟩ : ByteArray).size = 1 := rfl
  unfold PNumHexes.strings_CutPrefix.f PNumHexes.stringslite_CutPrefix.f PNumHexes.stringslite_HasPrefix.f
  rw [h1, Lib.size_eq]
  have e0 : ∀ b, s.extract 0 b = str (s.data.toList.take b) := fun b => by rw [Lib.extract_eq]; rfl
  have e1 : ∀ a b, s.extract a b = str ((s.data.toList.drop a).take (b - a)) := fun a b => by rw [Lib.extract_eq]; rfl
  cases hl : s.data.toList with
  | nil =>
    simp only [List.length_nil]
    rw [if_neg (by omega)]
    simp only [Option.bind_some, Bool.false_eq_true, if_false, cutM]
    rw [← hl, str_of]
  | cons c t =>
    have hsz : s.size = t.length + 1 := by rw [Lib.size_eq, hl]; rfl
    simp only [List.length_cons]
    rw [if_pos (by omega), if_pos (by omega), if_pos (by omega)]
    simp only [Option.bind_some]
    rw [show (((1 : Nat) : Int)).toNat = 1 from rfl, e0, hl, Lib.toList_data, str_toList, Lib.toList_data]
    by_cases hc : c = 45
    · subst hc
      rw [if_pos (by rfl), if_pos (by omega), if_pos (by omega)]
      simp only [Option.bind_some, cutM, if_true]
      rw [e1, hl]
      simp
    · rw [if_neg (by simpa using hc)]
      simp only [Option.bind_some, cutM, if_neg hc]
      rw [← hl, str_of]

theorem cut60 (s : ByteArray) (w : World) (hs : s.size ≤ 9223372036854775807) :
    Calls Try.prog 60 #[.string s, .string ⟨#[45]⟩] w fun e w' => e = .returned (.tuple #[.string (str (cutM s.data.toList).1), .bool (cutM s.data.toList).2]) ∧ ∃ n, w' = w.drewN n :=
  (PNumHexes.strings_CutPrefix.calls _ _ _ _ w (cut_f s hs)).mono fun _ _ ⟨h, hb⟩ => ⟨h, hb.out⟩

theorem cut_len (s : List UInt8) : (cutM s).1.length ≤ s.length := by
  cases s with
  | nil => simp [cutM]
  | cons c t =>
    unfold cutM
    by_cases h : c = 45
    · simp [h]
    · simp [h]

theorem u64w (n : Int) : IntKind.u64.wrap n = n % 18446744073709551616 := by simp [IntKind.wrap, IntKind.bits, IntKind.signed]

theorem vstep_int (u d : Nat) (c : UInt8) (hd : (Lib.indexByte dgs c).toNat = d) :
    IntKind.u64.wrap (IntKind.u64.wrap (10 * (u : Int)) + (d : Int)) = ((vstep u c : Nat) : Int) := by
  rw [u64w, u64w]
  unfold vstep; rw [hd]
  omega

theorem vstep_int0 (u : Nat) (c : UInt8) (hd : (Lib.indexByte dgs c).toNat = 0) :
    IntKind.u64.wrap (IntKind.u64.wrap (10 * (u : Int))) = ((vstep u c : Nat) : Int) := by
  rw [u64w, u64w]
  unfold vstep; rw [hd]
  omega

theorem bel_drewN (w : World) (n : Nat) : Below w.heap.size w (w.drewN n) := ⟨rfl, rfl, rfl, Nat.le_refl _, fun _ _ => rfl⟩

theorem vw_on {z : ByteArray} {t : List UInt8} (hz : z.data.toList = t) {k : Nat} (hk : k < z.size) : vw (t.take (k + 1)) = vstep (vw (t.take k)) z[k] := by
  rw [← hz, take_snoc z k hk, vw_snoc]

theorem vw_lt (l : List UInt8) : vw l < 18446744073709551616 := by
  rcases List.eq_nil_or_concat l with rfl | ⟨l', c, rfl⟩
  · decide
  · rw [List.concat_eq_append, vw_snoc]; exact vstep_lt _ _

theorem wrap_pos (u : Nat) : wrap64 (u : Int) = sign64 u := by simp only [wrap64, sign64]
theorem wrap_neg (u : Nat) : wrap64 (IntKind.u64.wrap (-(u : Int))) = sign64 (-(u : Int)) := by
  rw [u64w]; unfold wrap64 sign64; omega

theorem undec_yes {s : List UInt8} (h : dec (tried s) = s) : undec s = (tried s, 0) := by unfold undec; rw [if_pos h]
theorem undec_no {s : List UInt8} (h : ¬ dec (tried s) = s) : undec s = (0, 6) := by unfold undec; rw [if_neg h]

theorem tried_true {s t : List UInt8} (h : cutM s = (t, true)) : tried s = sign64 (-(vw (t.take 20) : Int)) := by
  have e1 : (cutM s).1 = t := by rw [h]
  have e2 : (cutM s).2 = true := by rw [h]
  unfold tried; rw [e1, e2, if_pos rfl]
theorem tried_false {s t : List UInt8} (h : cutM s = (t, false)) : tried s = sign64 (vw (t.take 20) : Int) := by
  have e1 : (cutM s).1 = t := by rw [h]
  have e2 : (cutM s).2 = false := by rw [h]
  unfold tried; rw [e1, e2, if_neg (by decide)]

theorem take_end {z : ByteArray} {t : List UInt8} (hz : z.data.toList = t) {k : Nat} (hk : k ≤ z.size) (hk2 : k ≤ 20) (h : ¬ (k < z.size ∧ k < 20)) : t.take k = t.take 20 := by
  have hl : t.length = z.size := by rw [← hz, ← Lib.size_eq]
  by_cases hk20 : k = 20
  · rw [hk20]
  · rw [List.take_of_length_le (by omega), List.take_of_length_le (by omega)]

set_option maxHeartbeats 2000000 in
theorem undec13 (s : ByteArray) (w : World) (hs : s.size ≤ 140737488351232) :
    Calls Try.prog 13 #[.string s] w fun e w' => e = .returned (.tuple #[.int .i64 (undec s.data.toList).1, .int .i64 (undec s.data.toList).2]) ∧ Below w.heap.size w w' := by
  obtain ⟨t, b, ht⟩ : ∃ t b, cutM s.data.toList = (t, b) := ⟨_, _, rfl⟩
  have htl : t.length ≤ 140737488351232 := by
    have := cut_len s.data.toList; rw [ht, ← Lib.size_eq] at this; simp at this; omega
  have HT := Lib.hid ht
  obtain ⟨z, hz⟩ : ∃ z, z = str t := ⟨_, rfl⟩
  have hzl : z.size ≤ 140737488351232 := by rw [hz]; simpa using htl
  have hcut : ∀ w, Calls Try.prog 60 #[.string s, .string ⟨#[45]⟩] w fun e w' => e = .returned (.tuple #[.string z, .bool b]) ∧ ∃ n, w' = w.drewN n := by
    intro w
    have := cut60 s w (by omega)
    rw [ht] at this
    rw [hz]; exact this
  obtain ⟨n, hd⟩ : ∃ n, n = tried s.data.toList := ⟨_, rfl⟩
  have hnb := tried_bd s.data.toList
  rw [← hd] at hnb
  have HDN := Lib.hid hd
  clear hd
  have HZ : Hid (z.data.toList = t) := by show _ = _; rw [hz]; simp
  have HC := Lib.hid hcut
  clear ht hcut hz htl
  go_enter Try.func13, Try.ntmps13
  go_wp2_with (go_at_call 60; refine (HC.out _).mono ?_; rintro e w' ⟨rfl, nd, rfl⟩)
  all_goals
    go_loop [6, 17] (fun vu vi => ∃ k u : Nat, k ≤ z.size ∧ k ≤ 20 ∧ vi = .int .i64 k ∧ vu = .int .u64 u ∧ u < 18446744073709551616 ∧ Hid (u = vw (t.take k))) (fun _ vi => 20 - (intOf vi).toNat)
    case atStart => exact ⟨0, 0, by omega, by omega, rfl, rfl, by omega, rfl⟩
    case round =>
      obtain ⟨k, u, hk, hk20, rfl, rfl, hu, HU⟩ := hrel
      by_cases hlt : k < z.size ∧ k < 20
      · obtain ⟨hlt, hlt20⟩ := hlt
        obtain ⟨d, hd⟩ : ∃ d, Lib.indexByte dgs z[k] = d := ⟨_, rfl⟩
        have hge := Lib.indexByte_ge dgs z[k]
        have hle := index_le z[k]
        rw [hd] at hge hle
        obtain ⟨d', hd'⟩ : ∃ d' : Nat, d.toNat = d' := ⟨_, rfl⟩
        have HV := Lib.hid (vstep_int u d' z[k] (by rw [hd]; exact hd'))
        have HS := Lib.hid (vw_on HZ.out hlt)
        have HD := Lib.hid hd
        clear hd
        by_cases hneg : d < 0
        · obtain rfl : d' = 0 := by omega
          clear hd'
          have HV := Lib.hid (vstep_int0 u z[k] (by rw [HD.out]; omega))
          go_wp2_with (go_at_call 61; refine (index_d _ _ HD.out _).mono ?_; rintro e w' ⟨rfl, rfl⟩)
          go_round
          case rel => exact ⟨k + 1, vstep u z[k], by omega, by omega, by go_num, congrArg (Value.int .u64) HV.out, vstep_lt _ _, by show _ = _; rw [HS.out, ← HU.out]⟩
          case measure => simp [intOf]; omega
        · obtain rfl : d = d' := by omega
          clear hd'
          go_wp2_with (go_at_call 61; refine (index_d _ _ HD.out _).mono ?_; rintro e w' ⟨rfl, rfl⟩)
          go_round
          case rel => exact ⟨k + 1, vstep u z[k], by omega, by omega, by go_num, congrArg (Value.int .u64) HV.out, vstep_lt _ _, by show _ = _; rw [HS.out, ← HU.out]⟩
          case measure => simp [intOf]; omega
      · have HU2 : Hid (u = vw (t.take 20)) := by show _ = _; rw [HU.out, take_end HZ.out hk hk20 hlt]
        have HD := HDN
        cases b with
        | true =>
          have HN : Hid (wrap64 (IntKind.u64.wrap (-(u : Int))) = n) := by show _ = _; rw [wrap_neg, HU2.out, HD.out, tried_true HT.out]
          by_cases heq : dec n = s.data.toList
          · have htest : ((str (dec n)).toList == s.toList) = true := by rw [Lib.toList_data, Lib.toList_data, str_toList]; simpa using heq
            have HE := Lib.hid (undec_yes (s := s.data.toList) (by rw [← HD.out]; exact heq))
            clear heq
            go_wp2_with fail
            rw [HN.out]
            refine (dec12 n _ hnb.1 hnb.2).mono ?_
            rintro e w' ⟨rfl, hb⟩
            go_wp2
            go_ret2
            exact ⟨by rw [HE.out, ← HD.out]; rfl, (bel_drewN w nd).trans hb⟩
          · have htest : ((str (dec n)).toList == s.toList) = false := by rw [Lib.toList_data, Lib.toList_data, str_toList]; simpa using heq
            have HE := Lib.hid (undec_no (s := s.data.toList) (by rw [← HD.out]; exact heq))
            clear heq
            go_wp2_with fail
            rw [HN.out]
            refine (dec12 n _ hnb.1 hnb.2).mono ?_
            rintro e w' ⟨rfl, hb⟩
            go_wp2
            go_ret2
            exact ⟨by rw [HE.out]; rfl, (bel_drewN w nd).trans hb⟩
        | false =>
          have HN : Hid (wrap64 (u : Int) = n) := by show _ = _; rw [wrap_pos, HU2.out, HD.out, tried_false HT.out]
          by_cases heq : dec n = s.data.toList
          · have htest : ((str (dec n)).toList == s.toList) = true := by rw [Lib.toList_data, Lib.toList_data, str_toList]; simpa using heq
            have HE := Lib.hid (undec_yes (s := s.data.toList) (by rw [← HD.out]; exact heq))
            clear heq
            go_wp2_with fail
            rw [HN.out]
            refine (dec12 n _ hnb.1 hnb.2).mono ?_
            rintro e w' ⟨rfl, hb⟩
            go_wp2
            go_ret2
            exact ⟨by rw [HE.out, ← HD.out]; rfl, (bel_drewN w nd).trans hb⟩
          · have htest : ((str (dec n)).toList == s.toList) = false := by rw [Lib.toList_data, Lib.toList_data, str_toList]; simpa using heq
            have HE := Lib.hid (undec_no (s := s.data.toList) (by rw [← HD.out]; exact heq))
            clear heq
            go_wp2_with fail
            rw [HN.out]
            refine (dec12 n _ hnb.1 hnb.2).mono ?_
            rintro e w' ⟨rfl, hb⟩
            go_wp2
            go_ret2
            exact ⟨by rw [HE.out]; rfl, (bel_drewN w nd).trans hb⟩

end Go.Proofs.Ytopmenioioljoaa.NumW
