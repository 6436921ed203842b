/-
  key.Check: it tells whether a key may be; nothing that was there is changed.
-/
import Derived.Test.YtopmenioioljoaaPMacroDoesx3
import Derived.Test.YtopmenioioljoaaBase
import Derived.Lib.Hide
import Derived.Lib.Strings
namespace Go.Proofs.Ytopmenioioljoaa.KeyW
open Go.RowKit Go.Proofs.Ytopmenioioljoaa.Base Go.Proofs.YtopmenioioljoaaW.PrintWords Go.Proofs.Ytopmenioioljoaa.PMacroDoes

/-- A named key's closure. -/
theorem row89 (k v kk vv : Int) (n e : ByteArray) (b o : Nat) (w : World) (ck : w.cell? ⟨b, o, none⟩ = some (.int .i64 kk)) (cv : w.cell? ⟨b, o + 1, none⟩ = some (.int .i64 vv)) (hb : b < w.heap.size) :
    Calls Try.prog 89 #[.agg #[.int .i64 k, .int .i64 v, .string n, .string e], .pointer (some ⟨b, o, none⟩)] w fun e' w' => e' = .returned (.bool (k == kk && v == vv)) ∧ Below w.heap.size w w' := by
  by_cases h : k = kk
  · have h1 : (k == kk) = true := by simpa using h
    have H := Lib.hid h
    clear h
    go_enter Try.func89, Try.ntmps89
    go_wp2
    go_ret
    exact ⟨by rw [h1]; simp, balloc _ _⟩
  · have h1 : (k == kk) = false := by simpa using h
    go_enter Try.func89, Try.ntmps89
    go_wp2
    go_ret
    exact ⟨by rw [h1]; simp, balloc _ _⟩

def hit (kk vv : Int) (x : S116) : Bool := x.f0 == kk && x.f1 == vv

theorem idx94 (kk vv : Int) (b o : Nat) (A : Option Addr) (c : Nat) (l : List S116) (hl : l.length ≤ 1000) (w : World) (hC : Kd.C k116 w A l.length l)
    (ck : w.cell? ⟨b, o, none⟩ = some (.int .i64 kk)) (cv : w.cell? ⟨b, o + 1, none⟩ = some (.int .i64 vv)) (hb : b < w.heap.size) :
    Calls Try.prog 94 #[.slice A l.length c, .func (.func 89) #[] #[.pointer (some ⟨b, o, none⟩)]] w fun e' w' =>
      (∃ i : Int, e' = .returned (.int .i64 i) ∧ (i < 0 ∧ i = -1 ∧ l.any (hit kk vv) = false ∨ 0 ≤ i ∧ i < l.length ∧ l.any (hit kk vv) = true)) ∧ Below w.heap.size w w' := by
  go_enter Try.func94, Try.ntmps94
  go_wp2
  go_loopw [8] (fun vi wr => ∃ k : Nat, k ≤ l.length ∧ vi = .int .i64 k ∧ Hid ((l.take k).any (hit kk vv) = false) ∧ Below w.heap.size w wr) (fun vi _ => l.length - (intOf vi).toNat)
  case atStart => exact ⟨0, Nat.zero_le _, rfl, rfl, Below.refl _ _⟩
  case round =>
    obtain ⟨k, hk, rfl, HT, hbl⟩ := hrel
    have ck' := (hbl.cell (p := ⟨b, o, none⟩) hb).trans ck
    have cv' := (hbl.cell (p := ⟨b, o + 1, none⟩) hb).trans cv
    have hb' : b < wr.heap.size := Nat.lt_of_lt_of_le hb hbl.size
    by_cases hlt : k < l.length
    · obtain ⟨ad, e0, h0, h1, h2, h3⟩ := at_T116 (Kd.C_below hC hbl) k (by omega) (by omega)
      simp only [Int.toNat_natCast] at h0 h1 h2 h3
      obtain ⟨x, hx⟩ : ∃ x, rd_T116 l k = x := ⟨_, rfl⟩
      rw [hx] at h0 h1 h2 h3
      have hx2 : l[k] = x := by rw [← hx]; simp [rd_T116, List.getD_eq_getElem?_getD, hlt]
      have hts : (l.take (k + 1)).any (hit kk vv) = ((l.take k).any (hit kk vv) || hit kk vv x) := by
        rw [List.take_succ_eq_append_getElem hlt, List.any_append, hx2]; simp
      have HX := Lib.hid hts
      clear hts hx hx2
      subst e0
      go_wp2_with fail
      refine (row89 _ _ kk vv _ _ b o _ ck' cv' hb').mono ?_
      rintro e' w1 ⟨rfl, hb1⟩
      cases hh : hit kk vv x with
      | true =>
        have hh2 : (x.f0 == kk && x.f1 == vv) = true := hh
        have HY : Hid (l.any (hit kk vv) = true) := by
          show _ = _
          rw [← List.take_append_drop (k + 1) l, List.any_append, HX.out, hh]; simp
        rw [hh2]
        clear hh hh2
        go_wp2
        go_ret
        exact ⟨⟨k, rfl, Or.inr ⟨by omega, by omega, HY.out⟩⟩, hbl.trans (hb1.mono hbl.size)⟩
      | false =>
        have hh2 : (x.f0 == kk && x.f1 == vv) = false := hh
        have HY : Hid ((l.take (k + 1)).any (hit kk vv) = false) := by
          show _ = _
          rw [HX.out, HT.out, hh]; rfl
        rw [hh2]
        clear hh hh2
        go_wp2
        go_roundw
        case rel => exact ⟨k + 1, by omega, by go_num, HY, hbl.trans (hb1.mono hbl.size)⟩
        case measure => simp [intOf]; omega
    · go_wp2
      go_ret
      exact ⟨⟨-1, rfl, Or.inl ⟨by omega, rfl, by have := HT.out; rwa [List.take_of_length_le (by omega)] at this⟩⟩, hbl⟩

def tbl : List S116 := [⟨4, 13, ⟨#[82, 69, 84]⟩, ⟨#[13]⟩⟩, ⟨4, 10, ⟨#[76, 70, 68]⟩, ⟨#[10]⟩⟩, ⟨5, 0, ⟨#[69, 83, 67]⟩, ⟨#[27]⟩⟩, ⟨6, 0, ⟨#[68, 69, 76]⟩, ⟨#[127]⟩⟩, ⟨7, 0, ⟨#[85, 80]⟩, ⟨#[27, 91, 65]⟩⟩, ⟨8, 0, ⟨#[68, 79, 87, 78]⟩, ⟨#[27, 91, 66]⟩⟩, ⟨9, 0, ⟨#[82, 73, 71, 72, 84]⟩, ⟨#[27, 91, 67]⟩⟩, ⟨10, 0, ⟨#[76, 69, 70, 84]⟩, ⟨#[27, 91, 68]⟩⟩, ⟨11, 0, ⟨#[72, 79, 77, 69]⟩, ⟨#[27, 91, 72]⟩⟩, ⟨12, 0, ⟨#[69, 78, 68]⟩, ⟨#[27, 91, 70]⟩⟩, ⟨13, 0, ⟨#[68, 69, 76, 69, 84, 69]⟩, ⟨#[27, 91, 51, 126]⟩⟩, ⟨14, 0, ⟨#[80, 71, 85, 80]⟩, ⟨#[27, 91, 53, 126]⟩⟩, ⟨14, 1, ⟨#[80, 71, 68, 78]⟩, ⟨#[27, 91, 54, 126]⟩⟩]

theorem table93 (w : World) : Calls Try.prog 93 #[] w fun e w' => ∃ A c, e = .returned (.slice A tbl.length c) ∧ Kd.C k116 w' A tbl.length tbl ∧ Below w.heap.size w w' := by
  refine (key_table.calls tbl w rfl).mono ?_
  rintro e w' ⟨v, rfl, hR, hb⟩
  obtain ⟨A, c, rfl, _, hC⟩ := Kd.R_reads hR
  exact ⟨A, c, rfl, hC, hb⟩

/-- Is there a key of a name with this kind and value? -/
def named (kk vv : Int) : Bool := tbl.any (hit kk vv)

theorem blk4 {w : World} {B t : Nat} {c0 c1 c2 c3 : Value} (h : w.heap[B]? = some (.cells #[c0, c1, c2, c3] t (0, 0))) :
    w.cell? ⟨B, 0, none⟩ = some c0 ∧ w.cell? ⟨B, 1, none⟩ = some c1 ∧ w.cell? ⟨B, 2, none⟩ = some c2 ∧ w.cell? ⟨B, 3, none⟩ = some c3 ∧
    w.frozen? ⟨B, 0, none⟩ = false ∧ w.frozen? ⟨B, 1, none⟩ = false ∧ w.frozen? ⟨B, 2, none⟩ = false ∧ w.frozen? ⟨B, 3, none⟩ = false := by
  refine ⟨?_, ?_, ?_, ?_, ?_, ?_, ?_, ?_⟩ <;> simp [World.cell?, World.frozen?, h]

theorem find88 (kk vv : Int) (b o : Nat) (w : World)
    (ck : w.cell? ⟨b, o, none⟩ = some (.int .i64 kk)) (cv : w.cell? ⟨b, o + 1, none⟩ = some (.int .i64 vv)) (hb : b < w.heap.size) :
    Calls Try.prog 88 #[.func (.func 89) #[] #[.pointer (some ⟨b, o, none⟩)]] w fun e' w' =>
      (∃ (x y : Int) (n e : ByteArray), e' = .returned (.tuple #[.agg #[.int .i64 x, .int .i64 y, .string n, .string e], .bool (named kk vv)])) ∧ Below w.heap.size w w' := by
  have hl : tbl.length = 13 := rfl
  obtain ⟨T, hT⟩ : ∃ T, T = tbl := ⟨_, rfl⟩
  have HT := Lib.hid hT
  have htab : ∀ w : World, Calls Try.prog 93 #[] w fun e w' => ∃ A c, e = .returned (.slice A T.length c) ∧ Kd.C k116 w' A T.length T ∧ Below w.heap.size w w' := by rw [hT]; exact table93
  rw [← hT] at hl
  have HL := Lib.hid hl
  have HTab := Lib.hid htab
  clear hT hl htab
  go_enter Try.func88, Try.ntmps88
  go_wp2_with fail
  refine (HTab.out _).mono ?_
  rintro e w1 ⟨A, c, rfl, hC, hb1⟩
  have hb0 := (balloc w (.cells #[.int .i64 0, .int .i64 0, .string ⟨#[]⟩, .string ⟨#[]⟩] 116))
  have hb01 := btr hb0 hb1
  have hblk : w1.heap[w.heap.size]? = some (.cells #[.int .i64 0, .int .i64 0, .string ⟨#[]⟩, .string ⟨#[]⟩] 116 (0, 0)) := (hb1.block _ (by simp)).trans (heap_alloc_new _ _)
  have hlt1 : w.heap.size < w1.heap.size := lt_of_block hblk
  have ck1 := (hb01.cell (p := ⟨b, o, none⟩) hb).trans ck
  have cv1 := (hb01.cell (p := ⟨b, o + 1, none⟩) hb).trans cv
  have HB := Lib.hid hblk
  have HC := Lib.hid hC
  clear hblk hC
  go_wp2_with fail
  refine (idx94 kk vv b o A c T (by rw [HL.out]; omega) _ HC.out ck1 cv1 (by omega)).mono ?_
  rintro e' w2 ⟨⟨i, rfl, hi⟩, hb2⟩
  have hblk2 : w2.heap[w.heap.size]? = some (.cells #[.int .i64 0, .int .i64 0, .string ⟨#[]⟩, .string ⟨#[]⟩] 116 (0, 0)) := (hb2.block _ hlt1).trans HB.out
  obtain ⟨q0, q1, q2, q3, f0, f1, f2, f3⟩ := blk4 hblk2
  have hb02 := btr hb01 hb2
  rcases hi with ⟨hneg, rfl, hany⟩ | ⟨hi0, hi1, hany⟩
  · have HN : Hid (named kk vv = false) := by show _ = _; unfold named; rw [← HT.out]; exact hany
    clear hany
    go_wp2
    refine bodyPost_ret (v := .tuple #[.agg #[.int .i64 0, .int .i64 0, .string ⟨#[]⟩, .string ⟨#[]⟩], .bool false]) (by simp [results, Try.results88, go_sem, q0, q1, q2, q3]) rfl ⟨⟨_, _, _, _, by rw [HN.out]⟩, ?_⟩
    exact (((hb02.setCell (by simp) _).setCell (by simp) _).setCell (by simp) _).setCell (by simp) _
  · have HN : Hid (named kk vv = true) := by show _ = _; unfold named; rw [← HT.out]; exact hany
    clear hany
    obtain ⟨ad, e0, h0, h1, h2, h3⟩ := at_T116 (Kd.C_below HC.out hb2) i (by omega) (by omega)
    subst e0
    go_wp2
    refine bodyPost_ret (v := .tuple #[.agg #[_, _, _, _], .bool true]) (by simp [results, Try.results88, go_sem, q0, q1, q2, q3]; exact ⟨rfl, rfl, rfl, rfl⟩) rfl ⟨⟨_, _, _, _, by rw [HN.out]⟩, ?_⟩
    exact (((hb02.setCell (by simp) _).setCell (by simp) _).setCell (by simp) _).setCell (by simp) _

theorem of80 (k v : Int) (t : ByteArray) (c : Bool) (w : World) :
    Calls Try.prog 80 #[.agg #[.int .i64 k, .int .i64 v, .string t, .bool c]] w fun e' w' => (∃ (x y : Int) (n e : ByteArray), e' = .returned (.tuple #[.agg #[.int .i64 x, .int .i64 y, .string n, .string e], .bool (named k v)])) ∧ Below w.heap.size w w' := by
  have hmf : ∀ (fn : Fn) (first cap : Array Value) (w : World), (Instr.makeFunc fn first cap).run Try.prog w = .ok (.func fn first cap) w := fun _ _ _ _ => rfl
  have hb0 := balloc w (.cells #[.int .i64 k, .int .i64 v, .string t, .bool c] 41)
  have hb1 := balloc (w.alloc (.cells #[.int .i64 k, .int .i64 v, .string t, .bool c] 41)) (.cells #[.int .i64 0, .int .i64 0, .string ⟨#[]⟩, .string ⟨#[]⟩] 116)
  have hb01 := btr hb0 hb1
  go_enter Try.func80, Try.ntmps80
  go_wp2_with fail
  refine (find88 k v w.heap.size 0 _ (by go_simp) (by go_simp) (by simp; omega)).mono ?_
  rintro e' w2 ⟨⟨x, y, n, e, rfl⟩, hb2⟩
  have hblk2 : w2.heap[w.heap.size + 1]? = some (.cells #[.int .i64 0, .int .i64 0, .string ⟨#[]⟩, .string ⟨#[]⟩] 116 (0, 0)) := (hb2.block _ (by simp)).trans (by have := heap_alloc_new (w.alloc (.cells #[.int .i64 k, .int .i64 v, .string t, .bool c] 41)) (.cells #[.int .i64 0, .int .i64 0, .string ⟨#[]⟩, .string ⟨#[]⟩] 116); rwa [World.size_alloc] at this)
  obtain ⟨q0, q1, q2, q3, f0, f1, f2, f3⟩ := blk4 hblk2
  have hb02 := btr hb01 hb2
  go_wp2
  refine bodyPost_ret (v := .tuple #[.agg #[_, _, _, _], .bool (named k v)]) (by simp [results, Try.results80, go_sem, q0, q1, q2, q3]; exact ⟨rfl, rfl, rfl, rfl⟩) rfl ⟨⟨_, _, _, _, rfl⟩, ?_⟩
  exact (((hb02.setCell (by simp) _).setCell (by simp) _).setCell (by simp) _).setCell (by simp) _

def right (v : Int) : Bool := decide (0 ≤ v ∧ v ≤ 1114111 ∧ (v < 55296 ∨ 57343 < v) ∨ 1114240 ≤ v ∧ v ≤ 1114367)
def ctl (v : Int) : Bool := decide (0 ≤ v ∧ v < 32 ∧ v ≠ 10 ∧ v ≠ 13 ∧ v ≠ 27)

theorem right_f (v : Int) : utf_Right.f v = some (right v) := by
  have h : utf_point.f v = some (decide (0 ≤ v ∧ v ≤ 1114111 ∧ (v < 55296 ∨ 57343 < v))) := by
    unfold utf_point.f
    split
    · split
      · split
        · exact congrArg some (by rw [eq_comm, decide_eq_true_eq]; omega)
        · exact congrArg some (by rw [decide_eq_decide]; omega)
      · exact congrArg some (by rw [eq_comm, decide_eq_false_iff_not]; omega)
    · exact congrArg some (by rw [eq_comm, decide_eq_false_iff_not]; omega)
  unfold utf_Right.f right
  rw [h]
  simp only [Option.bind_some, decide_eq_true_eq]
  split
  · exact congrArg some (by rw [eq_comm, decide_eq_true_eq]; omega)
  · split
    · exact congrArg some (by rw [decide_eq_decide]; omega)
    · exact congrArg some (by rw [eq_comm, decide_eq_false_iff_not]; omega)

theorem ctl_f (v : Int) : key_control.f v = some (ctl v) := by
  unfold key_control.f ctl
  split
  · split
    · split
      · exact congrArg some (by rw [eq_comm, decide_eq_false_iff_not]; omega)
      · split
        · exact congrArg some (by rw [eq_comm, decide_eq_false_iff_not]; omega)
        · exact congrArg some (by
            by_cases h : v = 27
            · have : (v != 27) = false := by simpa using h
              rw [this, eq_comm, decide_eq_false_iff_not]; omega
            · have : (v != 27) = true := by simpa using h
              rw [this, eq_comm, decide_eq_true_eq]; omega)
    · exact congrArg some (by rw [eq_comm, decide_eq_false_iff_not]; omega)
  · exact congrArg some (by rw [eq_comm, decide_eq_false_iff_not]; omega)

theorem right78 (v : Int) (b : Bool) (h : right v = b) (w : World) : Calls Try.prog 78 #[.int .i64 v] w fun e w' => e = .returned (.bool b) ∧ ∃ n, w' = w.drewN n :=
  (utf_Right.calls v b w (by rw [right_f, h])).mono fun _ _ ⟨h, hb⟩ => ⟨h, hb.out⟩
theorem ctl79 (v : Int) (b : Bool) (h : ctl v = b) (w : World) : Calls Try.prog 79 #[.int .i64 v] w fun e w' => e = .returned (.bool b) ∧ ∃ n, w' = w.drewN n :=
  (key_control.calls v b w (by rw [ctl_f, h])).mono fun _ _ ⟨h, hb⟩ => ⟨h, hb.out⟩

/-- May a key be, as far as its kind and value go? -/
def fit (k v : Int) : Bool :=
  if k = 1 then right v && decide (32 ≤ v) && decide (v ≠ 127)
  else if k = 2 then ctl v
  else if k = 3 then ctl v || decide (32 ≤ v ∧ v ≤ 127)
  else named k v
/-- May a key be? -/
def may (k v : Int) (t : ByteArray) (c : Bool) : Bool :=
  if k = 15 then decide (v = 0 ∧ t.size ≤ 65536) else fit k v && t.toList.isEmpty && !c
def ok (b : Bool) : Int := if b then 0 else 2

set_option maxHeartbeats 4000000 in
theorem check66 (k v : Int) (t : ByteArray) (c : Bool) (w : World) (ht : t.size ≤ 9223372036854775807) :
    Calls Try.prog 66 #[.agg #[.int .i64 k, .int .i64 v, .string t, .bool c]] w fun e w' => e = .returned (.int .i64 (ok (may k v t c))) ∧ Below w.heap.size w w' := by
  have hbA := balloc w (.cells #[.int .i64 k, .int .i64 v, .string t, .bool c] 41)
  by_cases k15 : k = 15
  · subst k15
    go_enter Try.func66, Try.ntmps66
    go_wp2
    all_goals
      go_ret
      refine ⟨?_, balloc _ _⟩
      simp [ok, may, *]
    all_goals omega
  · by_cases k1 : k = 1
    · subst k1
      cases hr : right v
      all_goals
        have HR := Lib.hid hr
        clear hr
        go_enter Try.func66, Try.ntmps66
        go_wp2_with (go_at_call 78; refine (right78 _ _ HR.out _).mono ?_; rintro e w' ⟨rfl, nd, rfl⟩)
        all_goals
          go_ret
          refine ⟨?_, btr (balloc _ _) (bdrewN _ _)⟩
          simp [ok, may, fit, HR.out, *]
        all_goals first | omega | simp_all
    · by_cases k2 : k = 2
      · subst k2
        cases hr : ctl v
        all_goals
          have HR := Lib.hid hr
          clear hr
          go_enter Try.func66, Try.ntmps66
          go_wp2_with (go_at_call 79; refine (ctl79 _ _ HR.out _).mono ?_; rintro e w' ⟨rfl, nd, rfl⟩)
          all_goals
            go_ret
            refine ⟨?_, btr (balloc _ _) (bdrewN _ _)⟩
            simp [ok, may, fit, HR.out, *]
          all_goals first | omega | simp_all
      · by_cases k3 : k = 3
        · subst k3
          cases hr : ctl v
          all_goals
            have HR := Lib.hid hr
            clear hr
            go_enter Try.func66, Try.ntmps66
            go_wp2_with (go_at_call 79; refine (ctl79 _ _ HR.out _).mono ?_; rintro e w' ⟨rfl, nd, rfl⟩)
            all_goals
              go_ret
              refine ⟨?_, btr (balloc _ _) (bdrewN _ _)⟩
              simp [ok, may, fit, HR.out, *]
            all_goals first | omega | simp_all
        · have e1 : (k == 1) = false := by simpa using k1
          have e2 : (k == 2) = false := by simpa using k2
          have e3 : (k == 3) = false := by simpa using k3
          have e15 : (k == 15) = false := by simpa using k15
          cases hr : named k v
          all_goals
            have HR := Lib.hid hr
            clear hr
            go_enter Try.func66, Try.ntmps66
            go_wp2_with fail
            refine (of80 k v t c _).mono ?_
            rintro e w' ⟨⟨x, y, n, e, rfl⟩, hb⟩
            rw [HR.out]
            have q2 : w'.cell? ⟨w.heap.size, 2, none⟩ = some (.string t) := (hb.cell (p := ⟨w.heap.size, 2, none⟩) (by simp)).trans (by go_simp)
            have q3 : w'.cell? ⟨w.heap.size, 3, none⟩ = some (.bool c) := (hb.cell (p := ⟨w.heap.size, 3, none⟩) (by simp)).trans (by go_simp)
            go_wp2
            all_goals
              go_ret
              refine ⟨?_, btr hbA hb⟩
              simp [ok, may, fit, HR.out, *]

end Go.Proofs.Ytopmenioioljoaa.KeyW
