/-
  THE GAP LAWS: texts GapZ, GapAwake, GapSign in one.
-/
import Derived.Test.YtopmenioioljoaaGg3
import Derived.Test.YtopmenioioljoaaPGapDoesx3
import Derived.Test.YtopmenioioljoaaArgs
/-
  THE REFERENCE OF THE GAP LAWS: what it answers; rows that are only read; a line of the reference.
-/
namespace Go.Proofs.Ytopmenioioljoaa.GapW
open Go.RowKit Go.Proofs.Ytopmenioioljoaa.Base Go.Proofs.YtopmenioioljoaaW.PrintWords Go.Proofs.YtopmenioioljoaaW.PrintLast Go.Proofs.YtopmenioioljoaaW.PrintMore Go.Proofs.Ytopmenioioljoaa.PGapDoes Go.Proofs.Ytopmenioioljoaa.CountW

theorem w64 {x : Int} (h0 : -9223372036854775808 ≤ x) (h1 : x ≤ 9223372036854775807) : wrap64 x = x := by unfold wrap64; omega

/-! ### Rows that are only read -/
structure Src (w : World) (A : Option Addr) (c : Nat) (xs : List S82) : Prop where
  C : Kd.C k82 w A xs.length xs
  cap : xs.length ≤ c
  nil : A = none → c = 0
theorem Src.below {w w' : World} {A : Option Addr} {c : Nat} {xs : List S82} (h : Src w A c xs) (hb : Below w.heap.size w w') : Src w' A c xs := ⟨Kd.C_below h.C hb, h.cap, h.nil⟩
theorem Rw.src {w : World} {base : Nat} {v : Value} {xs : List S82} (h : Rw w base v xs) : ∃ A c, v = .slice A xs.length c ∧ Src w A c xs := by
  obtain ⟨A, c, rfl, h1, h2⟩ := h.reads
  exact ⟨A, c, rfl, h2, h1, h.nilCap⟩
theorem C_of_cells {w : World} {ad : Addr} {xs : List S82} (hl : xs.length ≤ maxLen) (h : ∀ j v, (enc2 xs)[j]? = some v → w.cell? (ad.add j) = some v) : Kd.C k82 w (some ad) xs.length xs := by
  refine ⟨rfl, hl, fun _ => ⟨ad, rfl, fun j p hj => ⟨_, rfl, k82_mk w p, fun i v hv => h _ v ?_⟩⟩⟩
  have hlt : j < xs.length := (List.getElem?_eq_some_iff.1 hj).1
  have hp : xs[j] = p := (List.getElem?_eq_some_iff.1 hj).2
  have e : enc2 xs = enc2 (xs.take j) ++ ([.int .i64 p.f0, .int .i64 p.f1] ++ enc2 (xs.drop (j + 1))) := by
    conv => lhs; rw [← List.take_append_drop j xs, enc2_append, List.drop_eq_getElem_cons hlt, hp]
    rfl
  have hi : i < 2 := (List.getElem?_eq_some_iff.1 hv).1
  have h2 : (k82).sz = 2 := rfl
  rw [e, h2, List.getElem?_append_right (by rw [enc2_len, List.length_take]; omega), enc2_len, List.length_take, show j * 2 + i - min j xs.length * 2 = i by omega, List.getElem?_append_left hi]
  exact hv
theorem lt_cell {w : World} {a : Addr} {v : Value} (h : w.cell? a = some v) : a.block < w.heap.size := by
  unfold World.cell? at h
  by_cases hb : a.block < w.heap.size
  · exact hb
  · have h1 : w.heap[a.block]? = none := Array.getElem?_eq_none (by omega)
    rw [h1] at h
    cases h
theorem kset1 (w : World) (X o : Nat) (u : Value) : Kept w (w.setCell ⟨X, o, none⟩ u) (fun j => j = X) := Kept.setCell (S := fun j => j = X) (Kept.refl w _) (p := ⟨X, o, none⟩) (.inl rfl) u
theorem kset2 (w : World) (X : Nat) (u v : Value) : Kept w ((w.setCell ⟨X, 0, none⟩ u).setCell ⟨X, 1, none⟩ v) (fun j => j = X) := Kept.setCell (S := fun j => j = X) (kset1 w X 0 u) (p := ⟨X, 1, none⟩) (.inl rfl) v
theorem Src.kept {w w' : World} {A : Option Addr} {c : Nat} {xs : List S82} {S : Nat → Prop} (h : Src w A c xs) (hk : Kept w w' S) (hs : 0 < xs.length → ∀ ad, A = some ad → ¬ S ad.block) : Src w' A c xs := by
  refine ⟨?_, h.cap, h.nil⟩
  by_cases hp : 0 < xs.length
  · obtain ⟨ad, rfl, hc⟩ := cells_of_C h.C hp
    have hlt : ad.block < w.heap.size := by
      cases hxs : xs with
      | nil => rw [hxs] at hp; simp at hp
      | cons x r =>
        have h0 := hc 0 (.int .i64 x.f0) (by rw [hxs]; rfl)
        exact lt_cell (a := ad.add 0) h0
    exact C_of_cells h.C.2.1 (cells_stay hc (hk.2 _ hlt (hs hp ad rfl)))
  · have h0 : xs = [] := List.eq_nil_of_length_eq_zero (by omega)
    subst h0
    exact ⟨rfl, h.C.2.1, fun hh => absurd hh (by simp)⟩
theorem Src.lt {w : World} {A : Option Addr} {c : Nat} {xs : List S82} (h : Src w A c xs) (hp : 0 < xs.length) : ∀ ad, A = some ad → ad.block < w.heap.size := by
  intro ad hA
  obtain ⟨ad', hA', hc⟩ := cells_of_C h.C hp
  rw [hA] at hA'
  simp only [Option.some.injEq] at hA'
  subst hA'
  cases hxs : xs with
  | nil => rw [hxs] at hp; simp at hp
  | cons x r =>
    have h0 := hc 0 (.int .i64 x.f0) (by rw [hxs]; rfl)
    exact lt_cell (a := ad.add 0) h0

/-! ### The reference's answers -/
theorem rright_f (v : Int) : dactylref02_Right.f v = some (KeyW.right v) := by
  unfold dactylref02_Right.f KeyW.right
  repeat' split
  all_goals
    refine congrArg some ?_
    simp only [eq_comm (a := true), eq_comm (a := false), decide_eq_true_eq, decide_eq_false_iff_not, decide_eq_decide]
    omega
theorem rsrt_f (a b : Int) : dactylref04_Right.f a b = some (srt ⟨a, b⟩) := by
  unfold dactylref04_Right.f srt
  rw [rright_f]
  cases KeyW.right a with
  | false => simp
  | true => by_cases h : 0 ≤ b <;> simp [h]
theorem rd_at (xs : List S82) (i : Nat) (h : i < xs.length) : rd_T82 xs (i : Int) = xs[i] := by
  rw [rd_T82, Int.toNat_natCast, List.getD_eq_getElem?_getD, List.getElem?_eq_getElem h]; rfl
theorem rall_l (xs : List S82) (hx : xs.length ≤ 1000000) : ∀ d i : Nat, i + d = xs.length → dactylref04_All.l0 (d + 1) xs (i : Int) = some ((xs.drop i).all srt)
  | 0, i, h => by
    unfold dactylref04_All.l0
    rw [if_neg (by omega), List.drop_of_length_le (by omega)]; rfl
  | d + 1, i, h => by
    unfold dactylref04_All.l0
    rw [if_pos (by omega), if_pos (by omega), rsrt_f, Option.bind_some, rd_at xs i (by omega), List.drop_eq_getElem_cons (by omega), List.all_cons]
    cases hs : srt xs[i] with
    | false => rw [if_neg (by simp), Bool.false_and]
    | true =>
      rw [if_pos rfl, w64 (by omega) (by omega), Bool.true_and]
      exact rall_l xs hx d (i + 1) (by omega)
theorem rsame_l (xs : List S82) (hx : xs.length ≤ 1000000) : ∀ d i : Nat, i + d = xs.length → dactylref04_Same.l0 (d + 1) xs xs (i : Int) = some true
  | 0, i, h => by
    unfold dactylref04_Same.l0
    rw [if_neg (by omega)]
  | d + 1, i, h => by
    unfold dactylref04_Same.l0
    rw [if_pos (by omega), if_pos (by omega), if_pos (by omega), if_neg (by simp), w64 (by omega) (by omega)]
    exact rsame_l xs hx d (i + 1) (by omega)
theorem rsame_f (xs : List S82) (hx : xs.length ≤ 1000000) : dactylref04_Same.f (xs.length + 1) xs xs = some true := by
  unfold dactylref04_Same.f
  rw [if_pos rfl]
  exact rsame_l xs hx xs.length 0 (by omega)

theorem rall {w : World} {A : Option Addr} {c : Nat} {l : List S82} (h : Src w A c l) (hl : l.length ≤ 1000000) :
    Calls Try.prog 43 #[.slice A l.length c] w fun e w' => e = .returned (.bool (l.all srt)) ∧ Below w.heap.size w w' :=
  dactylref04_All.calls (l.length + 1) A c l _ w h.C h.cap (by
    have := rall_l l hl l.length 0 (by omega)
    rw [List.drop_zero] at this
    exact this)
theorem rsame {w : World} {A B : Option Addr} {c d : Nat} {l : List S82} (h : Src w A c l) (h2 : Src w B d l) (hl : l.length ≤ 1000000) :
    Calls Try.prog 47 #[.slice A l.length c, .slice B l.length d] w fun e w' => e = .returned (.bool true) ∧ Below w.heap.size w w' := by
  refine (dactylref04_Same.calls (l.length + 1) A c l B d l true w h.C h.cap h2.C h2.cap (rsame_f l hl)).mono ?_
  rintro e w' ⟨rfl, hd⟩
  exact ⟨rfl, hd.below⟩
theorem rsameLine {w : World} {A B : Option Addr} {c d : Nat} {l : List S82} (z : Int) (h : Src w A c l) (h2 : Src w B d l) (hl : l.length ≤ 1000000) :
    Calls Try.prog 56 #[.agg #[.slice A l.length c, .int .i64 z], .agg #[.slice B l.length d, .int .i64 z]] w fun e w' => e = .returned (.bool true) ∧ Below w.heap.size w w' :=
  dactylref16_Same.calls (l.length + 1) A c l z B d l z true w h.C h.cap h2.C h2.cap (by
    unfold dactylref16_Same.f
    rw [if_pos rfl, rsame_f l hl]; rfl)
theorem rlow (a b : Int) (w : World) : Calls Try.prog 17 #[.int .i64 a, .int .i64 b] w fun e w' => e = .returned (.int .i64 (min a b)) ∧ ∃ m, w' = w.drewN m := by
  refine (dactylref01_Low.calls a b (min a b) w (by unfold dactylref01_Low.f; split <;> (congr 1; omega))).mono ?_
  rintro e w' ⟨rfl, hd⟩
  exact ⟨rfl, hd.out⟩
theorem rhigh (a b : Int) (w : World) : Calls Try.prog 18 #[.int .i64 a, .int .i64 b] w fun e w' => e = .returned (.int .i64 (max a b)) ∧ ∃ m, w' = w.drewN m := by
  refine (dactylref01_High.calls a b (max a b) w (by unfold dactylref01_High.f; split <;> (congr 1; omega))).mono ?_
  rintro e w' ⟨rfl, hd⟩
  exact ⟨rfl, hd.out⟩
theorem rplace (n : Nat) (z : Int) (w : World) : Calls Try.prog 46 #[.int .i64 (n : Int), .int .i64 z] w fun e w' => e = .returned (.int .i64 ((plc n z : Nat) : Int)) ∧ ∃ m, w' = w.drewN m := by
  refine (dactylref16_Place.calls n z ((plc n z : Nat) : Int) w ?_).mono ?_
  · unfold dactylref16_Place.f dactylref01_High.f dactylref01_Low.f plc
    split <;> simp only [Option.bind_some] <;> split <;> simp only [Option.bind_some] <;> congr 1 <;> omega
  · rintro e w' ⟨rfl, hd⟩
    exact ⟨rfl, hd.out⟩
theorem rjoin_f (a b : List S82) (h : a.length + b.length ≤ 1000000) : dactylref04_Join.f a b = some (a ++ b) := by
  unfold dactylref04_Join.f
  simp only [Option.bind_some, List.length_nil, List.nil_append]
  rw [if_pos (by omega), if_pos (by omega)]
theorem rinsert {w : World} {A B : Option Addr} {c d : Nat} {pre post l : List S82} (h : Src w A c (pre ++ post)) (h2 : Src w B d l) (hl : pre.length + post.length + l.length ≤ 1000000) :
    Calls Try.prog 45 #[.agg #[.slice A (pre ++ post).length c, .int .i64 (pre.length : Int)], .slice B l.length d] w fun e w' => ∃ v, e = .returned (.agg #[v, .int .i64 (((pre ++ l).length : Nat) : Int)]) ∧ Rw w' w.heap.size v ((pre ++ l) ++ post) ∧ Below w.heap.size w w' := by
  have ht : (pre ++ post).take pre.length = pre := by rw [List.take_append_of_le_length (Nat.le_refl _), List.take_length]
  have hd : (pre ++ post).drop pre.length = post := by rw [List.drop_append_of_le_length (Nat.le_refl _), List.drop_length, List.nil_append]
  refine (dactylref16_Insert.calls A c (pre ++ post) pre.length B d l ((pre ++ l) ++ post) (((pre ++ l).length : Nat) : Int) w h.C h.cap h2.C h2.cap ?_).mono ?_
  · unfold dactylref16_Insert.f
    rw [if_pos (by omega), if_pos (by rw [List.length_append]; omega), Int.toNat_natCast, ht, hd, rjoin_f _ _ (by omega)]
    simp only [Option.bind_some]
    rw [if_pos (by rw [List.length_append]; omega), w64 (by omega) (by omega), List.length_append]
    rfl
  · rintro e w' ⟨v, rfl, hr, hb⟩
    exact ⟨v, rfl, ⟨hr⟩, hb⟩
theorem rwithout {w : World} {A : Option Addr} {c : Nat} {xs : List S82} (h : Src w A c xs) (a b : Nat) (h1 : a ≤ xs.length) (h2 : b ≤ xs.length) (hl : xs.length ≤ 500000) (z : Int) :
    Calls Try.prog 49 #[.agg #[.slice A xs.length c, .int .i64 z], .int .i64 (a : Int), .int .i64 (b : Int)] w fun e w' => ∃ v, e = .returned (.agg #[v, .int .i64 (a : Int)]) ∧ Rw w' w.heap.size v (xs.take a ++ xs.drop b) ∧ Below w.heap.size w w' := by
  refine (dactylref16_Without.calls A c xs z a b (xs.take a ++ xs.drop b) a w h.C h.cap ?_).mono ?_
  · unfold dactylref16_Without.f
    rw [if_pos (by omega), if_pos (by omega), if_pos (by omega), if_pos (by omega), Int.toNat_natCast, Int.toNat_natCast, rjoin_f _ _ (by rw [List.length_take, List.length_drop]; omega)]
    rfl
  · rintro e w' ⟨v, rfl, hr, hb⟩
    exact ⟨v, rfl, ⟨hr⟩, hb⟩

/-! ### A line of the reference -/
structure XSt (w0 w : World) (X : Nat) (A : Option Addr) (c : Nat) (xs : List S82) (z : Int) : Prop where
  blk : w.heap[X]? = some (.cells #[.slice A xs.length c, .int .i64 z] 70 (0, 0))
  xX : w0.heap.size ≤ X
  src : Src w A c xs
/-- .. apart from the buffer. -/
def Ap (A : Option Addr) (xs : List S82) (G X : Nat) (vB : Value) : Prop := 0 < xs.length → ∀ ad, A = some ad → ad.block ≠ G ∧ ad.block ≠ X ∧ vB.ownBlock ≠ some ad.block
theorem XSt.below {w0 w w' : World} {X : Nat} {A : Option Addr} {c : Nat} {xs : List S82} {z : Int} (h : XSt w0 w X A c xs z) (hb : Below w.heap.size w w') : XSt w0 w' X A c xs z :=
  ⟨(hb.block _ (lt_of_block h.blk)).trans h.blk, h.xX, h.src.below hb⟩
theorem XSt.kept {w0 w w' : World} {X : Nat} {A : Option Addr} {c : Nat} {xs : List S82} {z : Int} {S : Nat → Prop} (h : XSt w0 w X A c xs z) (hk : Kept w w' S) (hX : ¬ S X) (hs : 0 < xs.length → ∀ ad, A = some ad → ¬ S ad.block) : XSt w0 w' X A c xs z :=
  ⟨(hk.2 _ (lt_of_block h.blk) hX).trans h.blk, h.xX, h.src.kept hk hs⟩
theorem GSt.kept {w0 w w' : World} {G : Nat} {most : Int} {pre gap post : List S82} {vB : Value} {S : Nat → Prop} (h : GSt w0 w G most pre gap post vB) (hk : Kept w w' S) (hG : ¬ S G) (hs : ∀ j, vB.ownBlock = some j → ¬ S j) (hb : Below w0.heap.size w0 w') : GSt w0 w' G most pre gap post vB :=
  ⟨(hk.2 _ (lt_of_block h.blk) hG).trans h.blk, h.gG, h.row.kept hk hs, hb, h.big⟩
theorem XSt.cells {w0 w : World} {X : Nat} {A : Option Addr} {c : Nat} {xs : List S82} {z : Int} (h : XSt w0 w X A c xs z) :
    w.cell? ⟨X, 0, none⟩ = some (.slice A xs.length c) ∧ w.cell? ⟨X, 1, none⟩ = some (.int .i64 z) ∧ w.frozen? ⟨X, 0, none⟩ = false ∧ w.frozen? ⟨X, 1, none⟩ = false := by
  have := h.blk
  refine ⟨?_, ?_, ?_, ?_⟩ <;> simp [World.cell?, World.frozen?, this]
/-- The line is written anew. -/
theorem xset {w0 w : World} {X : Nat} {A A' : Option Addr} {c c' : Nat} {xs xs' : List S82} {z z' : Int} (h : XSt w0 w X A c xs z) (hs : Src w A' c' xs') (ha : 0 < xs'.length → ∀ ad, A' = some ad → ad.block ≠ X) :
    XSt w0 ((w.setCell ⟨X, 0, none⟩ (.slice A' xs'.length c')).setCell ⟨X, 1, none⟩ (.int .i64 z')) X A' c' xs' z' := by
  refine ⟨?_, h.xX, ?_⟩
  · rw [set_at (set_at h.blk)]; rfl
  · have hk : Kept w ((w.setCell ⟨X, 0, none⟩ (.slice A' xs'.length c')).setCell ⟨X, 1, none⟩ (.int .i64 z')) (fun j => j = X) := kset2 _ _ _ _
    exact hs.kept hk ha
theorem xat {w0 w : World} {X : Nat} {A : Option Addr} {c : Nat} {xs : List S82} {z z' : Int} (h : XSt w0 w X A c xs z) (ha : 0 < xs.length → ∀ ad, A = some ad → ad.block ≠ X) :
    XSt w0 (w.setCell ⟨X, 1, none⟩ (.int .i64 z')) X A c xs z' := by
  refine ⟨?_, h.xX, ?_⟩
  · rw [set_at h.blk]; rfl
  · have hk : Kept w (w.setCell ⟨X, 1, none⟩ (.int .i64 z')) (fun j => j = X) := kset1 _ _ _ _
    exact h.src.kept hk ha
theorem gx_ne {w0 w : World} {G X : Nat} {most : Int} {pre gap post : List S82} {vB : Value} {A : Option Addr} {c : Nat} {xs : List S82} {z : Int} (h : GSt w0 w G most pre gap post vB) (x : XSt w0 w X A c xs z) : G ≠ X ∧ vB.ownBlock ≠ some X := by
  refine ⟨fun e => ?_, h.row.ne x.blk (by decide)⟩
  have h1 := h.blk
  rw [e, x.blk] at h1
  simp [gblk] at h1
theorem g_of_xset {w0 w : World} {G X : Nat} {most : Int} {pre gap post : List S82} {vB : Value} (h : GSt w0 w G most pre gap post vB) (hX : w0.heap.size ≤ X) (h1 : G ≠ X) (h2 : vB.ownBlock ≠ some X) (u v : Value) : GSt w0 ((w.setCell ⟨X, 0, none⟩ u).setCell ⟨X, 1, none⟩ v) G most pre gap post vB :=
  h.kept (S := fun j => j = X) (kset2 _ _ _ _) h1 (fun j hj e => h2 (by rw [← e]; exact hj)) (below_set (below_set h.bel hX) hX)
theorem g_of_xat {w0 w : World} {G X : Nat} {most : Int} {pre gap post : List S82} {vB : Value} (h : GSt w0 w G most pre gap post vB) (hX : w0.heap.size ≤ X) (h1 : G ≠ X) (h2 : vB.ownBlock ≠ some X) (v : Value) : GSt w0 (w.setCell ⟨X, 1, none⟩ v) G most pre gap post vB :=
  h.kept (S := fun j => j = X) (kset1 _ _ _ _) h1 (fun j hj e => h2 (by rw [← e]; exact hj)) (below_set h.bel hX)

end Go.Proofs.Ytopmenioioljoaa.GapW

/-
  THE GAP LAWS' awake (dactyllaw16): it returns true.
-/
namespace Go.Proofs.Ytopmenioioljoaa.GapW
open Go.RowKit Go.Proofs.Ytopmenioioljoaa.Base Go.Proofs.YtopmenioioljoaaW.PrintWords Go.Proofs.YtopmenioioljoaaW.PrintLast Go.Proofs.YtopmenioioljoaaW.PrintMore Go.Proofs.Ytopmenioioljoaa.PGapDoes Go.Proofs.Ytopmenioioljoaa.CountW

theorem gnew (most : Int) (w0 w : World) (hb : Below w0.heap.size w0 w) (h1 : 1 ≤ most) (h2 : most ≤ 65536) :
    Calls Try.prog 42 #[.int .i64 most] w fun e w' => e = .returned (.tuple #[.pointer (some ⟨w.heap.size, 0, none⟩), .int .i64 0]) ∧ GSt w0 w' w.heap.size most [] [] [] (.slice none 0 0) ∧ Below w.heap.size w w' := by
  refine (new42 most w h1 h2).mono ?_
  rintro e w' ⟨rfl, rfl⟩
  exact ⟨rfl, ⟨heap_alloc_new _ _, hb.size, Rw.nil _ _, below_alloc hb _, by simp⟩, balloc _ _⟩

theorem src_blk {w : World} {B : Nat} {xs : List S82} (h : w.heap[B]? = some (.cells (enc2 xs).toArray 82 (0, 0))) (hl : xs.length ≤ maxLen) : Src w (some ⟨B, 0, none⟩) xs.length xs := by
  refine ⟨C_of_cells hl ?_, Nat.le_refl _, fun h => by cases h⟩
  have := part_cells (sp := []) (by rw [List.append_nil]; exact h) 0 xs.length (by omega)
  simp only [Nat.zero_mul, List.drop_zero, List.take_length] at this
  exact this

theorem lit_src (w : World) (l : List S82) (n : Nat) (hn : l.length = n) (cs : Array Value) (hcs : cs = (enc2 l).toArray) (hl : l.length ≤ 100000) : Src (w.alloc (.cells cs 82)) (some ⟨w.heap.size, 0, none⟩) n l := by
  subst hn hcs
  exact src_blk (heap_alloc_new _ _) (by unfold maxLen; omega)
theorem gins_lit {w0 w : World} {G : Nat} {most : Int} {pre gap post : List S82} {vB : Value} (h : GSt w0 w G most pre gap post vB) (l : List S82) (n : Nat) (hn : l.length = n) (cs : Array Value) (hcs : cs = (enc2 l).toArray) (hl : l.length ≤ 100000) (hq : pre.length + post.length ≤ 100000) (hm : 0 ≤ most) (hm2 : most ≤ 1000000) (hf : fitE l ((pre.length + post.length : Nat) : Int) most = 0) :
    Calls Try.prog 44 #[.pointer (some ⟨G, 0, none⟩), .slice (some ⟨w.heap.size, 0, none⟩) n n] (w.alloc (.cells cs 82)) fun e w' => e = .returned (.int .i64 0) ∧ ∃ gap' vB', GSt w0 w' G most (pre ++ l) gap' post vB' := by
  have hs := lit_src w l n hn cs hcs hl
  have h1 := h.below (balloc w (.cells cs 82))
  have hG := lt_of_block h.blk
  have hv := h.row.lt
  subst hn
  refine (ginsert_ok h1 (some ⟨w.heap.size, 0, none⟩) l.length l hs.C ?_ hl hq hm hm2 hf).mono ?_
  · intro _ ad hA
    simp only [Option.some.injEq] at hA
    subst hA
    refine ⟨fun e => ?_, fun e => ?_, by simp⟩
    · have : w.heap.size = G := e
      omega
    · exact Nat.lt_irrefl _ (hv _ e)
  · rintro e w' ⟨rfl, gap', vB', h2, _⟩
    exact ⟨rfl, gap', vB', h2⟩
theorem gins_full {w0 w : World} {G : Nat} {most : Int} {pre gap post : List S82} {vB : Value} (h : GSt w0 w G most pre gap post vB) (l : List S82) (n : Nat) (hn : l.length = n) (cs : Array Value) (hcs : cs = (enc2 l).toArray) (hl : l.length ≤ 100000) (hm : 0 ≤ most) (hm2 : most ≤ 1000000) (hf : fitE l ((pre.length + post.length : Nat) : Int) most = 8) :
    Calls Try.prog 44 #[.pointer (some ⟨G, 0, none⟩), .slice (some ⟨w.heap.size, 0, none⟩) n n] (w.alloc (.cells cs 82)) fun e w' => e = .returned (.int .i64 8) ∧ GSt w0 w' G most pre gap post vB := by
  have hs := lit_src w l n hn cs hcs hl
  have h1 := h.below (balloc w (.cells cs 82))
  subst hn
  refine (ginsert_bad h1 (some ⟨w.heap.size, 0, none⟩) l.length l hs.C hl hm hm2 8 hf (by decide)).mono ?_
  rintro e w' ⟨rfl, hb⟩
  exact ⟨rfl, h1.below hb⟩

set_option maxRecDepth 100000 in
set_option maxHeartbeats 8000000 in
theorem awake41 (w : World) : Calls Try.prog 41 #[] w fun e w' => e = .returned (.bool true) ∧ Below w.heap.size w w' := by
  go_enter Try.func41, Try.ntmps41
  go_wp2_with fail
  refine (gnew 3 w w (Below.refl _ _) (by decide) (by decide)).mono ?_
  rintro e w1 ⟨rfl, h1, _⟩
  have H1 := Aside0.mk h1
  clear h1
  go_wp2_with fail
  refine (gins_lit H1.out [⟨97, 0⟩, ⟨98, 0⟩] 2 rfl _ rfl (by decide) (by decide) (by decide) (by decide) (by decide)).mono ?_
  rintro e w2 ⟨rfl, g2, v2, h2⟩
  have H2 := Aside0.mk h2
  clear h2
  go_wp2_with fail
  refine (gmove H2.out 1).mono ?_
  rintro e w3 ⟨rfl, p3, g3, q3, h3, hp3, hq3, _⟩
  have hp3' : p3 = [⟨97, 0⟩] := hp3
  have hq3' : q3 = [⟨98, 0⟩] := hq3
  subst hp3' hq3'
  have H3 := Aside0.mk h3
  clear h3 hp3 hq3
  go_wp2_with fail
  refine (gins_lit H3.out [⟨99, 2⟩] 1 rfl _ rfl (by decide) (by decide) (by decide) (by decide) (by decide)).mono ?_
  rintro e w4 ⟨rfl, g4, v4, h4⟩
  have H4 := Aside0.mk h4
  clear h4
  go_wp2_with fail
  refine (gins_full H4.out [⟨100, 0⟩] 1 rfl _ rfl (by decide) (by decide) (by decide) (by decide)).mono ?_
  rintro e w5 ⟨rfl, h5⟩
  have H5 := Aside0.mk h5
  clear h5
  go_wp2_with fail
  refine (gget_pre H5.out 1 (by decide)).mono ?_
  rintro e w6 ⟨rfl, hb6⟩
  have HS : sgn (([⟨97, 0⟩] ++ [⟨99, 2⟩]) ++ [⟨98, 0⟩]) 1 = ⟨99, 2⟩ := rfl
  rw [HS]
  have H6 := Aside0.mk (H5.out.below hb6)
  clear hb6 HS
  go_wp2_with fail
  refine (gline (H6.out.below (balloc w6 _))).mono ?_
  rintro e w7 ⟨v7, rfl, hv7, hb7⟩
  obtain ⟨A7, c7, rfl, _⟩ := hv7.reads
  have e7 : ((([⟨97, 0⟩] ++ [⟨99, 2⟩] : List S82).length : Nat) : Int) = 2 := rfl
  have n7 : (([⟨97, 0⟩] ++ [⟨99, 2⟩] ++ [⟨98, 0⟩] : List S82).length) = 3 := rfl
  rw [e7, n7]
  have b7 : w7.heap[w6.heap.size]? = some (.cells #[.int .i64 99, .int .i64 2] 82 (0, 0)) := (hb7.block _ (by simp)).trans (heap_alloc_new _ _)
  have B7 := Lib.hid b7
  have H7 := Aside0.mk ((H6.out.below (balloc w6 _)).below hb7)
  have b8 : (w7.alloc (.cells #[.slice A7 3 c7, .int .i64 2] 70)).heap[w6.heap.size]? = some (.cells #[.int .i64 99, .int .i64 2] 82 (0, 0)) := blk_alloc b7 _
  have x8 : (w7.alloc (.cells #[.slice A7 3 c7, .int .i64 2] 70)).heap[w7.heap.size]? = some (.cells #[.slice A7 3 c7, .int .i64 2] 70 (0, 0)) := heap_alloc_new _ _
  have a0 := blk_cell b8 0
  have a1 := blk_cell b8 1
  have x0 := blk_cell x8 0
  have x1 := blk_cell x8 1
  have H8 := Aside0.mk (H7.out.below (balloc w7 (.cells #[.slice A7 3 c7, .int .i64 2] 70)))
  clear b7 b8 x8 hv7 hb7 e7 n7
  go_wp2_with fail
  refine (glen H8.out).mono ?_
  rintro e w9 ⟨rfl, m, rfl⟩
  have e9 : (((([⟨97, 0⟩] ++ [⟨99, 2⟩] : List S82).length + ([⟨98, 0⟩] : List S82).length) : Nat) : Int) = 3 := rfl
  rw [e9]
  have H9 := Aside0.mk (H8.out.below (bdrewN _ m))
  clear e9 a0 a1 x0 x1
  go_wp2_with fail
  refine (gcut_neg H9.out (-5) (by decide)).mono ?_
  rintro e w10 ⟨v10, k, hk, rfl, hv10, h10, _⟩
  have hk2 : k = 2 := hk
  subst hk2
  obtain ⟨A10, c10, rfl, _⟩ := hv10.reads
  have n10 : (([⟨97, 0⟩] ++ [⟨99, 2⟩] : List S82).drop (([⟨97, 0⟩] ++ [⟨99, 2⟩] : List S82).length - 2)).length = 2 := rfl
  rw [n10]
  have H10 := Aside0.mk h10
  clear hk hv10 h10 n10
  go_wp2_with fail
  refine (gall H10.out).mono ?_
  rintro e w11 ⟨v11, rfl, hv11, hb11⟩
  obtain ⟨A11, c11, rfl, _⟩ := hv11.reads
  have n11 : ((([⟨97, 0⟩] ++ [⟨99, 2⟩] : List S82).take (([⟨97, 0⟩] ++ [⟨99, 2⟩] : List S82).length - 2)) ++ ([⟨98, 0⟩] : List S82)).length = 1 := rfl
  rw [n11]
  have H11 := Aside0.mk (H10.out.below hb11)
  clear hv11 hb11 n11
  go_wp2_with fail
  go_ret
  exact ⟨rfl, H11.out.bel⟩

end Go.Proofs.Ytopmenioioljoaa.GapW

/-
  AN ARGUMENT THAT IS A SLICE OF SIGNS, opened to a list that can be read.
-/
namespace Go.Proofs.Ytopmenioioljoaa.GapW
open Go.ChangeShapes Go.WideShapes Go.Deep Go.RowKit Go.Proofs.YtopmenioioljoaaW.PrintWords Go.Proofs.Ytopmenioioljoaa.PGapDoes Go.Proofs.Ytopmenioioljoaa.Args

section
variable {H : Type} {enc : TypeId × Value → H} {w : World} {base : Nat} {spare : Nat → Bool} {held : Bool}
theorem sign_of {fuel : Nat} {v : Value} {x : DataW H × List MemPlace} (h : DataW.trod enc Try.prog w base spare held fuel 68 [v] = some x) : ∃ (A : Option Addr) (c : Nat) (xs : List S82), v = .slice A xs.length c ∧ Src w A c xs := by
  rcases open_slice_fields Try.underlying68 Try.underlying82 (by kernel_rfl) (by kernel_rfl) h with ⟨hcs, _⟩ | ⟨a, len, cap, m, D, Pl, hcs, _, hl, hm, hmm, _, hfs⟩
  · simp only [List.cons.injEq, and_true] at hcs
    subst hcs
    exact ⟨none, 0, [], rfl, ⟨⟨rfl, by simp, fun h => by simp at h⟩, by simp, fun _ => rfl⟩⟩
  · simp only [List.cons.injEq, and_true] at hcs
    subst hcs
    have hlm : len ≤ m := by rw [hmm]; split <;> omega
    obtain ⟨xs, hxl, hx⟩ := list_of (fun i (x : S82) => w.cell? (a.add (i * 2)) = some (.int .i64 x.f0) ∧ w.cell? (a.add (i * 2 + 1)) = some (.int .i64 x.f1)) len (fun i him => by
      obtain ⟨ys, n, _, _, _, hall⟩ := hfs i (by omega)
      obtain ⟨v0, y0, c0, _, t0⟩ := hall 0 _ rfl
      obtain ⟨v1, y1, c1, _, t1⟩ := hall 1 _ rfl
      obtain ⟨x0, e0, _, _⟩ := DataW.trod_int Try.underlying3 t0
      obtain ⟨x1, e1, _, _⟩ := DataW.trod_int Try.underlying3 t1
      simp only [List.cons.injEq, and_true] at e0 e1
      subst e0 e1
      exact ⟨⟨x0, x1⟩, c0, c1⟩)
    refine ⟨some a, cap, xs, by rw [hxl], ⟨⟨rfl, by rw [hxl]; unfold maxLen at hm; omega, fun _ => ⟨a, rfl, fun j q hq => ?_⟩⟩, by rw [hxl]; exact hl, fun h => by cases h⟩⟩
    obtain ⟨c0, c1⟩ := hx j q hq
    refine ⟨[.int .i64 q.f0, .int .i64 q.f1], rfl, k82_mk w q, fun i u hu => ?_⟩
    match i, hu with
    | 0, hu => simp at hu; rw [← hu]; exact c0
    | 1, hu => simp at hu; rw [← hu]; exact c1
theorem sign_row {A : Option Addr} {len cap : Nat} {d : DataW H} {p : List MemPlace} (h : DataW.Trod enc Try.prog w base spare held 68 (.slice A len cap) d p) : ∃ xs : List S82, xs.length = len ∧ Src w A cap xs := by
  obtain ⟨fuel, hf⟩ := h
  have hc : (Value.slice A len cap).cells.toList = [.slice A len cap] := by simp [Value.cells]
  rw [hc] at hf
  obtain ⟨A', c', xs, he, hs⟩ := sign_of hf
  simp only [Value.slice.injEq] at he
  obtain ⟨rfl, rfl, rfl⟩ := he
  exact ⟨xs, rfl, hs⟩
end

end Go.Proofs.Ytopmenioioljoaa.GapW
