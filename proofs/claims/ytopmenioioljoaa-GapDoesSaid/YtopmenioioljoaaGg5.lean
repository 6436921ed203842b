/-
  THE GAP LAWS: texts GapDoesV, GapRnd, GapSegW in one.
-/
import Derived.Test.YtopmenioioljoaaGg4
import Derived.Deep.DeepCutAuto
import Derived.Deep.CutBlock
import Derived.Deep.LoopGhost
/-
  THE LAW GapDoes (dactyllaw16): what its walk holds; its pieces.
-/
namespace Go.Proofs.Ytopmenioioljoaa.GapW
open Go.RowKit Go.Proofs.Ytopmenioioljoaa.Base Go.Proofs.YtopmenioioljoaaW.PrintWords Go.Proofs.YtopmenioioljoaaW.PrintLast Go.Proofs.YtopmenioioljoaaW.PrintMore Go.Proofs.Ytopmenioioljoaa.PGapDoes Go.Proofs.Ytopmenioioljoaa.CountW

/-- A call of the argument. -/
structure Gl where
  kind : Int
  n : Int
  A : Option Addr
  c : Nat
  l : List S82
/-- .. in memory, in whatever later world. -/
structure GAt (ad : Addr) (j : Nat) (q : Gl) (W : World) : Prop where
  h0 : W.cell? (ad.add (j * 3)) = some (.int .i64 q.kind)
  h1 : W.cell? ⟨(ad.add (j * 3)).block, (ad.add (j * 3)).off + 1, none⟩ = some (.int .i64 q.n)
  h2 : W.cell? ⟨(ad.add (j * 3)).block, (ad.add (j * 3)).off + 2, none⟩ = some (.slice q.A q.l.length q.c)
theorem GAt.below {ad : Addr} {j : Nat} {q : Gl} {w W : World} (h : GAt ad j q w) (hb : Below w.heap.size w W) : GAt ad j q W :=
  ⟨pw_cell_below hb h.h0, pw_cell_below hb h.h1, pw_cell_below hb h.h2⟩
/-- The calls can be read. -/
def Gls (w : World) (A : Option Addr) (qs : List Gl) : Prop := qs.length ≤ 9223372036854775807 ∧ ∀ j q, qs[j]? = some q → Src w q.A q.c q.l ∧ ∃ ad, A = some ad ∧ GAt ad j q w

set_option maxRecDepth 100000 in
set_option maxHeartbeats 8000000 in
theorem glaw_bad (most : Int) (A : Option Addr) (c : Nat) (n : Nat) (w : World) (hm : most < 1 ∨ 65536 < most) :
    Calls Try.prog 8 #[.int .i64 most, .slice A n c] w fun e w' => e = .returned (.bool true) ∧ Below w.heap.size w w' := by
  have HN := Lib.hid (new42_bad most · hm)
  by_cases h1 : most < 1
  · have d1 : decide (most < 1) = true := decide_eq_true h1
    clear hm h1
    go_enter Try.func8, Try.ntmps8
    go_wp2_with fail
    refine (awake41 _).mono ?_
    rintro e w1 ⟨rfl, hb1⟩
    go_wp2_with fail
    refine (HN.out _).mono ?_
    rintro e w2 ⟨rfl, rfl⟩
    go_wp2_with fail
    go_ret
    exact ⟨rfl, hb1⟩
  · have d1 : decide (most < 1) = false := decide_eq_false h1
    have d2 : decide (65536 < most) = true := decide_eq_true (by omega)
    clear hm h1
    go_enter Try.func8, Try.ntmps8
    go_wp2_with fail
    refine (awake41 _).mono ?_
    rintro e w1 ⟨rfl, hb1⟩
    go_wp2_with fail
    refine (HN.out _).mono ?_
    rintro e w2 ⟨rfl, rfl⟩
    go_wp2_with fail
    go_ret
    exact ⟨rfl, hb1⟩

/-- The buffer, and the reference's line. -/
structure GX (w wr : World) (G X : Nat) (most : Int) (pre gap post : List S82) (vB : Value) (A : Option Addr) (c : Nat) : Prop where
  g : GSt w wr G most pre gap post vB
  x : XSt w wr X A c (pre ++ post) pre.length
  a : Ap A (pre ++ post) G X vB
theorem GX.below {w wr w' : World} {G X : Nat} {most : Int} {pre gap post : List S82} {vB : Value} {A : Option Addr} {c : Nat} (h : GX w wr G X most pre gap post vB A c) (hb : Below wr.heap.size wr w') : GX w w' G X most pre gap post vB A c :=
  ⟨h.g.below hb, h.x.below hb, h.a⟩
/-- What holds at the top of each round. -/
def GInv (w wr : World) (G X : Nat) (most : Int) (j : Nat) : Prop := ∃ (pre gap post : List S82) (vB : Value) (A : Option Addr) (c : Nat), GX w wr G X most pre gap post vB A c ∧ pre.length + post.length ≤ 60 * j

theorem GInv.below {w wr w' : World} {G X : Nat} {most : Int} {j : Nat} (h : GInv w wr G X most j) (hb : Below wr.heap.size wr w') : GInv w w' G X most j := by
  obtain ⟨pre, gap, post, vB, A, c, hg, hl⟩ := h
  exact ⟨pre, gap, post, vB, A, c, hg.below hb, hl⟩
theorem GInv.bel {w wr : World} {G X : Nat} {most : Int} {j : Nat} (h : GInv w wr G X most j) : Below w.heap.size w wr := by
  obtain ⟨pre, gap, post, vB, A, c, hg, _⟩ := h
  exact hg.g.bel
theorem cells72 {w : World} {Y : Nat} {a b : Int} {A : Option Addr} {n c : Nat} (h : w.heap[Y]? = some (.cells #[.int .i64 a, .int .i64 b, .slice A n c] 72 (0, 0))) :
    w.cell? ⟨Y, 0, none⟩ = some (.int .i64 a) ∧ w.cell? ⟨Y, 1, none⟩ = some (.int .i64 b) ∧ w.cell? ⟨Y, 2, none⟩ = some (.slice A n c) := by
  refine ⟨?_, ?_, ?_⟩ <;> simp [World.cell?, h]
/-- What a call is to answer. -/
def wantE (most : Int) (kind : Int) (l : List S82) (there : Nat) : Int :=
  if l.all srt = false then 2 else if kind = 0 ∧ most < (l.length : Int) + there ∨ kind = 3 ∧ most < (l.length : Int) then 8 else 0

/-! ### The code's pieces -/
def cH : Code → Code
  | .seq a _ => a
  | c => c
def cT : Code → Code
  | .seq _ b => b
  | c => c
def cB : Code → Code
  | .block _ b => b
  | .loop b => b
  | c => c
def pLB (f : Func) : Code := cB (cB (cT (cH (cT (cT (cT (cT (cT (cT (f.body.getD .skip))))))))))
def pBlk (f : Func) : Code := cH (cT (pLB f))
def pRB (f : Func) : Code := cB (pBlk f)
def pW (f : Func) : Code := cH (cT (cT (cT (pRB f))))
def pS (f : Func) : Code := cH (cT (cT (cT (cT (pRB f)))))
def pC (f : Func) : Code := cT (cT (cT (cT (cT (pRB f)))))

/-- A round: the call, the buffer, the line. -/
structure Rnd (w wx : World) (G X Y : Nat) (most qk qn : Int) (ql pre gap post : List S82) (vB : Value) (qA A0 : Option Addr) (qc c0 ln xl : Nat) : Prop where
  y : wx.heap[Y]? = some (.cells #[.int .i64 qk, .int .i64 qn, .slice qA ln qc] 72 (0, 0))
  gx : GX w wx G X most pre gap post vB A0 c0
  src : Src w qA qc ql
  hln : ql.length = ln
  hxl : (pre ++ post).length = xl
  l60 : ln ≤ 60
  xbig : xl ≤ 2400
  m1 : 1 ≤ most
  m2 : most ≤ 65536
  yw : w.heap.size ≤ Y
theorem Rnd.below {w wx wy : World} {G X Y : Nat} {most qk qn : Int} {ql pre gap post : List S82} {vB : Value} {qA A0 : Option Addr} {qc c0 ln xl : Nat} (h : Rnd w wx G X Y most qk qn ql pre gap post vB qA A0 qc c0 ln xl) (hb : Below wx.heap.size wx wy) : Rnd w wy G X Y most qk qn ql pre gap post vB qA A0 qc c0 ln xl :=
  ⟨(hb.block _ (lt_of_block h.y)).trans h.y, h.gx.below hb, h.src, h.hln, h.hxl, h.l60, h.xbig, h.m1, h.m2, h.yw⟩
theorem Rnd.all {w wx : World} {G X Y : Nat} {most qk qn : Int} {ql pre gap post : List S82} {vB : Value} {qA A0 : Option Addr} {qc c0 ln xl : Nat} (h : Rnd w wx G X Y most qk qn ql pre gap post vB qA A0 qc c0 ln xl) :
    Calls Try.prog 43 #[.slice qA ln qc] wx fun e w' => e = .returned (.bool (ql.all srt)) ∧ Below wx.heap.size wx w' := by
  have h1 := h.hln
  have h2 := h.l60
  subst h1
  exact rall (h.src.below h.gx.g.bel) (by omega)

end Go.Proofs.Ytopmenioioljoaa.GapW

/-
  A ROUND OF GapDoes: what the buffer's calls leave of it, in one statement each.
-/
namespace Go.Proofs.Ytopmenioioljoaa.GapW
open Go.RowKit Go.Proofs.Ytopmenioioljoaa.Base Go.Proofs.YtopmenioioljoaaW.PrintWords Go.Proofs.YtopmenioioljoaaW.PrintLast Go.Proofs.YtopmenioioljoaaW.PrintMore Go.Proofs.Ytopmenioioljoaa.PGapDoes Go.Proofs.Ytopmenioioljoaa.CountW

theorem rsame_n {w : World} {A B : Option Addr} {c d n : Nat} {l : List S82} (hn : l.length = n) (h : Src w A c l) (h2 : Src w B d l) (hl : n ≤ 1000000) :
    Calls Try.prog 47 #[.slice A n c, .slice B n d] w fun e w' => e = .returned (.bool true) ∧ Below w.heap.size w w' := by
  subst hn
  exact rsame h h2 hl
theorem rsameLine_n {w : World} {A B : Option Addr} {c d n : Nat} {l : List S82} (z : Int) (hn : l.length = n) (h : Src w A c l) (h2 : Src w B d l) (hl : n ≤ 1000000) :
    Calls Try.prog 56 #[.agg #[.slice A n c, .int .i64 z], .agg #[.slice B n d, .int .i64 z]] w fun e w' => e = .returned (.bool true) ∧ Below w.heap.size w w' := by
  subst hn
  exact rsameLine z h h2 hl
/-- The buffer, and the line, of at most n signs. -/
def GN (w wr : World) (G X : Nat) (most : Int) (n : Nat) : Prop := ∃ (pre gap post : List S82) (vB : Value) (A : Option Addr) (c : Nat), GX w wr G X most pre gap post vB A c ∧ pre.length + post.length ≤ n

/-- In the midst of a round: the buffer has its signs, the line another's. -/
structure Mid (w wz : World) (G X Y : Nat) (most qk qn : Int) (p2 g2 q2 xs : List S82) (z : Int) (ql : List S82) (vB : Value) (qA A0 : Option Addr) (qc c0 ln : Nat) : Prop where
  g : GSt w wz G most p2 g2 q2 vB
  x : XSt w wz X A0 c0 xs z
  a : Ap A0 xs G X vB
  y : wz.heap[Y]? = some (.cells #[.int .i64 qk, .int .i64 qn, .slice qA ln qc] 72 (0, 0))
  src : Src w qA qc ql
section
variable {w wx wy wz : World} {G X Y : Nat} {most qk qn z : Int} {ql pre gap post p2 g2 q2 xs : List S82} {vB vB' : Value} {qA A0 : Option Addr} {qc c0 ln xl : Nat}
theorem Mid.below (h : Mid w wz G X Y most qk qn p2 g2 q2 xs z ql vB qA A0 qc c0 ln) (hb : Below wz.heap.size wz wy) : Mid w wy G X Y most qk qn p2 g2 q2 xs z ql vB qA A0 qc c0 ln :=
  ⟨h.g.below hb, h.x.below hb, h.a, (hb.block _ (lt_of_block h.y)).trans h.y, h.src⟩
theorem Mid.srcz (h : Mid w wz G X Y most qk qn p2 g2 q2 xs z ql vB qA A0 qc c0 ln) : Src wz qA qc ql := h.src.below h.g.bel
theorem Rnd.mid (h : Rnd w wx G X Y most qk qn ql pre gap post vB qA A0 qc c0 ln xl) : Mid w wx G X Y most qk qn pre gap post (pre ++ post) pre.length ql vB qA A0 qc c0 ln :=
  ⟨h.gx.g, h.gx.x, h.gx.a, h.y, h.src⟩
theorem Rnd.len (h : Rnd w wx G X Y most qk qn ql pre gap post vB qA A0 qc c0 ln xl) : pre.length + post.length = xl := by rw [← h.hxl, List.length_append]

/-- Behind a call of the buffer's. -/
theorem Mid.step {S : Nat → Prop} (h : Mid w wx G X Y most qk qn p2 g2 q2 xs z ql vB qA A0 qc c0 ln) {p3 g3 q3 : List S82} (hg : GSt w wz G most p3 g3 q3 vB') (hk : Kept wx wz S) (hS : ∀ j, S j → j = G ∨ vB.ownBlock = some j)
    (hv : vB' = vB ∨ ∀ j, vB'.ownBlock = some j → wx.heap.size ≤ j) : Mid w wz G X Y most qk qn p3 g3 q3 xs z ql vB' qA A0 qc c0 ln := by
  obtain ⟨n1, n2⟩ := gx_ne h.g h.x
  have hX : ¬ S X := fun hs => (hS X hs).elim (fun e => n1 e.symm) n2
  have hY : ¬ S Y := fun hs => (hS Y hs).elim (fun e => by
    have h1 := h.g.blk
    rw [← e, h.y] at h1
    simp [gblk] at h1) (h.g.row.ne h.y (by decide))
  have hA : 0 < xs.length → ∀ ad, A0 = some ad → ¬ S ad.block := fun hp ad hA hs => (hS _ hs).elim (h.a hp ad hA).1 (h.a hp ad hA).2.2
  refine ⟨hg, h.x.kept hk hX hA, fun hp ad hA => ⟨(h.a hp ad hA).1, (h.a hp ad hA).2.1, ?_⟩, (hk.2 _ (lt_of_block h.y) hY).trans h.y, h.src⟩
  rcases hv with rfl | hv
  · exact (h.a hp ad hA).2.2
  · intro e
    have := hv _ e
    have := h.x.src.lt hp ad hA
    omega

theorem Rnd.insert (h : Rnd w wx G X Y most qk qn ql pre gap post vB qA A0 qc c0 ln xl) (hf : fitE ql (xl : Int) most = 0) :
    Calls Try.prog 44 #[.pointer (some ⟨G, 0, none⟩), .slice qA ln qc] wx fun e w' => e = .returned (.int .i64 0) ∧ ∃ gap' vB', Mid w w' G X Y most qk qn (pre ++ ql) gap' post (pre ++ post) pre.length ql vB' qA A0 qc c0 ln := by
  have hlen := h.len
  have h1 := h.hln
  have h2 := h.l60
  have h3 := h.xbig
  have h4 := h.m1
  have h5 := h.m2
  subst h1
  refine (ginsert_ok h.gx.g qA qc ql h.mid.srcz.C ?_ (by omega) (by omega) (by omega) (by omega) (by rw [hlen]; exact hf)).mono ?_
  · intro hp ad hA
    have hlt := h.src.lt hp ad hA
    refine ⟨fun e => ?_, fun e => ?_, Nat.lt_of_lt_of_le hlt h.gx.g.bel.size⟩
    · have := h.gx.g.gG
      omega
    · have := h.gx.g.row.ge _ e
      omega
  · rintro e w' ⟨rfl, gap', vB', hg, hk, hv⟩
    exact ⟨rfl, gap', vB', h.mid.step hg hk (fun _ hj => hj) hv⟩
theorem Rnd.insert_bad (h : Rnd w wx G X Y most qk qn ql pre gap post vB qA A0 qc c0 ln xl) (f : Int) (hf : fitE ql (xl : Int) most = f) (hf0 : (f == 0) = false) :
    Calls Try.prog 44 #[.pointer (some ⟨G, 0, none⟩), .slice qA ln qc] wx fun e w' => e = .returned (.int .i64 f) ∧ Rnd w w' G X Y most qk qn ql pre gap post vB qA A0 qc c0 ln xl := by
  have hlen := h.len
  have h1 := h.hln
  have h2 := h.l60
  have h4 := h.m1
  have h5 := h.m2
  subst h1
  refine (ginsert_bad h.gx.g qA qc ql h.mid.srcz.C (by omega) (by omega) (by omega) f (by rw [hlen]; exact hf) hf0).mono ?_
  rintro e w' ⟨rfl, hb⟩
  exact ⟨rfl, h.below hb⟩
theorem Rnd.set_ (h : Rnd w wx G X Y most qk qn ql pre gap post vB qA A0 qc c0 ln xl) (hf : fitE ql 0 most = 0) :
    Calls Try.prog 51 #[.pointer (some ⟨G, 0, none⟩), .slice qA ln qc, .int .i64 qn] wx fun e w' => e = .returned (.int .i64 0) ∧ ∃ gap' vB', Mid w w' G X Y most qk qn (ql.take (plc ql.length qn)) gap' (ql.drop (plc ql.length qn)) (pre ++ post) pre.length ql vB' qA A0 qc c0 ln := by
  have h1 := h.hln
  have h2 := h.l60
  have h4 := h.m1
  have h5 := h.m2
  subst h1
  refine (gset_ok h.gx.g qA qc ql qn h.mid.srcz.C h.mid.srcz.nil (by omega) (by omega) (by omega) hf).mono ?_
  rintro e w' ⟨rfl, gap', vB', hg, hk, hv⟩
  exact ⟨rfl, gap', vB', h.mid.step hg hk (fun _ hj => .inl hj) (.inr hv)⟩
theorem Rnd.set_bad (h : Rnd w wx G X Y most qk qn ql pre gap post vB qA A0 qc c0 ln xl) (f : Int) (hf : fitE ql 0 most = f) (hf0 : (f == 0) = false) :
    Calls Try.prog 51 #[.pointer (some ⟨G, 0, none⟩), .slice qA ln qc, .int .i64 qn] wx fun e w' => e = .returned (.int .i64 f) ∧ Rnd w w' G X Y most qk qn ql pre gap post vB qA A0 qc c0 ln xl := by
  have h1 := h.hln
  have h2 := h.l60
  have h4 := h.m1
  have h5 := h.m2
  subst h1
  refine (gset_bad h.gx.g qA qc ql qn h.mid.srcz.C (by omega) (by omega) (by omega) (by rw [hf]; intro e; rw [e] at hf0; cases hf0)).mono ?_
  rintro e w' ⟨rfl, hb⟩
  rw [hf]
  exact ⟨rfl, h.below hb⟩
theorem Rnd.move (h : Rnd w wx G X Y most qk qn ql pre gap post vB qA A0 qc c0 ln xl) :
    Calls Try.prog 50 #[.pointer (some ⟨G, 0, none⟩), .int .i64 qn] wx fun e w' => e = .returned (.tuple #[]) ∧ ∃ gap', Mid w w' G X Y most qk qn ((pre ++ post).take (plc xl qn)) gap' ((pre ++ post).drop (plc xl qn)) (pre ++ post) pre.length ql vB qA A0 qc c0 ln := by
  have hlen := h.len
  refine (gmove h.gx.g qn).mono ?_
  rintro e w' ⟨rfl, pre', gap', post', hg, hp, hq, hk⟩
  rw [hlen] at hp hq
  subst hp hq
  exact ⟨rfl, gap', h.mid.step hg hk (fun _ hj => hj) (.inl rfl)⟩

/-- A row made anew is apart from what was. -/
theorem ap_fresh {wq : World} {base : Nat} {A : Option Addr} {n c : Nat} (h : Rw wq base (.slice A n c) xs) (h1 : G < base) (h2 : X < base) (h3 : ∀ j, vB.ownBlock = some j → j < base) : Ap A xs G X vB := by
  intro _ ad hA
  subst hA
  have hge := h.ge ad.block rfl
  exact ⟨by omega, by omega, fun e => by have := h3 _ e; omega⟩

/-- The line is written anew, a row made anew. -/
theorem Mid.store {wq : World} {A' : Option Addr} {c' n : Nat} {p3 q3 : List S82} (h : Mid w wq G X Y most qk qn p2 g2 q2 xs z ql vB qA A0 qc c0 ln) {base : Nat} (hr : Rw wq base (.slice A' n c') (p3 ++ q3)) (hn : (p3 ++ q3).length = n)
    (hp : p2 = p3) (hq : q2 = q3) (hG : G < base) (hX : X < base) (hv : ∀ j, vB.ownBlock = some j → j < base) {m : Nat} (hm : p3.length + q3.length ≤ m) (z' : Int) (hz : z' = p3.length) :
    GN w ((wq.setCell ⟨X, 0, none⟩ (.slice A' n c')).setCell ⟨X, 1, none⟩ (.int .i64 z')) G X most m := by
  subst hp hq hn hz
  obtain ⟨n1, n2⟩ := gx_ne h.g h.x
  obtain ⟨A1, c1, he, hs⟩ := hr.src
  simp only [Value.slice.injEq] at he
  obtain ⟨rfl, _, rfl⟩ := he
  have ha : Ap A' (p2 ++ q2) G X vB := ap_fresh hr hG hX hv
  exact ⟨p2, g2, q2, vB, A', c', ⟨g_of_xset h.g h.x.xX n1 n2 _ _, xset h.x hs (fun hp ad hA => (ha hp ad hA).2.1), ha⟩, hm⟩
theorem Mid.blocks (h : Mid w wz G X Y most qk qn p2 g2 q2 xs z ql vB qA A0 qc c0 ln) : G < wz.heap.size ∧ X < wz.heap.size ∧ ∀ j, vB.ownBlock = some j → j < wz.heap.size :=
  ⟨lt_of_block h.g.blk, lt_of_block h.x.blk, h.g.row.lt⟩
theorem Mid.ins (h : Mid w wz G X Y most qk qn p2 g2 q2 (pre ++ post) (pre.length : Int) ql vB qA A0 qc c0 ln) (hx : (pre ++ post).length = xl) (hl : ql.length = ln) (hb : xl + ln ≤ 1000000) :
    Calls Try.prog 45 #[.agg #[.slice A0 xl c0, .int .i64 (pre.length : Int)], .slice qA ln qc] wz fun e w' => ∃ (A' : Option Addr) (c' n' pl : Nat), e = .returned (.agg #[.slice A' n' c', .int .i64 (pl : Int)]) ∧ Rw w' wz.heap.size (.slice A' n' c') ((pre ++ ql) ++ post) ∧ ((pre ++ ql) ++ post).length = n' ∧ (pre ++ ql).length = pl ∧ Below wz.heap.size wz w' := by
  subst hx hl
  refine (rinsert h.x.src h.srcz (by rw [List.length_append] at hb; omega)).mono ?_
  rintro e w' ⟨v, rfl, hr, hbb⟩
  obtain ⟨A', c', rfl, _⟩ := hr.src
  exact ⟨A', c', _, _, rfl, hr, rfl, rfl, hbb⟩
/-- The line's cursor is written anew. -/
theorem Mid.storeAt {wq : World} (h : Mid w wq G X Y most qk qn p2 g2 q2 xs z ql vB qA A0 qc c0 ln) (hx : p2 ++ q2 = xs) {m : Nat} (hm : xs.length ≤ m) (z' : Int) (hz : z' = p2.length) : GN w (wq.setCell ⟨X, 1, none⟩ (.int .i64 z')) G X most m := by
  subst hx hz
  obtain ⟨n1, n2⟩ := gx_ne h.g h.x
  exact ⟨p2, g2, q2, vB, A0, c0, ⟨g_of_xat h.g h.x.xX n1 n2 _, xat h.x (fun hp ad hA => (h.a hp ad hA).2.1), h.a⟩, by rw [List.length_append] at hm; exact hm⟩
/-- The line is written anew, its signs the argument's own. -/
theorem Mid.storeArg {wq : World} {k : Nat} (h : Mid w wq G X Y most qk qn (ql.take k) g2 (ql.drop k) xs z ql vB qA A0 qc c0 ln) (hl : ql.length = ln) (hk : k ≤ ln) {m : Nat} (hm : ln ≤ m) :
    GN w ((wq.setCell ⟨X, 0, none⟩ (.slice qA ln qc)).setCell ⟨X, 1, none⟩ (.int .i64 (k : Int))) G X most m := by
  subst hl
  obtain ⟨n1, n2⟩ := gx_ne h.g h.x
  have e : ql.take k ++ ql.drop k = ql := List.take_append_drop k ql
  have ek : (ql.take k).length = k := by rw [List.length_take]; omega
  have ha : Ap qA ql G X vB := by
    intro hp ad hA
    have hlt := h.src.lt hp ad hA
    have h1 := h.g.gG
    have h2 := h.x.xX
    exact ⟨by omega, by omega, fun e => by have := h.g.row.ge _ e; omega⟩
  refine ⟨ql.take k, g2, ql.drop k, vB, qA, qc, ⟨g_of_xset h.g h.x.xX n1 n2 _ _, ?_, by rw [e]; exact ha⟩, by rw [List.length_take, List.length_drop]; omega⟩
  rw [e, ek]
  exact xset h.x h.srcz (fun hp ad hA => (ha hp ad hA).2.1)
theorem plc_le (n : Nat) (z : Int) : plc n z ≤ n := by unfold plc; omega
theorem plc_take (l : List S82) (z : Int) : (l.take (plc l.length z)).length = plc l.length z := by
  have := plc_le l.length z
  rw [List.length_take]; omega
theorem Rnd.yx (h : Rnd w wx G X Y most qk qn ql pre gap post vB qA A0 qc c0 ln xl) : X ≠ Y := by
  intro e
  have h1 := h.y
  rw [← e, h.gx.x.blk] at h1
  simp at h1
theorem Rnd.get_no (h : Rnd w wx G X Y most qk qn ql pre gap post vB qA A0 qc c0 ln xl) (hq : qn < 0 ∨ (xl : Int) ≤ qn) :
    Calls Try.prog 52 #[.pointer (some ⟨G, 0, none⟩), .int .i64 qn] wx fun e w' => e = .returned (.tuple #[.agg #[.int .i64 0, .int .i64 0], .bool false]) ∧ Rnd w w' G X Y most qk qn ql pre gap post vB qA A0 qc c0 ln xl := by
  refine (gget_bad h.gx.g qn (by rw [h.len]; exact hq)).mono ?_
  rintro e w' ⟨rfl, hb⟩
  exact ⟨rfl, h.below hb⟩
theorem Rnd.get {i : Nat} (h : Rnd w wx G X Y most qk (i : Int) ql pre gap post vB qA A0 qc c0 ln xl) (hq : i < xl) (a b : Int) (ha : (rd_T82 (pre ++ post) i).f0 = a) (hb : (rd_T82 (pre ++ post) i).f1 = b) :
    Calls Try.prog 52 #[.pointer (some ⟨G, 0, none⟩), .int .i64 (i : Int)] wx fun e w' => e = .returned (.tuple #[.agg #[.int .i64 a, .int .i64 b], .bool true]) ∧ Rnd w w' G X Y most qk i ql pre gap post vB qA A0 qc c0 ln xl := by
  have hlen := h.len
  have e : rd_T82 (pre ++ post) i = sgn (pre ++ post) i := by unfold rd_T82 sgn; rw [Int.toNat_natCast]
  rw [e] at ha hb
  by_cases hp : i < pre.length
  · refine (gget_pre h.gx.g i hp).mono ?_
    rintro e w' ⟨rfl, hb'⟩
    rw [ha, hb]
    exact ⟨rfl, h.below hb'⟩
  · refine (gget_post h.gx.g i (by omega) (by omega)).mono ?_
    rintro e w' ⟨rfl, hb'⟩
    rw [ha, hb]
    exact ⟨rfl, h.below hb'⟩
theorem Src.mid {W : World} {A : Option Addr} {c lo hi : Nat} (h : Src W A c xs) (h1 : lo ≤ hi) (h2 : hi ≤ xs.length) : Src W (cutA A c lo) (c - lo) ((xs.take hi).drop lo) := by
  have hc := h.cap
  refine ⟨Kd.C_mid h.C h1 h2 hc, by rw [List.length_drop, List.length_take]; omega, cutA_nil h.nil⟩
/-- The places of a cut, and the call. -/
theorem Rnd.cut (h : Rnd w wx G X Y most qk qn ql pre gap post vB qA A0 qc c0 ln xl) : ∃ tt lo hi : Nat, plc xl ((pre.length : Int) + min (max qn (-100000)) 100000) = tt ∧ min (pre.length : Int) (tt : Int) = (lo : Int) ∧ max (pre.length : Int) (tt : Int) = (hi : Int) ∧ lo ≤ hi ∧ hi ≤ xl ∧ lo ≤ pre.length ∧
    ∀ W, Rnd w W G X Y most qk qn ql pre gap post vB qA A0 qc c0 ln xl → Calls Try.prog 48 #[.pointer (some ⟨G, 0, none⟩), .int .i64 qn] W fun e w' => ∃ (A1 : Option Addr) (c1 : Nat) (p3 g3 q3 : List S82), e = .returned (.slice A1 (hi - lo) c1) ∧ Src w' A1 c1 (((pre ++ post).take hi).drop lo) ∧
      Mid w w' G X Y most qk qn p3 g3 q3 (pre ++ post) pre.length ql vB qA A0 qc c0 ln ∧ p3 ++ q3 = (pre ++ post).take lo ++ (pre ++ post).drop hi ∧ p3.length = lo := by
  have hlen := h.len
  have hxb := h.xbig
  by_cases hz : 0 ≤ qn
  · obtain ⟨k, hk⟩ : ∃ k, (min qn (post.length : Int)).toNat = k := ⟨_, rfl⟩
    have e1 : (pre ++ post).take (pre.length + k) = pre ++ post.take k := by rw [List.take_append, List.take_of_length_le (by omega), Nat.add_sub_cancel_left]
    have e2 : (pre ++ post).drop (pre.length + k) = post.drop k := by rw [List.drop_append, List.drop_of_length_le (by omega), Nat.add_sub_cancel_left, List.nil_append]
    have e3 : (pre ++ post).take pre.length = pre := by rw [List.take_append_of_le_length (Nat.le_refl _), List.take_length]
    refine ⟨pre.length + k, pre.length, pre.length + k, by unfold plc; omega, by omega, by omega, by omega, by omega, by omega, fun W hW => ?_⟩
    refine (gcut_pos hW.gx.g qn hz).mono ?_
    rintro e w' ⟨v, k', hk', rfl, hr, hg, hkk⟩
    obtain rfl : k' = k := by omega
    obtain ⟨A1, c1, rfl, hs⟩ := hr.src
    have hl : (post.take k').length = pre.length + k' - pre.length := by rw [List.length_take]; omega
    rw [hl]
    refine ⟨A1, c1, _, _, _, rfl, ?_, hW.mid.step hg hkk (fun _ hj => .inl hj) (.inl rfl), ?_, rfl⟩
    · rw [e1, List.drop_append_of_le_length (Nat.le_refl _), List.drop_length, List.nil_append]; exact hs
    · rw [e2, e3]
  · obtain ⟨k, hk⟩ : ∃ k, (min (-qn) (pre.length : Int)).toNat = k := ⟨_, rfl⟩
    have e2 : (pre ++ post).drop pre.length = post := by rw [List.drop_append_of_le_length (Nat.le_refl _), List.drop_length, List.nil_append]
    have e3 : (pre ++ post).take pre.length = pre := by rw [List.take_append_of_le_length (Nat.le_refl _), List.take_length]
    refine ⟨pre.length - k, pre.length - k, pre.length, by unfold plc; omega, by omega, by omega, by omega, by omega, by omega, fun W hW => ?_⟩
    refine (gcut_neg hW.gx.g qn (by omega)).mono ?_
    rintro e w' ⟨v, k', hk', rfl, hr, hg, hkk⟩
    obtain rfl : k' = k := by omega
    obtain ⟨A1, c1, rfl, hs⟩ := hr.src
    have hl : (pre.drop (pre.length - k')).length = pre.length - (pre.length - k') := List.length_drop
    rw [hl]
    refine ⟨A1, c1, _, _, _, rfl, ?_, hW.mid.step hg hkk (fun _ hj => .inl hj) (.inl rfl), ?_, ?_⟩
    · rw [e3]; exact hs
    · rw [e2, List.take_append_of_le_length (by omega)]
    · rw [List.length_take]; omega
theorem Mid.without {lo hi : Nat} (h : Mid w wz G X Y most qk qn p2 g2 q2 xs z ql vB qA A0 qc c0 ln) (hx : xs.length = xl) (h1 : lo ≤ xl) (h2 : hi ≤ xl) (hb : xl ≤ 500000) :
    Calls Try.prog 49 #[.agg #[.slice A0 xl c0, .int .i64 z], .int .i64 (lo : Int), .int .i64 (hi : Int)] wz fun e w' => ∃ (A' : Option Addr) (c' n' : Nat), e = .returned (.agg #[.slice A' n' c', .int .i64 (lo : Int)]) ∧ Rw w' wz.heap.size (.slice A' n' c') (xs.take lo ++ xs.drop hi) ∧ (xs.take lo ++ xs.drop hi).length = n' ∧ Below wz.heap.size wz w' := by
  subst hx
  refine (rwithout h.x.src lo hi h1 h2 hb z).mono ?_
  rintro e w' ⟨v, rfl, hr, hbb⟩
  obtain ⟨A', c', rfl, _⟩ := hr.src
  exact ⟨A', c', _, rfl, hr, rfl, hbb⟩
end

end Go.Proofs.Ytopmenioioljoaa.GapW

/-
  THE LAW GapDoes, ITS PIECES: what a call is to answer.
-/
namespace Go.Proofs.Ytopmenioioljoaa.GapW
open Go.RowKit Go.Proofs.Ytopmenioioljoaa.Base Go.Proofs.YtopmenioioljoaaW.PrintWords Go.Proofs.YtopmenioioljoaaW.PrintLast Go.Proofs.YtopmenioioljoaaW.PrintMore Go.Proofs.Ytopmenioioljoaa.PGapDoes Go.Proofs.Ytopmenioioljoaa.CountW

set_option linter.unusedVariables false in
set_option maxRecDepth 100000 in
set_option maxHeartbeats 8000000 in
theorem segW_bad {Q : Exit → Act → World → Prop} {v1 v2 v3 v4 v6 v8 v11 v12 v13 v14 v15 v16 v17 v18 v19 v20 v21 v22 v23 v24 v25 v26 v27 v28 v29 v30 v31 v32 v33 v34 v35 v36 v37 v38 v39 v40 v41 v42 v43 v44 v45 v46 v47 v48 v49 v50 v51 v52 v53 v54 v55 v56 v57 v58 v59 v60 v61 v62 v63 v64 v65 v66 v67 v68 v69 v70 v71 v72 v73 v74 v75 v76 v77 v78 v79 v80 v81 v82 v83 v84 v85 v86 v87 v88 v89 v90 v91 v92 v93 v94 v95 v96 v97 v98 v99 v100 v101 v102 v103 v104 v105 v106 v107 v108 v109 v110 v111 v112 v113 v114 v115 v116 v117 v118 v119 v120 v121 v122 v123 v124 v125 v126 v127 v128 v129 v130 v131 v132 v133 v134 v135 v136 v137 v138 v139 v140 v141 v142 v143 v144 v145 v146 v147 v148 v149 v150 v151 v152 v153 v154 v155 v156 v157 v158 v159 v160 v161 v162 v163 v164 v165 v166 v167 v168 v169 v170 v171 v172 v173 v174 v175 v176 v177 v178 v179 v180 v181 v182 v183 v184 v185 v186 v187 v188 v189 v190 v191 v192 v193 v194 v195 v196 v197 v198 v199 v200 v201 v202 v203 v204 v205 v206 v207 v208 v209 v210 v211 v212 v213 v214 v215 v216 v217 v218 v219 v220 v221 v222 v223 v224 v225 v226 v227 v228 v229 v230 v231 v232 v233 v234 v235 v236 v237 v238 v239 v240 v241 v242 v243 : Value} {w wx : World} {G X Y : Nat} {most qn : Int} {qA A0 : Option Addr} {qc c0 ln xl : Nat} {ql pre gap post : List S82} {vB : Value} {qk : Int} (h : Rnd w wx G X Y most qk qn ql pre gap post vB qA A0 qc c0 ln xl) (hs : ql.all srt = false)
    (hQ : ∀ (u58 u59 u60 u61 u62 u63 u64 u65 u66 u67 u68 u69 u70 u71 u72 u73 u74 u75 u76 u77 u78 u79 u80 u81 u82 u83 u84 u85 u86 u87 : Value) (wy : World), Rnd w wy G X Y most qk qn ql pre gap post vB qA A0 qc c0 ln xl → Q .normal { tmps := #[.int .i64 most, v1, v2, v3, v4, .pointer (some ⟨G, 0, none⟩), v6, .pointer (some ⟨X, 0, none⟩), v8, .pointer (some ⟨Y, 0, none⟩), .int .i64 2, v11, v12, v13, v14, v15, v16, v17, v18, v19, v20, v21, v22, v23, v24, v25, v26, v27, v28, v29, v30, v31, v32, v33, v34, v35, v36, v37, v38, v39, v40, v41, v42, v43, v44, v45, v46, v47, v48, v49, v50, v51, v52, v53, v54, v55, v56, v57, u58, u59, u60, u61, u62, u63, u64, u65, u66, u67, u68, u69, u70, u71, u72, u73, u74, u75, u76, u77, u78, u79, u80, u81, u82, u83, u84, u85, u86, u87, v88, v89, v90, v91, v92, v93, v94, v95, v96, v97, v98, v99, v100, v101, v102, v103, v104, v105, v106, v107, v108, v109, v110, v111, v112, v113, v114, v115, v116, v117, v118, v119, v120, v121, v122, v123, v124, v125, v126, v127, v128, v129, v130, v131, v132, v133, v134, v135, v136, v137, v138, v139, v140, v141, v142, v143, v144, v145, v146, v147, v148, v149, v150, v151, v152, v153, v154, v155, v156, v157, v158, v159, v160, v161, v162, v163, v164, v165, v166, v167, v168, v169, v170, v171, v172, v173, v174, v175, v176, v177, v178, v179, v180, v181, v182, v183, v184, v185, v186, v187, v188, v189, v190, v191, v192, v193, v194, v195, v196, v197, v198, v199, v200, v201, v202, v203, v204, v205, v206, v207, v208, v209, v210, v211, v212, v213, v214, v215, v216, v217, v218, v219, v220, v221, v222, v223, v224, v225, v226, v227, v228, v229, v230, v231, v232, v233, v234, v235, v236, v237, v238, v239, v240, v241, v242, v243], defers := [] } wy) : (pW Try.f8).wp Try.prog Q { tmps := #[.int .i64 most, v1, v2, v3, v4, .pointer (some ⟨G, 0, none⟩), v6, .pointer (some ⟨X, 0, none⟩), v8, .pointer (some ⟨Y, 0, none⟩), .int .i64 0, v11, v12, v13, v14, v15, v16, v17, v18, v19, v20, v21, v22, v23, v24, v25, v26, v27, v28, v29, v30, v31, v32, v33, v34, v35, v36, v37, v38, v39, v40, v41, v42, v43, v44, v45, v46, v47, v48, v49, v50, v51, v52, v53, v54, v55, v56, v57, v58, v59, v60, v61, v62, v63, v64, v65, v66, v67, v68, v69, v70, v71, v72, v73, v74, v75, v76, v77, v78, v79, v80, v81, v82, v83, v84, v85, v86, v87, v88, v89, v90, v91, v92, v93, v94, v95, v96, v97, v98, v99, v100, v101, v102, v103, v104, v105, v106, v107, v108, v109, v110, v111, v112, v113, v114, v115, v116, v117, v118, v119, v120, v121, v122, v123, v124, v125, v126, v127, v128, v129, v130, v131, v132, v133, v134, v135, v136, v137, v138, v139, v140, v141, v142, v143, v144, v145, v146, v147, v148, v149, v150, v151, v152, v153, v154, v155, v156, v157, v158, v159, v160, v161, v162, v163, v164, v165, v166, v167, v168, v169, v170, v171, v172, v173, v174, v175, v176, v177, v178, v179, v180, v181, v182, v183, v184, v185, v186, v187, v188, v189, v190, v191, v192, v193, v194, v195, v196, v197, v198, v199, v200, v201, v202, v203, v204, v205, v206, v207, v208, v209, v210, v211, v212, v213, v214, v215, v216, v217, v218, v219, v220, v221, v222, v223, v224, v225, v226, v227, v228, v229, v230, v231, v232, v233, v234, v235, v236, v237, v238, v239, v240, v241, v242, v243], defers := [] } wx := by
  have HR := h.all
  rw [hs] at HR
  have HRA := Lib.hid HR
  have H := Aside0.mk h
  obtain ⟨y0, y1, y2⟩ := cells72 h.y
  have HQ := Lib.hid hQ
  clear HR hs h hQ
  dsimp only [pW, pRB, pBlk, pLB, cH, cT, cB, Try.f8, Option.getD]
  go_wp2_with fail
  refine HRA.out.mono ?_
  rintro e w3 ⟨rfl, hb3⟩
  have H3 := Aside0.mk (H.out.below hb3)
  clear hb3
  obtain ⟨x0, x1, f0, f1⟩ := H3.out.gx.x.cells
  rw [H3.out.hxl] at x0
  obtain ⟨y0, y1, y2⟩ := cells72 H3.out.y
  go_wp2_with fail
  exact HQ.out _ _ _ _ _ _ _ _ _ _ _ _ _ _ _ _ _ _ _ _ _ _ _ _ _ _ _ _ _ _ _ H3.out

set_option linter.unusedVariables false in
set_option maxRecDepth 100000 in
set_option maxHeartbeats 8000000 in
theorem segW_0o {Q : Exit → Act → World → Prop} {v1 v2 v3 v4 v6 v8 v11 v12 v13 v14 v15 v16 v17 v18 v19 v20 v21 v22 v23 v24 v25 v26 v27 v28 v29 v30 v31 v32 v33 v34 v35 v36 v37 v38 v39 v40 v41 v42 v43 v44 v45 v46 v47 v48 v49 v50 v51 v52 v53 v54 v55 v56 v57 v58 v59 v60 v61 v62 v63 v64 v65 v66 v67 v68 v69 v70 v71 v72 v73 v74 v75 v76 v77 v78 v79 v80 v81 v82 v83 v84 v85 v86 v87 v88 v89 v90 v91 v92 v93 v94 v95 v96 v97 v98 v99 v100 v101 v102 v103 v104 v105 v106 v107 v108 v109 v110 v111 v112 v113 v114 v115 v116 v117 v118 v119 v120 v121 v122 v123 v124 v125 v126 v127 v128 v129 v130 v131 v132 v133 v134 v135 v136 v137 v138 v139 v140 v141 v142 v143 v144 v145 v146 v147 v148 v149 v150 v151 v152 v153 v154 v155 v156 v157 v158 v159 v160 v161 v162 v163 v164 v165 v166 v167 v168 v169 v170 v171 v172 v173 v174 v175 v176 v177 v178 v179 v180 v181 v182 v183 v184 v185 v186 v187 v188 v189 v190 v191 v192 v193 v194 v195 v196 v197 v198 v199 v200 v201 v202 v203 v204 v205 v206 v207 v208 v209 v210 v211 v212 v213 v214 v215 v216 v217 v218 v219 v220 v221 v222 v223 v224 v225 v226 v227 v228 v229 v230 v231 v232 v233 v234 v235 v236 v237 v238 v239 v240 v241 v242 v243 : Value} {w wx : World} {G X Y : Nat} {most qn : Int} {qA A0 : Option Addr} {qc c0 ln xl : Nat} {ql pre gap post : List S82} {vB : Value} (h : Rnd w wx G X Y most 0 qn ql pre gap post vB qA A0 qc c0 ln xl) (hs : ql.all srt = true) (ho : most < (ln : Int) + (xl : Int))
    (hQ : ∀ (u58 u59 u60 u61 u62 u63 u64 u65 u66 u67 u68 u69 u70 u71 u72 u73 u74 u75 u76 u77 u78 u79 u80 u81 u82 u83 u84 u85 u86 u87 : Value) (wy : World), Rnd w wy G X Y most 0 qn ql pre gap post vB qA A0 qc c0 ln xl → Q .normal { tmps := #[.int .i64 most, v1, v2, v3, v4, .pointer (some ⟨G, 0, none⟩), v6, .pointer (some ⟨X, 0, none⟩), v8, .pointer (some ⟨Y, 0, none⟩), .int .i64 8, v11, v12, v13, v14, v15, v16, v17, v18, v19, v20, v21, v22, v23, v24, v25, v26, v27, v28, v29, v30, v31, v32, v33, v34, v35, v36, v37, v38, v39, v40, v41, v42, v43, v44, v45, v46, v47, v48, v49, v50, v51, v52, v53, v54, v55, v56, v57, u58, u59, u60, u61, u62, u63, u64, u65, u66, u67, u68, u69, u70, u71, u72, u73, u74, u75, u76, u77, u78, u79, u80, u81, u82, u83, u84, u85, u86, u87, v88, v89, v90, v91, v92, v93, v94, v95, v96, v97, v98, v99, v100, v101, v102, v103, v104, v105, v106, v107, v108, v109, v110, v111, v112, v113, v114, v115, v116, v117, v118, v119, v120, v121, v122, v123, v124, v125, v126, v127, v128, v129, v130, v131, v132, v133, v134, v135, v136, v137, v138, v139, v140, v141, v142, v143, v144, v145, v146, v147, v148, v149, v150, v151, v152, v153, v154, v155, v156, v157, v158, v159, v160, v161, v162, v163, v164, v165, v166, v167, v168, v169, v170, v171, v172, v173, v174, v175, v176, v177, v178, v179, v180, v181, v182, v183, v184, v185, v186, v187, v188, v189, v190, v191, v192, v193, v194, v195, v196, v197, v198, v199, v200, v201, v202, v203, v204, v205, v206, v207, v208, v209, v210, v211, v212, v213, v214, v215, v216, v217, v218, v219, v220, v221, v222, v223, v224, v225, v226, v227, v228, v229, v230, v231, v232, v233, v234, v235, v236, v237, v238, v239, v240, v241, v242, v243], defers := [] } wy) : (pW Try.f8).wp Try.prog Q { tmps := #[.int .i64 most, v1, v2, v3, v4, .pointer (some ⟨G, 0, none⟩), v6, .pointer (some ⟨X, 0, none⟩), v8, .pointer (some ⟨Y, 0, none⟩), .int .i64 0, v11, v12, v13, v14, v15, v16, v17, v18, v19, v20, v21, v22, v23, v24, v25, v26, v27, v28, v29, v30, v31, v32, v33, v34, v35, v36, v37, v38, v39, v40, v41, v42, v43, v44, v45, v46, v47, v48, v49, v50, v51, v52, v53, v54, v55, v56, v57, v58, v59, v60, v61, v62, v63, v64, v65, v66, v67, v68, v69, v70, v71, v72, v73, v74, v75, v76, v77, v78, v79, v80, v81, v82, v83, v84, v85, v86, v87, v88, v89, v90, v91, v92, v93, v94, v95, v96, v97, v98, v99, v100, v101, v102, v103, v104, v105, v106, v107, v108, v109, v110, v111, v112, v113, v114, v115, v116, v117, v118, v119, v120, v121, v122, v123, v124, v125, v126, v127, v128, v129, v130, v131, v132, v133, v134, v135, v136, v137, v138, v139, v140, v141, v142, v143, v144, v145, v146, v147, v148, v149, v150, v151, v152, v153, v154, v155, v156, v157, v158, v159, v160, v161, v162, v163, v164, v165, v166, v167, v168, v169, v170, v171, v172, v173, v174, v175, v176, v177, v178, v179, v180, v181, v182, v183, v184, v185, v186, v187, v188, v189, v190, v191, v192, v193, v194, v195, v196, v197, v198, v199, v200, v201, v202, v203, v204, v205, v206, v207, v208, v209, v210, v211, v212, v213, v214, v215, v216, v217, v218, v219, v220, v221, v222, v223, v224, v225, v226, v227, v228, v229, v230, v231, v232, v233, v234, v235, v236, v237, v238, v239, v240, v241, v242, v243], defers := [] } wx := by
  have HR := h.all
  rw [hs] at HR
  have HRA := Lib.hid HR
  have H := Aside0.mk h
  obtain ⟨y0, y1, y2⟩ := cells72 h.y
  have ws : IntKind.i64.wrap ((ln : Int) + (xl : Int)) = (ln : Int) + (xl : Int) := by rw [IntKind.wrap_i64]; have h1 := h.l60; have h2 := h.xbig; omega
  have dO : decide (most < (ln : Int) + (xl : Int)) = true := decide_eq_true ho
  have HQ := Lib.hid hQ
  clear HR hs h hQ
  dsimp only [pW, pRB, pBlk, pLB, cH, cT, cB, Try.f8, Option.getD]
  go_wp2_with fail
  refine HRA.out.mono ?_
  rintro e w3 ⟨rfl, hb3⟩
  have H3 := Aside0.mk (H.out.below hb3)
  clear hb3
  obtain ⟨x0, x1, f0, f1⟩ := H3.out.gx.x.cells
  rw [H3.out.hxl] at x0
  obtain ⟨y0, y1, y2⟩ := cells72 H3.out.y
  go_wp2_with fail
  exact HQ.out _ _ _ _ _ _ _ _ _ _ _ _ _ _ _ _ _ _ _ _ _ _ _ _ _ _ _ _ _ _ _ H3.out

set_option linter.unusedVariables false in
set_option maxRecDepth 100000 in
set_option maxHeartbeats 8000000 in
theorem segW_0n {Q : Exit → Act → World → Prop} {v1 v2 v3 v4 v6 v8 v11 v12 v13 v14 v15 v16 v17 v18 v19 v20 v21 v22 v23 v24 v25 v26 v27 v28 v29 v30 v31 v32 v33 v34 v35 v36 v37 v38 v39 v40 v41 v42 v43 v44 v45 v46 v47 v48 v49 v50 v51 v52 v53 v54 v55 v56 v57 v58 v59 v60 v61 v62 v63 v64 v65 v66 v67 v68 v69 v70 v71 v72 v73 v74 v75 v76 v77 v78 v79 v80 v81 v82 v83 v84 v85 v86 v87 v88 v89 v90 v91 v92 v93 v94 v95 v96 v97 v98 v99 v100 v101 v102 v103 v104 v105 v106 v107 v108 v109 v110 v111 v112 v113 v114 v115 v116 v117 v118 v119 v120 v121 v122 v123 v124 v125 v126 v127 v128 v129 v130 v131 v132 v133 v134 v135 v136 v137 v138 v139 v140 v141 v142 v143 v144 v145 v146 v147 v148 v149 v150 v151 v152 v153 v154 v155 v156 v157 v158 v159 v160 v161 v162 v163 v164 v165 v166 v167 v168 v169 v170 v171 v172 v173 v174 v175 v176 v177 v178 v179 v180 v181 v182 v183 v184 v185 v186 v187 v188 v189 v190 v191 v192 v193 v194 v195 v196 v197 v198 v199 v200 v201 v202 v203 v204 v205 v206 v207 v208 v209 v210 v211 v212 v213 v214 v215 v216 v217 v218 v219 v220 v221 v222 v223 v224 v225 v226 v227 v228 v229 v230 v231 v232 v233 v234 v235 v236 v237 v238 v239 v240 v241 v242 v243 : Value} {w wx : World} {G X Y : Nat} {most qn : Int} {qA A0 : Option Addr} {qc c0 ln xl : Nat} {ql pre gap post : List S82} {vB : Value} (h : Rnd w wx G X Y most 0 qn ql pre gap post vB qA A0 qc c0 ln xl) (hs : ql.all srt = true) (ho : ¬ most < (ln : Int) + (xl : Int))
    (hQ : ∀ (u58 u59 u60 u61 u62 u63 u64 u65 u66 u67 u68 u69 u70 u71 u72 u73 u74 u75 u76 u77 u78 u79 u80 u81 u82 u83 u84 u85 u86 u87 : Value) (wy : World), Rnd w wy G X Y most 0 qn ql pre gap post vB qA A0 qc c0 ln xl → Q .normal { tmps := #[.int .i64 most, v1, v2, v3, v4, .pointer (some ⟨G, 0, none⟩), v6, .pointer (some ⟨X, 0, none⟩), v8, .pointer (some ⟨Y, 0, none⟩), .int .i64 0, v11, v12, v13, v14, v15, v16, v17, v18, v19, v20, v21, v22, v23, v24, v25, v26, v27, v28, v29, v30, v31, v32, v33, v34, v35, v36, v37, v38, v39, v40, v41, v42, v43, v44, v45, v46, v47, v48, v49, v50, v51, v52, v53, v54, v55, v56, v57, u58, u59, u60, u61, u62, u63, u64, u65, u66, u67, u68, u69, u70, u71, u72, u73, u74, u75, u76, u77, u78, u79, u80, u81, u82, u83, u84, u85, u86, u87, v88, v89, v90, v91, v92, v93, v94, v95, v96, v97, v98, v99, v100, v101, v102, v103, v104, v105, v106, v107, v108, v109, v110, v111, v112, v113, v114, v115, v116, v117, v118, v119, v120, v121, v122, v123, v124, v125, v126, v127, v128, v129, v130, v131, v132, v133, v134, v135, v136, v137, v138, v139, v140, v141, v142, v143, v144, v145, v146, v147, v148, v149, v150, v151, v152, v153, v154, v155, v156, v157, v158, v159, v160, v161, v162, v163, v164, v165, v166, v167, v168, v169, v170, v171, v172, v173, v174, v175, v176, v177, v178, v179, v180, v181, v182, v183, v184, v185, v186, v187, v188, v189, v190, v191, v192, v193, v194, v195, v196, v197, v198, v199, v200, v201, v202, v203, v204, v205, v206, v207, v208, v209, v210, v211, v212, v213, v214, v215, v216, v217, v218, v219, v220, v221, v222, v223, v224, v225, v226, v227, v228, v229, v230, v231, v232, v233, v234, v235, v236, v237, v238, v239, v240, v241, v242, v243], defers := [] } wy) : (pW Try.f8).wp Try.prog Q { tmps := #[.int .i64 most, v1, v2, v3, v4, .pointer (some ⟨G, 0, none⟩), v6, .pointer (some ⟨X, 0, none⟩), v8, .pointer (some ⟨Y, 0, none⟩), .int .i64 0, v11, v12, v13, v14, v15, v16, v17, v18, v19, v20, v21, v22, v23, v24, v25, v26, v27, v28, v29, v30, v31, v32, v33, v34, v35, v36, v37, v38, v39, v40, v41, v42, v43, v44, v45, v46, v47, v48, v49, v50, v51, v52, v53, v54, v55, v56, v57, v58, v59, v60, v61, v62, v63, v64, v65, v66, v67, v68, v69, v70, v71, v72, v73, v74, v75, v76, v77, v78, v79, v80, v81, v82, v83, v84, v85, v86, v87, v88, v89, v90, v91, v92, v93, v94, v95, v96, v97, v98, v99, v100, v101, v102, v103, v104, v105, v106, v107, v108, v109, v110, v111, v112, v113, v114, v115, v116, v117, v118, v119, v120, v121, v122, v123, v124, v125, v126, v127, v128, v129, v130, v131, v132, v133, v134, v135, v136, v137, v138, v139, v140, v141, v142, v143, v144, v145, v146, v147, v148, v149, v150, v151, v152, v153, v154, v155, v156, v157, v158, v159, v160, v161, v162, v163, v164, v165, v166, v167, v168, v169, v170, v171, v172, v173, v174, v175, v176, v177, v178, v179, v180, v181, v182, v183, v184, v185, v186, v187, v188, v189, v190, v191, v192, v193, v194, v195, v196, v197, v198, v199, v200, v201, v202, v203, v204, v205, v206, v207, v208, v209, v210, v211, v212, v213, v214, v215, v216, v217, v218, v219, v220, v221, v222, v223, v224, v225, v226, v227, v228, v229, v230, v231, v232, v233, v234, v235, v236, v237, v238, v239, v240, v241, v242, v243], defers := [] } wx := by
  have HR := h.all
  rw [hs] at HR
  have HRA := Lib.hid HR
  have H := Aside0.mk h
  obtain ⟨y0, y1, y2⟩ := cells72 h.y
  have ws : IntKind.i64.wrap ((ln : Int) + (xl : Int)) = (ln : Int) + (xl : Int) := by rw [IntKind.wrap_i64]; have h1 := h.l60; have h2 := h.xbig; omega
  have dO : decide (most < (ln : Int) + (xl : Int)) = false := decide_eq_false ho
  have HQ := Lib.hid hQ
  clear HR hs h hQ
  dsimp only [pW, pRB, pBlk, pLB, cH, cT, cB, Try.f8, Option.getD]
  go_wp2_with fail
  refine HRA.out.mono ?_
  rintro e w3 ⟨rfl, hb3⟩
  have H3 := Aside0.mk (H.out.below hb3)
  clear hb3
  obtain ⟨x0, x1, f0, f1⟩ := H3.out.gx.x.cells
  rw [H3.out.hxl] at x0
  obtain ⟨y0, y1, y2⟩ := cells72 H3.out.y
  go_wp2_with fail
  exact HQ.out _ _ _ _ _ _ _ _ _ _ _ _ _ _ _ _ _ _ _ _ _ _ _ _ _ _ _ _ _ _ _ H3.out

set_option linter.unusedVariables false in
set_option maxRecDepth 100000 in
set_option maxHeartbeats 8000000 in
theorem segW_3o {Q : Exit → Act → World → Prop} {v1 v2 v3 v4 v6 v8 v11 v12 v13 v14 v15 v16 v17 v18 v19 v20 v21 v22 v23 v24 v25 v26 v27 v28 v29 v30 v31 v32 v33 v34 v35 v36 v37 v38 v39 v40 v41 v42 v43 v44 v45 v46 v47 v48 v49 v50 v51 v52 v53 v54 v55 v56 v57 v58 v59 v60 v61 v62 v63 v64 v65 v66 v67 v68 v69 v70 v71 v72 v73 v74 v75 v76 v77 v78 v79 v80 v81 v82 v83 v84 v85 v86 v87 v88 v89 v90 v91 v92 v93 v94 v95 v96 v97 v98 v99 v100 v101 v102 v103 v104 v105 v106 v107 v108 v109 v110 v111 v112 v113 v114 v115 v116 v117 v118 v119 v120 v121 v122 v123 v124 v125 v126 v127 v128 v129 v130 v131 v132 v133 v134 v135 v136 v137 v138 v139 v140 v141 v142 v143 v144 v145 v146 v147 v148 v149 v150 v151 v152 v153 v154 v155 v156 v157 v158 v159 v160 v161 v162 v163 v164 v165 v166 v167 v168 v169 v170 v171 v172 v173 v174 v175 v176 v177 v178 v179 v180 v181 v182 v183 v184 v185 v186 v187 v188 v189 v190 v191 v192 v193 v194 v195 v196 v197 v198 v199 v200 v201 v202 v203 v204 v205 v206 v207 v208 v209 v210 v211 v212 v213 v214 v215 v216 v217 v218 v219 v220 v221 v222 v223 v224 v225 v226 v227 v228 v229 v230 v231 v232 v233 v234 v235 v236 v237 v238 v239 v240 v241 v242 v243 : Value} {w wx : World} {G X Y : Nat} {most qn : Int} {qA A0 : Option Addr} {qc c0 ln xl : Nat} {ql pre gap post : List S82} {vB : Value} (h : Rnd w wx G X Y most 3 qn ql pre gap post vB qA A0 qc c0 ln xl) (hs : ql.all srt = true) (ho : most < (ln : Int))
    (hQ : ∀ (u58 u59 u60 u61 u62 u63 u64 u65 u66 u67 u68 u69 u70 u71 u72 u73 u74 u75 u76 u77 u78 u79 u80 u81 u82 u83 u84 u85 u86 u87 : Value) (wy : World), Rnd w wy G X Y most 3 qn ql pre gap post vB qA A0 qc c0 ln xl → Q .normal { tmps := #[.int .i64 most, v1, v2, v3, v4, .pointer (some ⟨G, 0, none⟩), v6, .pointer (some ⟨X, 0, none⟩), v8, .pointer (some ⟨Y, 0, none⟩), .int .i64 8, v11, v12, v13, v14, v15, v16, v17, v18, v19, v20, v21, v22, v23, v24, v25, v26, v27, v28, v29, v30, v31, v32, v33, v34, v35, v36, v37, v38, v39, v40, v41, v42, v43, v44, v45, v46, v47, v48, v49, v50, v51, v52, v53, v54, v55, v56, v57, u58, u59, u60, u61, u62, u63, u64, u65, u66, u67, u68, u69, u70, u71, u72, u73, u74, u75, u76, u77, u78, u79, u80, u81, u82, u83, u84, u85, u86, u87, v88, v89, v90, v91, v92, v93, v94, v95, v96, v97, v98, v99, v100, v101, v102, v103, v104, v105, v106, v107, v108, v109, v110, v111, v112, v113, v114, v115, v116, v117, v118, v119, v120, v121, v122, v123, v124, v125, v126, v127, v128, v129, v130, v131, v132, v133, v134, v135, v136, v137, v138, v139, v140, v141, v142, v143, v144, v145, v146, v147, v148, v149, v150, v151, v152, v153, v154, v155, v156, v157, v158, v159, v160, v161, v162, v163, v164, v165, v166, v167, v168, v169, v170, v171, v172, v173, v174, v175, v176, v177, v178, v179, v180, v181, v182, v183, v184, v185, v186, v187, v188, v189, v190, v191, v192, v193, v194, v195, v196, v197, v198, v199, v200, v201, v202, v203, v204, v205, v206, v207, v208, v209, v210, v211, v212, v213, v214, v215, v216, v217, v218, v219, v220, v221, v222, v223, v224, v225, v226, v227, v228, v229, v230, v231, v232, v233, v234, v235, v236, v237, v238, v239, v240, v241, v242, v243], defers := [] } wy) : (pW Try.f8).wp Try.prog Q { tmps := #[.int .i64 most, v1, v2, v3, v4, .pointer (some ⟨G, 0, none⟩), v6, .pointer (some ⟨X, 0, none⟩), v8, .pointer (some ⟨Y, 0, none⟩), .int .i64 0, v11, v12, v13, v14, v15, v16, v17, v18, v19, v20, v21, v22, v23, v24, v25, v26, v27, v28, v29, v30, v31, v32, v33, v34, v35, v36, v37, v38, v39, v40, v41, v42, v43, v44, v45, v46, v47, v48, v49, v50, v51, v52, v53, v54, v55, v56, v57, v58, v59, v60, v61, v62, v63, v64, v65, v66, v67, v68, v69, v70, v71, v72, v73, v74, v75, v76, v77, v78, v79, v80, v81, v82, v83, v84, v85, v86, v87, v88, v89, v90, v91, v92, v93, v94, v95, v96, v97, v98, v99, v100, v101, v102, v103, v104, v105, v106, v107, v108, v109, v110, v111, v112, v113, v114, v115, v116, v117, v118, v119, v120, v121, v122, v123, v124, v125, v126, v127, v128, v129, v130, v131, v132, v133, v134, v135, v136, v137, v138, v139, v140, v141, v142, v143, v144, v145, v146, v147, v148, v149, v150, v151, v152, v153, v154, v155, v156, v157, v158, v159, v160, v161, v162, v163, v164, v165, v166, v167, v168, v169, v170, v171, v172, v173, v174, v175, v176, v177, v178, v179, v180, v181, v182, v183, v184, v185, v186, v187, v188, v189, v190, v191, v192, v193, v194, v195, v196, v197, v198, v199, v200, v201, v202, v203, v204, v205, v206, v207, v208, v209, v210, v211, v212, v213, v214, v215, v216, v217, v218, v219, v220, v221, v222, v223, v224, v225, v226, v227, v228, v229, v230, v231, v232, v233, v234, v235, v236, v237, v238, v239, v240, v241, v242, v243], defers := [] } wx := by
  have HR := h.all
  rw [hs] at HR
  have HRA := Lib.hid HR
  have H := Aside0.mk h
  obtain ⟨y0, y1, y2⟩ := cells72 h.y
  have dO : decide (most < (ln : Int)) = true := decide_eq_true ho
  have HQ := Lib.hid hQ
  clear HR hs h hQ
  dsimp only [pW, pRB, pBlk, pLB, cH, cT, cB, Try.f8, Option.getD]
  go_wp2_with fail
  refine HRA.out.mono ?_
  rintro e w3 ⟨rfl, hb3⟩
  have H3 := Aside0.mk (H.out.below hb3)
  clear hb3
  obtain ⟨x0, x1, f0, f1⟩ := H3.out.gx.x.cells
  rw [H3.out.hxl] at x0
  obtain ⟨y0, y1, y2⟩ := cells72 H3.out.y
  go_wp2_with fail
  exact HQ.out _ _ _ _ _ _ _ _ _ _ _ _ _ _ _ _ _ _ _ _ _ _ _ _ _ _ _ _ _ _ _ H3.out

set_option linter.unusedVariables false in
set_option maxRecDepth 100000 in
set_option maxHeartbeats 8000000 in
theorem segW_3n {Q : Exit → Act → World → Prop} {v1 v2 v3 v4 v6 v8 v11 v12 v13 v14 v15 v16 v17 v18 v19 v20 v21 v22 v23 v24 v25 v26 v27 v28 v29 v30 v31 v32 v33 v34 v35 v36 v37 v38 v39 v40 v41 v42 v43 v44 v45 v46 v47 v48 v49 v50 v51 v52 v53 v54 v55 v56 v57 v58 v59 v60 v61 v62 v63 v64 v65 v66 v67 v68 v69 v70 v71 v72 v73 v74 v75 v76 v77 v78 v79 v80 v81 v82 v83 v84 v85 v86 v87 v88 v89 v90 v91 v92 v93 v94 v95 v96 v97 v98 v99 v100 v101 v102 v103 v104 v105 v106 v107 v108 v109 v110 v111 v112 v113 v114 v115 v116 v117 v118 v119 v120 v121 v122 v123 v124 v125 v126 v127 v128 v129 v130 v131 v132 v133 v134 v135 v136 v137 v138 v139 v140 v141 v142 v143 v144 v145 v146 v147 v148 v149 v150 v151 v152 v153 v154 v155 v156 v157 v158 v159 v160 v161 v162 v163 v164 v165 v166 v167 v168 v169 v170 v171 v172 v173 v174 v175 v176 v177 v178 v179 v180 v181 v182 v183 v184 v185 v186 v187 v188 v189 v190 v191 v192 v193 v194 v195 v196 v197 v198 v199 v200 v201 v202 v203 v204 v205 v206 v207 v208 v209 v210 v211 v212 v213 v214 v215 v216 v217 v218 v219 v220 v221 v222 v223 v224 v225 v226 v227 v228 v229 v230 v231 v232 v233 v234 v235 v236 v237 v238 v239 v240 v241 v242 v243 : Value} {w wx : World} {G X Y : Nat} {most qn : Int} {qA A0 : Option Addr} {qc c0 ln xl : Nat} {ql pre gap post : List S82} {vB : Value} (h : Rnd w wx G X Y most 3 qn ql pre gap post vB qA A0 qc c0 ln xl) (hs : ql.all srt = true) (ho : ¬ most < (ln : Int))
    (hQ : ∀ (u58 u59 u60 u61 u62 u63 u64 u65 u66 u67 u68 u69 u70 u71 u72 u73 u74 u75 u76 u77 u78 u79 u80 u81 u82 u83 u84 u85 u86 u87 : Value) (wy : World), Rnd w wy G X Y most 3 qn ql pre gap post vB qA A0 qc c0 ln xl → Q .normal { tmps := #[.int .i64 most, v1, v2, v3, v4, .pointer (some ⟨G, 0, none⟩), v6, .pointer (some ⟨X, 0, none⟩), v8, .pointer (some ⟨Y, 0, none⟩), .int .i64 0, v11, v12, v13, v14, v15, v16, v17, v18, v19, v20, v21, v22, v23, v24, v25, v26, v27, v28, v29, v30, v31, v32, v33, v34, v35, v36, v37, v38, v39, v40, v41, v42, v43, v44, v45, v46, v47, v48, v49, v50, v51, v52, v53, v54, v55, v56, v57, u58, u59, u60, u61, u62, u63, u64, u65, u66, u67, u68, u69, u70, u71, u72, u73, u74, u75, u76, u77, u78, u79, u80, u81, u82, u83, u84, u85, u86, u87, v88, v89, v90, v91, v92, v93, v94, v95, v96, v97, v98, v99, v100, v101, v102, v103, v104, v105, v106, v107, v108, v109, v110, v111, v112, v113, v114, v115, v116, v117, v118, v119, v120, v121, v122, v123, v124, v125, v126, v127, v128, v129, v130, v131, v132, v133, v134, v135, v136, v137, v138, v139, v140, v141, v142, v143, v144, v145, v146, v147, v148, v149, v150, v151, v152, v153, v154, v155, v156, v157, v158, v159, v160, v161, v162, v163, v164, v165, v166, v167, v168, v169, v170, v171, v172, v173, v174, v175, v176, v177, v178, v179, v180, v181, v182, v183, v184, v185, v186, v187, v188, v189, v190, v191, v192, v193, v194, v195, v196, v197, v198, v199, v200, v201, v202, v203, v204, v205, v206, v207, v208, v209, v210, v211, v212, v213, v214, v215, v216, v217, v218, v219, v220, v221, v222, v223, v224, v225, v226, v227, v228, v229, v230, v231, v232, v233, v234, v235, v236, v237, v238, v239, v240, v241, v242, v243], defers := [] } wy) : (pW Try.f8).wp Try.prog Q { tmps := #[.int .i64 most, v1, v2, v3, v4, .pointer (some ⟨G, 0, none⟩), v6, .pointer (some ⟨X, 0, none⟩), v8, .pointer (some ⟨Y, 0, none⟩), .int .i64 0, v11, v12, v13, v14, v15, v16, v17, v18, v19, v20, v21, v22, v23, v24, v25, v26, v27, v28, v29, v30, v31, v32, v33, v34, v35, v36, v37, v38, v39, v40, v41, v42, v43, v44, v45, v46, v47, v48, v49, v50, v51, v52, v53, v54, v55, v56, v57, v58, v59, v60, v61, v62, v63, v64, v65, v66, v67, v68, v69, v70, v71, v72, v73, v74, v75, v76, v77, v78, v79, v80, v81, v82, v83, v84, v85, v86, v87, v88, v89, v90, v91, v92, v93, v94, v95, v96, v97, v98, v99, v100, v101, v102, v103, v104, v105, v106, v107, v108, v109, v110, v111, v112, v113, v114, v115, v116, v117, v118, v119, v120, v121, v122, v123, v124, v125, v126, v127, v128, v129, v130, v131, v132, v133, v134, v135, v136, v137, v138, v139, v140, v141, v142, v143, v144, v145, v146, v147, v148, v149, v150, v151, v152, v153, v154, v155, v156, v157, v158, v159, v160, v161, v162, v163, v164, v165, v166, v167, v168, v169, v170, v171, v172, v173, v174, v175, v176, v177, v178, v179, v180, v181, v182, v183, v184, v185, v186, v187, v188, v189, v190, v191, v192, v193, v194, v195, v196, v197, v198, v199, v200, v201, v202, v203, v204, v205, v206, v207, v208, v209, v210, v211, v212, v213, v214, v215, v216, v217, v218, v219, v220, v221, v222, v223, v224, v225, v226, v227, v228, v229, v230, v231, v232, v233, v234, v235, v236, v237, v238, v239, v240, v241, v242, v243], defers := [] } wx := by
  have HR := h.all
  rw [hs] at HR
  have HRA := Lib.hid HR
  have H := Aside0.mk h
  obtain ⟨y0, y1, y2⟩ := cells72 h.y
  have dO : decide (most < (ln : Int)) = false := decide_eq_false ho
  have HQ := Lib.hid hQ
  clear HR hs h hQ
  dsimp only [pW, pRB, pBlk, pLB, cH, cT, cB, Try.f8, Option.getD]
  go_wp2_with fail
  refine HRA.out.mono ?_
  rintro e w3 ⟨rfl, hb3⟩
  have H3 := Aside0.mk (H.out.below hb3)
  clear hb3
  obtain ⟨x0, x1, f0, f1⟩ := H3.out.gx.x.cells
  rw [H3.out.hxl] at x0
  obtain ⟨y0, y1, y2⟩ := cells72 H3.out.y
  go_wp2_with fail
  exact HQ.out _ _ _ _ _ _ _ _ _ _ _ _ _ _ _ _ _ _ _ _ _ _ _ _ _ _ _ _ _ _ _ H3.out

set_option linter.unusedVariables false in
set_option maxRecDepth 100000 in
set_option maxHeartbeats 8000000 in
theorem segW_e {Q : Exit → Act → World → Prop} {v1 v2 v3 v4 v6 v8 v11 v12 v13 v14 v15 v16 v17 v18 v19 v20 v21 v22 v23 v24 v25 v26 v27 v28 v29 v30 v31 v32 v33 v34 v35 v36 v37 v38 v39 v40 v41 v42 v43 v44 v45 v46 v47 v48 v49 v50 v51 v52 v53 v54 v55 v56 v57 v58 v59 v60 v61 v62 v63 v64 v65 v66 v67 v68 v69 v70 v71 v72 v73 v74 v75 v76 v77 v78 v79 v80 v81 v82 v83 v84 v85 v86 v87 v88 v89 v90 v91 v92 v93 v94 v95 v96 v97 v98 v99 v100 v101 v102 v103 v104 v105 v106 v107 v108 v109 v110 v111 v112 v113 v114 v115 v116 v117 v118 v119 v120 v121 v122 v123 v124 v125 v126 v127 v128 v129 v130 v131 v132 v133 v134 v135 v136 v137 v138 v139 v140 v141 v142 v143 v144 v145 v146 v147 v148 v149 v150 v151 v152 v153 v154 v155 v156 v157 v158 v159 v160 v161 v162 v163 v164 v165 v166 v167 v168 v169 v170 v171 v172 v173 v174 v175 v176 v177 v178 v179 v180 v181 v182 v183 v184 v185 v186 v187 v188 v189 v190 v191 v192 v193 v194 v195 v196 v197 v198 v199 v200 v201 v202 v203 v204 v205 v206 v207 v208 v209 v210 v211 v212 v213 v214 v215 v216 v217 v218 v219 v220 v221 v222 v223 v224 v225 v226 v227 v228 v229 v230 v231 v232 v233 v234 v235 v236 v237 v238 v239 v240 v241 v242 v243 : Value} {w wx : World} {G X Y : Nat} {most qn : Int} {qA A0 : Option Addr} {qc c0 ln xl : Nat} {ql pre gap post : List S82} {vB : Value} {qk : Int} (h : Rnd w wx G X Y most qk qn ql pre gap post vB qA A0 qc c0 ln xl) (hs : ql.all srt = true) (hk0 : ¬ qk = 0) (hk3 : ¬ qk = 3)
    (hQ : ∀ (u58 u59 u60 u61 u62 u63 u64 u65 u66 u67 u68 u69 u70 u71 u72 u73 u74 u75 u76 u77 u78 u79 u80 u81 u82 u83 u84 u85 u86 u87 : Value) (wy : World), Rnd w wy G X Y most qk qn ql pre gap post vB qA A0 qc c0 ln xl → Q .normal { tmps := #[.int .i64 most, v1, v2, v3, v4, .pointer (some ⟨G, 0, none⟩), v6, .pointer (some ⟨X, 0, none⟩), v8, .pointer (some ⟨Y, 0, none⟩), .int .i64 0, v11, v12, v13, v14, v15, v16, v17, v18, v19, v20, v21, v22, v23, v24, v25, v26, v27, v28, v29, v30, v31, v32, v33, v34, v35, v36, v37, v38, v39, v40, v41, v42, v43, v44, v45, v46, v47, v48, v49, v50, v51, v52, v53, v54, v55, v56, v57, u58, u59, u60, u61, u62, u63, u64, u65, u66, u67, u68, u69, u70, u71, u72, u73, u74, u75, u76, u77, u78, u79, u80, u81, u82, u83, u84, u85, u86, u87, v88, v89, v90, v91, v92, v93, v94, v95, v96, v97, v98, v99, v100, v101, v102, v103, v104, v105, v106, v107, v108, v109, v110, v111, v112, v113, v114, v115, v116, v117, v118, v119, v120, v121, v122, v123, v124, v125, v126, v127, v128, v129, v130, v131, v132, v133, v134, v135, v136, v137, v138, v139, v140, v141, v142, v143, v144, v145, v146, v147, v148, v149, v150, v151, v152, v153, v154, v155, v156, v157, v158, v159, v160, v161, v162, v163, v164, v165, v166, v167, v168, v169, v170, v171, v172, v173, v174, v175, v176, v177, v178, v179, v180, v181, v182, v183, v184, v185, v186, v187, v188, v189, v190, v191, v192, v193, v194, v195, v196, v197, v198, v199, v200, v201, v202, v203, v204, v205, v206, v207, v208, v209, v210, v211, v212, v213, v214, v215, v216, v217, v218, v219, v220, v221, v222, v223, v224, v225, v226, v227, v228, v229, v230, v231, v232, v233, v234, v235, v236, v237, v238, v239, v240, v241, v242, v243], defers := [] } wy) : (pW Try.f8).wp Try.prog Q { tmps := #[.int .i64 most, v1, v2, v3, v4, .pointer (some ⟨G, 0, none⟩), v6, .pointer (some ⟨X, 0, none⟩), v8, .pointer (some ⟨Y, 0, none⟩), .int .i64 0, v11, v12, v13, v14, v15, v16, v17, v18, v19, v20, v21, v22, v23, v24, v25, v26, v27, v28, v29, v30, v31, v32, v33, v34, v35, v36, v37, v38, v39, v40, v41, v42, v43, v44, v45, v46, v47, v48, v49, v50, v51, v52, v53, v54, v55, v56, v57, v58, v59, v60, v61, v62, v63, v64, v65, v66, v67, v68, v69, v70, v71, v72, v73, v74, v75, v76, v77, v78, v79, v80, v81, v82, v83, v84, v85, v86, v87, v88, v89, v90, v91, v92, v93, v94, v95, v96, v97, v98, v99, v100, v101, v102, v103, v104, v105, v106, v107, v108, v109, v110, v111, v112, v113, v114, v115, v116, v117, v118, v119, v120, v121, v122, v123, v124, v125, v126, v127, v128, v129, v130, v131, v132, v133, v134, v135, v136, v137, v138, v139, v140, v141, v142, v143, v144, v145, v146, v147, v148, v149, v150, v151, v152, v153, v154, v155, v156, v157, v158, v159, v160, v161, v162, v163, v164, v165, v166, v167, v168, v169, v170, v171, v172, v173, v174, v175, v176, v177, v178, v179, v180, v181, v182, v183, v184, v185, v186, v187, v188, v189, v190, v191, v192, v193, v194, v195, v196, v197, v198, v199, v200, v201, v202, v203, v204, v205, v206, v207, v208, v209, v210, v211, v212, v213, v214, v215, v216, v217, v218, v219, v220, v221, v222, v223, v224, v225, v226, v227, v228, v229, v230, v231, v232, v233, v234, v235, v236, v237, v238, v239, v240, v241, v242, v243], defers := [] } wx := by
  have HR := h.all
  rw [hs] at HR
  have HRA := Lib.hid HR
  have H := Aside0.mk h
  obtain ⟨y0, y1, y2⟩ := cells72 h.y
  have e0 : decide (qk = 0) = false := decide_eq_false hk0
  have e3 : decide (qk = 3) = false := decide_eq_false hk3
  have HQ := Lib.hid hQ
  clear HR hs h hQ
  dsimp only [pW, pRB, pBlk, pLB, cH, cT, cB, Try.f8, Option.getD]
  go_wp2_with fail
  refine HRA.out.mono ?_
  rintro e w3 ⟨rfl, hb3⟩
  have H3 := Aside0.mk (H.out.below hb3)
  clear hb3
  obtain ⟨x0, x1, f0, f1⟩ := H3.out.gx.x.cells
  rw [H3.out.hxl] at x0
  obtain ⟨y0, y1, y2⟩ := cells72 H3.out.y
  go_wp2_with fail
  exact HQ.out _ _ _ _ _ _ _ _ _ _ _ _ _ _ _ _ _ _ _ _ _ _ _ _ _ _ _ _ _ _ _ H3.out

set_option maxRecDepth 100000 in
theorem segW {Q : Exit → Act → World → Prop} {v1 v2 v3 v4 v6 v8 v11 v12 v13 v14 v15 v16 v17 v18 v19 v20 v21 v22 v23 v24 v25 v26 v27 v28 v29 v30 v31 v32 v33 v34 v35 v36 v37 v38 v39 v40 v41 v42 v43 v44 v45 v46 v47 v48 v49 v50 v51 v52 v53 v54 v55 v56 v57 v58 v59 v60 v61 v62 v63 v64 v65 v66 v67 v68 v69 v70 v71 v72 v73 v74 v75 v76 v77 v78 v79 v80 v81 v82 v83 v84 v85 v86 v87 v88 v89 v90 v91 v92 v93 v94 v95 v96 v97 v98 v99 v100 v101 v102 v103 v104 v105 v106 v107 v108 v109 v110 v111 v112 v113 v114 v115 v116 v117 v118 v119 v120 v121 v122 v123 v124 v125 v126 v127 v128 v129 v130 v131 v132 v133 v134 v135 v136 v137 v138 v139 v140 v141 v142 v143 v144 v145 v146 v147 v148 v149 v150 v151 v152 v153 v154 v155 v156 v157 v158 v159 v160 v161 v162 v163 v164 v165 v166 v167 v168 v169 v170 v171 v172 v173 v174 v175 v176 v177 v178 v179 v180 v181 v182 v183 v184 v185 v186 v187 v188 v189 v190 v191 v192 v193 v194 v195 v196 v197 v198 v199 v200 v201 v202 v203 v204 v205 v206 v207 v208 v209 v210 v211 v212 v213 v214 v215 v216 v217 v218 v219 v220 v221 v222 v223 v224 v225 v226 v227 v228 v229 v230 v231 v232 v233 v234 v235 v236 v237 v238 v239 v240 v241 v242 v243 : Value} {w wx : World} {G X Y : Nat} {most qn : Int} {qA A0 : Option Addr} {qc c0 ln xl : Nat} {ql pre gap post : List S82} {vB : Value} {qk : Int} (h : Rnd w wx G X Y most qk qn ql pre gap post vB qA A0 qc c0 ln xl)
    (hQ : ∀ (u58 u59 u60 u61 u62 u63 u64 u65 u66 u67 u68 u69 u70 u71 u72 u73 u74 u75 u76 u77 u78 u79 u80 u81 u82 u83 u84 u85 u86 u87 : Value) (wy : World), Rnd w wy G X Y most qk qn ql pre gap post vB qA A0 qc c0 ln xl → Q .normal { tmps := #[.int .i64 most, v1, v2, v3, v4, .pointer (some ⟨G, 0, none⟩), v6, .pointer (some ⟨X, 0, none⟩), v8, .pointer (some ⟨Y, 0, none⟩), .int .i64 (wantE most qk ql xl), v11, v12, v13, v14, v15, v16, v17, v18, v19, v20, v21, v22, v23, v24, v25, v26, v27, v28, v29, v30, v31, v32, v33, v34, v35, v36, v37, v38, v39, v40, v41, v42, v43, v44, v45, v46, v47, v48, v49, v50, v51, v52, v53, v54, v55, v56, v57, u58, u59, u60, u61, u62, u63, u64, u65, u66, u67, u68, u69, u70, u71, u72, u73, u74, u75, u76, u77, u78, u79, u80, u81, u82, u83, u84, u85, u86, u87, v88, v89, v90, v91, v92, v93, v94, v95, v96, v97, v98, v99, v100, v101, v102, v103, v104, v105, v106, v107, v108, v109, v110, v111, v112, v113, v114, v115, v116, v117, v118, v119, v120, v121, v122, v123, v124, v125, v126, v127, v128, v129, v130, v131, v132, v133, v134, v135, v136, v137, v138, v139, v140, v141, v142, v143, v144, v145, v146, v147, v148, v149, v150, v151, v152, v153, v154, v155, v156, v157, v158, v159, v160, v161, v162, v163, v164, v165, v166, v167, v168, v169, v170, v171, v172, v173, v174, v175, v176, v177, v178, v179, v180, v181, v182, v183, v184, v185, v186, v187, v188, v189, v190, v191, v192, v193, v194, v195, v196, v197, v198, v199, v200, v201, v202, v203, v204, v205, v206, v207, v208, v209, v210, v211, v212, v213, v214, v215, v216, v217, v218, v219, v220, v221, v222, v223, v224, v225, v226, v227, v228, v229, v230, v231, v232, v233, v234, v235, v236, v237, v238, v239, v240, v241, v242, v243], defers := [] } wy) : (pW Try.f8).wp Try.prog Q { tmps := #[.int .i64 most, v1, v2, v3, v4, .pointer (some ⟨G, 0, none⟩), v6, .pointer (some ⟨X, 0, none⟩), v8, .pointer (some ⟨Y, 0, none⟩), .int .i64 0, v11, v12, v13, v14, v15, v16, v17, v18, v19, v20, v21, v22, v23, v24, v25, v26, v27, v28, v29, v30, v31, v32, v33, v34, v35, v36, v37, v38, v39, v40, v41, v42, v43, v44, v45, v46, v47, v48, v49, v50, v51, v52, v53, v54, v55, v56, v57, v58, v59, v60, v61, v62, v63, v64, v65, v66, v67, v68, v69, v70, v71, v72, v73, v74, v75, v76, v77, v78, v79, v80, v81, v82, v83, v84, v85, v86, v87, v88, v89, v90, v91, v92, v93, v94, v95, v96, v97, v98, v99, v100, v101, v102, v103, v104, v105, v106, v107, v108, v109, v110, v111, v112, v113, v114, v115, v116, v117, v118, v119, v120, v121, v122, v123, v124, v125, v126, v127, v128, v129, v130, v131, v132, v133, v134, v135, v136, v137, v138, v139, v140, v141, v142, v143, v144, v145, v146, v147, v148, v149, v150, v151, v152, v153, v154, v155, v156, v157, v158, v159, v160, v161, v162, v163, v164, v165, v166, v167, v168, v169, v170, v171, v172, v173, v174, v175, v176, v177, v178, v179, v180, v181, v182, v183, v184, v185, v186, v187, v188, v189, v190, v191, v192, v193, v194, v195, v196, v197, v198, v199, v200, v201, v202, v203, v204, v205, v206, v207, v208, v209, v210, v211, v212, v213, v214, v215, v216, v217, v218, v219, v220, v221, v222, v223, v224, v225, v226, v227, v228, v229, v230, v231, v232, v233, v234, v235, v236, v237, v238, v239, v240, v241, v242, v243], defers := [] } wx := by
  have hln := h.hln
  cases hs : ql.all srt with
  | false =>
    have hw : wantE most qk ql xl = 2 := by unfold wantE; rw [if_pos hs]
    rw [hw] at hQ
    exact segW_bad h hs hQ
  | true =>
    have hw : wantE most qk ql xl = (if qk = 0 ∧ most < (ln : Int) + (xl : Int) ∨ qk = 3 ∧ most < (ln : Int) then 8 else 0) := by
      rw [← hln]; unfold wantE; rw [if_neg (by rw [hs]; simp)]
    by_cases hk0 : qk = 0
    · subst hk0
      by_cases ho : most < (ln : Int) + (xl : Int)
      · rw [hw, if_pos (.inl ⟨rfl, ho⟩)] at hQ
        exact segW_0o h hs ho hQ
      · rw [hw, if_neg (by omega)] at hQ
        exact segW_0n h hs ho hQ
    · by_cases hk3 : qk = 3
      · subst hk3
        by_cases ho : most < (ln : Int)
        · rw [hw, if_pos (.inr ⟨rfl, ho⟩)] at hQ
          exact segW_3o h hs ho hQ
        · rw [hw, if_neg (by omega)] at hQ
          exact segW_3n h hs ho hQ
      · rw [hw, if_neg (by omega)] at hQ
        exact segW_e h hs hk0 hk3 hQ

end Go.Proofs.Ytopmenioioljoaa.GapW
