/-
  BOTH MACROS SIDE BY SIDE: the reference's block, its rows, the program's rows: none shares a block.
-/
import Derived.Test.YtopmenioioljoaaMacroT
namespace Go.Proofs.Ytopmenioioljoaa.MacroW
open Go.RowKit Go.Proofs.Ytopmenioioljoaa.Base Go.Proofs.YtopmenioioljoaaW.PrintWords Go.Proofs.YtopmenioioljoaaW.PrintLast Go.Proofs.YtopmenioioljoaaW.PrintMore Go.Proofs.Ytopmenioioljoaa.CountW Go.Proofs.Ytopmenioioljoaa.PMacroDoes Go.Proofs.Ytopmenioioljoaa.KeyW

def xblk (a b : Value) (k : Bool) : Obj := .cells #[a, b, .bool k] 53 (0, 0)
theorem cells53 {w : World} {X : Nat} {a b : Value} {k : Bool} (h : w.heap[X]? = some (xblk a b k)) :
    w.cell? ⟨X, 0, none⟩ = some a ∧ w.cell? ⟨X, 1, none⟩ = some b ∧ w.cell? ⟨X, 2, none⟩ = some (.bool k) ∧
    w.frozen? ⟨X, 0, none⟩ = false ∧ w.frozen? ⟨X, 1, none⟩ = false ∧ w.frozen? ⟨X, 2, none⟩ = false := by
  simp only [xblk] at h
  refine ⟨?_, ?_, ?_, ?_, ?_, ?_⟩ <;> simp [World.cell?, World.frozen?, h]

/-- The reference's macro in memory. -/
structure RSt (w0 w : World) (X : Nat) (k : Bool) (L N : List S41) (a b : Value) : Prop where
  blk : w.heap[X]? = some (xblk a b k)
  xX : w0.heap.size ≤ X
  rL : Row w w0.heap.size a L
  rN : Row w w0.heap.size b N
  ap : Ap a b
/-- The program's rows and the reference's share no block. -/
structure Cr (vL vN a b : Value) : Prop where
  c0 : Ap vL a
  c1 : Ap vL b
  c2 : Ap vN a
  c3 : Ap vN b

theorem RSt.kept {w0 w w' : World} {X : Nat} {k : Bool} {L N : List S41} {a b : Value} {S : Nat → Prop} (h : RSt w0 w X k L N a b) (hk : Kept w w' S)
    (hX : ¬ S X) (hL : ∀ j, a.ownBlock = some j → ¬ S j) (hN : ∀ j, b.ownBlock = some j → ¬ S j) : RSt w0 w' X k L N a b :=
  ⟨blk_kept h.blk hk hX, h.xX, h.rL.kept hk hL, h.rN.kept hk hN, h.ap⟩
theorem RSt.below {w0 w w' : World} {X : Nat} {k : Bool} {L N : List S41} {a b : Value} (h : RSt w0 w X k L N a b) (hb : Below w.heap.size w w') : RSt w0 w' X k L N a b :=
  h.kept (S := fun _ => False) (Kept.of_below hb _) (fun h => h) (fun _ _ h => h) (fun _ _ h => h)

section
variable {w0 w w' : World} {B X : Nat} {k kx : Bool} {most : Int} {L N Lx Nx : List S41} {vL vN a b : Value}
theorem bx_ne (m : MSt w0 w B k most L N vL vN) (r : RSt w0 w X kx Lx Nx a b) : B ≠ X := by
  rintro rfl
  have := m.blk.symm.trans r.blk
  simp [mblk, xblk] at this
/-- A call of the program's macro keeps the reference's. -/
theorem r_of_m (m : MSt w0 w B k most L N vL vN) (r : RSt w0 w X kx Lx Nx a b) (c : Cr vL vN a b) (hk : Kept w w' (fun j => j = B ∨ vN.ownBlock = some j)) : RSt w0 w' X kx Lx Nx a b :=
  r.kept hk (fun h => h.elim (fun h => bx_ne m r h.symm) (fun h => m.rN.ne r.blk (by decide) h))
    (fun j hj h => h.elim (fun h => r.rL.ne m.blk (by decide) (by rw [← h]; exact hj)) (fun h => c.c2 j h hj))
    (fun j hj h => h.elim (fun h => r.rN.ne m.blk (by decide) (by rw [← h]; exact hj)) (fun h => c.c3 j h hj))
theorem r_of_m' (m : MSt w0 w B k most L N vL vN) (r : RSt w0 w X kx Lx Nx a b) (c : Cr vL vN a b) (hk : Kept w w' (fun j => j = B)) : RSt w0 w' X kx Lx Nx a b :=
  r_of_m m r c (hk.mono (fun _ h => .inl h))
/-- A call of the reference's keeps the program's macro. -/
theorem m_of_r {v0 v1 : Value} {L1 N1 : List S41} (m : MSt w0 w B k most L N vL vN) (c : Cr vL vN a b) (ha : Row w w0.heap.size a Lx) (hb : Row w w0.heap.size b Nx) (t : Two w0 w w' a b v0 v1 L1 N1) : MSt w0 w' B k most L N vL vN :=
  m.kept t.kept t.bel (fun h => h.elim (fun h => ha.ne m.blk (by decide) h) (fun h => hb.ne m.blk (by decide) h))
    (fun j hj h => h.elim (fun h => c.c0 j hj h) (fun h => c.c1 j hj h)) (fun j hj h => h.elim (fun h => c.c2 j hj h) (fun h => c.c3 j hj h))
theorem ap_from {n : Nat} {u v : Value} {a b : Value} (hu : Ap u a) (hv : Ap u b) (hlt : ∀ j, u.ownBlock = some j → j < n) (hf : From n a b v) : Ap u v := fun j hj h =>
  (hf j h).elim (fun h => hu j hj h) (fun h => h.elim (fun h => hv j hj h) (fun h => by have := hlt j hj; omega))
theorem cr_two {v0 v1 : Value} {L1 N1 : List S41} (m : MSt w0 w B k most L N vL vN) (c : Cr vL vN a b) (t : Two w0 w w' a b v0 v1 L1 N1) : Cr vL vN v0 v1 :=
  ⟨ap_from c.c0 c.c1 m.rL.lt t.f0, ap_from c.c0 c.c1 m.rL.lt t.f1, ap_from c.c2 c.c3 m.rN.lt t.f0, ap_from c.c2 c.c3 m.rN.lt t.f1⟩
theorem set_kept (w : World) (X o : Nat) (u : Value) : Kept w (w.setCell ⟨X, o, none⟩ u) (fun j => j = X) :=
  Kept.setCell (S := fun j => j = X) (Kept.refl w _) (.inl rfl) u
/-- The reference's block is written. -/
theorem m_set (m : MSt w0 w B k most L N vL vN) {cs : Array Value} (hX : w.heap[X]? = some (.cells cs 53 (0, 0))) (hx : w0.heap.size ≤ X) (o : Nat) (u : Value) : MSt w0 (w.setCell ⟨X, o, none⟩ u) B k most L N vL vN :=
  m.kept (S := fun j => j = X) (set_kept w X o u) (below_set m.bel hx)
    (by rintro rfl; have := m.blk.symm.trans hX; simp [mblk] at this)
    (fun j hj h => m.rL.ne hX (by decide) (by rw [← h]; exact hj)) (fun j hj h => m.rN.ne hX (by decide) (by rw [← h]; exact hj))
theorem row_set {base : Nat} {v : Value} {xs : List S41} {cs : Array Value} (h : Row w base v xs) (hX : w.heap[X]? = some (.cells cs 53 (0, 0))) (o : Nat) (u : Value) : Row (w.setCell ⟨X, o, none⟩ u) base v xs :=
  h.kept (S := fun j => j = X) (set_kept w X o u) (fun j hj e => h.ne hX (by decide) (by rw [← e]; exact hj))
/-- x = y. -/
theorem both_set {v0 v1 : Value} {L1 N1 : List S41} {k1 : Bool} {cs : Array Value} (hcs : cs.size = 3) (m : MSt w0 w B k most L N vL vN) (hX : w.heap[X]? = some (.cells cs 53 (0, 0))) (hx : w0.heap.size ≤ X)
    (r0 : Row w w0.heap.size v0 L1) (r1 : Row w w0.heap.size v1 N1) (hap : Ap v0 v1) :
    MSt w0 (((w.setCell ⟨X, 0, none⟩ v0).setCell ⟨X, 1, none⟩ v1).setCell ⟨X, 2, none⟩ (.bool k1)) B k most L N vL vN ∧ RSt w0 (((w.setCell ⟨X, 0, none⟩ v0).setCell ⟨X, 1, none⟩ v1).setCell ⟨X, 2, none⟩ (.bool k1)) X k1 L1 N1 v0 v1 := by
  have h1 := set_at (o := 0) (u := v0) hX
  have h2 := set_at (o := 1) (u := v1) h1
  have h3 := set_at (o := 2) (u := Value.bool k1) h2
  refine ⟨m_set (m_set (m_set m hX hx 0 v0) h1 hx 1 v1) h2 hx 2 _, ?_, hx, row_set (row_set (row_set r0 hX 0 v0) h1 1 v1) h2 2 _, row_set (row_set (row_set r1 hX 0 v0) h1 1 v1) h2 2 _, hap⟩
  rw [h3]
  obtain ⟨l⟩ := cs
  match l, hcs with
  | [x, y, z], _ => rfl
theorem x_two {v0 v1 : Value} {L1 N1 : List S41} (r : RSt w0 w X kx Lx Nx a b) (t : Two w0 w w' a b v0 v1 L1 N1) : w'.heap[X]? = some (xblk a b kx) :=
  blk_kept r.blk t.kept (fun h => h.elim (fun h => r.rL.ne r.blk (by decide) h) (fun h => r.rN.ne r.blk (by decide) h))
theorem other_two {v0 v1 : Value} {L1 N1 : List S41} {Y t : Nat} {cs : Array Value} (r : RSt w0 w X kx Lx Nx a b) (t2 : Two w0 w w' a b v0 v1 L1 N1) (hY : w.heap[Y]? = some (.cells cs t (0, 0))) (ht : (41 : Nat) ≠ t) : w'.heap[Y]? = some (.cells cs t (0, 0)) :=
  blk_kept hY t2.kept (fun h => h.elim (fun h => r.rL.ne hY ht h) (fun h => r.rN.ne hY ht h))
theorem cr_sub {vL' vN' : Value} (c : Cr vL vN a b) (hL : vL' = vL ∨ vL' = vN) (hN : vN' = vN ∨ vN' = .slice none 0 0) : Cr vL' vN' a b := by
  rcases hL with rfl | rfl <;> rcases hN with rfl | rfl
  · exact c
  · exact ⟨c.c0, c.c1, Ap.nil' _, Ap.nil' _⟩
  · exact ⟨c.c2, c.c3, c.c2, c.c3⟩
  · exact ⟨c.c2, c.c3, Ap.nil' _, Ap.nil' _⟩
theorem cr_new {vN' : Value} {n : Nat} (c : Cr vL vN a b) (hN : vN'.ownBlock = vN.ownBlock ∨ ∃ g, vN'.ownBlock = some g ∧ n ≤ g) (ha : ∀ j, a.ownBlock = some j → j < n) (hb : ∀ j, b.ownBlock = some j → j < n) : Cr vL vN' a b := by
  rcases hN with h | ⟨g, h, hg⟩
  · exact ⟨c.c0, c.c1, fun j hj => c.c2 j (by rw [← h]; exact hj), fun j hj => c.c3 j (by rw [← h]; exact hj)⟩
  · refine ⟨c.c0, c.c1, fun j hj he => ?_, fun j hj he => ?_⟩
    · rw [h] at hj; have := Option.some.inj hj; have := ha j he; omega
    · rw [h] at hj; have := Option.some.inj hj; have := hb j he; omega
end
theorem playf_len (k : Bool) (L : List S41) (n : Int) : (playf k L n).1.length ≤ 1000000 := by
  unfold playf
  repeat' split
  all_goals first | simp | skip
  rename_i h0 h1 h2
  have hdiv : (9999 : Int) / (L.length : Int) = ((9999 / L.length : Nat) : Int) := by simp
  have h3 : n.toNat ≤ 9999 / L.length := by omega
  have h4 : n.toNat * L.length ≤ 9999 := Nat.le_trans (Nat.mul_le_mul_right _ h3) (Nat.div_mul_le_self _ _)
  omega

end Go.Proofs.Ytopmenioioljoaa.MacroW
