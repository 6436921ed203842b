/-
  THE ARGUMENT OF MacroDoes: a slice of calls, opened to a list that can be read.
-/
import Derived.Test.YtopmenioioljoaaArgs
import Derived.Test.YtopmenioioljoaaMacroDoesW
namespace Go.Proofs.Ytopmenioioljoaa.MacroW
open Go.ChangeShapes Go.WideShapes Go.Deep Go.RowKit Go.Proofs.YtopmenioioljoaaW.PrintWords Go.Proofs.Ytopmenioioljoaa.PMacroDoes Go.Proofs.Ytopmenioioljoaa.Args

theorem c3 : Try.prog.cellsOf 3 = 1 := by kernel_rfl
theorem c9 : Try.prog.cellsOf 9 = 1 := by kernel_rfl
theorem c4 : Try.prog.cellsOf 4 = 1 := by kernel_rfl
theorem c41 : Try.prog.cellsOf 41 = 4 := by kernel_rfl
theorem c55 : Try.prog.cellsOf 55 = 6 := by kernel_rfl

theorem six {l : List Value} (h : l.length = 6) : ∃ a b c d e f, l = [a, b, c, d, e, f] := by
  match l, h with
  | [a, b, c, d, e, f], _ => exact ⟨a, b, c, d, e, f, rfl⟩

section
variable {H : Type} {enc : TypeId × Value → H} {w : World} {base : Nat} {spare : Nat → Bool} {held : Bool}
theorem some_of {α : Type} {l : List α} {i n : Nat} (hl : l.length = n) (hi : i < n) : ∃ y, l[i]? = some y := ⟨l[i]'(by omega), List.getElem?_eq_getElem (by omega)⟩

theorem call_of {cs : List Value} {x : DataW H × List MemPlace} {fuel : Nat} (h : DataW.trod enc Try.prog w base spare held fuel 55 cs = some x) :
    ∃ q : Cl, q.k.f2.size ≤ 9223372036854775807 ∧ cs = [.int .i64 q.kind, .int .i64 q.n, .int .i64 q.k.f0, .int .i64 q.k.f1, .string q.k.f2, .bool q.k.f3] := by
  obtain ⟨xs, n, _, _, hlen, hxl, hf⟩ := DataW.trod_struct Try.underlying55 h
  rw [c55] at hlen
  have hxl3 : xs.length = 3 := hxl
  obtain ⟨v0, v1, v2, v3, v4, v5, rfl⟩ := six hlen
  have t0 := hf 0 _ rfl
  have t1 := hf 1 _ rfl
  have t2 := hf 2 _ rfl
  obtain ⟨y0, e0⟩ := some_of hxl3 (show 0 < 3 by decide)
  obtain ⟨y1, e1⟩ := some_of hxl3 (show 1 < 3 by decide)
  obtain ⟨y2, e2⟩ := some_of hxl3 (show 2 < 3 by decide)
  rw [e0] at t0
  rw [e1] at t1
  rw [e2] at t2
  have s0 : DataW.trod enc Try.prog w base spare held n 3 (([v0, v1, v2, v3, v4, v5].drop 0).take (Try.prog.cellsOf 3)) = some y0 := t0
  rw [c3] at s0
  replace s0 : DataW.trod enc Try.prog w base spare held n 3 [v0] = some y0 := s0
  have s1 : DataW.trod enc Try.prog w base spare held n 3 (([v0, v1, v2, v3, v4, v5].drop 1).take (Try.prog.cellsOf 3)) = some y1 := t1
  rw [c3] at s1
  replace s1 : DataW.trod enc Try.prog w base spare held n 3 [v1] = some y1 := s1
  have s2 : DataW.trod enc Try.prog w base spare held n 41 (([v0, v1, v2, v3, v4, v5].drop 2).take (Try.prog.cellsOf 41)) = some y2 := t2
  rw [c41] at s2
  replace s2 : DataW.trod enc Try.prog w base spare held n 41 [v2, v3, v4, v5] = some y2 := s2
  obtain ⟨k, r0, _, _⟩ := DataW.trod_int Try.underlying3 s0
  obtain ⟨m, r1, _, _⟩ := DataW.trod_int Try.underlying3 s1
  obtain ⟨zs, n2, _, _, _, hzl, hg⟩ := DataW.trod_struct Try.underlying41 s2
  have hzl4 : zs.length = 4 := hzl
  have u0 := hg 0 _ rfl
  have u1 := hg 1 _ rfl
  have u2 := hg 2 _ rfl
  have u3 := hg 3 _ rfl
  obtain ⟨z0, f0⟩ := some_of hzl4 (show 0 < 4 by decide)
  obtain ⟨z1, f1⟩ := some_of hzl4 (show 1 < 4 by decide)
  obtain ⟨z2, f2⟩ := some_of hzl4 (show 2 < 4 by decide)
  obtain ⟨z3, f3⟩ := some_of hzl4 (show 3 < 4 by decide)
  rw [f0] at u0
  rw [f1] at u1
  rw [f2] at u2
  rw [f3] at u3
  have a0 : DataW.trod enc Try.prog w base spare held n2 3 (([v2, v3, v4, v5].drop 0).take (Try.prog.cellsOf 3)) = some z0 := u0
  rw [c3] at a0
  replace a0 : DataW.trod enc Try.prog w base spare held n2 3 [v2] = some z0 := a0
  have a1 : DataW.trod enc Try.prog w base spare held n2 3 (([v2, v3, v4, v5].drop 1).take (Try.prog.cellsOf 3)) = some z1 := u1
  rw [c3] at a1
  replace a1 : DataW.trod enc Try.prog w base spare held n2 3 [v3] = some z1 := a1
  have a2 : DataW.trod enc Try.prog w base spare held n2 9 (([v2, v3, v4, v5].drop 2).take (Try.prog.cellsOf 9)) = some z2 := u2
  rw [c9] at a2
  replace a2 : DataW.trod enc Try.prog w base spare held n2 9 [v4] = some z2 := a2
  have a3 : DataW.trod enc Try.prog w base spare held n2 4 (([v2, v3, v4, v5].drop 3).take (Try.prog.cellsOf 4)) = some z3 := u3
  rw [c4] at a3
  replace a3 : DataW.trod enc Try.prog w base spare held n2 4 [v5] = some z3 := a3
  obtain ⟨x0, b0, _, _⟩ := DataW.trod_int Try.underlying3 a0
  obtain ⟨x1, b1, _, _⟩ := DataW.trod_int Try.underlying3 a1
  obtain ⟨x2, b2, _, hs⟩ := DataW.trod_string Try.underlying9 a2
  obtain ⟨x3, b3, _⟩ := DataW.trod_bool Try.underlying4 a3
  simp only [List.cons.injEq, and_true] at r0 r1 b0 b1 b2 b3
  subst r0 r1 b0 b1 b2 b3
  exact ⟨⟨k, m, ⟨x0, x1, x2, x3⟩⟩, hs, rfl⟩

theorem call_row {A : Option Addr} {len cap : Nat} {d : DataW H} {p : List MemPlace} (h : DataW.Trod enc Try.prog w base spare held 48 (.slice A len cap) d p) : ∃ qs : List Cl, qs.length = len ∧ Cls w A qs := by
  obtain ⟨fuel, hf⟩ := h
  rcases open_slice Try.underlying48 hf with ⟨hcs, _⟩ | ⟨a, l, c, m, n, D, Pl, hcs, _, hl, hm, hmm, _, hi⟩
  · simp [Value.cells] at hcs
    obtain ⟨rfl, rfl, rfl⟩ := hcs
    exact ⟨[], rfl, by simp, fun j q hj => by simp at hj⟩
  · simp [Value.cells] at hcs
    obtain ⟨rfl, rfl, rfl⟩ := hcs
    have hlm : len ≤ m := by rw [hmm]; split <;> omega
    obtain ⟨qs, hql, hq⟩ := list_of (fun i (q : Cl) => q.k.f2.size ≤ 9223372036854775807 ∧ CAt a i q w) len (fun i him => by
      obtain ⟨cs', hc, ht'⟩ := hi i (by omega)
      rw [c55] at hc
      obtain ⟨q, hs, rfl⟩ := call_of ht'
      obtain ⟨_, hcl, hat⟩ := World.cells?_some hc
      refine ⟨q, hs, ?_, ?_, ?_, ?_, ?_, ?_⟩
      · have := hat 0 (by omega); simpa [Go.Deep.add_add] using this
      · have := hat 1 (by omega); rw [Go.Deep.add_add] at this; rw [← add_field _ _ 1 (by omega)]; exact this
      · have := hat 2 (by omega); rw [Go.Deep.add_add] at this; rw [← add_field _ _ 2 (by omega)]; exact this
      · have := hat 3 (by omega); rw [Go.Deep.add_add] at this; rw [← add_field _ _ 3 (by omega)]; exact this
      · have := hat 4 (by omega); rw [Go.Deep.add_add] at this; rw [← add_field _ _ 4 (by omega)]; exact this
      · have := hat 5 (by omega); rw [Go.Deep.add_add] at this; rw [← add_field _ _ 5 (by omega)]; exact this)
    exact ⟨qs, hql, by rw [hql]; unfold maxLen at hm; omega, fun j q hj => ⟨(hq j q hj).1, a, rfl, (hq j q hj).2⟩⟩
end

theorem law_walk7' (most : Int) (A : Option Addr) (c : Nat) (qs : List Cl) (w : World) (hq : Cls w A qs) :
    Calls Try.prog 7 #[.int .i64 most, .slice A qs.length c] w fun e w' => e = .returned (.bool true) ∧ Below w.heap.size w w' := by
  by_cases h1 : 1 ≤ most
  · by_cases h2 : most ≤ 9999
    · exact law_walk7 most A c qs w hq h1 h2
    · exact law_bad most A c _ w (by omega)
  · exact law_bad most A c _ w (by omega)

end Go.Proofs.Ytopmenioioljoaa.MacroW
