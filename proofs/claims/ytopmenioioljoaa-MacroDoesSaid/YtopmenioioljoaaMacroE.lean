/-
  THE WALK OF PACKAGE macro, on: Do, where a key is kept.
-/
import Derived.Test.YtopmenioioljoaaMacroD
namespace Go.Proofs.Ytopmenioioljoaa.MacroW
open Go.RowKit Go.Proofs.Ytopmenioioljoaa.Base Go.Proofs.YtopmenioioljoaaW.PrintWords Go.Proofs.YtopmenioioljoaaW.PrintLast Go.Proofs.YtopmenioioljoaaW.PrintMore Go.Proofs.Ytopmenioioljoaa.CountW Go.Proofs.Ytopmenioioljoaa.PMacroDoes Go.Proofs.Ytopmenioioljoaa.KeyW

def Ans34 (w0 w : World) (B : Nat) (vL vN : Value) (most : Int) (n : List S41) (e : Ending) (w' : World) : Prop :=
  e = .returned (.bool true) ∧ ∃ vN', w'.heap[B]? = some (mblk vL vN' true most) ∧ Row w' w0.heap.size vN' n ∧ Kept w w' (fun k => k = B ∨ vN.ownBlock = some k) ∧ Below w0.heap.size w0 w' ∧ (vN'.ownBlock = vN.ownBlock ∨ ∃ b, vN'.ownBlock = some b ∧ w.heap.size ≤ b)

set_option maxHeartbeats 8000000 in
set_option maxRecDepth 100000 in
theorem do34_yes (B : Nat) (vL vN : Value) (most : Int) (n : List S41) (k v : Int) (t : ByteArray) (c : Bool) (w0 w : World) (h : w.heap[B]? = some (mblk vL vN true most)) (hR : Row w w0.heap.size vN n) (ht : t.size ≤ 9223372036854775807)
    (hb0 : Below w0.heap.size w0 w) (hBb : w0.heap.size ≤ B) (hm : may k v t c = true) (hlen : (n.length : Int) < most) (hl : n.length ≤ 1000000) :
    Calls Try.prog 34 #[.pointer (some ⟨B, 0, none⟩), .agg #[.int .i64 k, .int .i64 v, .string t, .bool c]] w (Ans34 w0 w B vL vN most (n ++ [⟨k, v, t, c⟩])) := by
  unfold Ans34
  obtain ⟨A, cN, rfl, hC, hc, hA⟩ := hR.form
  have hlt : B < w.heap.size := lt_of_block h
  have hK := heap_alloc_new w (.cells #[.int .i64 k, .int .i64 v, .string t, .bool c] 41)
  have hB := (Below.heap_alloc w (.cells #[.int .i64 k, .int .i64 v, .string t, .bool c] 41) B hlt).trans h
  have hbA := balloc w (.cells #[.int .i64 k, .int .i64 v, .string t, .bool c] 41)
  have HNB := Aside0.mk (Kd.R_ne hR.r h (by decide))
  have HNK : Aside0 (some w.heap.size ≠ (Value.slice A n.length cN).ownBlock) := Aside0.mk (fun e => Nat.lt_irrefl _ (Kd.R_lt hR.r _ e.symm))
  have HR := Aside0.mk hR
  have HB := Lib.hid hB
  have HK := Lib.hid hK
  have HBA := Aside0.mk hbA
  have HB0 := Aside0.mk hb0
  have HL := Aside0.mk hl
  have d1 : decide (most ≤ (n.length : Int)) = false := decide_eq_false (by omega)
  have k39 := fun b (w : World) (h : w.heap[B]? = some (mblk vL (.slice A n.length cN) b most)) => keeps39 B vL (.slice A n.length cN) b most w h
  have K39 := Lib.hid k39
  have HM := Lib.hid hm
  clear h hR hC hc hA hB hK hbA hb0 k39 hm hl hlen
  obtain ⟨_, cB1, cB2, cB3, _⟩ := cells108 HB.out
  go_enter Try.func34, Try.ntmps34
  go_wp2_with fail
  go_region_held3 (fun w' => w'.cell? ⟨B, 1, none⟩ = some (.slice A n.length cN) ∧ w'.cell? ⟨B, 3, none⟩ = some (.int .i64 most) ∧ w'.cell? ⟨w.heap.size, 0, none⟩ = some (.int .i64 k) ∧ w'.cell? ⟨w.heap.size, 1, none⟩ = some (.int .i64 v) ∧ w'.cell? ⟨w.heap.size, 2, none⟩ = some (.string t) ∧ w'.cell? ⟨w.heap.size, 3, none⟩ = some (.bool c)) (first | go_keep)
    (first
      | (go_at_call 39; refine (K39.out true _ (blk_drew HB.out)).mono ?_; rintro e w' ⟨rfl, rfl⟩)
      | (go_at_call 66; refine (check66 k v t c _ ht).mono ?_; rintro e w1 ⟨rfl, hb1⟩; rw [HM.out, show ok true = 0 from rfl]; obtain ⟨z0, z1, z2, z3⟩ := cells41 ((hb1.block _ (by simp)).trans HK.out); obtain ⟨y0, y1, y2, y3, _⟩ := cells108 ((hb1.block B (by simp; omega)).trans HB.out)))
  have HB1 := Lib.hid ((hb1.block B (by simp; omega)).trans HB.out)
  have HK1 := Lib.hid ((hb1.block _ (by simp)).trans HK.out)
  have hw1 : Below w.heap.size w w1 := btr HBA.out.drew hb1
  have HW1 := Aside0.mk hw1
  have hR1 : Row w1 w0.heap.size (.slice A n.length cN) n := HR.out.below hw1
  have HR1 := Aside0.mk hR1
  have HB01 : Aside0 (Below w0.heap.size w0 w1) := Aside0.mk (btr HB0.out hw1)
  clear hb1 hw1 hR1
  go_wp2
  refine start_ (n := 11) (S := fun w' => w'.cell? ⟨B, 1, none⟩ = some (.slice A n.length cN) ∧ w'.cell? ⟨w.heap.size, 0, none⟩ = some (.int .i64 k) ∧ w'.cell? ⟨w.heap.size, 1, none⟩ = some (.int .i64 v) ∧ w'.cell? ⟨w.heap.size, 2, none⟩ = some (.string t) ∧ w'.cell? ⟨w.heap.size, 3, none⟩ = some (.bool c)) (ds := [10]) #[false, false, false, false, false, false, false, false, false, false, false] (by kernel_rfl) rfl rfl ?_ (fun hHeld => ?_)
  · exact ⟨(cells108 (blk_drew HB1.out)).2.1, cells41 (blk_drew HK1.out)⟩
  refine take_ (i := 0) (N := some 25) (v := ?_) (a' := ?_) #[true, false, false, false, false, false, false, false, false, false, false] rfl rfl (by kernel_rfl) (fun _ _ _ h => h) (Or.inl ⟨by rfl, ?_⟩) hHeld ?_ ?_
  rotate_left
  · rintro w' ⟨s0, s1, s2, s3, s4⟩; go_simp; first | done | with_reducible rfl
  rotate_left
  · simp only [Act.put, List.setIfInBounds_toArray, List.set_cons_zero, List.set_cons_succ]; rfl
  refine take_ (i := 1) (N := some 26) (v := ?_) (a' := ?_) #[true, true, false, false, false, false, false, false, false, false, false] rfl rfl (by kernel_rfl) (fun _ _ _ h => h) (Or.inl ⟨by rfl, ?_⟩) hHeld ?_ ?_
  rotate_left
  · rintro w' ⟨s0, s1, s2, s3, s4⟩; go_simp; first | done | with_reducible rfl
  rotate_left
  · simp only [Act.put, List.setIfInBounds_toArray, List.set_cons_zero, List.set_cons_succ]; rfl
  refine take_ (i := 2) (N := some 27) (v := ?_) (a' := ?_) #[true, true, true, false, false, false, false, false, false, false, false] rfl rfl (by kernel_rfl) (fun _ _ _ h => h) (Or.inl ⟨by rfl, ?_⟩) hHeld ?_ ?_
  rotate_left
  · rintro w' ⟨s0, s1, s2, s3, s4⟩; go_simp; first | done | with_reducible rfl
  rotate_left
  · simp only [Act.put, List.setIfInBounds_toArray, List.set_cons_zero, List.set_cons_succ]; rfl
  refine take_ (i := 3) (N := some 28) (v := ?_) (a' := ?_) #[true, true, true, true, false, false, false, false, false, false, false] rfl rfl (by kernel_rfl) (fun _ _ _ h => h) (Or.inl ⟨by rfl, ?_⟩) hHeld ?_ ?_
  rotate_left
  · rintro w' ⟨s0, s1, s2, s3, s4⟩; go_simp; first | done | with_reducible rfl
  rotate_left
  · simp only [Act.put, List.setIfInBounds_toArray, List.set_cons_zero, List.set_cons_succ]; rfl
  refine take_ (i := 4) (N := some 29) (v := ?_) (a' := ?_) #[true, true, true, true, true, false, false, false, false, false, false] rfl rfl (by kernel_rfl) (fun _ _ _ h => h) (Or.inl ⟨by rfl, ?_⟩) hHeld ?_ ?_
  rotate_left
  · rintro w' ⟨s0, s1, s2, s3, s4⟩; go_simp; first | done | with_reducible rfl
  rotate_left
  · simp only [Act.put, List.setIfInBounds_toArray, List.set_cons_zero, List.set_cons_succ]; rfl
  refine take_ (i := 5) (N := some 30) (v := ?_) (a' := ?_) #[true, true, true, true, true, true, false, false, false, false, false] rfl rfl (by kernel_rfl) (fun _ _ _ h => h) (Or.inl ⟨by rfl, ?_⟩) hHeld ?_ ?_
  rotate_left
  · rintro w' ⟨s0, s1, s2, s3, s4⟩; go_simp; first | done | with_reducible rfl
  rotate_left
  · simp only [Act.put, List.setIfInBounds_toArray, List.set_cons_zero, List.set_cons_succ]; rfl
  refine one_ (i := 6) (N := some 31) #[true, true, true, true, true, true, true, false, false, false, false] rfl rfl (by kernel_rfl) (by decide) (fun K hK => ?_)
  go_simp
  try dsimp only
  refine Shut.out hK _ _ ?_ (fun hHeld => ?_)
  · exact ⟨(cells108 (blk_alloc (blk_drew HB1.out) _)).2.1, cells41 (blk_alloc (blk_drew HK1.out) _)⟩
  clear hK K
  refine one_ (i := 7) (N := some 32) #[true, true, true, true, true, true, true, true, false, false, false] rfl rfl (by kernel_rfl) (by decide) (fun K hK => ?_)
  refine Kd.R_append_step k41 (w0 := w0) (W := w1.drew) w0.heap.size (by rfl) (.tmp 29) (.tmp 31) 32 41 (.agg #[(.int .i64 0), (.int .i64 0), (.string ⟨#[]⟩), (.bool false)]) 40 rfl Try.underlying32 info41 rfl (by decide) (by omega) (.slice A n.length cN) n ⟨k, v, t, c⟩ [.int .i64 k, .int .i64 v, .string t, .bool c] (fun _ => True) (fun _ => False) rfl rfl (k41_mkM _ _ _ _) (fun _ h => h.elim) (fun _ _ => trivial) (Kd.R_drew HR1.out.r) HB01.out.drew HB01.out.size (by have := HL.out; omega) ?_
  intro v2 w2 ho hb hg hat
  obtain ⟨A2, c2, rfl⟩ := Kd.R_slice ho
  have HR2 := Aside0.mk ho
  have HB2 := Aside0.mk hb
  have HG2 := Aside0.mk hg
  have HAT2 := Aside0.mk hat
  have HBK2 := Lib.hid (blk_grown (blk_drew HB1.out) hg HNB.out)
  have HKK2 := Lib.hid (blk_grown (blk_drew HK1.out) hg HNK.out)
  clear ho hb hg hat
  try dsimp only
  refine Shut.out hK _ _ ?_ (fun hHeld => ?_)
  · exact ⟨(cells108 HBK2.out).2.1, cells41 HKK2.out⟩
  clear hK K
  refine norm_ (a' := ?_) ?_ ?_
  rotate_left
  · show Act.put _ (some 32) _ = _
    simp only [Act.put, List.setIfInBounds_toArray, List.set_cons_zero, List.set_cons_succ]; rfl
  refine take_ (i := 8) (N := some 33) (v := ?_) (a' := ?_) #[true, true, true, true, true, true, true, true, true, false, false] rfl rfl (by kernel_rfl) (fun _ _ _ h => h) (Or.inl ⟨by rfl, ?_⟩) hHeld ?_ ?_
  rotate_left
  · rintro w' ⟨s0, s1, s2, s3, s4⟩; go_simp; first | done | with_reducible rfl
  rotate_left
  · simp only [Act.put, List.setIfInBounds_toArray, List.set_cons_zero, List.set_cons_succ]; rfl
  refine take_ (i := 9) (N := some 34) (v := ?_) (a' := ?_) #[true, true, true, true, true, true, true, true, true, true, false] rfl rfl (by kernel_rfl) (fun _ _ _ h => h) (Or.inl ⟨by rfl, ?_⟩) hHeld ?_ ?_
  rotate_left
  · rintro w' ⟨s0, s1, s2, s3, s4⟩; go_simp; first | done | with_reducible rfl
  rotate_left
  · simp only [Act.put, List.setIfInBounds_toArray, List.set_cons_zero, List.set_cons_succ]; rfl
  refine last_ (i := 10) (N := none) #[true, true, true, true, true, true, true, true, true, true, true] rfl rfl (by kernel_rfl) (by decide) (fun K hK => ?_)
  obtain ⟨q0, q1, q2, q3, g0, g1, g2, g3⟩ := cells108 HBK2.out
  refine skip_ (w1 := ?_) (by rfl) rfl ?_ ?_
  rotate_left
  · go_simp; rfl
  refine Shut.out hK _ _ ?_
  clear hK K
  refine done_ (by kernel_rfl) ?_
  go_wp2
  go_ret
  refine ⟨rfl, .slice A2 (n ++ [(⟨k, v, t, c⟩ : S41)]).length c2, ?_, ?_, ?_, below_set HB2.out hBb, ?_⟩
  · rw [set_at HBK2.out, List.length_append]; rfl
  · refine Row.same ⟨HR2.out⟩ (fun k hk => Below.heap_setCell _ _ _ _ ?_)
    rintro rfl
    exact Kd.R_ne HR2.out HBK2.out (by decide) hk.symm
  · refine Kept.setCell ?_ (.inl (.inl rfl)) _
    refine Kept.of_grown HG2.out (Kept.drew (Kept.of_below HW1.out _)) (fun k hk => .inl (.inr hk))
  · rcases HAT2.out with h1 | ⟨b, h1, h2⟩
    · exact .inl h1
    · exact .inr ⟨b, h1, Nat.le_trans HW1.out.size h2⟩

end Go.Proofs.Ytopmenioioljoaa.MacroW
