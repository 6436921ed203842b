/-
  THE GAP LAWS: texts GapM, GapN, GapO, GapP in one.
-/
import Derived.Test.YtopmenioioljoaaGg1
import Derived.Deep.DeepCutAuto
/-
  THE WALK OF PACKAGE gap: Move.
-/
namespace Go.Proofs.Ytopmenioioljoaa.GapW
open Go.RowKit Go.Proofs.Ytopmenioioljoaa.Base Go.Proofs.YtopmenioioljoaaW.PrintWords Go.Proofs.YtopmenioioljoaaW.PrintLast Go.Proofs.YtopmenioioljoaaW.PrintMore Go.Proofs.Ytopmenioioljoaa.PGapDoes Go.Proofs.Ytopmenioioljoaa.CountW
attribute [local go_sem] max2_int min2_int max_two min_two max_three min_three max_four min_four

theorem size82 : (Try.prog.info? 82).map (·.size) = some 2 := by kernel_rfl

/-- A buffer in memory: signs ahead of the gap, in it, behind it. -/
structure GSt (w0 w : World) (G : Nat) (most : Int) (pre gap post : List S82) (vB : Value) : Prop where
  blk : w.heap[G]? = some (gblk vB pre.length ((pre.length + gap.length : Nat) : Int) most)
  gG : w0.heap.size ≤ G
  row : Rw w w0.heap.size vB (pre ++ gap ++ post)
  bel : Below w0.heap.size w0 w
  big : pre.length + gap.length + post.length ≤ 1000000

theorem GSt.below {w0 w w' : World} {G : Nat} {most : Int} {pre gap post : List S82} {vB : Value} (h : GSt w0 w G most pre gap post vB) (hb : Below w.heap.size w w') : GSt w0 w' G most pre gap post vB :=
  ⟨(hb.block _ (lt_of_block h.blk)).trans h.blk, h.gG, h.row.below hb, btr h.bel hb, h.big⟩

theorem glen {w0 w : World} {G : Nat} {most : Int} {pre gap post : List S82} {vB : Value} (h : GSt w0 w G most pre gap post vB) :
    Calls Try.prog 53 #[.pointer (some ⟨G, 0, none⟩)] w fun e w' => e = .returned (.int .i64 ((pre.length + post.length : Nat) : Int)) ∧ ∃ m, w' = w.drewN m := by
  obtain ⟨A, c, rfl, _, _⟩ := h.row.reads
  have hn : (pre ++ gap ++ post).length = pre.length + gap.length + post.length := by simp; omega
  have := h.big
  refine (len53 G A _ c _ _ most w h.blk (by omega) (by omega) (by rw [hn]; omega) (by rw [hn]; omega)).mono ?_
  rintro e w' ⟨rfl, hm⟩
  refine ⟨?_, hm⟩
  rw [hn]
  congr 2
  omega

set_option maxRecDepth 100000 in
set_option maxHeartbeats 8000000 in
theorem gmove {w0 w : World} {G : Nat} {most : Int} {pre gap post : List S82} {vB : Value} (h : GSt w0 w G most pre gap post vB) (z : Int) :
    Calls Try.prog 50 #[.pointer (some ⟨G, 0, none⟩), .int .i64 z] w fun e w' => e = .returned (.tuple #[]) ∧ ∃ pre' gap' post', GSt w0 w' G most pre' gap' post' vB ∧ pre' = (pre ++ post).take (min (max z 0) ((pre.length + post.length : Nat) : Int)).toNat ∧ post' = (pre ++ post).drop (min (max z 0) ((pre.length + post.length : Nat) : Int)).toNat ∧ Kept w w' (fun j => j = G ∨ vB.ownBlock = some j) := by
  have HL := Lib.hid (glen h)
  obtain ⟨c0, c1, c2, c3, _⟩ := cells111 h.blk
  obtain ⟨t, ht⟩ : ∃ t : Nat, min (max z 0) ((pre.length + post.length : Nat) : Int) = (t : Int) := ⟨(min (max z 0) ((pre.length + post.length : Nat) : Int)).toNat, by omega⟩
  rw [ht, Int.toNat_natCast]
  have H := Lib.hid h
  clear h
  go_enter Try.func50, Try.ntmps50
  go_upto_region 1 with (fail)
  go_cut [1] (fun v1 wx => v1 = .int .i64 t ∧ ∃ m, wx = w.drewN m)
  case first =>
    go_wp2_with fail
    all_goals
      refine HL.out.mono ?_
      rintro e w1 ⟨rfl, m, rfl⟩
      go_wp2_with fail
      all_goals
        go_meet
        refine ⟨?_, m, rfl⟩
        congr 1
        omega
  case rest =>
    obtain ⟨rfl, m, rfl⟩ := hcut
    have ht2 : t ≤ pre.length + post.length := by omega
    have hbig := H.out.big
    have hN : (pre ++ gap ++ post).length = pre.length + gap.length + post.length := by simp; omega
    by_cases hlt : t < pre.length
    · obtain ⟨g, cap, sp, hv, hbg, hblk, hl1, hl2, hsp⟩ := (H.out.row.form).resolve_left (fun hh => by have h5 := congrArg List.length hh.2; rw [hN, List.length_nil] at h5; omega)
      subst hv
      have HS := Lib.hid hsp
      have HBLK := Lib.hid hblk
      clear hsp hblk
      obtain ⟨N, hNN⟩ : ∃ N, (pre ++ gap ++ post).length = N := ⟨_, rfl⟩
      obtain ⟨r, hr⟩ : ∃ r, pre.length + gap.length = r := ⟨_, rfl⟩
      obtain ⟨p, hp⟩ : ∃ p, pre.length = p := ⟨_, rfl⟩
      obtain ⟨u, hu⟩ : ∃ u, r - (p - t) = u := ⟨_, rfl⟩
      rw [hNN] at c0 hl1 hN
      rw [hr] at c2 hN
      rw [hp] at c1 hlt hr
      clear HL ht ht2 hbig
      have HNN := Lib.hid hNN
      have HRR := Lib.hid hr
      have HPP := Lib.hid hp
      have HRR2 : Hid (pre.length + gap.length = r) := by show _ = _; rw [hp]; exact hr
      have hrp : p ≤ r := by omega
      have hrN : r ≤ N := by omega
      have hu2 : (r : Int) - ((p : Int) - (t : Int)) = (u : Int) := by omega
      have hub : u < r := by omega
      have hcap : cap ≤ 9223372036854775807 := hl2
      have HU := Lib.hid hu
      clear hNN hr hp hN hu hl2
      have k1 := cut82 g N cap u r (by omega) hrN hl1 (by omega)
      have k2 := cut82 g N cap t p (by omega) (by omega) hl1 (by omega)
      have hur : r - u = p - t := by omega
      have e1 : IntKind.i64.wrap ((p : Int) - (t : Int)) = (p : Int) - t := by rw [IntKind.wrap_i64]; omega
      have e2 : IntKind.i64.wrap ((r : Int) - ((p : Int) - (t : Int))) = (u : Int) := by rw [IntKind.wrap_i64]; omega
      have d1 : decide (0 < (p : Int) - (t : Int)) = true := decide_eq_true (by omega)
      have d2 : decide ((t : Int) < (p : Int)) = true := decide_eq_true (by omega)
      have d3 : decide (t < p) = true := decide_eq_true hlt
      have HBD := Lib.hid (show t < p ∧ p ≤ r ∧ r ≤ N ∧ N ≤ cap ∧ u < r ∧ r - u = p - t ∧ cap ≤ 9223372036854775807 from ⟨hlt, hrp, hrN, hl1, hub, hur, hcap⟩)
      clear hlt hrp hrN hl1 hub hur hcap hu2
      have hpl : (enc2 (((pre ++ gap ++ post).drop t).take (p - t))).length = (p - t) * 2 := by have := HBD.out; rw [enc2_len, List.length_take, List.length_drop, HNN.out]; omega
      have hGg : some G ≠ some g := fun e => H.out.row.ne H.out.blk (by decide) e.symm
      have HPL := Lib.hid hpl
      go_wp2_with fail
      go_region_held3 (fun w' => w'.cell? ⟨G, 0, none⟩ = some (.slice (some ⟨g, 0, none⟩) N cap) ∧ w'.cell? ⟨G, 1, none⟩ = some (.int .i64 p) ∧ w'.cell? ⟨G, 2, none⟩ = some (.int .i64 r)) (first | go_keep)
        (first | (refine step_copy rfl (.tmp 35) (.tmp 45) 68 68 rfl 82 2 Try.underlying68 size82 (some ⟨g, u * 2, none⟩) (some ⟨g, t * 2, none⟩) (r - u) (cap - u) (p - t) (cap - t) rfl rfl g (u * 2) (p - t) _ 82 (show (w.drewN m).drew.heap[g]? = _ from HBLK.out) (enc2 ((pre ++ gap ++ post).drop t |>.take (p - t))) ?cm ?cn ?cp ?cf (enc2_one _) ?_; (case cm => have := HBD.out; rw [this.2.2.2.2.2.1]; exact (Nat.min_self _).symm); (case cn => exact hpl); (case cp => exact fun _ => ⟨rfl, _, rfl, part_cells (show (w.drewN m).drew.heap[g]? = _ from HBLK.out) t (p - t) (by have := HBD.out; rw [HNN.out]; omega)⟩); (case cf => have := HBD.out; rw [hpl, List.length_append, enc2_len, HNN.out]; omega); intro w2 hg2 hgr2; have z0 := blk_grown (show (w.drewN m).drew.heap[G]? = _ from H.out.blk) hgr2 hGg; obtain ⟨q0, q1, q2, q3, f0, f1, f2, f3⟩ := cells111 z0; rw [HPP.out] at q1; rw [HRR2.out] at q2; rw [HNN.out] at q0))
      have hGN : G ≠ g := fun e => hGg (by rw [e])
      have Z0 := Lib.hid z0
      have HG2 := Lib.hid hg2
      have HGR := Aside0.mk hgr2
      clear z0 hg2 hgr2 hpl hGg
      go_wp2_with fail
      refine bodyPost_ret (results_none rfl _ _ _) rfl ?_
      obtain ⟨i1, i2, i3, i4, i5, i6, i7⟩ := HBD.out
      have hp := HPP.out
      have hgl := HRR.out
      have hu := HU.out
      have hut : u = t + gap.length := by omega
      have hpart : ((pre ++ gap ++ post).drop t).take (p - t) = pre.drop t := by
        rw [List.append_assoc, List.drop_append_of_le_length (by omega), List.take_append_of_le_length (by rw [List.length_drop]; omega), List.take_of_length_le (by rw [List.length_drop]; omega)]
      have hsp2 := HG2.out
      rw [enc2_splice _ _ _ _ (by rw [hpart, List.length_drop, HNN.out]; omega), hpart, hut, back_splice pre gap post t (by omega)] at hsp2
      have hxl : (pre.take t ++ (pre.drop t ++ gap).take gap.length ++ (pre.drop t ++ post)).length = N := by
        have := HNN.out
        simp only [List.length_append, List.length_take, List.length_drop] at this ⊢
        omega
      have hgap : ((pre.drop t ++ gap).take gap.length).length = gap.length := by simp only [List.length_take, List.length_append]; omega
      have htl : (pre.take t).length = t := by rw [List.length_take]; omega
      refine ⟨rfl, pre.take t, (pre.drop t ++ gap).take gap.length, pre.drop t ++ post, ⟨?_, H.out.gG, ?_, ?_, ?_⟩, ?_, ?_, ?_⟩
      · rw [set_at (set_at Z0.out), hgap, htl, ← hut]; rfl
      · have hb2 := (Below.heap_setCell _ ⟨G, 2, none⟩ (.int .i64 (u : Int)) g hGN.symm).trans ((Below.heap_setCell w2 ⟨G, 1, none⟩ (.int .i64 (t : Int)) g hGN.symm).trans hsp2)
        have hr := Rw.of_block (cap := cap) hbg hb2 (by rw [hxl]; exact i4) i7 (by rw [hxl, HS.out, HNN.out])
        rw [hxl] at hr
        rw [HNN.out]
        exact hr
      · exact below_set (below_set (((pw_below_drewN H.out.bel m).drew).grown HGR.out H.out.bel.size (fun k hk => by cases hk; exact hbg)) H.out.gG) H.out.gG
      · have := H.out.big
        rw [htl, hgap]
        simp only [List.length_append, List.length_drop]
        omega
      · rw [List.take_append_of_le_length (by omega)]
      · rw [List.drop_append_of_le_length (by omega)]
      · refine Kept.setCell (Kept.setCell (Kept.of_grown HGR.out (Kept.drew (Kept.drewN (Kept.refl w _) m)) (fun k hk => .inl (.inr hk))) (.inl (.inl rfl)) _) (.inl (.inl rfl)) _
    · rcases H.out.row.form with ⟨hv, hnil⟩ | ⟨g, cap, sp, hv, hbg, hblk, hl1, hl2, hsp⟩
      · subst hv
        obtain ⟨hpg, hpo⟩ := List.append_eq_nil_iff.mp hnil
        obtain ⟨hpr, hga⟩ := List.append_eq_nil_iff.mp hpg
        subst hpr hga hpo
        have ht0 : t = 0 := by simpa using ht2
        simp only [List.length_nil] at c0 c1 c2
        have ho := ht0.symm
        have c0' : w.cell? ⟨G, 0, none⟩ = some (.slice none t t) := by rw [← ho]; exact c0
        have c1' : w.cell? ⟨G, 1, none⟩ = some (.int .i64 (t : Int)) := by rw [← ho]; exact c1
        have c2' : w.cell? ⟨G, 2, none⟩ = some (.int .i64 (t : Int)) := by rw [← ho]; exact c2
        have k3 := cutm82 none t t t t (Nat.le_refl _) (Nat.le_refl _) (Nat.le_refl _)
        have k4 := cutf82 none t t t (Nat.le_refl _) (Nat.le_refl _)
        have hcA : cutA none t t = none := by unfold cutA; split <;> rfl
        rw [hcA, Nat.sub_self] at k3 k4
        have e0 : IntKind.i64.wrap ((t : Int) - (t : Int)) = 0 := by rw [← ho]; rfl
        have e1 : IntKind.i64.wrap (t : Int) = (t : Int) := by rw [← ho]; rfl
        have HO := Lib.hid ho
        clear HL ht ht2 hbig hN hlt hnil hpg ho ht0 c0 c1 c2 hcA
        go_wp2_with fail
        go_region_held3 (fun w' => w'.cell? ⟨G, 0, none⟩ = some (.slice none t t) ∧ w'.cell? ⟨G, 1, none⟩ = some (.int .i64 (t : Int)) ∧ w'.cell? ⟨G, 2, none⟩ = some (.int .i64 (t : Int))) (first | go_keep)
          (first | (refine step_copy_none rfl (.tmp 74) (.tmp 89) 68 68 rfl 82 2 Try.underlying68 size82 none none 0 0 0 0 rfl rfl rfl ?_))
        go_wp2_with fail
        have ho := HO.out
        subst ho
        refine bodyPost_end (results_none rfl _ _ _) rfl ?_
        have Z0 : (w.drewN (m + 1)).heap[G]? = some (gblk (.slice none 0 0) 0 0 most) := H.out.blk
        refine ⟨rfl, [], [], [], ⟨?_, H.out.gG, Rw.nil _ _, ?_, by simp⟩, rfl, rfl, ?_⟩
        · rw [set_at (set_at Z0)]; rfl
        · exact below_set (below_set (pw_below_drewN H.out.bel (m + 1)) H.out.gG) H.out.gG
        · exact Kept.setCell (Kept.setCell (Kept.drewN (Kept.refl w _) (m + 1)) (.inl (.inl rfl)) _) (.inl (.inl rfl)) _
      · subst hv
        have HS := Lib.hid hsp
        have HBLK := Lib.hid hblk
        clear hsp hblk
        obtain ⟨N, hNN⟩ : ∃ N, (pre ++ gap ++ post).length = N := ⟨_, rfl⟩
        obtain ⟨r, hr⟩ : ∃ r, pre.length + gap.length = r := ⟨_, rfl⟩
        obtain ⟨p, hp⟩ : ∃ p, pre.length = p := ⟨_, rfl⟩
        obtain ⟨n, hn⟩ : ∃ n, t - p = n := ⟨_, rfl⟩
        obtain ⟨u, hu⟩ : ∃ u, r + n = u := ⟨_, rfl⟩
        rw [hNN] at c0 hl1 hN
        rw [hr] at c2 hN
        rw [hp] at c1 hlt hr ht2
        have HRR2 : Hid (pre.length + gap.length = r) := by show _ = _; rw [hp]; exact hr
        clear HL ht hbig
        have HNN := Lib.hid hNN
        have HRR := Lib.hid hr
        have HPP := Lib.hid hp
        have hcap : cap ≤ 9223372036854775807 := hl2
        have hmax : N ≤ 1000000 := by have := H.out.big; omega
        have HBD := Lib.hid (show p ≤ t ∧ t - p = n ∧ r + n = u ∧ u ≤ N ∧ N ≤ cap ∧ p ≤ r ∧ n ≤ post.length ∧ N = r + post.length ∧ cap ≤ 9223372036854775807 from ⟨by omega, hn, hu, by omega, hl1, by omega, by omega, by omega, hcap⟩)
        have k1 := cutf82 (some ⟨g, 0, none⟩) N cap p (by omega) hl1
        have k2 := cutm82 (some ⟨g, 0, none⟩) N cap r u (by omega) (by omega) hl1
        obtain ⟨A1, hA1⟩ : ∃ A1, cutA (some ⟨g, 0, none⟩) cap p = A1 := ⟨_, rfl⟩
        obtain ⟨A2, hA2⟩ : ∃ A2, cutA (some ⟨g, 0, none⟩) cap r = A2 := ⟨_, rfl⟩
        rw [hA1] at k1
        rw [hA2] at k2
        have HA1 := Lib.hid hA1
        have HA2 := Lib.hid hA2
        have e0 : IntKind.i64.wrap ((p : Int) - (t : Int)) = (p : Int) - t := by rw [IntKind.wrap_i64]; omega
        have e1 : IntKind.i64.wrap ((t : Int) - (p : Int)) = (n : Int) := by rw [IntKind.wrap_i64]; omega
        have e2 : IntKind.i64.wrap ((r : Int) + (n : Int)) = (u : Int) := by rw [IntKind.wrap_i64]; omega
        have d1 : decide (0 < (p : Int) - (t : Int)) = false := decide_eq_false (by omega)
        have d2 : decide ((t : Int) < (p : Int)) = false := decide_eq_false (by omega)
        have d3 : decide (t < p) = false := decide_eq_false hlt
        have hpl : (enc2 (((pre ++ gap ++ post).drop r).take n)).length = n * 2 := by have := HBD.out; rw [enc2_len, List.length_take, List.length_drop, HNN.out]; omega
        have hGg : some G ≠ some g := fun e => H.out.row.ne H.out.blk (by decide) e.symm
        clear hNN hr hp hN hn hu hl2 hcap hl1 hlt ht2 hmax hA1 hA2
        go_wp2_with fail
        go_region_held3 (fun w' => w'.cell? ⟨G, 0, none⟩ = some (.slice (some ⟨g, 0, none⟩) N cap) ∧ w'.cell? ⟨G, 1, none⟩ = some (.int .i64 p) ∧ w'.cell? ⟨G, 2, none⟩ = some (.int .i64 r)) (first | go_keep)
          (first | (refine step_copy rfl (.tmp 74) (.tmp 89) 68 68 rfl 82 2 Try.underlying68 size82 A1 A2 (N - p) (cap - p) (u - r) (cap - r) rfl rfl g (p * 2) n _ 82 (show (w.drewN m).drew.heap[g]? = _ from HBLK.out) (enc2 ((pre ++ gap ++ post).drop r |>.take n)) ?cm ?cn ?cp ?cf (enc2_one _) ?_; (case cm => have := HBD.out; show n = min (u - r) (N - p); omega); (case cn => exact hpl); (case cp => exact fun hh => ⟨by rw [← HA1.out]; exact cutA_at (by have := HBD.out; omega), ⟨g, r * 2, none⟩, by rw [← HA2.out]; exact cutA_at (by have := HBD.out; omega), part_cells (show (w.drewN m).drew.heap[g]? = _ from HBLK.out) r n (by have := HBD.out; rw [HNN.out]; omega)⟩); (case cf => have := HBD.out; rw [hpl, List.length_append, enc2_len, HNN.out]; omega); intro w2 hg2 hgr2; have z0 := blk_grown (show (w.drewN m).drew.heap[G]? = _ from H.out.blk) hgr2 hGg; obtain ⟨q0, q1, q2, q3, f0, f1, f2, f3⟩ := cells111 z0; rw [HPP.out] at q1; rw [HRR2.out] at q2; rw [HNN.out] at q0))
        have hGN : G ≠ g := fun e => hGg (by rw [e])
        have Z0 := Lib.hid z0
        have HG2 := Lib.hid hg2
        have HGR := Aside0.mk hgr2
        clear z0 hg2 hgr2 hpl hGg
        go_wp2_with fail
        refine bodyPost_end (results_none rfl _ _ _) rfl ?_
        obtain ⟨i1, i2, i3, i4, i5, i6, i7, i8, i9⟩ := HBD.out
        have hp := HPP.out
        have hgl := HRR.out
        have hrl := HRR2.out
        have hpart : ((pre ++ gap ++ post).drop r).take n = post.take n := by
          rw [← hrl, ← List.length_append, List.drop_append_of_le_length (Nat.le_refl _), List.drop_length, List.nil_append]
        have hsp2 := HG2.out
        rw [enc2_splice _ _ _ _ (by rw [hpart, List.length_take, HNN.out]; omega), hpart, ← hp, ahead_splice pre gap post n i7] at hsp2
        have hxl : ((pre ++ post.take n) ++ (gap ++ post.take n).drop n ++ post.drop n).length = N := by
          have := HNN.out
          simp only [List.length_append, List.length_take, List.length_drop] at this ⊢
          omega
        have hgap : ((gap ++ post.take n).drop n).length = gap.length := by simp only [List.length_drop, List.length_take, List.length_append]; omega
        have htl : (pre ++ post.take n).length = t := by rw [List.length_append, List.length_take]; omega
        refine ⟨rfl, pre ++ post.take n, (gap ++ post.take n).drop n, post.drop n, ⟨?_, H.out.gG, ?_, ?_, ?_⟩, ?_, ?_, ?_⟩
        · rw [set_at (set_at Z0.out), hgap, htl, show t + gap.length = u by omega]; rfl
        · have hb2 := (Below.heap_setCell _ ⟨G, 2, none⟩ (.int .i64 (u : Int)) g hGN.symm).trans ((Below.heap_setCell w2 ⟨G, 1, none⟩ (.int .i64 (t : Int)) g hGN.symm).trans hsp2)
          have hr := Rw.of_block (cap := cap) hbg hb2 (by rw [hxl]; exact i5) i9 (by rw [hxl, HS.out, HNN.out])
          rw [hxl] at hr
          rw [HNN.out]
          exact hr
        · exact below_set (below_set (((pw_below_drewN H.out.bel m).drew).grown HGR.out H.out.bel.size (fun k hk => by cases hk; exact hbg)) H.out.gG) H.out.gG
        · have := H.out.big
          rw [htl, hgap, List.length_drop]
          omega
        · conv => rhs; rw [List.take_append, List.take_of_length_le (by omega), hp, i2]
        · conv => rhs; rw [List.drop_append, List.drop_of_length_le (by omega), hp, i2, List.nil_append]
        · refine Kept.setCell (Kept.setCell (Kept.of_grown HGR.out (Kept.drew (Kept.drewN (Kept.refl w _) m)) (fun k hk => .inl (.inr hk))) (.inl (.inl rfl)) _) (.inl (.inl rfl)) _

end Go.Proofs.Ytopmenioioljoaa.GapW

/-
  THE WALK OF PACKAGE gap: Cut.
-/
namespace Go.Proofs.Ytopmenioioljoaa.GapW
open Go.RowKit Go.Proofs.Ytopmenioioljoaa.Base Go.Proofs.YtopmenioioljoaaW.PrintWords Go.Proofs.YtopmenioioljoaaW.PrintLast Go.Proofs.YtopmenioioljoaaW.PrintMore Go.Proofs.Ytopmenioioljoaa.PGapDoes Go.Proofs.Ytopmenioioljoaa.CountW
attribute [local go_sem] max2_int min2_int max_two min_two max_three min_three max_four min_four

theorem gset_row {w0 w : World} {G : Nat} {most : Int} {pre gap post : List S82} {vB : Value} (h : GSt w0 w G most pre gap post vB) (o : Nat) (u : Value) : Rw (w.setCell ⟨G, o, none⟩ u) w0.heap.size vB (pre ++ gap ++ post) :=
  h.row.kept (S := fun j => j = G) (Kept.setCell (S := fun j => j = G) (Kept.refl w _) (.inl rfl) u) (fun j hj e => h.row.ne h.blk (by decide) (by rw [← e]; exact hj))
theorem Rw.nilCap {w : World} {base : Nat} {A : Option Addr} {n c : Nat} {xs : List S82} (h : Rw w base (.slice A n c) xs) : A = none → c = 0 := by
  rintro rfl
  rcases h.form with ⟨h1, _⟩ | ⟨g, cap, sp, h1, _⟩
  · simp only [Value.slice.injEq] at h1; exact h1.2.2
  · simp at h1
theorem cutA_nil {A : Option Addr} {c u : Nat} (h : A = none → c = 0) : cutA A c u = none → c - u = 0 := by
  intro hh
  unfold cutA at hh
  split at hh
  · have := h hh; omega
  · cases A with
    | none => have := h rfl; omega
    | some a => simp at hh

set_option maxRecDepth 100000 in
set_option maxHeartbeats 8000000 in
theorem gcut_pos {w0 w : World} {G : Nat} {most : Int} {pre gap post : List S82} {vB : Value} (h : GSt w0 w G most pre gap post vB) (z : Int) (hz : 0 ≤ z) :
    Calls Try.prog 48 #[.pointer (some ⟨G, 0, none⟩), .int .i64 z] w fun e w' => ∃ v k, k = (min z (post.length : Int)).toNat ∧ e = .returned v ∧ Rw w' w.heap.size v (post.take k) ∧ GSt w0 w' G most pre (gap ++ post.take k) (post.drop k) vB ∧ Kept w w' (fun j => j = G) := by
  obtain ⟨A, cap, rfl, hNc, hC⟩ := h.row.reads
  have hnc := h.row.nilCap
  obtain ⟨k, hk⟩ : ∃ k : Nat, min z (post.length : Int) = (k : Int) := ⟨(min z (post.length : Int)).toNat, by omega⟩
  have hN : (pre ++ gap ++ post).length = pre.length + gap.length + post.length := by simp; omega
  have hbig := h.big
  have H := Lib.hid h
  have HNC := Lib.hid hnc
  obtain ⟨c0, c1, c2, c3, f0, f1, f2, f3⟩ := cells111 h.blk
  obtain ⟨N, hNN⟩ : ∃ N, (pre ++ gap ++ post).length = N := ⟨_, rfl⟩
  obtain ⟨r, hr⟩ : ∃ r, pre.length + gap.length = r := ⟨_, rfl⟩
  obtain ⟨q, hq⟩ : ∃ q, post.length = q := ⟨_, rfl⟩
  obtain ⟨u, hu⟩ : ∃ u, r + k = u := ⟨_, rfl⟩
  obtain ⟨p, hp⟩ : ∃ p, pre.length = p := ⟨_, rfl⟩
  have hb5 := set_at (o := 2) (u := .int .i64 (u : Int)) h.blk
  rw [hNN] at c0 hN hNc
  rw [hr] at c2 hN
  rw [hq] at hk hN
  rw [hp] at c1
  have HNN := Lib.hid hNN
  have HRR := Lib.hid hr
  have HQQ := Lib.hid hq
  have HPP := Lib.hid hp
  have HKK := Lib.hid hk
  have HB5 := Lib.hid hb5
  have hkq : k ≤ q := by omega
  have e1 : IntKind.i64.wrap ((N : Int) - (r : Int)) = (q : Int) := by rw [IntKind.wrap_i64]; omega
  have e2 : IntKind.i64.wrap ((r : Int) + (k : Int)) = (u : Int) := by rw [IntKind.wrap_i64]; omega
  have e3 : IntKind.i64.wrap ((u : Int) - (k : Int)) = (r : Int) := by rw [IntKind.wrap_i64]; omega
  have k1 := cutm82 A N cap r u (by omega) (by omega) hNc
  obtain ⟨A1, hA1⟩ : ∃ A1, cutA A cap r = A1 := ⟨_, rfl⟩
  rw [hA1] at k1
  have HA1 := Lib.hid hA1
  have HBD := Lib.hid (show k ≤ q ∧ r + k = u ∧ u ≤ N ∧ N ≤ cap ∧ N = r + q ∧ N ≤ 1000000 from ⟨hkq, hu, by omega, hNc, by omega, by omega⟩)
  have d0 : decide (0 ≤ z) = true := decide_eq_true hz
  have D0 := Lib.hid d0
  clear h hnc hC hNN hr hq hp hu hb5 hA1 hN hbig hNc hkq
  go_enter Try.func48, Try.ntmps48
  go_upto_region 4 with (fail)
  go_cut [1] (fun v1 wx => v1 = .int .i64 k ∧ ∃ m, wx = w.drewN m)
  case first =>
    by_cases hzq : (q : Int) < z
    · have hkk : k = q := by omega
      subst hkk
      go_wp2_with fail
      go_quiet (fail)
      go_wp2_with fail
      go_meet
      exact ⟨rfl, _, rfl⟩
    · have hkk : z = (k : Int) := by omega
      subst hkk
      go_wp2_with fail
      go_quiet (fail)
      go_wp2_with fail
      go_meet
      exact ⟨rfl, _, rfl⟩
  case rest =>
    obtain ⟨rfl, m, rfl⟩ := hcut
    have hb5 : ((w.drewN m).setCell ⟨G, 2, none⟩ (.int .i64 (u : Int))).heap[G]? = some (gblk (.slice A N cap) p u most) := by
      rw [set_at (show (w.drewN m).heap[G]? = _ from H.out.blk), HNN.out, HPP.out]; rfl
    have hrow5 : Rw ((w.drewN m).setCell ⟨G, 2, none⟩ (.int .i64 (u : Int))).drew w0.heap.size (.slice A (pre ++ gap ++ post).length cap) (pre ++ gap ++ post) :=
      (gset_row (H.out.below (bdrewN w m)) 2 (.int .i64 (u : Int))).below (bdrew _)
    obtain ⟨Aq, cq, hvq, hcq, hC5⟩ := hrow5.reads
    simp only [Value.slice.injEq] at hvq
    obtain ⟨rfl, _, rfl⟩ := hvq
    have hmid := Kd.C_mid (lo := r) (hi := u) hC5 (by have := HBD.out; omega) (by have := HBD.out; rw [HNN.out]; omega) hcq
    have hpart : ((pre ++ gap ++ post).take u).drop r = post.take k := by
      have := HBD.out
      have hr := HRR.out
      rw [List.drop_take, ← hr, ← List.length_append, List.drop_append_of_le_length (Nat.le_refl _), List.drop_length, List.nil_append, List.length_append, hr]
      congr 1
      omega
    rw [hpart] at hmid
    have hml : (post.take k).length = u - r := by have := HBD.out; rw [List.length_take, HQQ.out]; omega
    have hcl := clone73 (cutA A cap r) (cap - r) (post.take k) _ hmid (cutA_nil HNC.out) (by have := HBD.out; omega)
    rw [hml, HA1.out] at hcl
    have HCL := Lib.hid hcl
    obtain ⟨s0, s1, s2, s3, t0, t1, t2, t3⟩ := cells111 hb5
    have HB := Lib.hid hb5
    clear hb5 hrow5 hcq hC5 hmid hpart hml hcl
    go_wp2_with fail
    go_region_held3 (fun w' => w'.cell? ⟨G, 0, none⟩ = some (.slice A N cap) ∧ w'.cell? ⟨G, 2, none⟩ = some (.int .i64 u)) (first | go_keep)
      (first | (go_at_call 73; refine HCL.out.mono ?_; rintro e w6 ⟨v6, rfl, hv6, hb6⟩; have z0 := (hb6.block G (by simpa using lt_of_block HB.out)).trans (blk_drew HB.out); obtain ⟨q0, q1, q2, q3, _⟩ := cells111 z0))
    have Z0 := Lib.hid z0
    have HV := Aside0.mk hv6
    have HB6 := Aside0.mk hb6
    clear z0 hv6 hb6
    go_wp2_with fail
    go_ret
    have hbd := HBD.out
    have hr := HRR.out
    have hq := HQQ.out
    have hkl : (post.take k).length = k := by rw [List.length_take]; omega
    refine ⟨v6, k, ?_, rfl, HV.out.lower (by simp), ⟨?_, H.out.gG, ?_, ?_, ?_⟩, ?_⟩
    · rw [hq, HKK.out]; rfl
    · rw [Z0.out, HNN.out, HPP.out, List.length_append, hkl]
      have hp := HPP.out
      rw [show p + (gap.length + k) = u by omega]
    · have e : pre ++ (gap ++ post.take k) ++ post.drop k = pre ++ gap ++ post := by simp
      rw [e]
      exact ((gset_row (H.out.below (bdrewN w m)) 2 (.int .i64 (u : Int))).below (bdrew _)).below HB6.out
    · exact btr (below_set (pw_below_drewN H.out.bel m) H.out.gG).drew HB6.out
    · have := H.out.big
      rw [List.length_append, hkl, List.length_drop]
      omega
    · exact (Kept.drew (Kept.setCell (p := ⟨G, 2, none⟩) (Kept.drewN (Kept.refl w (fun j => j = G)) m) (.inl rfl) _)).below HB6.out

set_option maxRecDepth 100000 in
set_option maxHeartbeats 8000000 in
theorem gcut_neg {w0 w : World} {G : Nat} {most : Int} {pre gap post : List S82} {vB : Value} (h : GSt w0 w G most pre gap post vB) (z : Int) (hz : z < 0) :
    Calls Try.prog 48 #[.pointer (some ⟨G, 0, none⟩), .int .i64 z] w fun e w' => ∃ v k, k = (min (-z) (pre.length : Int)).toNat ∧ e = .returned v ∧ Rw w' w.heap.size v (pre.drop (pre.length - k)) ∧ GSt w0 w' G most (pre.take (pre.length - k)) (pre.drop (pre.length - k) ++ gap) post vB ∧ Kept w w' (fun j => j = G) := by
  obtain ⟨A, cap, rfl, hNc, hC⟩ := h.row.reads
  have hnc := h.row.nilCap
  obtain ⟨k, hk⟩ : ∃ k : Nat, min (-z) (pre.length : Int) = (k : Int) := ⟨(min (-z) (pre.length : Int)).toNat, by omega⟩
  have hN : (pre ++ gap ++ post).length = pre.length + gap.length + post.length := by simp; omega
  have hbig := h.big
  have H := Lib.hid h
  have HNC := Lib.hid hnc
  obtain ⟨c0, c1, c2, c3, f0, f1, f2, f3⟩ := cells111 h.blk
  obtain ⟨N, hNN⟩ : ∃ N, (pre ++ gap ++ post).length = N := ⟨_, rfl⟩
  obtain ⟨r, hr⟩ : ∃ r, pre.length + gap.length = r := ⟨_, rfl⟩
  obtain ⟨p, hp⟩ : ∃ p, pre.length = p := ⟨_, rfl⟩
  obtain ⟨u, hu⟩ : ∃ u, p - k = u := ⟨_, rfl⟩
  rw [hNN] at c0 hN hNc
  rw [hr] at c2 hN
  rw [hp] at c1 hk
  have hpr : p ≤ r := by omega
  have HNN := Lib.hid hNN
  have HRR := Lib.hid hr
  have HPP := Lib.hid hp
  have HKK := Lib.hid hk
  have hkp : k ≤ p := by omega
  have e1 : IntKind.i64.wrap (-(p : Int)) = -(p : Int) := by rw [IntKind.wrap_i64]; omega
  have e2 : IntKind.i64.wrap ((p : Int) + -(k : Int)) = (u : Int) := by rw [IntKind.wrap_i64]; omega
  have e2b : IntKind.i64.wrap ((p : Int) - (k : Int)) = (u : Int) := by rw [IntKind.wrap_i64]; omega
  have e3 : IntKind.i64.wrap ((u : Int) - -(k : Int)) = (p : Int) := by rw [IntKind.wrap_i64]; omega
  have e3b : IntKind.i64.wrap ((u : Int) + (k : Int)) = (p : Int) := by rw [IntKind.wrap_i64]; omega
  have k1 := cutm82 A N cap u p (by omega) (by omega) hNc
  obtain ⟨A1, hA1⟩ : ∃ A1, cutA A cap u = A1 := ⟨_, rfl⟩
  rw [hA1] at k1
  have HA1 := Lib.hid hA1
  have HBD := Lib.hid (show k ≤ p ∧ p - k = u ∧ p ≤ r ∧ p ≤ N ∧ N ≤ cap ∧ N ≤ 1000000 from ⟨hkp, hu, hpr, by omega, hNc, by omega⟩)
  have d0 : decide (0 ≤ z) = false := decide_eq_false (by omega)
  have D0 := Lib.hid d0
  clear h hnc hC hNN hr hp hu hA1 hN hbig hNc hkp hpr
  go_enter Try.func48, Try.ntmps48
  go_upto_region 7 with (fail)
  go_cut [1] (fun v1 wx => v1 = .int .i64 (-(k : Int)) ∧ wx = w)
  case first =>
    go_wp2_with fail
    all_goals
      go_meet
      refine ⟨?_, rfl⟩
      congr 1
      omega
  case rest =>
    obtain ⟨rfl, rfl⟩ := hcut
    have hb5 : (wc.setCell ⟨G, 1, none⟩ (.int .i64 (u : Int))).heap[G]? = some (gblk (.slice A N cap) u r most) := by
      rw [set_at (show wc.heap[G]? = _ from H.out.blk), HNN.out, HRR.out]; rfl
    have hrow5 : Rw (wc.setCell ⟨G, 1, none⟩ (.int .i64 (u : Int))).drew w0.heap.size (.slice A (pre ++ gap ++ post).length cap) (pre ++ gap ++ post) :=
      (gset_row H.out 1 (.int .i64 (u : Int))).below (bdrew _)
    obtain ⟨Aq, cq, hvq, hcq, hC5⟩ := hrow5.reads
    simp only [Value.slice.injEq] at hvq
    obtain ⟨rfl, _, rfl⟩ := hvq
    have hmid := Kd.C_mid (lo := u) (hi := p) hC5 (by have := HBD.out; omega) (by have := HBD.out; rw [HNN.out]; omega) hcq
    have hpart : ((pre ++ gap ++ post).take p).drop u = pre.drop u := by
      have hp := HPP.out
      rw [← hp, List.append_assoc, List.take_append_of_le_length (Nat.le_refl _), List.take_length]
    rw [hpart] at hmid
    have hml : (pre.drop u).length = p - u := by rw [List.length_drop, HPP.out]
    have hcl := clone73 (cutA A cap u) (cap - u) (pre.drop u) _ hmid (cutA_nil HNC.out) (by have := HBD.out; omega)
    rw [hml, HA1.out] at hcl
    have HCL := Lib.hid hcl
    obtain ⟨s0, s1, s2, s3, t0, t1, t2, t3⟩ := cells111 hb5
    have HB := Lib.hid hb5
    clear hb5 hrow5 hcq hC5 hmid hpart hml hcl
    go_wp2_with fail
    go_region_held3 (fun w' => w'.cell? ⟨G, 0, none⟩ = some (.slice A N cap) ∧ w'.cell? ⟨G, 1, none⟩ = some (.int .i64 u)) (first | go_keep)
      (first | (go_at_call 73; refine HCL.out.mono ?_; rintro e w6 ⟨v6, rfl, hv6, hb6⟩; have z0 := (hb6.block G (by simpa using lt_of_block HB.out)).trans (blk_drew HB.out); obtain ⟨q0, q1, q2, q3, _⟩ := cells111 z0))
    have Z0 := Lib.hid z0
    have HV := Aside0.mk hv6
    have HB6 := Aside0.mk hb6
    clear z0 hv6 hb6
    go_wp2_with fail
    go_ret
    have hbd := HBD.out
    have hp := HPP.out
    have hgl := HRR.out
    have hu : pre.length - k = u := by omega
    have htl : (pre.take u).length = u := by rw [List.length_take]; omega
    have hdl : (pre.drop u).length = p - u := by rw [List.length_drop, hp]
    refine ⟨v6, k, ?_, rfl, ?_, ⟨?_, H.out.gG, ?_, ?_, ?_⟩, ?_⟩
    · rw [hp, HKK.out]; rfl
    · rw [hu]; exact HV.out.lower (by simp)
    · rw [hu, Z0.out, HNN.out, List.length_append, htl, hdl, show u + (p - u + gap.length) = r by omega]
    · rw [hu]
      have e : pre.take u ++ (pre.drop u ++ gap) ++ post = pre ++ gap ++ post := by rw [← List.append_assoc, List.take_append_drop]
      rw [e]
      exact ((gset_row H.out 1 (.int .i64 (u : Int))).below (bdrew _)).below HB6.out
    · exact btr (below_set H.out.bel H.out.gG).drew HB6.out
    · have := H.out.big
      rw [hu, List.length_append, htl, hdl]
      omega
    · exact (Kept.drew (Kept.setCell (p := ⟨G, 1, none⟩) (Kept.refl wc (fun j => j = G)) (.inl rfl) _)).below HB6.out

end Go.Proofs.Ytopmenioioljoaa.GapW

/-
  THE WALK OF PACKAGE gap: Set.
-/
namespace Go.Proofs.Ytopmenioioljoaa.GapW
open Go.RowKit Go.Proofs.Ytopmenioioljoaa.Base Go.Proofs.YtopmenioioljoaaW.PrintWords Go.Proofs.YtopmenioioljoaaW.PrintLast Go.Proofs.YtopmenioioljoaaW.PrintMore Go.Proofs.Ytopmenioioljoaa.PGapDoes Go.Proofs.Ytopmenioioljoaa.CountW

/-- Where Move puts the cursor. -/
def plc (n : Nat) (z : Int) : Nat := (min (max z 0) (n : Int)).toNat

set_option maxRecDepth 100000 in
theorem gset_bad {w0 w : World} {G : Nat} {most : Int} {pre gap post : List S82} {vB : Value} (h : GSt w0 w G most pre gap post vB) (A : Option Addr) (c : Nat) (l : List S82) (z : Int) (hC : Kd.C k82 w A l.length l)
    (h2 : 0 ≤ most) (h3 : most ≤ 1000000) (hl : l.length ≤ 1000000) (hbad : fitE l 0 most ≠ 0) :
    Calls Try.prog 51 #[.pointer (some ⟨G, 0, none⟩), .slice A l.length c, .int .i64 z] w fun e w' => e = .returned (.int .i64 (fitE l 0 most)) ∧ Below w.heap.size w w' := by
  have HF := Lib.hid (fits70 G vB _ _ most 0 A c l w h.blk hC (by omega) (by omega) h2 h3 hl)
  obtain ⟨er, her⟩ : ∃ er, fitE l 0 most = er := ⟨_, rfl⟩
  rw [her] at hbad HF ⊢
  have d1 : (er == 0) = false := by simpa using hbad
  clear h hC her
  go_enter Try.func51, Try.ntmps51
  go_wp2_with fail
  refine HF.out.mono ?_
  rintro e w1 ⟨rfl, hb1⟩
  go_wp2_with fail
  go_ret
  exact ⟨rfl, hb1⟩

set_option maxRecDepth 100000 in
theorem gset_ok {w0 w : World} {G : Nat} {most : Int} {pre gap post : List S82} {vB : Value} (h : GSt w0 w G most pre gap post vB) (A : Option Addr) (c : Nat) (l : List S82) (z : Int) (hC : Kd.C k82 w A l.length l) (hn : A = none → c = 0)
    (h2 : 0 ≤ most) (h3 : most ≤ 1000000) (hl : l.length ≤ 1000000) (hok : fitE l 0 most = 0) :
    Calls Try.prog 51 #[.pointer (some ⟨G, 0, none⟩), .slice A l.length c, .int .i64 z] w fun e w' => e = .returned (.int .i64 0) ∧ ∃ gap' vB', GSt w0 w' G most (l.take (plc l.length z)) gap' (l.drop (plc l.length z)) vB' ∧ Kept w w' (fun j => j = G) ∧ (∀ j, vB'.ownBlock = some j → w.heap.size ≤ j) := by
  have hf := fits70 G vB _ _ most 0 A c l w h.blk hC (by omega) (by omega) h2 h3 hl
  rw [hok] at hf
  have HF := Lib.hid hf
  have H := Lib.hid h
  have HC := Lib.hid hC
  have hG := lt_of_block h.blk
  clear hf h hC
  go_enter Try.func51, Try.ntmps51
  go_wp2_with fail
  refine HF.out.mono ?_
  rintro e w1 ⟨rfl, hb1⟩
  have hcl := clone73 A c l w1 (Kd.C_below HC.out hb1) hn hl
  have HCL := Lib.hid hcl
  have HB1 := Aside0.mk hb1
  clear hb1 hcl
  go_wp2_with fail
  refine HCL.out.mono ?_
  rintro e w2 ⟨v2, rfl, hv2, hb2⟩
  have H2 := Aside0.mk (H.out.below (btr HB1.out hb2))
  obtain ⟨s0, s1, s2, s3, t0, t1, t2, t3⟩ := cells111 H2.out.blk
  have HV2 := Aside0.mk hv2
  have HB2 := Aside0.mk (btr HB1.out hb2)
  have hsz1 := HB1.out.size
  have hGw : w.heap.size ≤ w1.heap.size := hsz1
  obtain ⟨A2, c2, rfl, _, _⟩ := hv2.reads
  have hge : ∀ j, (Value.slice A2 l.length c2).ownBlock = some j → w1.heap.size ≤ j := HV2.out.ge
  clear hv2 hb2
  have hblk3 : (((w2.setCell ⟨G, 0, none⟩ (.slice A2 l.length c2)).setCell ⟨G, 1, none⟩ (.int .i64 (l.length : Int))).setCell ⟨G, 2, none⟩ (.int .i64 (l.length : Int))).heap[G]? = some (gblk (.slice A2 l.length c2) l.length ((l.length + ([] : List S82).length : Nat) : Int) most) := by
    rw [set_at (set_at (set_at H2.out.blk))]; rfl
  have hk3 : Kept w2 (((w2.setCell ⟨G, 0, none⟩ (.slice A2 l.length c2)).setCell ⟨G, 1, none⟩ (.int .i64 (l.length : Int))).setCell ⟨G, 2, none⟩ (.int .i64 (l.length : Int))) (fun j => j = G) :=
    Kept.setCell (p := ⟨G, 2, none⟩) (Kept.setCell (p := ⟨G, 1, none⟩) (Kept.setCell (p := ⟨G, 0, none⟩) (Kept.refl w2 (fun j => j = G)) (.inl rfl) _) (.inl rfl) _) (.inl rfl) _
  have hg3 : GSt w0 (((w2.setCell ⟨G, 0, none⟩ (.slice A2 l.length c2)).setCell ⟨G, 1, none⟩ (.int .i64 (l.length : Int))).setCell ⟨G, 2, none⟩ (.int .i64 (l.length : Int))) G most l [] [] (.slice A2 l.length c2) := by
    refine ⟨hblk3, H.out.gG, ?_, below_set (below_set (below_set H2.out.bel H.out.gG) H.out.gG) H.out.gG, by simpa using hl⟩
    have hr := HV2.out.kept hk3 (fun j hj e => by have := hge j hj; omega)
    rw [List.append_nil, List.append_nil]
    exact hr.lower (Nat.le_trans H.out.bel.size hGw)
  have HG3 := Aside0.mk hg3
  have HK3 := Aside0.mk hk3
  clear hblk3 hk3 hg3
  go_wp2_with fail
  refine (gmove HG3.out z).mono ?_
  rintro e w4 ⟨rfl, pre4, gap4, post4, hg4, hp4, hq4, hk4⟩
  have HG4 := Aside0.mk hg4
  have HK4 := Aside0.mk hk4
  clear hg4 hk4
  go_wp2_with fail
  go_ret
  rw [List.append_nil] at hp4 hq4
  have e4 : (min (max z 0) ((l.length + ([] : List S82).length : Nat) : Int)).toNat = plc l.length z := rfl
  rw [e4] at hp4 hq4
  subst hp4 hq4
  refine ⟨rfl, gap4, _, HG4.out, ?_, fun j hj => Nat.le_trans hGw (hge j hj)⟩
  have hs := (HK3.out.mono (S' := fun j => j = G ∨ w1.heap.size ≤ j) (fun _ h => .inl h)).then_ HK4.out (fun j hj => hj.elim (fun h => .inl (.inl h)) (fun h => .inl (.inr (hge j h))))
  exact (Kept.of_below HB2.out (fun j => j = G)).then_ hs (fun j hj => hj.elim .inl (fun h => .inr (Nat.le_trans hGw h)))

end Go.Proofs.Ytopmenioioljoaa.GapW

/-
  THE WALK OF PACKAGE gap: Get.
-/
namespace Go.Proofs.Ytopmenioioljoaa.GapW
open Go.RowKit Go.Proofs.Ytopmenioioljoaa.Base Go.Proofs.YtopmenioioljoaaW.PrintWords Go.Proofs.YtopmenioioljoaaW.PrintLast Go.Proofs.YtopmenioioljoaaW.PrintMore Go.Proofs.Ytopmenioioljoaa.PGapDoes Go.Proofs.Ytopmenioioljoaa.CountW

set_option maxRecDepth 100000 in
theorem gget_bad {w0 w : World} {G : Nat} {most : Int} {pre gap post : List S82} {vB : Value} (h : GSt w0 w G most pre gap post vB) (i : Int) (hbad : i < 0 ∨ ((pre.length + post.length : Nat) : Int) ≤ i) :
    Calls Try.prog 52 #[.pointer (some ⟨G, 0, none⟩), .int .i64 i] w fun e w' => e = .returned (.tuple #[.agg #[.int .i64 0, .int .i64 0], .bool false]) ∧ Below w.heap.size w w' := by
  have HL := Lib.hid (glen (h.below (balloc w (.cells #[.int .i64 0, .int .i64 0] 82))))
  have HBA := Aside0.mk (balloc w (.cells #[.int .i64 0, .int .i64 0] 82))
  clear h
  by_cases h0 : i < 0
  · have d0 : decide (i < 0) = true := decide_eq_true h0
    clear hbad
    go_enter Try.func52, Try.ntmps52
    go_wp2_with fail
    refine bodyPost_ret (results_ct rfl _ _ w.heap.size 82 #[.int .i64 0, .int .i64 0] (0, 0) _ rfl (heap_alloc_new w _) Try.underlying82 rfl (by kernel_rfl)) rfl ?_
    exact ⟨rfl, HBA.out⟩
  · have d0 : decide (i < 0) = false := decide_eq_false h0
    obtain ⟨n, hn⟩ : ∃ n, pre.length + post.length = n := ⟨_, rfl⟩
    rw [hn] at HL hbad
    have d1 : decide ((n : Int) ≤ i) = true := decide_eq_true (by omega)
    clear hbad h0
    go_enter Try.func52, Try.ntmps52
    go_wp2_with fail
    refine HL.out.mono ?_
    rintro e w1 ⟨rfl, m, rfl⟩
    go_wp2_with fail
    refine bodyPost_ret (results_ct rfl _ _ w.heap.size 82 #[.int .i64 0, .int .i64 0] (0, 0) _ rfl (set_at (set_at (blk_drewN (heap_alloc_new w (.cells #[.int .i64 0, .int .i64 0] 82)) m))) Try.underlying82 rfl (by kernel_rfl)) rfl ?_
    exact ⟨rfl, below_set (below_set (pw_below_drewN HBA.out m) (Nat.le_refl _)) (Nat.le_refl _)⟩

/-- The sign of a place. -/
def sgn (xs : List S82) (i : Nat) : S82 := xs.getD i z82

set_option maxRecDepth 100000 in
theorem gget_pre {w0 w : World} {G : Nat} {most : Int} {pre gap post : List S82} {vB : Value} (h : GSt w0 w G most pre gap post vB) (i : Nat) (hi : i < pre.length) :
    Calls Try.prog 52 #[.pointer (some ⟨G, 0, none⟩), .int .i64 (i : Int)] w fun e w' => e = .returned (.tuple #[.agg #[.int .i64 (sgn (pre ++ post) i).f0, .int .i64 (sgn (pre ++ post) i).f1], .bool true]) ∧ Below w.heap.size w w' := by
  have h1 := h.below (balloc w (.cells #[.int .i64 0, .int .i64 0] 82))
  have HL := Lib.hid (glen h1)
  have HBA := Aside0.mk (balloc w (.cells #[.int .i64 0, .int .i64 0] 82))
  obtain ⟨A, cap, rfl, hNc, hC⟩ := h1.row.reads
  have hN0 : (pre ++ gap ++ post).length = pre.length + gap.length + post.length := by simp; omega
  obtain ⟨x, hx⟩ : ∃ x, sgn (pre ++ post) i = x := ⟨_, rfl⟩
  have hx2 : rd_T82 (pre ++ gap ++ post) (i : Int) = x := by
    rw [← hx, rd_T82, sgn, Int.toNat_natCast, List.getD_eq_getElem?_getD, List.getD_eq_getElem?_getD, List.append_assoc, List.getElem?_append_left hi, List.getElem?_append_left hi]
  obtain ⟨ad, rfl, a0, a1⟩ := at_T82 hC (i : Int) (by omega) (by rw [hN0]; omega)
  rw [hx2, Int.toNat_natCast] at a0 a1
  rw [hx]
  obtain ⟨c0, c1, c2, c3, _⟩ := cells111 h1.blk
  obtain ⟨N, hNN⟩ : ∃ N, (pre ++ gap ++ post).length = N := ⟨_, rfl⟩
  have hN := hN0
  clear hN0
  rw [hNN] at c0 hN hNc
  obtain ⟨n, hn⟩ : ∃ n, pre.length + post.length = n := ⟨_, rfl⟩
  obtain ⟨p, hp⟩ : ∃ p, pre.length = p := ⟨_, rfl⟩
  rw [hn] at HL
  rw [hp] at c1
  have d0 : decide ((i : Int) < 0) = false := decide_eq_false (by omega)
  have d1 : decide ((n : Int) ≤ (i : Int)) = false := decide_eq_false (by omega)
  have d1b : decide (n ≤ i) = false := decide_eq_false (by omega)
  have d2 : decide ((p : Int) ≤ (i : Int)) = false := decide_eq_false (by omega)
  have d2b : decide (p ≤ i) = false := decide_eq_false (by omega)
  have hiN : i < N := by omega
  clear h h1 hC hx hx2 hNN hn hp hN hNc hi
  go_enter Try.func52, Try.ntmps52
  go_wp2_with fail
  refine HL.out.mono ?_
  rintro e w1 ⟨rfl, m, rfl⟩
  go_wp2_with fail
  refine bodyPost_ret (results_ct rfl _ _ w.heap.size 82 #[.int .i64 x.f0, .int .i64 x.f1] (0, 0) _ rfl (set_at (set_at (blk_drewN (heap_alloc_new w (.cells #[.int .i64 0, .int .i64 0] 82)) m))) Try.underlying82 rfl (by kernel_rfl)) rfl ?_
  exact ⟨rfl, below_set (below_set (pw_below_drewN HBA.out m) (Nat.le_refl _)) (Nat.le_refl _)⟩

set_option maxRecDepth 100000 in
theorem gget_post {w0 w : World} {G : Nat} {most : Int} {pre gap post : List S82} {vB : Value} (h : GSt w0 w G most pre gap post vB) (i : Nat) (hi : pre.length ≤ i) (hi2 : i < pre.length + post.length) :
    Calls Try.prog 52 #[.pointer (some ⟨G, 0, none⟩), .int .i64 (i : Int)] w fun e w' => e = .returned (.tuple #[.agg #[.int .i64 (sgn (pre ++ post) i).f0, .int .i64 (sgn (pre ++ post) i).f1], .bool true]) ∧ Below w.heap.size w w' := by
  have h1 := h.below (balloc w (.cells #[.int .i64 0, .int .i64 0] 82))
  have HL := Lib.hid (glen h1)
  have HBA := Aside0.mk (balloc w (.cells #[.int .i64 0, .int .i64 0] 82))
  obtain ⟨A, cap, rfl, hNc, hC⟩ := h1.row.reads
  have hN0 : (pre ++ gap ++ post).length = pre.length + gap.length + post.length := by simp; omega
  obtain ⟨x, hx⟩ : ∃ x, sgn (pre ++ post) i = x := ⟨_, rfl⟩
  have hx2 : rd_T82 (pre ++ gap ++ post) ((i + gap.length : Nat) : Int) = x := by
    rw [← hx, rd_T82, sgn, Int.toNat_natCast, List.getD_eq_getElem?_getD, List.getD_eq_getElem?_getD, List.getElem?_append_right (by rw [List.length_append]; omega), List.getElem?_append_right hi, List.length_append, show i + gap.length - (pre.length + gap.length) = i - pre.length by omega]
  obtain ⟨ad, rfl, a0, a1⟩ := at_T82 hC ((i + gap.length : Nat) : Int) (by omega) (by rw [hN0]; omega)
  rw [hx2, Int.toNat_natCast] at a0 a1
  rw [hx]
  obtain ⟨c0, c1, c2, c3, _⟩ := cells111 h1.blk
  have hbig := h1.big
  obtain ⟨N, hNN⟩ : ∃ N, (pre ++ gap ++ post).length = N := ⟨_, rfl⟩
  have hN := hN0
  clear hN0
  rw [hNN] at c0 hN hNc
  obtain ⟨n, hn⟩ : ∃ n, pre.length + post.length = n := ⟨_, rfl⟩
  obtain ⟨p, hp⟩ : ∃ p, pre.length = p := ⟨_, rfl⟩
  rw [hn] at HL
  obtain ⟨r, hr⟩ : ∃ r, pre.length + gap.length = r := ⟨_, rfl⟩
  obtain ⟨j, hj⟩ : ∃ j, i + gap.length = j := ⟨_, rfl⟩
  obtain ⟨gl, hgl⟩ : ∃ gl, gap.length = gl := ⟨_, rfl⟩
  rw [hp] at c1
  rw [hr] at c2
  rw [hj] at a0 a1
  have e1 : IntKind.i64.wrap ((r : Int) - (p : Int)) = (gl : Int) := by rw [IntKind.wrap_i64]; omega
  have e2 : IntKind.i64.wrap ((i : Int) + (gl : Int)) = (j : Int) := by rw [IntKind.wrap_i64]; omega
  have d0 : decide ((i : Int) < 0) = false := decide_eq_false (by omega)
  have d1 : decide ((n : Int) ≤ (i : Int)) = false := decide_eq_false (by omega)
  have d1b : decide (n ≤ i) = false := decide_eq_false (by omega)
  have d2 : decide ((p : Int) ≤ (i : Int)) = true := decide_eq_true (by omega)
  have d2b : decide (p ≤ i) = true := decide_eq_true (by omega)
  have hiN : j < N := by omega
  clear h h1 hC hx hx2 hNN hn hp hN hNc hi hi2 hr hj hgl hbig
  go_enter Try.func52, Try.ntmps52
  go_wp2_with fail
  refine HL.out.mono ?_
  rintro e w1 ⟨rfl, m, rfl⟩
  go_wp2_with fail
  go_quiet (fail)
  go_wp2_with fail
  refine bodyPost_ret (results_ct rfl _ _ w.heap.size 82 #[.int .i64 x.f0, .int .i64 x.f1] (0, 0) _ rfl (set_at (set_at (blk_drewN (heap_alloc_new w (.cells #[.int .i64 0, .int .i64 0] 82)) m))) Try.underlying82 rfl (by kernel_rfl)) rfl ?_
  exact ⟨rfl, below_set (below_set (pw_below_drewN HBA.out (m + nq)) (Nat.le_refl _)) (Nat.le_refl _)⟩

end Go.Proofs.Ytopmenioioljoaa.GapW
