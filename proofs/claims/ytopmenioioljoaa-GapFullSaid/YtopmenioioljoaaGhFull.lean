/-
  THE GAP LAWS: texts GapFullW, GapFullA in one.
-/
import Derived.Test.YtopmenioioljoaaGg4
/-
  THE LAW GapFull (dactyllaw16): its walk: it returns true.
-/
namespace Go.Proofs.Ytopmenioioljoaa.GapW
open Go.RowKit Go.Proofs.Ytopmenioioljoaa.Base Go.Proofs.YtopmenioioljoaaW.PrintWords Go.Proofs.YtopmenioioljoaaW.PrintLast Go.Proofs.YtopmenioioljoaaW.PrintMore Go.Proofs.Ytopmenioioljoaa.PGapDoes Go.Proofs.Ytopmenioioljoaa.CountW
attribute [local go_sem high] eqA82

theorem bcells {w W : World} {B : Nat} {v lb : Int} (hb : Below w.heap.size w W) (h : w.heap[B]? = some (.cells #[.int .i64 v, .int .i64 lb] 82 (0, 0))) : W.cell? ⟨B, 0, none⟩ = some (.int .i64 v) ∧ W.cell? ⟨B, 1, none⟩ = some (.int .i64 lb) := by
  have := (hb.block _ (lt_of_block h)).trans h
  exact ⟨blk_cell this 0, blk_cell this 1⟩
theorem fit_one {v lb : Int} {k : Int} (hs : srt ⟨v, lb⟩ = true) (hk : k + 1 ≤ 65536) : fitE [⟨v, lb⟩] k 65536 = 0 := by
  unfold fitE
  rw [if_pos (by simp [hs]), if_neg (by simp; omega)]
theorem fit_full {v lb : Int} {k : Int} (hs : srt ⟨v, lb⟩ = true) (hk : k = 65536) : fitE [⟨v, lb⟩] k 65536 = 8 := by
  unfold fitE
  rw [if_pos (by simp [hs]), if_pos (by simp; omega)]
theorem all_zero (n : Nat) : (List.replicate n z82).all srt = true := by
  rw [List.all_eq_true]
  intro x hx
  rw [List.eq_of_mem_replicate hx]
  rfl
theorem fit_zero {n : Nat} {k : Int} (hk : k + n ≤ 65536) : fitE (List.replicate n z82) k 65536 = 0 := by
  unfold fitE
  rw [if_pos (all_zero n), if_neg (by rw [List.length_replicate]; omega)]
theorem fit_zero_full {n : Nat} {k : Int} (hk : 65536 < k + n) : fitE (List.replicate n z82) k 65536 = 8 := by
  unfold fitE
  rw [if_pos (all_zero n), if_pos (by rw [List.length_replicate]; omega)]
/-- Insert of a row made anew. -/
theorem gins_row {w0 w w' : World} {G : Nat} {most : Int} {pre gap post : List S82} {vB : Value} (h : GSt w0 w G most pre gap post vB) (A : Option Addr) (n c : Nat) (l : List S82) (hr : Rw w' w.heap.size (.slice A n c) l) (hb : Below w.heap.size w w') (hn : l.length = n) (hl : l.length ≤ 100000) (hq : pre.length + post.length ≤ 100000) (hm : 0 ≤ most) (hm2 : most ≤ 1000000) (hf : fitE l ((pre.length + post.length : Nat) : Int) most = 0) :
    Calls Try.prog 44 #[.pointer (some ⟨G, 0, none⟩), .slice A n c] w' fun e w'' => e = .returned (.int .i64 0) ∧ ∃ gap' vB', GSt w0 w'' G most (pre ++ l) gap' post vB' := by
  subst hn
  obtain ⟨A1, c1, he, hs⟩ := hr.src
  simp only [Value.slice.injEq] at he
  obtain ⟨rfl, _, rfl⟩ := he
  have hG := lt_of_block h.blk
  have hv := h.row.lt
  refine (ginsert_ok (h.below hb) A c l hs.C ?_ hl hq hm hm2 hf).mono ?_
  · intro hp ad hA
    have hge := hr.ge ad.block (by rw [hA]; rfl)
    exact ⟨by omega, fun e => by have := hv _ e; omega, hs.lt hp ad hA⟩
  · rintro e w'' ⟨rfl, gap', vB', h2, _⟩
    exact ⟨rfl, gap', vB', h2⟩
theorem rsgn (v lb : Int) (w : World) : Calls Try.prog 58 #[.agg #[.int .i64 v, .int .i64 lb]] w fun e w' => e = .returned (.bool (srt ⟨v, lb⟩)) ∧ Below w.heap.size w w' :=
  dactylref04_Right.calls v lb _ w (rsrt_f v lb)

theorem rw_of {w : World} {base : Nat} {v : Value} {xs : List S82} (h : Aside0 (Kd.R k82 82 w base (fun _ => True) v xs)) : Rw w base v xs := ⟨h.out⟩

set_option maxRecDepth 100000 in
set_option maxHeartbeats 8000000 in
theorem gfull_bad (n : Int) (v lb : Int) (w : World) (hs : srt ⟨v, lb⟩ = false) :
    Calls Try.prog 10 #[.int .u16 n, .agg #[.int .i64 v, .int .i64 lb]] w fun e w' => e = .returned (.bool true) ∧ Below w.heap.size w w' := by
  have HR := fun W => rsgn v lb W
  rw [hs] at HR
  have HRR := Lib.hid HR
  have HBA := Aside0.mk (balloc w (.cells #[.int .i64 v, .int .i64 lb] 82))
  have hx := heap_alloc_new w (.cells #[.int .i64 v, .int .i64 lb] 82)
  have x0 := blk_cell hx 0
  have x1 := blk_cell hx 1
  clear HR hs hx
  go_enter Try.func10, Try.ntmps10
  go_wp2_with fail
  refine (HRR.out _).mono ?_
  rintro e w1 ⟨rfl, hb1⟩
  go_wp2_with fail
  refine (awake41 _).mono ?_
  rintro e w2 ⟨rfl, hb2⟩
  go_wp2_with fail
  go_ret
  exact ⟨rfl, btr (btr HBA.out hb1) hb2⟩

set_option maxRecDepth 100000 in
set_option maxHeartbeats 8000000 in
theorem gfull_walk (n : Nat) (hn : n ≤ 65535) (v lb : Int) (w : World) (hs : srt ⟨v, lb⟩ = true) :
    Calls Try.prog 10 #[.int .u16 (n : Int), .agg #[.int .i64 v, .int .i64 lb]] w fun e w' => e = .returned (.bool true) ∧ Below w.heap.size w w' := by
  have HR := fun W => rsgn v lb W
  rw [hs] at HR
  have HRR := Lib.hid HR
  have HSR := Lib.hid hs
  have hx := heap_alloc_new w (.cells #[.int .i64 v, .int .i64 lb] 82)
  have x0 := blk_cell hx 0
  have x1 := blk_cell hx 1
  have HX := Lib.hid hx
  have HBA0 := Aside0.mk (balloc w (.cells #[.int .i64 v, .int .i64 lb] 82))
  obtain ⟨N1, hN1⟩ : ∃ N1, 65536 - n = N1 := ⟨_, rfl⟩
  have HN := Lib.hid (show n ≤ 65535 ∧ N1 + n = 65536 from ⟨hn, by omega⟩)
  have e0 : IntKind.i64.wrap (n : Int) = (n : Int) := by rw [IntKind.wrap_i64]; omega
  have e1 : IntKind.i64.wrap (65536 - (n : Int)) = (N1 : Int) := by rw [IntKind.wrap_i64]; omega
  clear HR hs hx hn hN1
  go_enter Try.func10, Try.ntmps10
  go_wp2_with fail
  refine (HRR.out _).mono ?_
  rintro e w1 ⟨rfl, hb1⟩
  go_wp2_with fail
  refine (awake41 _).mono ?_
  rintro e w2 ⟨rfl, hb2⟩
  have HBX := Lib.hid (((btr hb1 hb2).block _ (lt_of_block HX.out)).trans HX.out)
  have HBA := Aside0.mk (btr (btr HBA0.out hb1) hb2)
  clear hb1 hb2 x0 x1
  go_wp2_with fail
  refine (gnew 65536 w2 w2 (Below.refl _ _) (by decide) (by decide)).mono ?_
  rintro e w3 ⟨rfl, h3, _⟩
  have H3 := Aside0.mk h3
  clear h3
  go_wp2_with (first | ((with_reducible refine gate_dst (N := 38) rfl ?_); refine Kd.R_make k82 (w0 := w3) w3.heap.size 82 rfl (N := 38) rfl 68 (.tmp 37) (.tmp 37) rfl (N1 : Int) rfl rfl Try.underlying68 (.agg #[(.int .i64 0), (.int .i64 0)]) 16 info82 rfl (by decide) (by decide) z82 (ok := fun _ => True) (okp := fun _ => True) (k82_mkM _ _ _ z82) (fun _ hk => hk) trivial (by omega) (by have := HN.out; rw [Int.toNat_natCast]; omega) (Below.refl _ _) (Nat.le_refl _) ?_; intro v38 w38 ho38 hb38 hg38 hat38; clear hg38 hat38; rw [Int.toNat_natCast] at ho38; obtain ⟨A38, c38, rfl, _⟩ := (Rw.mk ho38).src; rw [List.length_replicate] at ho38 ⊢; have HO38 := Aside0.mk ho38; have HB38 := Aside0.mk hb38; clear ho38 hb38))
  have HI1 := gins_row H3.out A38 N1 c38 _ (rw_of HO38) HB38.out List.length_replicate (by have := HN.out; rw [List.length_replicate]; omega) (by decide) (by decide) (by decide) (fit_zero (by have := HN.out; show ((0 : Nat) : Int) + N1 ≤ 65536; omega))
  refine HI1.mono ?_
  clear HI1
  rintro e w4 ⟨rfl, g4, v4, h4⟩
  have H4 := Aside0.mk h4
  clear h4
  go_wp2_with fail
  refine (gmove H4.out _).mono ?_
  rintro e w5 ⟨rfl, p3, g5, q3, h5, hp3, hq3, _⟩
  have hl5 : p3.length + q3.length = N1 := by
    rw [hp3, hq3, ← List.length_append, List.take_append_drop, List.nil_append, List.append_nil, List.length_replicate]
  have HL5 := Lib.hid hl5
  have H5 := Aside0.mk h5
  clear h5 hp3 hq3 hl5
  go_wp2_with (first | ((with_reducible refine gate_dst (N := 48) rfl ?_); refine Kd.R_make k82 (w0 := w5) w5.heap.size 82 rfl (N := 48) rfl 68 (.tmp 47) (.tmp 47) rfl (n : Int) rfl rfl Try.underlying68 (.agg #[(.int .i64 0), (.int .i64 0)]) 16 info82 rfl (by decide) (by decide) z82 (ok := fun _ => True) (okp := fun _ => True) (k82_mkM _ _ _ z82) (fun _ hk => hk) trivial (by omega) (by have := HN.out; rw [Int.toNat_natCast]; omega) (Below.refl _ _) (Nat.le_refl _) ?_; intro v48 w48 ho48 hb48 hg48 hat48; clear hg48 hat48; rw [Int.toNat_natCast] at ho48; obtain ⟨A48, c48, rfl, _⟩ := (Rw.mk ho48).src; rw [List.length_replicate] at ho48 ⊢; have HO48 := Aside0.mk ho48; have HB48 := Aside0.mk hb48; clear ho48 hb48))
  have HI2 := gins_row H5.out A48 n c48 _ (rw_of HO48) HB48.out List.length_replicate (by have := HN.out; rw [List.length_replicate]; omega) (by have := HN.out; have := HL5.out; omega) (by decide) (by decide) (fit_zero (by have := HN.out; have := HL5.out; omega))
  refine HI2.mono ?_
  clear HI2
  rintro e w6 ⟨rfl, g6, v6, h6⟩
  obtain ⟨P, hP⟩ : ∃ P, p3 ++ List.replicate n z82 = P := ⟨_, rfl⟩
  have hlP : P.length + q3.length = 65536 := by
    have := HN.out
    have := HL5.out
    rw [← hP, List.length_append, List.length_replicate]
    omega
  rw [hP] at h6
  have HLP := Lib.hid hlP
  have H6 := Aside0.mk h6
  clear h6 hP hlP
  go_wp2_with fail
  refine (at54 _ v6 _ _ _ _ H6.out.blk).mono ?_
  rintro e w7 ⟨rfl, rfl⟩
  obtain ⟨x0, x1⟩ := bcells H6.out.bel HBX.out
  go_wp2_with fail
  refine (gins_full H6.out [⟨v, lb⟩] 1 rfl _ rfl (by show 1 ≤ 100000; omega) (by decide) (by decide) (fit_full HSR.out (by have := HLP.out; omega))).mono ?_
  rintro e w7 ⟨rfl, h7⟩
  have H7 := Aside0.mk h7
  clear h7 x0 x1
  go_wp2_with (first | ((with_reducible refine gate_dst (N := 57) rfl ?_); refine Kd.R_make k82 (w0 := w7) w7.heap.size 82 rfl (N := 57) rfl 68 (.const (.int .i64 65537)) (.const (.int .i64 65537)) rfl (65537 : Int) rfl rfl Try.underlying68 (.agg #[(.int .i64 0), (.int .i64 0)]) 16 info82 rfl (by decide) (by decide) z82 (ok := fun _ => True) (okp := fun _ => True) (k82_mkM _ _ _ z82) (fun _ hk => hk) trivial (by decide) (by decide) (Below.refl _ _) (Nat.le_refl _) ?_; intro v57 w57 ho57 hb57 hg57 hat57; clear hg57 hat57; obtain ⟨A57, c57, rfl, _⟩ := (Rw.mk ho57).src; rw [List.length_replicate] at ho57 ⊢; have HO57 := Aside0.mk ho57; have HB57 := Aside0.mk hb57; clear ho57 hb57))
  have HI3 := gset_bad (H7.out.below HB57.out) A57 c57 (List.replicate 65537 z82) 0
  rw [List.length_replicate] at HI3
  have hf3 := fit_zero_full (n := 65537) (k := 0) (by omega)
  rw [hf3] at HI3
  refine (HI3 ?_ (by omega) (by omega) (by omega) (by omega)).mono ?_
  · obtain ⟨A1, c1, he, hs⟩ := (rw_of HO57).src
    simp only [Value.slice.injEq] at he
    obtain ⟨rfl, _, rfl⟩ := he
    have := hs.C
    rw [List.length_replicate] at this
    exact this
  clear HI3 hf3
  rintro e w8 ⟨rfl, hb8⟩
  have H8 := Aside0.mk ((H7.out.below HB57.out).below hb8)
  clear hb8
  go_wp2_with fail
  refine (glen H8.out).mono ?_
  rintro e w9 ⟨rfl, m9, rfl⟩
  rw [HLP.out, show ((65536 : Nat) : Int) = 65536 from rfl]
  have H9 := Aside0.mk (H8.out.below (bdrewN _ m9))
  go_wp2_with fail
  refine (at54 _ v6 _ _ _ _ H9.out.blk).mono ?_
  rintro e w10 ⟨rfl, rfl⟩
  go_wp2_with fail
  refine (gcut_neg H9.out (-1) (by decide)).mono ?_
  rintro e w10 ⟨v10, k, hk, rfl, hv10, h10, _⟩
  obtain ⟨A10, c10, rfl, _⟩ := hv10.src
  by_cases hP0 : P.length = 0
  · have hk0 : k = 0 := by rw [hk, hP0]; rfl
    have hd : (P.drop (P.length - k)).length = 0 := by rw [List.length_drop]; omega
    rw [hd]
    have hl10 : (P.take (P.length - k)).length + q3.length = 65536 := by have := HLP.out; rw [List.length_take]; omega
    have HL10 := Lib.hid hl10
    have HQ3 := Lib.hid (show q3.length = 65536 from by have := HLP.out; omega)
    have H10 := Aside0.mk h10
    clear hk hv10 h10 hd hl10 hk0 hP0
    go_wp2_with fail
    refine (gcut_pos H10.out 1 (by decide)).mono ?_
    rintro e w11 ⟨v11, k', hk', rfl, hv11, h7, _⟩
    obtain ⟨A11, c11, rfl, _⟩ := hv11.src
    have hq3 := HQ3.out
    have hk1 : k' = 1 := by rw [hk', hq3]; rfl
    have hd : (q3.take k').length = 1 := by rw [List.length_take, hk1, hq3]; rfl
    rw [hd]
    obtain ⟨pre7, hpre7⟩ : ∃ z, P.take (P.length - k) = z := ⟨_, rfl⟩
    obtain ⟨post7, hpost7⟩ : ∃ z, q3.drop k' = z := ⟨_, rfl⟩
    have ht7 : pre7.length + post7.length = 65535 := by
      have := HL10.out
      rw [← hpre7, ← hpost7, List.length_drop]
      omega
    rw [hpre7, hpost7] at h7
    clear hk' hv11 hd hk1 hpre7 hpost7 hq3
    have H7 := Aside0.mk h7
    have HT7 := Lib.hid ht7
    clear h7 ht7
    obtain ⟨x0, x1⟩ := bcells H7.out.bel HBX.out
    go_wp2_with fail
    refine (gins_lit H7.out [⟨v, lb⟩] 1 rfl _ rfl (by show 1 ≤ 100000; omega) (by have := HT7.out; omega) (by decide) (by decide) (fit_one HSR.out (by have := HT7.out; omega))).mono ?_
    rintro e w8 ⟨rfl, g8, v8, h8⟩
    have H8 := Aside0.mk h8
    clear h8 x0 x1
    go_wp2_with fail
    refine (at54 _ v8 _ _ _ _ H8.out.blk).mono ?_
    rintro e w9 ⟨rfl, rfl⟩
    obtain ⟨p7, hp7⟩ : ∃ p7, pre7.length = p7 := ⟨_, rfl⟩
    have hl8 : (pre7 ++ [(⟨v, lb⟩ : S82)]).length = p7 + 1 := by rw [List.length_append, hp7]; rfl
    rw [hl8]
    have HG8 := gget_pre H8.out p7 (by omega)
    have hsg : sgn (pre7 ++ [(⟨v, lb⟩ : S82)] ++ post7) p7 = ⟨v, lb⟩ := by
      unfold sgn
      rw [List.append_assoc, List.getD_eq_getElem?_getD, List.getElem?_append_right (by omega), hp7, Nat.sub_self]
      rfl
    rw [hsg] at HG8
    have HGG := Lib.hid HG8
    have HT8 := Lib.hid (show p7 + 1 + post7.length = 65536 by have := HT7.out; omega)
    have HL8 := Lib.hid hl8
    have ew : IntKind.i64.wrap (((p7 + 1 : Nat) : Int) - 1) = (p7 : Int) := by have := HT8.out; rw [IntKind.wrap_i64]; omega
    have ew2 : IntKind.i64.wrap (((p7 : Int) + 1) - 1) = (p7 : Int) := by have := HT8.out; rw [IntKind.wrap_i64]; omega
    have ew3 : IntKind.i64.wrap (p7 : Int) = (p7 : Int) := by have := HT8.out; rw [IntKind.wrap_i64]; omega
    clear HG8 hsg hl8 hp7
    go_wp2_with fail
    refine HGG.out.mono ?_
    rintro e w9 ⟨rfl, hb9⟩
    have H9 := Aside0.mk ((H8.out.below hb9).below (balloc w9 (.cells #[.int .i64 v, .int .i64 lb] 82)))
    have hz := heap_alloc_new w9 (.cells #[.int .i64 v, .int .i64 lb] 82)
    have z0 := blk_cell hz 0
    have z1 := blk_cell hz 1
    have HZ := Lib.hid hz
    clear hb9 hz
    go_wp2_with fail
    refine (glen H9.out).mono ?_
    rintro e w10 ⟨rfl, m10, rfl⟩
    have hl9 : (pre7 ++ [(⟨v, lb⟩ : S82)]).length + post7.length = 65536 := by rw [HL8.out]; exact HT8.out
    rw [hl9]
    have H10 := Aside0.mk (H9.out.below (bdrewN _ m10))
    clear hl9
    obtain ⟨x0, x1⟩ := bcells H10.out.bel HBX.out
    go_wp2_with fail
    go_ret
    exact ⟨by first | rfl | (simp; done), btr HBA.out H10.out.bel⟩
  · have hP1 : 1 ≤ P.length := by omega
    have hk1 : k = 1 := by
      rw [hk]
      have e : min (-(-1) : Int) (P.length : Int) = 1 := by omega
      rw [e]; rfl
    have hd : (P.drop (P.length - k)).length = 1 := by rw [List.length_drop]; omega
    rw [hd]
    obtain ⟨pre7, hpre7⟩ : ∃ z, P.take (P.length - k) = z := ⟨_, rfl⟩
    obtain ⟨post7, hpost7⟩ : ∃ z, q3 = z := ⟨_, rfl⟩
    have ht7 : pre7.length + post7.length = 65535 := by
      have := HLP.out
      rw [← hpre7, ← hpost7, List.length_take]
      omega
    have h7 := h10
    rw [hpre7, hpost7] at h7
    clear hk hv10 h10 hd hk1 hpre7 hpost7 hP1 hP0
    have H7 := Aside0.mk h7
    have HT7 := Lib.hid ht7
    clear h7 ht7
    obtain ⟨x0, x1⟩ := bcells H7.out.bel HBX.out
    go_wp2_with fail
    refine (gins_lit H7.out [⟨v, lb⟩] 1 rfl _ rfl (by show 1 ≤ 100000; omega) (by have := HT7.out; omega) (by decide) (by decide) (fit_one HSR.out (by have := HT7.out; omega))).mono ?_
    rintro e w8 ⟨rfl, g8, v8, h8⟩
    have H8 := Aside0.mk h8
    clear h8 x0 x1
    go_wp2_with fail
    refine (at54 _ v8 _ _ _ _ H8.out.blk).mono ?_
    rintro e w9 ⟨rfl, rfl⟩
    obtain ⟨p7, hp7⟩ : ∃ p7, pre7.length = p7 := ⟨_, rfl⟩
    have hl8 : (pre7 ++ [(⟨v, lb⟩ : S82)]).length = p7 + 1 := by rw [List.length_append, hp7]; rfl
    rw [hl8]
    have HG8 := gget_pre H8.out p7 (by omega)
    have hsg : sgn (pre7 ++ [(⟨v, lb⟩ : S82)] ++ post7) p7 = ⟨v, lb⟩ := by
      unfold sgn
      rw [List.append_assoc, List.getD_eq_getElem?_getD, List.getElem?_append_right (by omega), hp7, Nat.sub_self]
      rfl
    rw [hsg] at HG8
    have HGG := Lib.hid HG8
    have HT8 := Lib.hid (show p7 + 1 + post7.length = 65536 by have := HT7.out; omega)
    have HL8 := Lib.hid hl8
    have ew : IntKind.i64.wrap (((p7 + 1 : Nat) : Int) - 1) = (p7 : Int) := by have := HT8.out; rw [IntKind.wrap_i64]; omega
    have ew2 : IntKind.i64.wrap (((p7 : Int) + 1) - 1) = (p7 : Int) := by have := HT8.out; rw [IntKind.wrap_i64]; omega
    have ew3 : IntKind.i64.wrap (p7 : Int) = (p7 : Int) := by have := HT8.out; rw [IntKind.wrap_i64]; omega
    clear HG8 hsg hl8 hp7
    go_wp2_with fail
    refine HGG.out.mono ?_
    rintro e w9 ⟨rfl, hb9⟩
    have H9 := Aside0.mk ((H8.out.below hb9).below (balloc w9 (.cells #[.int .i64 v, .int .i64 lb] 82)))
    have hz := heap_alloc_new w9 (.cells #[.int .i64 v, .int .i64 lb] 82)
    have z0 := blk_cell hz 0
    have z1 := blk_cell hz 1
    have HZ := Lib.hid hz
    clear hb9 hz
    go_wp2_with fail
    refine (glen H9.out).mono ?_
    rintro e w10 ⟨rfl, m10, rfl⟩
    have hl9 : (pre7 ++ [(⟨v, lb⟩ : S82)]).length + post7.length = 65536 := by rw [HL8.out]; exact HT8.out
    rw [hl9]
    have H10 := Aside0.mk (H9.out.below (bdrewN _ m10))
    clear hl9
    obtain ⟨x0, x1⟩ := bcells H10.out.bel HBX.out
    go_wp2_with fail
    go_ret
    exact ⟨by first | rfl | (simp; done), btr HBA.out H10.out.bel⟩

end Go.Proofs.Ytopmenioioljoaa.GapW

/-
  THE LAW GapFull: its two ways in one; its argument that is a sign.
-/
namespace Go.Proofs.Ytopmenioioljoaa.GapW
open Go.ChangeShapes Go.WideShapes Go.Deep Go.RowKit Go.Proofs.YtopmenioioljoaaW.PrintWords Go.Proofs.Ytopmenioioljoaa.PGapDoes Go.Proofs.Ytopmenioioljoaa.Args

theorem cells3 : Try.prog.cellsOf 3 = 1 := by kernel_rfl
theorem cells82 : Try.prog.cellsOf 82 = 2 := by kernel_rfl
theorem two_of_len {l : List Value} (h : l.length = 2) : ∃ a b, l = [a, b] := by
  match l, h with
  | [a, b], _ => exact ⟨a, b, rfl⟩
section
variable {H : Type} {enc : TypeId × Value → H} {w : World} {base : Nat} {spare : Nat → Bool} {held : Bool}
theorem sign_arg {cs : Array Value} {d : DataW H} {p : List MemPlace} (hz : cs.size = Try.prog.cellsOf 82) (h : DataW.Trod enc Try.prog w base spare held 82 (.agg cs) d p) : ∃ a b : Int, cs = #[.int .i64 a, .int .i64 b] := by
  obtain ⟨fuel, hf⟩ := h
  have hc : (Value.agg cs).cells.toList = cs.toList := by simp [Value.cells]
  rw [hc] at hf
  obtain ⟨xs, n, _, _, hlen, hxl, hg⟩ := DataW.trod_struct Try.underlying82 hf
  rw [cells82] at hz
  have hxl2 : xs.length = 2 := hxl
  obtain ⟨v0, v1, hl⟩ := two_of_len (show cs.toList.length = 2 by rw [Array.length_toList]; exact hz)
  rw [hl] at hg
  have t0 := hg 0 _ rfl
  have t1 := hg 1 _ rfl
  obtain ⟨y0, e0⟩ : ∃ y, xs[0]? = some y := ⟨_, List.getElem?_eq_getElem (by omega)⟩
  obtain ⟨y1, e1⟩ : ∃ y, xs[1]? = some y := ⟨_, List.getElem?_eq_getElem (by omega)⟩
  rw [e0] at t0
  rw [e1] at t1
  have s0 : DataW.trod enc Try.prog w base spare held n 3 (([v0, v1].drop 0).take (Try.prog.cellsOf 3)) = some y0 := t0
  have s1 : DataW.trod enc Try.prog w base spare held n 3 (([v0, v1].drop 1).take (Try.prog.cellsOf 3)) = some y1 := t1
  rw [cells3] at s0 s1
  replace s0 : DataW.trod enc Try.prog w base spare held n 3 [v0] = some y0 := s0
  replace s1 : DataW.trod enc Try.prog w base spare held n 3 [v1] = some y1 := s1
  obtain ⟨a, r0, _, _⟩ := DataW.trod_int Try.underlying3 s0
  obtain ⟨b, r1, _, _⟩ := DataW.trod_int Try.underlying3 s1
  simp only [List.cons.injEq, and_true] at r0 r1
  subst r0 r1
  exact ⟨a, b, by rw [← Array.toList_inj, hl]⟩
end

theorem gfull (a : Int) (ha : (Lit.int .u16 a).wf = true) (v lb : Int) (w : World) :
    Calls Try.prog 10 #[.int .u16 a, .agg #[.int .i64 v, .int .i64 lb]] w fun e w' => e = .returned (.bool true) ∧ Below w.heap.size w w' := by
  cases hs : srt ⟨v, lb⟩ with
  | false => exact gfull_bad a v lb w hs
  | true =>
    have h1 : 0 ≤ a ∧ a ≤ 65535 := by
      simp only [Lit.wf, Bool.and_eq_true, decide_eq_true_eq] at ha
      obtain ⟨h1, h2⟩ := ha
      have e1 : IntKind.u16.min = 0 := rfl
      have e2 : IntKind.u16.max = 65535 := rfl
      rw [e1] at h1
      rw [e2] at h2
      exact ⟨h1, h2⟩
    obtain ⟨n, rfl⟩ := Int.eq_ofNat_of_zero_le h1.1
    exact gfull_walk n (by omega) v lb w hs

end Go.Proofs.Ytopmenioioljoaa.GapW
