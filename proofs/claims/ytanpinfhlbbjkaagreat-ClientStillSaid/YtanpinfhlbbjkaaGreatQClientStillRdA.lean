import Derived.Test.YtanpinfhlbbjkaaGreatQClientStillReader
import Derived.Test.YtanpinfhlbbjkaaGreatQClientStillCod
set_option linter.unusedVariables false
set_option linter.unusedSimpArgs false
set_option maxRecDepth 100000
set_option maxHeartbeats 4000000
namespace Go.Proofs.YtanpinfhlbbjkaaGreat
open Go.RowKit Go.Ecal

theorem take_c (p : Value) (r : Rd) (n : Int) (I : Gh) (R : List HP) (w : World) (S : Sat w I (RdP p r :: R)) (hn : 0 ≤ n ∧ n ≤ 9223372036854775807) : Ret Tryz.prog 119 [p, .int .i64 n] w fun v w' => ∃ u : Value, ∃ J : Gh, Gh.le I J ∧ u = v ∧ RoB J u (rdTake r n) ∧ Sat w' J (RdP p (rdTakeS r n) :: R) := by
  obtain ⟨b, v, rfl, ov, H0, S0⟩ := RdP.opn S
  refine ret_E Tryz.func119 rfl Tryz.ntmps119 (by simp) ?_
  refine g5 ?_
  refine EC_scope (fun l' m' E' w' => (l' = 0 ∧ m' = 0 ∧ E' 0 = ptr b ∧ E' 1 = .int .i64 n ∧ (rdShort r n = true) ∧ Sat w' I (Blk b 223 [v, .bool r.bad] :: R))) 1 ?_ ?_
  refine g12 ?_
  refine EL_gite 10 rfl rfl rfl (.int .i64 (r.l.length : Int)) rfl (fun g15 => lenB (r_len (cond_of g15 rfl) (H0 _ S0.le) U26)) ?_
  refine g5 ?_
  refine EC_cond (t := r.bad || (decide ((r.l.length : Int) < n))) rfl (fun h0 => ?_) (fun h0 => ?_)
  have hs : rdShort r n = true := h0
  refine EC_goto ?_
  refine g1 ?_
  refine jmp_g _ ?_ ⟨rfl, rfl, rfl, rfl, hs, S0⟩
  first | omega | (simp; omega)
  have hs : rdShort r n = false := by rw [← Bool.not_eq_true]; intro hq; rw [rdShort] at hq; rw [hq] at h0; cases h0
  have hnl : r.bad = false ∧ n ≤ (r.l.length : Int) := by simp only [rdShort, Bool.or_eq_false_iff, decide_eq_false_iff_not] at hs; exact ⟨hs.1, by omega⟩
  refine g11 ?_
  refine vl (cutM v 0 ((n : Int).toNat)) rfl (r_slice3 rfl (H0 _ S0.le) U26 (by kernel_rfl) 0 ((n : Int).toNat) as' as' (.inl ⟨rfl, rfl⟩) (⟨_, _, rfl, (show _ = Value.int .i64 ((n : Int).toNat : Int) from by rw [Int.toNat_of_nonneg (by omega)]; exact rfl)⟩) (⟨_, _, rfl, (show _ = Value.int .i64 ((n : Int).toNat : Int) from by rw [Int.toNat_of_nonneg (by omega)]; exact rfl)⟩)) ?_
  have H1 : RoB I (cutM v 0 ((n : Int).toNat)) (r.l.take ((n : Int).toNat)) := rob_as (RoB.cutM H0 0 ((n : Int).toNat) as' as') (by simp)
  have L0 : (r.l.take ((n : Int).toNat)).length = ((n : Int).toNat) - 0 := by first | (simp; done) | (simp; omega)
  refine g11 ?_
  refine vl (cutV v ((n : Int).toNat) ((r.l.map byt).length)) rfl (r_slice rfl (H0 _ S0.le) U26 (by kernel_rfl) ((n : Int).toNat) ((r.l.map byt).length) as' as' (.inr ⟨_, _, rfl, (show _ = Value.int .i64 ((n : Int).toNat : Int) from by rw [Int.toNat_of_nonneg (by omega)]; exact rfl)⟩) (.inl ⟨rfl, rfl⟩)) ?_
  have H2 : RoB I (cutV v ((n : Int).toNat) ((r.l.map byt).length)) (r.l.drop ((n : Int).toNat)) := rob_as (RoB.cut H0 ((n : Int).toNat) ((r.l.map byt).length) as' as') (by simp)
  have L1 : (r.l.drop ((n : Int).toNat)).length = r.l.length - ((n : Int).toNat) := by first | (simp; done) | (simp; omega)
  refine g2 ?_
  refine yS0 S0 ?_ (hu := row_one (H2 _ S0.le))
  intro w0 S1
  refine g11 ?_
  refine f1 Tryz.results119 ?_
  have S2 : Sat w0 I (RdP (ptr b) (rdTakeS r n) :: R) := RdP.cls (row_one (H2 _ S1.le)) H2 (by rw [rdTakeS, if_neg (by rw [hs]; decide)]) S1
  exact ⟨(cutM v 0 ((n : Int).toNat)), I, (Gh.le_refl _), rfl, (rob_as H1 (by rw [rdTake, if_neg (by rw [hs]; decide)])), S2⟩
  rintro _ _ E0 w1 (⟨rfl, rfl, e0, e1, hs, S3⟩)
  refine ⟨_, rfl, ?_⟩
  refine g8 ?_
  refine yS0 S3 ?_
  intro w2 S4
  refine g9 ?_
  refine f1 Tryz.results119 ?_
  have S5 : Sat w2 I (RdP (ptr b) (rdTakeS r n) :: R) := RdP.cls ov H0 (by rw [rdTakeS, if_pos hs]) S4
  exact ⟨(.slice none 0 0), I, (Gh.le_refl _), rfl, (rob_as Ro.nil (by rw [rdTake, if_pos hs])), S5⟩

theorem get_c (p : Value) (r : Rd) (n : Int) (I : Gh) (R : List HP) (w : World) (S : Sat w I (RdP p r :: R)) (hn : 0 ≤ n ∧ n ≤ 6) : Ret Tryz.prog 118 [p, .int .i64 n] w fun v w' => ∃ J : Gh, Gh.le I J ∧ .int .i64 (rdGet r n) = v ∧ Sat w' J (RdP p (rdTakeS r n) :: R) := by
  refine ret_E Tryz.func118 rfl Tryz.ntmps118 (by simp) ?_
  refine g15 ?_
  refine yR (take_c _ _ n _ _ _ S au) ?_
  rintro _ w0 ⟨u0, I0, le0, rfl, H0, S0⟩
  have hml : (rdTake r n).length ≤ n.toNat := rdTake_len (by omega)
  refine vl _ rfl (lenB (r_len rfl (H0 _ S0.le) U26)) ?_
  refine g4 ?_
  refine EC_loop (fun m' E' w' => ∃ j : Nat, ∃ q : Nat, m' = (rdTake r n).length - j ∧ E' 12 = .int .i64 (j : Int) ∧ E' 5 = .int .i64 (q : Int) ∧ E' 4 = .int .i64 0 ∧ E' 10 = u0 ∧ E' 11 = .int .i64 ((rdTake r n).length : Int) ∧ (j ≤ (rdTake r n).length) ∧ (q + 1 ≤ 256 ^ j) ∧ ((q : Int) = beN ((rdTake r n).take j)) ∧ Sat w' I0 (RdP p (rdTakeS r n) :: R)) _ ⟨0, 0, rfl, rfl, rfl, rfl, rfl, rfl, Nat.zero_le _, (by simp), (by rw [List.take_zero]; rfl), S0⟩ ?_
  rintro _ E0 w1 ⟨j, q, rfl, e0, e1, e2, e3, e4, hj, hq, hb, S1⟩
  refine g6 ?_
  refine EC_if rfl (fun h0 => ?_) (fun h0 => ?_)
  refine g6 ?_
  refine vl (.pointer (some (at_ u0 (((j : Int) : Int).toNat)))) rfl (r_index (by exact e3) (H0 _ S1.le) (by exact e0) (by omega) as' U26 (by kernel_rfl)) ?_
  obtain ⟨b0, hb0⟩ := get_some (l := rdTake r n) (j := ((j : Int) : Int).toNat) as'
  have hb1 := b0.toNat_lt
  refine vl _ rfl (r_load rfl ((H0 _ S1.le).cell (bs_get hb0)) U5 rfl) ?_
  refine g3 ?_
  have hq2 := Nat.le_trans hq (Nat.pow_le_pow_right (show 0 < 256 by decide) (show j ≤ 5 by omega))
  refine g2 ?_
  refine EL_int ((q : Int) * 256) rfl (r_shli (n := 8) rfl rfl rfl (by decide) (by decide) (by omega)) ?_
  intro x0 hx29
  refine g1 ?_
  refine vl (.int .i64 (b0.toNat : Int)) rfl (r_convi 5 3 rfl U5 U3 (by omega)) ?_
  refine EL_int (x0 + (b0.toNat : Int)) rfl (r_ori q b0.toNat 8 rfl rfl (by omega) (by omega) (by omega) rfl (by omega)) ?_
  intro x1 hx30
  refine g5 ?_
  refine EL_int ((j : Int) + 1) rfl (r_addi (by exact e0) rfl (by omega)) ?_
  intro x2 hx31
  refine g3 ?_
  refine ⟨_, ?_, j + 1, (q * 256 + b0.toNat), rfl, (Eq.trans (show _ = Value.int .i64 x2 from rfl) (congrArg _ (by omega))), (Eq.trans (show _ = Value.int .i64 x1 from rfl) (congrArg _ (by omega))), (by exact e2), (by exact e3), (by exact e4), by omega, (by rw [Nat.pow_succ]; omega), (beN_step hb hb0), S1⟩
  first | omega | (simp; omega)
  refine g12 ?_
  refine f1 Tryz.results118 ?_
  exact ⟨I0, le0, (by rw [rdGet, hb, List.take_of_length_le (by omega)]), S1⟩

theorem Number_c (p : Value) (r : Rd) (lo : Int) (hi : Int) (I : Gh) (R : List HP) (w : World) (S : Sat w I (RdP p r :: R)) : Ret Tryz.prog 68 [p, .int .i64 lo, .int .i64 hi] w fun v w' => ∃ J : Gh, Gh.le I J ∧ .int .i64 (rdNum r lo hi) = v ∧ Sat w' J (RdP p (rdNumS r lo hi) :: R) := by
  obtain ⟨b, rfl⟩ := RdP.ptr S
  refine ret_E Tryz.func68 rfl Tryz.ntmps68 (by simp) ?_
  refine g8 ?_
  refine yR (get_c _ _ 6 _ _ _ S au) ?_
  rintro _ w0 ⟨I0, le0, rfl, S0⟩
  obtain ⟨v0, o0, H0, S1⟩ := RdP.at S0
  refine g23 ?_
  refine yS0 S1 ?_
  intro w1 S2
  refine g10 ?_
  refine EC_cond (t := (((rdTakeS r 6).bad) || (decide ((rdGet r 6) < lo))) || (decide (hi < (rdGet r 6)))) rfl (fun h0 => ?_) (fun h0 => ?_)
  have hbad : (rdMid r 6 lo hi).bad = true := h0
  refine g7 ?_
  refine f1 Tryz.results68 ?_
  have S3 : Sat w1 I0 (RdP (ptr b) (rdNumS r lo hi) :: R) := RdP.cls o0 H0 rfl S2
  exact ⟨I0, le0, (by rw [rdNum, if_pos hbad]), S3⟩
  have hbad : (rdMid r 6 lo hi).bad = false := h0
  refine g9 ?_
  refine f1 Tryz.results68 ?_
  have S4 : Sat w1 I0 (RdP (ptr b) (rdNumS r lo hi) :: R) := RdP.cls o0 H0 rfl S2
  exact ⟨I0, le0, (by rw [rdNum, if_neg (by rw [hbad]; decide)]), S4⟩

theorem Text_c (p : Value) (r : Rd) (lo : Int) (hi : Int) (I : Gh) (R : List HP) (w : World) (S : Sat w I (RdP p r :: R)) : Ret Tryz.prog 70 [p, .int .i64 lo, .int .i64 hi] w fun v w' => ∃ u : Value, ∃ J : Gh, Gh.le I J ∧ u = v ∧ RoB J u (rdTxt r lo hi) ∧ Sat w' J (RdP p (rdTxtS r lo hi) :: R) := by
  obtain ⟨b, rfl⟩ := RdP.ptr S
  refine ret_E Tryz.func70 rfl Tryz.ntmps70 (by simp) ?_
  refine g8 ?_
  refine yR (get_c _ _ 2 _ _ _ S au) ?_
  rintro _ w0 ⟨I0, le0, rfl, S0⟩
  obtain ⟨v0, o0, H0, S1⟩ := RdP.at S0
  refine g23 ?_
  refine yS0 S1 ?_
  intro w1 S2
  refine g10 ?_
  refine EC_cond (t := (((rdTakeS r 2).bad) || (decide ((rdGet r 2) < lo))) || (decide (hi < (rdGet r 2)))) rfl (fun h0 => ?_) (fun h0 => ?_)
  have hbad : (rdMid r 2 lo hi).bad = true := h0
  refine g7 ?_
  refine f1 Tryz.results70 ?_
  have S3 : Sat w1 I0 (RdP (ptr b) (rdTxtS r lo hi) :: R) := RdP.cls o0 H0 (by rw [rdTxtS, if_pos hbad]; rfl) S2
  exact ⟨(.slice none 0 0), I0, le0, rfl, (rob_as Ro.nil (by rw [rdTxt, if_pos hbad])), S3⟩
  have hbad : (rdMid r 2 lo hi).bad = false := h0
  refine g3 ?_
  have S4 : Sat w1 I0 (RdP (ptr b) (rdMid r 2 lo hi) :: R) := RdP.cls o0 H0 rfl S2
  have hg2 := rdGet2 r
  skip
  refine g3 ?_
  refine yR (take_c _ _ (rdGet r 2) _ _ _ S4 au) ?_
  rintro _ w2 ⟨u0, I1, le1, rfl, H1, S5⟩
  refine g4 ?_
  refine f1 Tryz.results70 ?_
  have q0 : rdTakeS (rdMid r 2 lo hi) (rdGet r 2) = rdTxtS r lo hi := by rw [rdTxtS, if_neg (by rw [hbad]; decide)]
  have S6 := Sat.ah0 (RdP (ptr b)) S5 q0
  exact ⟨u0, I1, (lT le0 le1), rfl, (rob_as H1 (by rw [rdTxt, if_neg (by rw [hbad]; decide)])), S6⟩

theorem Bad_c (p : Value) (r : Rd) (I : Gh) (R : List HP) (w : World) (S : Sat w I (RdP p r :: R)) : Ret Tryz.prog 69 [p] w fun v w' => .bool r.bad = v ∧ Sat w' I (RdP p r :: R) := by
  obtain ⟨b, v, rfl, ov, H0, S0⟩ := RdP.opn S
  refine ret_E Tryz.func69 rfl Tryz.ntmps69 (by simp) ?_
  refine g15 ?_
  refine f1 Tryz.results69 ?_
  have S1 : Sat w I (RdP (ptr b) r :: R) := RdP.cls ov H0 rfl S0
  exact ⟨rfl, S1⟩

theorem End_c (p : Value) (r : Rd) (I : Gh) (R : List HP) (w : World) (S : Sat w I (RdP p r :: R)) : Ret Tryz.prog 71 [p] w fun v w' => .bool (rdEnd r) = v ∧ Sat w' I (RdP p r :: R) := by
  obtain ⟨b, v, rfl, ov, H0, S0⟩ := RdP.opn S
  refine ret_E Tryz.func71 rfl Tryz.ntmps71 (by simp) ?_
  refine g17 ?_
  refine EL_gite 8 rfl rfl rfl (.int .i64 (r.l.length : Int)) rfl (fun g15 => lenB (r_len (cond_of g15 rfl) (H0 _ S0.le) U26)) ?_
  refine g6 ?_
  refine f1 Tryz.results71 ?_
  have S1 : Sat w I (RdP (ptr b) r :: R) := RdP.cls ov H0 rfl S0
  exact ⟨rfl, S1⟩

theorem Read_c (v0 : Value) (l : List UInt8) (I : Gh) (R : List HP) (w : World) (S : Sat w I (R)) (Q0 : RoB I v0 l) (hl : l.length ≤ 1000000000) : Ret Tryz.prog 67 [v0] w fun v w' => ∃ p : Value, ∃ J : Gh, Gh.le I J ∧ p = v ∧ Sat w' J (RdP p (Rd.mk l false) :: R) := by
  have lq0 := RoB.le Q0 S.le
  refine ret_E Tryz.func67 rfl Tryz.ntmps67 (by simp) ?_
  refine g8 ?_
  have S0 := S.nilB
  refine yP0 elB S0 (Q0 _ S0.le) ?_
  intro v1 w0 S1
  refine vl _ rfl (gB [v1, .bool false] st_223 (parts1 rfl) (fill_one rfl (one_cells (own_one (S1.own 0 rfl))) rfl fill_end)) ?_
  refine yB (cs := [v1, .bool false]) S1 ?_
  intro b0 w1 S2
  refine g4 ?_
  refine f1 Tryz.results67 ?_
  obtain ⟨I0, le0, S3, H0⟩ := S2.fb1
  have S4 : Sat w1 I0 (RdP (ptr b0) (Rd.mk l false) :: R) := RdP.cls (row_one (H0 _ S3.le)) H0 (by simp) S3
  exact ⟨(ptr b0), I0, le0, rfl, S4⟩

end Go.Proofs.YtanpinfhlbbjkaaGreat
