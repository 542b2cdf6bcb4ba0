import Derived.Test.YtanpinfhlbbjkaaGreatQClientSeesRpA
set_option linter.unusedVariables false
set_option linter.unusedSimpArgs false
set_option maxRecDepth 100000
set_option maxHeartbeats 4000000
namespace Go.Proofs.YtanpinfhlbbjkaaGreat
open Go.RowKit Go.Ecal
def whoR : Rep WhoT := ⟨4, fun I cs a => ∃ v3, cs = [.int .i64 a.coll, .int .i64 a.founder, .int .i64 a.who, v3] ∧ (-9223372036854775808 ≤ a.coll ∧ a.coll ≤ 9223372036854775807) ∧ (-9223372036854775808 ≤ a.founder ∧ a.founder ≤ 9223372036854775807) ∧ (-9223372036854775808 ≤ a.who ∧ a.who ≤ 9223372036854775807) ∧ (v3.oneCell' = true ∧ RoB I v3 a.sec), fun k h => by obtain ⟨v3, rfl, h0, h1, h2, ⟨o3, h3⟩⟩ := h; exact ⟨v3, rfl, h0, h1, h2, ⟨o3, h3.up k⟩⟩,
  fun h => by obtain ⟨v3, rfl, h0, h1, h2, ⟨o3, h3⟩⟩ := h; rfl, fun h u hu => by
    obtain ⟨v3, rfl, h0, h1, h2, ⟨o3, h3⟩⟩ := h
    simp only [List.mem_cons, List.not_mem_nil, or_false] at hu
    rcases hu with rfl | rfl | rfl | rfl <;> first | rfl | assumption⟩
abbrev whoRC (a : WhoT) (v3 : Value) : List Value := [.int .i64 a.coll, .int .i64 a.founder, .int .i64 a.who, v3]
theorem RpCom_c (q : Value) (p : Value) (s : Rpl) (L : List Thing) (v0 : Value) (bb : List UInt8) (I : Gh) (R : List HP) (w : World) (S : Sat w I (RplP q p s :: Suite p L :: R)) (Q0 : RoB I v0 bb) (hl : L.length ≤ 600000) (hT : TxtOk L) (hsec : s.sec.length ≤ 100000) (hdl : s.docs.length ≤ 100000) (hbl : bb.length ≤ 1000000000) : Ret Tryz.prog 57 [q, v0] w fun v w' => ∃ J : Gh, Gh.le I J ∧ .tuple #[.int .i64 (s.comE bb), .int .i64 (s.comO L bb)] = v ∧ Sat w' J (RplP q p ((s.comS L bb).2) :: Suite p ((s.comS L bb).1) :: R) := by
  have lq0 := RoB.le Q0 S.le
  obtain ⟨b, sv, cv, vm, dv, rv, rfl, hok, hc1, hd1, hr1, Hs, Hm, S0⟩ := RplP.opn S
  have hks := hok.ks.2
  have hnum := hok.num
  have lsv := RoB.le Hs S0.le
  have lvm := XRow.le (Hm.row S0.le)
  have hp1 := Suite.one S0.fr4
  obtain ⟨_, _, _, _, _, _, h32, _, _⟩ := ChainP.opn S0.fr1
  refine ret_E Tryz.func57 rfl Tryz.ntmps57 (by simp) ?_
  refine g9 ?_
  refine yR (RDec_c _ _ _ _ _ S0 Q0 hbl) ?_
  rintro _ w0 ⟨cs0, I0, le0, rfl, h0, S1⟩
  obtain ⟨v1, rfl, r0, r1, r2, r3, ⟨o0, H0⟩⟩ := h0
  refine g3 ?_
  refine yN recR0 S1 ?_
  intro b0 w1 S2
  refine yW0 S2 ?_ (h1 := ones_cons rfl (ones_cons rfl (ones_cons rfl (ones_cons rfl (ones_cons o0 ones_nil)))))
  intro w2 S3
  refine g5 ?_
  refine EC_quietB (by kernel_rfl) (by kernel_rfl) ?_
  refine g12 ?_
  refine yE S3 ?_
  intro w3 S4
  refine g1 ?_
  refine EC_cond (t := (decide ((recE bb) ≠ 0)) || (decide (((recV bb).coll) ≠ s.coll))) rfl (fun h2 => ?_) (fun h2 => ?_)
  have hrec : ¬ s.isRec bb = true := by simp only [Rpl.isRec, Bool.and_eq_true, decide_eq_true_eq]; simp at h2; intro hh; rcases h2 with h1 | h1; exact h1 hh.1; exact h1 hh.2
  refine g8 ?_
  refine f2 Tryz.results57 ?_
  have hc := com_1 (L := L) hrec
  have S5 : Sat _ _ (RplP (ptr b) p s :: _) := RplP.cls (s := s) (sv := sv) (cv := cv) (vm := vm) (dv := dv) (rv := rv) hok hc1 hd1 hr1 (Hs.up le0) (Hm.up le0) S4.fr4.fr4.fr4.fr4
  have q0 : s = (s.comS L bb).2 := by rw [hc.2.2]
  have S6 := Sat.ah0 (RplP (ptr b) p) S5 q0
  have q1 : L = (s.comS L bb).1 := by rw [hc.2.2]
  have S7 := Sat.ah2 (Suite p) S6 q1
  exact ⟨I0, le0, (by rw [hc.1, hc.2.1]), S7.dr1⟩
  have hrec : s.isRec bb = true := by simp only [Rpl.isRec, Bool.and_eq_true, decide_eq_true_eq]; simpa using h2
  refine g10 ?_
  refine yR (CApp_c _ _ _ _ _ _ _ _ _ S4.fr5.fr3 (Q0.up le0) (by omega)) ?_
  rintro _ w4 ⟨I1, le1, rfl, S8⟩
  refine g9 ?_
  refine EC_if rfl (fun h3 => ?_) (fun h3 => ?_)
  have hce : ¬ chE s.ch bb = 0 := h3
  refine g9 ?_
  refine f2 Tryz.results57 ?_
  have hc := com_2 (L := L) hrec hce
  have q2 : chApp L s.ch bb = s.ch := by rw [chApp, if_neg hce]
  have S9 := Sat.ah0 (ChainP cv p) S8 q2
  have q3 : chL L s.ch bb = L := by rw [chL, if_neg hce]
  have S10 := Sat.ah1 (Suite p) S9 q3
  have S11 : Sat _ _ (RplP (ptr b) p s :: _) := RplP.cls (s := s) (sv := sv) (cv := cv) (vm := vm) (dv := dv) (rv := rv) hok hc1 hd1 hr1 (Hs.up (lT le0 le1)) (Hm.up (lT le0 le1)) S10.fr5.fr5.fr2.fr5
  have q4 : s = (s.comS L bb).2 := by rw [hc.2.2]
  have S12 := Sat.ah0 (RplP (ptr b) p) S11 q4
  have q5 : L = (s.comS L bb).1 := by rw [hc.2.2]
  have S13 := Sat.ah1 (Suite p) S12 q5
  exact ⟨I1, (lT le0 le1), (by rw [hc.1, hc.2.1]), S13.dr2⟩
  have hce : chE s.ch bb = 0 := Classical.byContradiction h3
  have hcl := chL_len L s.ch bb
  have hct := hT.ch (c := s.ch) (b := bb) h32
  refine g6 ?_
  have S14 : Sat _ _ (RplP (ptr b) p (s.linked L bb) :: _) := RplP.cls (s := (s.linked L bb)) (sv := sv) (cv := cv) (vm := vm) (dv := dv) (rv := rv) (⟨hok.seen, hok.seenN, hok.ks, hok.num⟩ : (s.linked L bb).ok) hc1 hd1 hr1 (Hs.up (lT le0 le1)) (Hm.up (lT le0 le1)) S8.fr5.fr5.fr2.fr5
  refine yR (RpOut_c _ _ _ (recRC (recV bb) v1) (recV bb) _ _ _ _ S14 ⟨v1, rfl, ad, ad, ad, ad, ⟨o0, (H0.up le1)⟩⟩ (by omega) hct hsec hdl) ?_
  rintro _ w5 ⟨I2, le2, rfl, S15⟩
  refine g5 ?_
  refine f2 Tryz.results57 ?_
  have hc := com_3 (L := L) hrec hce
  have q6 : ((s.linked L bb).outS (chL L s.ch bb) (recV bb)).2 = (s.comS L bb).2 := by rw [hc.2.2]
  have S16 := Sat.ah0 (RplP (ptr b) p) S15 q6
  have q7 : ((s.linked L bb).outS (chL L s.ch bb) (recV bb)).1 = (s.comS L bb).1 := by rw [hc.2.2]
  have S17 := Sat.ah1 (Suite p) S16 q7
  exact ⟨I2, (lT (lT le0 le1) le2), (by rw [hc.1, hc.2.1]), S17.dr2⟩

theorem First1_c (f : Int) (I : Gh) (R : List HP) (w : World) (S : Sat w I (R)) (hf0 : -9223372036854775808 ≤ f ∧ f ≤ 9223372036854775807) (hf : within f 1 16 = true) : Ret Tryz.prog 100 [.int .i64 f] w fun v w' => ∃ cr : List Value, ∃ J : Gh, Gh.le I J ∧ .tuple #[.agg cr.toArray, .int .i64 0] = v ∧ polR.r J cr (firstP f) ∧ Sat w' J (R) :=
  (First_c f I R w S hf0).mono fun v w' h => by
    rw [show firstE f = 0 from if_pos hf, show firstV f = firstP f from if_pos hf] at h; exact h

theorem RpNewOk_c (p : Value) (L : List Thing) (cx : List Value) (x : WhoT) (I : Gh) (R : List HP) (w : World) (S : Sat w I (Suite p L :: R)) (hx : whoR.r I cx x) (hl : L.length ≤ 600000) (hk : rplOk x.coll x.founder x.who = true) (hsec : x.sec.length ≤ 100000) : Ret Tryz.prog 51 [p, .agg cx.toArray] w fun v w' => ∃ b : Nat, ∃ J : Gh, Gh.le I J ∧ .tuple #[ptr b, .int .i64 0] = v ∧ Sat w' J (RplP (ptr b) p ((newR L x.coll x.founder x.who x.sec).2) :: Suite p ((newR L x.coll x.founder x.who x.sec).1) :: R) := by
  have hnum := rplOk_iff.1 hk
  have hp1 := Suite.one S
  obtain ⟨v0, rfl, r0, r1, r2, ⟨o0, H0⟩⟩ := hx
  refine ret_E Tryz.func51 rfl Tryz.ntmps51 (by simp) ?_
  refine g2 ?_
  refine yB (cs := [.int .i64 x.coll, .int .i64 x.founder, .int .i64 x.who, v0]) S ?_
  intro b0 w0 S0
  refine g8 ?_
  refine yR (First1_c x.founder _ _ _ S0 au (within_iff.2 hnum.2.1)) ?_
  rintro _ w1 ⟨cs0, I0, le0, rfl, h0, S1⟩
  obtain ⟨v1, rfl, r3, r4, ⟨o1, H1⟩⟩ := h0
  refine g3 ?_
  refine yN polR0 S1 ?_
  intro b1 w2 S2
  refine yW0 S2 ?_ (h1 := ones_cons rfl (ones_cons rfl (ones_cons o1 ones_nil)))
  intro w3 S3
  refine g7 ?_
  refine vl (.bool false) rfl (r_dec (by decide) (r_neq rfl rfl)) ?_
  refine g3 ?_
  refine gl 18 rfl rfl rfl rfl _ rfl (dcF (r_lss rfl rfl) (by simp; omega)) ?_
  refine g4 ?_
  refine gl 23 rfl rfl rfl rfl _ rfl (dcF (r_gtr rfl rfl) (by simp; omega)) ?_
  refine g4 ?_
  refine gl 28 rfl rfl rfl rfl _ rfl (dcF (r_lss rfl rfl) (by simp; omega)) ?_
  refine g4 ?_
  refine gl 33 rfl rfl rfl rfl _ rfl (dcF (r_gtr rfl rfl) (by simp; omega)) ?_
  refine g10 ?_
  have S4 := S3.nilB
  refine yP0 elB S4 (H0 _ (lT le0 S4.le)) ?_
  intro v2 w4 S5
  refine g1 ?_
  refine yS2 S5 ?_ (hu := own_one (S5.own 0 rfl))
  intro w5 S6
  refine g7 ?_
  refine yR (CNew_c _ _ x.coll _ _ _ S6.fr3 (by omega) au) ?_
  rintro _ w6 ⟨q0, I1, le1, rfl, S7⟩
  have o2 := ChainP.oneV S7
  refine g8 ?_
  refine yJ 10 (fun w' => Arr w' b0 42 ([.int .i64 x.coll, .int .i64 x.founder, .int .i64 x.who, v0].set 3 v2) ∧ Arr w' b1 63 (polRC (firstP x.founder) v1)) S7 ?_
  intro w7 S8
  refine yT 0 S8.le ⟨S8.a4, S8.a3⟩ ?_
  refine yT 1 S8.le ⟨S8.a4, S8.a3⟩ ?_
  refine yT 2 S8.le ⟨S8.a4, S8.a3⟩ ?_
  refine yT 3 S8.le ⟨S8.a4, S8.a3⟩ ?_
  refine yT 5 S8.le ⟨S8.a4, S8.a3⟩ ?_
  refine yT 6 S8.le ⟨S8.a4, S8.a3⟩ ?_
  refine yT 7 S8.le ⟨S8.a4, S8.a3⟩ ?_
  refine y1 4 ?_
  refine yR (DNew_c _ _ _ S8) ?_
  rintro _ w8 ⟨q1, rfl, S9⟩
  have o3 := DocsP.oneV S9
  refine yn S9.le ⟨S9.a5, S9.a4⟩ ?_
  refine y1 8 ?_
  obtain ⟨I2, le2, S10, H2⟩ := S9.fb3
  refine yR (RNew_c _ _ _ _ _ _ _ S10.fr2 H2 (by have := onceL_len (chT x.coll) L; omega) (by simp; omega)) ?_
  rintro _ w9 ⟨r5, I3, le3, rfl, S11⟩
  have o4 := RingP.oneV S11
  refine yn (lT (lT le2 le3) S11.le) ⟨S11.a5, S11.a4⟩ ?_
  refine yu (lT le2 le3) ?_
  refine jT 9 rfl (by kernel_rfl) (.agg ([p, .int .i64 x.coll, .int .i64 x.founder, .int .i64 x.who, v2, q0, .int .i64 ((firstP x.founder).founder), .int .i64 ((firstP x.founder).epoch), v1, q1, r5, .int .i64 0, .int .i64 0, .int .i64 0, .int .i64 0, .int .i64 0, .int .i64 0, .int .i64 0, .int .i64 0, .int .i64 0, .int .i64 0, .int .i64 0, .int .i64 0, .int .i64 0, .int .i64 0, .int .i64 0, .int .i64 0, .int .i64 0]).toArray) rfl (fun _ hw ht => r_buildS (l := [(0, p), (1, .agg (([.int .i64 x.coll, .int .i64 x.founder, .int .i64 x.who, v0].set 3 v2)).toArray), (2, q0), (3, .agg ((polRC (firstP x.founder) v1)).toArray), (4, q1), (5, r5)]) st_166 (parts6 rfl rfl rfl rfl rfl rfl) (Eq.trans (show Instr.fill _ _ [(0, p), (1, .agg (([.int .i64 x.coll, .int .i64 x.founder, .int .i64 x.who, v0].set 3 v2)).toArray), (2, q0), (3, .agg ((polRC (firstP x.founder) v1)).toArray), (4, q1), (5, r5)] = _ from (fill_one rfl (one_cells hp1) (by kernel_rfl) (fill_some (cs := (([.int .i64 x.coll, .int .i64 x.founder, .int .i64 x.who, v0].set 3 v2)).toArray) rfl rfl rfl (Nat.le_of_ble_eq_true (by kernel_rfl)) (fill_one rfl (one_cells o2) (by kernel_rfl) (fill_some (cs := ((polRC (firstP x.founder) v1)).toArray) rfl rfl rfl (Nat.le_of_ble_eq_true (by kernel_rfl)) (fill_one rfl (one_cells o3) (by kernel_rfl) (fill_one rfl (one_cells o4) (by kernel_rfl) fill_end))))))) (by kernel_rfl))) ⟨S11.le, fun h => ⟨S11.a5, S11.a4⟩⟩ ?_
  refine y1 10 ?_
  refine yB (cs := [p, .int .i64 x.coll, .int .i64 x.founder, .int .i64 x.who, v2, q0, .int .i64 ((firstP x.founder).founder), .int .i64 ((firstP x.founder).epoch), v1, q1, r5, .int .i64 0, .int .i64 0, .int .i64 0, .int .i64 0, .int .i64 0, .int .i64 0, .int .i64 0, .int .i64 0, .int .i64 0, .int .i64 0, .int .i64 0, .int .i64 0, .int .i64 0, .int .i64 0, .int .i64 0, .int .i64 0, .int .i64 0]) S11 ?_
  intro b2 w10 S12
  refine ym S12.le ?_
  refine yf 11 S12.le ?_
  refine yf 12 S12.le ?_
  refine yd ?_
  refine g2 ?_
  refine f2 Tryz.results51 ?_
  have h2 := newR_ok (L := L) (x := x) hk
  have S13 := S12.fr1.fr3.fr4
  have o5 := ChainP.oneV S13
  have o6 := DocsP.oneV S13.fr1
  have o7 := RingP.oneV S13.fr2
  have S14 : Sat _ _ (RplP (ptr b2) p ((newR L x.coll x.founder x.who x.sec).2) :: _) := RplP.cls (s := (newR L x.coll x.founder x.who x.sec).2) (sv := v2) (cv := q0) (vm := v1) (dv := q1) (rv := r5) ⟨h2.1, h2.2.1, h2.2.2, ⟨hnum.1, hnum.2.1, hnum.2.2, hnum.2.1, (show (0 : Int) ≤ 0 ∧ (0 : Int) ≤ 16 from by decide)⟩⟩ o5 o6 o7 (H2.up le3) (H1.up (lT (lT le1 le2) le3)) S13.fr2.fr2.fr2.fr3
  have q2 : onceL (derT (([] : List UInt8) ++ x.sec) uEpoch 0) (onceL (chT x.coll) L) = (newR L x.coll x.founder x.who x.sec).1 := by simp only [newR, List.nil_append]
  have S15 := Sat.ah1 (Suite p) S14 q2
  exact ⟨b2, I3, (lT (lT (lT le0 le1) le2) le3), rfl, S15.dr2.dr2⟩

end Go.Proofs.YtanpinfhlbbjkaaGreat
