import Derived.Test.YtanpinfhlbbjkaaGreatQClientAlarmsCliF
set_option linter.unusedVariables false
set_option linter.unusedSimpArgs false
set_option maxRecDepth 100000
set_option maxHeartbeats 4000000
namespace Go.Proofs.YtanpinfhlbbjkaaGreat
open Go.RowKit Go.Ecal

theorem LRotA_c (q : Value) (p : Value) (c : Cli) (I : Gh) (R : List HP) (w : World) (S : Sat w I (CliP q p c :: R)) (hal : c.alarm = true) : Ret Tryz.prog 22 [q] w fun v w' => ∃ J : Gh, Gh.le I J ∧ .int .i64 42 = v ∧ Sat w' J (CliP q p c :: R) := by
  obtain ⟨b, wv, rv, pv, rfl, cok, hrv1, Hw, S0⟩ := CliP.opn S
  have lwv := RoB.le Hw S0.le
  have hrk := RplP.sok S0.fr1
  have hcn := cok.num
  have hcc := cok.cnt
  have hcl := cok.lst
  have hcs := cok.sec
  have hp8 := cok.pend8
  have hsr := seen_rng (n := c.who) hrk
  have hrs := cok.r
  have hpn := hrk.num.2.2.2
  have hvn : 0 ≤ c.view.1.epoch ∧ c.view.1.epoch ≤ 16 := (view_num (l := c.pendE) (x := (c.r.pol, c.r.docs)) hpn).2
  have hsq := Cli.seq_rng cok hrk
  refine ret_E Tryz.func22 rfl Tryz.ntmps22 (by simp) ?_
  refine g8 ?_
  have S1 : Sat w I (CliP (ptr b) p c :: R) := CliP.cls (c := c) (wv := wv) (rv := rv) (pv := pv) cok hrv1 Hw S0
  refine yR (LSee_c _ _ _ _ _ _ S1) ?_
  rintro _ w0 ⟨cs0, q0, I0, le0, rfl, h0, S2⟩
  obtain ⟨v0, rfl, r0, r1, ⟨o0, H0⟩⟩ := h0
  have S3 := S2.fr1
  obtain ⟨bb25, wv25, rv25, pv25, hq25, cok25, hrv25, Hw25, So25⟩ := CliP.opn S3
  obtain rfl : b = bb25 := by injection hq25 with hq; injection hq with hq; injection hq
  have lwv25 := RoB.le Hw25 So25.le
  refine g3 ?_
  refine EL_alloc (z := .agg #[.int .i64 0, .int .i64 0, .slice none 0 0]) polR0 rfl (by kernel_rfl) rfl ?_
  intro b0 w1 k0 A0 B0 z0
  have S4 := So25.newB B0 A0 k0
  refine yW0 S4 ?_ (h1 := ones_cons rfl (ones_cons rfl (ones_cons o0 ones_nil)))
  intro w2 S5
  refine g3 ?_
  refine EC_cut (fun E' w' => ∃ x2o9_0 : Int, ∃ b2o11_0 : Nat, E' 0 = ptr b ∧ E' 2 = .int .i64 0 ∧ E' 3 = ptr b0 ∧ E' 5 = ptr b2o11_0 ∧ (x2o9_0 = c.view.1.epoch + 1) ∧ Sat w' I0 (Blk b2o11_0 29 [.int .i64 5, .int .i64 c.who, .int .i64 c.seq, .slice none 0 0, .slice none 0 0, .int .i64 0, .int .i64 0, .int .i64 x2o9_0, .slice none 0 0] :: Blk b 116 [p, .int .i64 c.coll, .int .i64 c.founder, .int .i64 c.who, wv25, rv25, pv25, .int .i64 c.count, .int .i64 c.last, .bool c.alarm] :: RplP rv25 p c.r :: Blk b0 63 (polRC c.view.1 v0) :: OwnX 122 waiR pv25 c.pend :: DocsP q0 c.view.2 :: R)) ?_ ?_
  refine yJ 12 (fun w' => Arr w' b 116 [p, .int .i64 c.coll, .int .i64 c.founder, .int .i64 c.who, wv25, rv25, pv25, .int .i64 c.count, .int .i64 c.last, .bool c.alarm] ∧ Arr w' b0 63 (polRC c.view.1 v0)) S5 ?_
  intro w3 S6
  refine yT 0 S6.le ⟨S6.a1, S6.a0⟩ ?_
  refine yT 1 S6.le ⟨S6.a1, S6.a0⟩ ?_
  refine yT 2 S6.le ⟨S6.a1, S6.a0⟩ ?_
  refine yT 3 S6.le ⟨S6.a1, S6.a0⟩ ?_
  refine yT 4 S6.le ⟨S6.a1, S6.a0⟩ ?_
  refine yT 5 S6.le ⟨S6.a1, S6.a0⟩ ?_
  refine yT 7 S6.le ⟨S6.a1, S6.a0⟩ ?_
  refine yT 8 S6.le ⟨S6.a1, S6.a0⟩ ?_
  obtain ⟨x2o9_0, hx2o9_1⟩ : ∃ z : Int, z = c.view.1.epoch + 1 := ⟨_, rfl⟩
  refine jT 9 rfl (by kernel_rfl) (.int .i64 x2o9_0) rfl (fun _ hw ht => by rw [hx2o9_1]; exact r_addi rfl rfl (by omega)) ⟨S6.le, fun h => ⟨S6.a1, S6.a0⟩⟩ ?_
  refine EJ_two 6 11 (by kernel_rfl) ⟨_, rfl, ?_⟩ ⟨_, rfl, ?_⟩
  refine yR (LSeq_c _ _ _ _ _ c _ _ _ S6.fr2.fr2 au au) ?_
  rintro _ w4 ⟨rfl, S7⟩
  refine yn S7.le ⟨S7.a0, S7.a2⟩ ?_
  refine jT 10 rfl (by kernel_rfl) (.agg ([.int .i64 5, .int .i64 c.who, .int .i64 c.seq, .slice none 0 0, .slice none 0 0, .int .i64 0, .int .i64 0, .int .i64 x2o9_0, .slice none 0 0]).toArray) rfl (fun _ hw ht => r_buildS (l := [(0, .int .i64 5), (1, .int .i64 c.who), (2, .int .i64 c.seq), (7, .int .i64 x2o9_0)]) st_29 (parts4 rfl rfl rfl rfl) (Eq.trans (show Instr.fill _ _ [(0, .int .i64 5), (1, .int .i64 c.who), (2, .int .i64 c.seq), (7, .int .i64 x2o9_0)] = _ from (fill_one rfl rfl rfl (fill_one rfl rfl rfl (fill_one rfl rfl rfl (fill_one rfl rfl rfl fill_end))))) (by kernel_rfl))) ⟨S7.le, fun h => ⟨S7.a0, S7.a2⟩⟩ ?_
  refine y1 11 ?_
  refine EL_alloc (z := .agg #[.int .i64 0, .int .i64 0, .int .i64 0, .slice none 0 0, .slice none 0 0, .int .i64 0, .int .i64 0, .int .i64 0, .slice none 0 0]) entR0 rfl (by kernel_rfl) rfl ?_
  intro b2o11_0 w5 k1 A1 B1 z1
  have S8 := S7.newB B1 A1 k1
  refine yn S8.le ⟨S8.a1, S8.a3⟩ ?_
  refine y1 12 ?_
  refine yW0 S8 ?_
  intro w6 S9
  refine ym S9.le ?_
  refine yd ?_
  refine g1 ?_
  exact ⟨x2o9_0, b2o11_0, rfl, rfl, rfl, rfl, hx2o9_1, S9⟩
  refine EL_alloc (z := .agg #[.int .i64 0, .int .i64 0, .int .i64 0, .slice none 0 0, .slice none 0 0, .int .i64 0, .int .i64 0, .int .i64 0, .slice none 0 0]) entR0 rfl (by kernel_rfl) rfl ?_
  intro b2o11_0 w7 k2 A2 B2 z2
  have S10 := S6.newB B2 A2 k2
  refine yn S10.le ⟨S10.a2, S10.a1⟩ ?_
  refine y1 6 ?_
  refine yR (LSeq_c _ _ _ _ _ c _ _ _ S10.fr3.fr3 au au) ?_
  rintro _ w8 ⟨rfl, S11⟩
  refine yn S11.le ⟨S11.a0, S11.a3⟩ ?_
  refine jT 10 rfl (by kernel_rfl) (.agg ([.int .i64 5, .int .i64 c.who, .int .i64 c.seq, .slice none 0 0, .slice none 0 0, .int .i64 0, .int .i64 0, .int .i64 x2o9_0, .slice none 0 0]).toArray) rfl (fun _ hw ht => r_buildS (l := [(0, .int .i64 5), (1, .int .i64 c.who), (2, .int .i64 c.seq), (7, .int .i64 x2o9_0)]) st_29 (parts4 rfl rfl rfl rfl) (Eq.trans (show Instr.fill _ _ [(0, .int .i64 5), (1, .int .i64 c.who), (2, .int .i64 c.seq), (7, .int .i64 x2o9_0)] = _ from (fill_one rfl rfl rfl (fill_one rfl rfl rfl (fill_one rfl rfl rfl (fill_one rfl rfl rfl fill_end))))) (by kernel_rfl))) ⟨S11.le, fun h => ⟨S11.a0, S11.a3⟩⟩ ?_
  refine y1 12 ?_
  refine yW2 S11 ?_
  intro w9 S12
  refine ym S12.le ?_
  refine yd ?_
  refine g1 ?_
  exact ⟨x2o9_0, b2o11_0, rfl, rfl, rfl, rfl, hx2o9_1, S12.fr5.fr5.fr5.fr4.fr4.fr5⟩
  rintro E0 w10 ⟨x2o9_0, b2o11_0, e0, e1, e2, e3, hx2o9_1, S13⟩
  refine g1 ?_
  refine yJ 11 (fun w' => Arr w' b 116 [p, .int .i64 c.coll, .int .i64 c.founder, .int .i64 c.who, wv25, rv25, pv25, .int .i64 c.count, .int .i64 c.last, .bool c.alarm] ∧ Arr w' b0 63 (polRC c.view.1 v0)) S13 ?_
  intro w11 S14
  refine yT 0 S14.le ⟨S14.a1, S14.a3⟩ ?_
  refine yT 1 S14.le ⟨S14.a1, S14.a3⟩ ?_
  refine yT 2 S14.le ⟨S14.a1, S14.a3⟩ ?_
  refine yT 3 S14.le ⟨S14.a1, S14.a3⟩ ?_
  refine yT 4 S14.le ⟨S14.a1, S14.a3⟩ ?_
  refine yT 5 S14.le ⟨S14.a1, S14.a3⟩ ?_
  refine y1 6 ?_
  refine yR (RpKey_c _ _ _ c.view.1.epoch _ _ _ S14.fr2) ?_
  rintro _ w12 ⟨v1, rfl, S15⟩
  refine yn S15.le ⟨S15.a3, S15.a4⟩ ?_
  refine yT 7 S15.le ⟨S15.a3, S15.a4⟩ ?_
  refine yT 8 S15.le ⟨S15.a3, S15.a4⟩ ?_
  refine yT 9 S15.le ⟨S15.a3, S15.a4⟩ ?_
  refine yT 10 S15.le ⟨S15.a3, S15.a4⟩ ?_
  refine y1 11 ?_
  refine vA (.bool (!(keyAt c.r.ks c.view.1.epoch).isEmpty)) rfl rfl ?_
  refine ym S15.le ?_
  refine yd ?_
  refine g12 ?_
  refine EC_cond_true (Eq.trans (show _ = Value.bool (c.alarm) from rfl) (congrArg Value.bool (show (c.alarm) = true from hal))) ?_
  refine g8 ?_
  refine f1 Tryz.results22 ?_
  have S16 : Sat _ _ (CliP (ptr b) p c :: _) := CliP.cls (c := c) (wv := wv25) (rv := rv25) (pv := pv25) cok hrv25 Hw25 S15.fr5.fr2.fr4
  exact ⟨I0, le0, rfl, S16.dr1.dr1.dr1.dr1⟩

theorem LPull_c (q : Value) (p : Value) (c : Cli) (I : Gh) (R : List HP) (w : World) (S : Sat w I (CliP q p c :: R)) : Ret Tryz.prog 23 [q] w fun v w' => ∃ v1 : Value, ∃ J : Gh, Gh.le I J ∧ .tuple #[v1, .int .i64 c.pullE] = v ∧ Sat w' J (OwnB v1 c.pullB :: CliP q p c :: R) := by
  obtain ⟨b, wv, rv, pv, rfl, cok, hrv1, Hw, S0⟩ := CliP.opn S
  have lwv := RoB.le Hw S0.le
  have hrk := RplP.sok S0.fr1
  have hcn := cok.num
  have hcc := cok.cnt
  have hcl := cok.lst
  have hcs := cok.sec
  have hp8 := cok.pend8
  have hsr := seen_rng (n := c.who) hrk
  have hrs := cok.r
  have hpn := hrk.num.2.2.2
  have hl64 := hrs.links
  refine ret_E Tryz.func23 rfl Tryz.ntmps23 (by simp) ?_
  refine g15 ?_
  refine EC_cond (t := c.alarm) rfl (fun h0 => ?_) (fun h0 => ?_)
  have hal : c.alarm = true := by simpa using h0
  refine g8 ?_
  refine f2 Tryz.results23 ?_
  have S1 : Sat w I (CliP (ptr b) p c :: R) := CliP.cls (c := c) (wv := wv) (rv := rv) (pv := pv) cok hrv1 Hw S0
  rw [show c.pullB = [] from if_pos hal]
  have S2 := S1.nilB
  exact ⟨(.slice none 0 0), I, (Gh.le_refl _), (by rw [show c.pullE = 42 from if_pos hal]), S2⟩
  have hal : c.alarm = false := by simpa using h0
  refine g3 ?_
  refine yJ 16 (fun w' => Arr w' b 116 [p, .int .i64 c.coll, .int .i64 c.founder, .int .i64 c.who, wv, rv, pv, .int .i64 c.count, .int .i64 c.last, .bool c.alarm]) S0 ?_
  intro w0 S3
  refine yT 0 S3.le (S3.a0) ?_
  refine yT 1 S3.le (S3.a0) ?_
  refine yT 2 S3.le (S3.a0) ?_
  refine yT 3 S3.le (S3.a0) ?_
  refine yT 4 S3.le (S3.a0) ?_
  refine yT 5 S3.le (S3.a0) ?_
  refine yT 6 S3.le (S3.a0) ?_
  refine yT 7 S3.le (S3.a0) ?_
  refine yT 8 S3.le (S3.a0) ?_
  refine y1 9 ?_
  refine yR (RpChain_c _ _ _ _ _ _ S3.fr1) ?_
  rintro _ w1 ⟨b0, sv0, cv0, vm0, dv0, rv0, rfl, h1, h2, h3, h4, h5, H0, H1, S4⟩
  refine yn S4.le (S4.a4) ?_
  refine y1 10 ?_
  refine yR (CLen_c _ _ _ _ _ _ S4.fr1) ?_
  rintro _ w2 ⟨rfl, S5⟩
  have S6 : Sat w2 I (RplP rv p c.r :: Blk b 116 [p, .int .i64 c.coll, .int .i64 c.founder, .int .i64 c.who, wv, rv, pv, .int .i64 c.count, .int .i64 c.last, .bool c.alarm] :: OwnX 122 waiR pv c.pend :: R) := RplP.clsV h1 (s := c.r) (sv := sv0) (cv := cv0) (vm := vm0) (dv := dv0) (rv := rv0) h2 h3 h4 h5 H0 H1 S5.fr3.fr3.fr2.fr3
  refine yn S6.le (S6.a1) ?_
  refine jT 11 rfl (by kernel_rfl) (.agg ([.int .i64 2, .int .i64 c.coll, .int .i64 (c.r.ch.links.length : Int), .slice none 0 0, .slice none 0 0]).toArray) rfl (fun _ hw ht => r_buildS (l := [(0, .int .i64 2), (1, .int .i64 c.coll), (2, .int .i64 (c.r.ch.links.length : Int))]) st_68 (parts3 rfl rfl rfl) (Eq.trans (show Instr.fill _ _ [(0, .int .i64 2), (1, .int .i64 c.coll), (2, .int .i64 (c.r.ch.links.length : Int))] = _ from (fill_one rfl rfl rfl (fill_one rfl rfl rfl (fill_one rfl rfl rfl fill_end)))) (by kernel_rfl))) ⟨S6.le, fun h => S6.a1⟩ ?_
  refine y1 12 ?_
  refine yR (FEnc_c [.int .i64 2, .int .i64 c.coll, .int .i64 (c.r.ch.links.length : Int), .slice none 0 0, .slice none 0 0] (⟨2, c.coll, (c.r.ch.links.length : Int), [], []⟩ : FrameT) _ _ _ S6 ⟨(.slice none 0 0), (.slice none 0 0), rfl, (by dsimp only; omega), ad, ad, ⟨rfl, RoX.nil⟩, ⟨rfl, Ro.nil⟩⟩) ?_
  rintro _ w3 ⟨v0, I0, le0, rfl, S7⟩
  refine yn (lT le0 S7.le) (S7.a2) ?_
  refine yu le0 ?_
  refine yT 13 S7.le (S7.a2) ?_
  refine yT 14 S7.le (S7.a2) ?_
  refine yT 15 S7.le (S7.a2) ?_
  refine y1 16 ?_
  refine vA (.int .i64 ((⟨2, c.coll, (c.r.ch.links.length : Int), [], []⟩ : FrameT).encE)) rfl rfl ?_
  refine ym S7.le ?_
  refine yd ?_
  refine g2 ?_
  refine f2 Tryz.results23 ?_
  have q0 : (⟨2, c.coll, (c.r.ch.links.length : Int), [], []⟩ : FrameT).encB = c.pullB := by rw [Cli.pullB, if_neg (by rw [hal]; decide)]; rfl
  have S8 := S7.ab0 q0
  have S9 : Sat _ _ (CliP (ptr b) p c :: _) := CliP.cls (c := c) (wv := wv) (rv := rv) (pv := pv) cok hrv1 (Hw.up le0) S8.fr3.fr2.fr3
  exact ⟨v0, I0, le0, (by rw [show c.pullE = c.pullF.encE from if_neg (by rw [hal]; decide)]; rfl), S9.fr1⟩

end Go.Proofs.YtanpinfhlbbjkaaGreat
