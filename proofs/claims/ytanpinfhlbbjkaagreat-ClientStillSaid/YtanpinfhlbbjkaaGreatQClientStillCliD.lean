import Derived.Test.YtanpinfhlbbjkaaGreatQClientStillCliC
import Derived.Test.YtanpinfhlbbjkaaGreatQClientStillFloat
set_option linter.unusedVariables false
set_option linter.unusedSimpArgs false
set_option maxRecDepth 100000
set_option maxHeartbeats 4000000
namespace Go.Proofs.YtanpinfhlbbjkaaGreat
open Go.RowKit Go.Ecal

theorem TMake_c (a : Int) (b : Int) (I : Gh) (R : List HP) (w : World) (S : Sat w I (R)) (ha : 0 ≤ a ∧ a ≤ 1099511627776) (hb : 0 ≤ b ∧ b ≤ 1099511627776) : Ret Tryz.prog 52 [.int .i64 a, .int .i64 b] w fun v w' => .tuple #[.complex .f64 (fw a) (fw b), .int .i64 0] = v ∧ Sat w' I (R) := by
  refine ret_E Tryz.func52 rfl Tryz.ntmps52 (by simp) ?_
  refine g10 ?_
  refine vl _ rfl (dcF (r_lss rfl rfl) (by simp; omega)) ?_
  refine g2 ?_
  refine gl 8 rfl rfl rfl rfl _ rfl (dcF (r_gtr rfl rfl) (by simp; omega)) ?_
  refine g3 ?_
  refine gl 12 rfl rfl rfl rfl _ rfl (dcF (r_lss rfl rfl) (by simp; omega)) ?_
  refine g3 ?_
  refine gl 16 rfl rfl rfl rfl _ rfl (dcF (r_gtr rfl rfl) (by simp; omega)) ?_
  refine g9 ?_
  refine vl (.float .f64 (fw a)) rfl (r_i2f rfl (by rw [U3]; rfl) U191) ?_
  refine g1 ?_
  refine vl (.float .f64 (fw b)) rfl (r_i2f rfl (by rw [U3]; rfl) U191) (vl (.complex .f64 (fw a) (fw b)) rfl (r_complex rfl rfl) ?_)
  refine g5 ?_
  refine f2 Tryz.results52 ?_
  exact ⟨rfl, S⟩

theorem LTally_c (q : Value) (p : Value) (c : Cli) (I : Gh) (R : List HP) (w : World) (S : Sat w I (CliP q p c :: R)) : Ret Tryz.prog 16 [q] w fun v w' => .complex .f64 (fw (c.r.ch.links.length : Int)) (fw (c.pend.length : Int)) = v ∧ Sat w' I (CliP q p c :: R) := by
  obtain ⟨b, wv, rv, pv, rfl, cok, hrv1, Hw, S0⟩ := CliP.opn S
  have lwv := RoB.le Hw S0.le
  have hrk := RplP.sok S0.fr1
  have hcn := cok.num
  have hcc := cok.cnt
  have hcl := cok.lst
  have hcs := cok.sec
  have hp8 := cok.pend8
  have hsr := seen_rng (n := c.who) hrk
  have hrs := cok.r
  have hpn := hrk.num.2.2.2
  have hl64 := hrs.links
  refine ret_E Tryz.func16 rfl Tryz.ntmps16 (by simp) ?_
  refine g6 ?_
  refine yJ 16 (fun w' => Arr w' b 116 [p, .int .i64 c.coll, .int .i64 c.founder, .int .i64 c.who, wv, rv, pv, .int .i64 c.count, .int .i64 c.last, .bool c.alarm] ∧ XRow w' pv 10 c.pend.length) S0 ?_
  intro w0 S1
  refine yT 0 S1.le ⟨S1.a0, (OwnX.row S1 2 rfl (by decide)).1⟩ ?_
  refine yT 1 S1.le ⟨S1.a0, (OwnX.row S1 2 rfl (by decide)).1⟩ ?_
  refine yT 2 S1.le ⟨S1.a0, (OwnX.row S1 2 rfl (by decide)).1⟩ ?_
  refine yT 3 S1.le ⟨S1.a0, (OwnX.row S1 2 rfl (by decide)).1⟩ ?_
  refine yT 6 S1.le ⟨S1.a0, (OwnX.row S1 2 rfl (by decide)).1⟩ ?_
  refine yT 7 S1.le ⟨S1.a0, (OwnX.row S1 2 rfl (by decide)).1⟩ ?_
  refine yT 8 S1.le ⟨S1.a0, (OwnX.row S1 2 rfl (by decide)).1⟩ ?_
  refine yT 9 S1.le ⟨S1.a0, (OwnX.row S1 2 rfl (by decide)).1⟩ ?_
  refine jT 10 rfl (by kernel_rfl) (.int .i64 (c.pend.length : Int)) rfl (fun _ hw ht => r_lenX rfl ht.2 U114) ⟨S1.le, fun h => ⟨S1.a0, (OwnX.row S1 2 rfl (by decide)).1⟩⟩ ?_
  refine y1 4 ?_
  refine yR (RpChain_c _ _ _ _ _ _ S1.fr1) ?_
  rintro _ w1 ⟨b0, sv0, cv0, vm0, dv0, rv0, rfl, h0, h1, h2, h3, h4, H0, H1, S2⟩
  refine yn S2.le ⟨S2.a4, (OwnX.row S2 5 rfl (by decide)).1⟩ ?_
  refine y1 5 ?_
  refine yR (CLen_c _ _ _ _ _ _ S2.fr1) ?_
  rintro _ w2 ⟨rfl, S3⟩
  have S4 : Sat w2 I (RplP rv p c.r :: Blk b 116 [p, .int .i64 c.coll, .int .i64 c.founder, .int .i64 c.who, wv, rv, pv, .int .i64 c.count, .int .i64 c.last, .bool c.alarm] :: OwnX 122 waiR pv c.pend :: R) := RplP.clsV h0 (s := c.r) (sv := sv0) (cv := cv0) (vm := vm0) (dv := dv0) (rv := rv0) h1 h2 h3 h4 H0 H1 S3.fr3.fr3.fr2.fr3
  refine yn S4.le ⟨S4.a1, (OwnX.row S4 2 rfl (by decide)).1⟩ ?_
  refine y1 11 ?_
  refine yR (TMake_c (c.r.ch.links.length : Int) (c.pend.length : Int) _ _ _ S4 au au) ?_
  rintro _ w3 ⟨rfl, S5⟩
  refine yn S5.le ⟨S5.a1, (OwnX.row S5 2 rfl (by decide)).1⟩ ?_
  refine yT 12 S5.le ⟨S5.a1, (OwnX.row S5 2 rfl (by decide)).1⟩ ?_
  refine yT 13 S5.le ⟨S5.a1, (OwnX.row S5 2 rfl (by decide)).1⟩ ?_
  refine yT 14 S5.le ⟨S5.a1, (OwnX.row S5 2 rfl (by decide)).1⟩ ?_
  refine yT 15 S5.le ⟨S5.a1, (OwnX.row S5 2 rfl (by decide)).1⟩ ?_
  refine y1 16 ?_
  refine vA (.int .i64 0) rfl rfl ?_
  refine ym S5.le ?_
  refine yd ?_
  refine g8 ?_
  refine f1 Tryz.results16 ?_
  have S6 : Sat w3 I (CliP (ptr b) p c :: R) := CliP.cls (c := c) (wv := wv) (rv := rv) (pv := pv) cok hrv1 Hw S5.fr2.fr1.fr2
  exact ⟨rfl, S6⟩

theorem LHead_c (q : Value) (p : Value) (c : Cli) (I : Gh) (R : List HP) (w : World) (S : Sat w I (CliP q p c :: R)) : Ret Tryz.prog 17 [q] w fun v w' => ∃ cr : List Value, ∃ J : Gh, Gh.le I J ∧ .agg cr.toArray = v ∧ hedR.r J cr (atV c.r.ch (c.r.ch.links.length : Int)) ∧ Sat w' J (CliP q p c :: R) := by
  obtain ⟨b, wv, rv, pv, rfl, cok, hrv1, Hw, S0⟩ := CliP.opn S
  have lwv := RoB.le Hw S0.le
  have hrk := RplP.sok S0.fr1
  have hcn := cok.num
  have hcc := cok.cnt
  have hcl := cok.lst
  have hcs := cok.sec
  have hp8 := cok.pend8
  have hsr := seen_rng (n := c.who) hrk
  have hrs := cok.r
  have hpn := hrk.num.2.2.2
  refine ret_E Tryz.func17 rfl Tryz.ntmps17 (by simp) ?_
  refine g2 ?_
  refine yN [.int .i64 0, .slice none 0 0] S0 ?_
  intro b0 w0 S1
  refine g8 ?_
  refine yR (RpChain_c _ _ _ _ _ _ S1.fr2) ?_
  rintro _ w1 ⟨b1, sv0, cv0, vm0, dv0, rv0, rfl, h0, h2, h3, h4, h5, H0, H1, S2⟩
  refine yR (Head_c _ _ _ _ _ _ S2.fr1 hrs.links) ?_
  rintro _ w2 ⟨cs0, I0, le0, rfl, h6, S3⟩
  obtain ⟨v0, rfl, r0, ⟨o0, H2⟩⟩ := h6
  have S4 : Sat w2 I0 (RplP rv p c.r :: Blk b0 46 [.int .i64 0, .slice none 0 0] :: Blk b 116 [p, .int .i64 c.coll, .int .i64 c.founder, .int .i64 c.who, wv, rv, pv, .int .i64 c.count, .int .i64 c.last, .bool c.alarm] :: OwnX 122 waiR pv c.pend :: R) := RplP.clsV h0 (s := c.r) (sv := sv0) (cv := cv0) (vm := vm0) (dv := dv0) (rv := rv0) h2 h3 h4 h5 (H0.up le0) (H1.up le0) S3.fr3.fr3.fr2.fr3
  refine yW1 S4 ?_ (h1 := ones_cons rfl (ones_cons o0 ones_nil))
  intro w3 S5
  refine g3 ?_
  refine f1c Tryz.results17 ?_
  have S6 : Sat _ _ (CliP (ptr b) p c :: _) := CliP.cls (c := c) (wv := wv) (rv := rv) (pv := pv) cok hrv1 (Hw.up le0) S5.fr3.fr1.fr3
  have q0 : (atV c.r.ch (c.r.ch.links.length : Int)) = (⟨(atV c.r.ch (c.r.ch.links.length : Int)).index, (atV c.r.ch (c.r.ch.links.length : Int)).sum⟩ : HeadT) := rfl
  exact ⟨_, I0, le0, rfl, (by rw [q0]; exact ⟨v0, rfl, ad, ⟨o0, H2⟩⟩), S6.dr1⟩

theorem LCmp_c (q : Value) (p : Value) (c : Cli) (ch : List Value) (h : HeadT) (I : Gh) (R : List HP) (w : World) (S : Sat w I (CliP q p c :: R)) (hh : hedR.r I ch h) : Ret Tryz.prog 19 [q, .agg ch.toArray] w fun v w' => ∃ J : Gh, Gh.le I J ∧ .int .i64 (c.cmpE h.index h.sum) = v ∧ Sat w' J (CliP q p (c.cmpS h.index h.sum) :: R) := by
  obtain ⟨b, wv, rv, pv, rfl, cok, hrv1, Hw, S0⟩ := CliP.opn S
  have lwv := RoB.le Hw S0.le
  have hrk := RplP.sok S0.fr1
  have hcn := cok.num
  have hcc := cok.cnt
  have hcl := cok.lst
  have hcs := cok.sec
  have hp8 := cok.pend8
  have hsr := seen_rng (n := c.who) hrk
  have hrs := cok.r
  have hpn := hrk.num.2.2.2
  obtain ⟨v0, rfl, r0, ⟨o0, H0⟩⟩ := hh
  refine ret_E Tryz.func19 rfl Tryz.ntmps19 (by simp) ?_
  refine g2 ?_
  refine yB (cs := [.int .i64 h.index, v0]) S0 ?_
  intro b0 w0 S1
  refine g4 ?_
  refine yJ 7 (fun w' => Arr w' b 116 [p, .int .i64 c.coll, .int .i64 c.founder, .int .i64 c.who, wv, rv, pv, .int .i64 c.count, .int .i64 c.last, .bool c.alarm] ∧ Arr w' b0 46 [.int .i64 h.index, v0]) S1 ?_
  intro w1 S2
  refine yT 0 S2.le ⟨S2.a1, S2.a0⟩ ?_
  refine yT 1 S2.le ⟨S2.a1, S2.a0⟩ ?_
  refine yT 2 S2.le ⟨S2.a1, S2.a0⟩ ?_
  refine yT 3 S2.le ⟨S2.a1, S2.a0⟩ ?_
  refine yT 5 S2.le ⟨S2.a1, S2.a0⟩ ?_
  refine y1 4 ?_
  refine yR (RpChain_c _ _ _ _ _ _ S2.fr2) ?_
  rintro _ w2 ⟨b1, sv0, cv0, vm0, dv0, rv0, rfl, h0, h1, h2, h3, h4, H1, H2, S3⟩
  refine yn S3.le ⟨S3.a5, S3.a4⟩ ?_
  refine y1 6 ?_
  refine yR (CChk_c _ _ _ [.int .i64 h.index, v0] h _ _ _ S3.fr1 ⟨v0, rfl, ad, ⟨o0, H0⟩⟩) ?_
  rintro _ w3 ⟨I0, le0, rfl, S4⟩
  have S5 : Sat w3 I0 (RplP rv p c.r :: Blk b0 46 [.int .i64 h.index, v0] :: Blk b 116 [p, .int .i64 c.coll, .int .i64 c.founder, .int .i64 c.who, wv, rv, pv, .int .i64 c.count, .int .i64 c.last, .bool c.alarm] :: OwnX 122 waiR pv c.pend :: R) := RplP.clsV h0 (s := c.r) (sv := sv0) (cv := cv0) (vm := vm0) (dv := dv0) (rv := rv0) h1 h2 h3 h4 (H1.up le0) (H2.up le0) S4.fr3.fr3.fr2.fr3
  refine yn (lT le0 S5.le) ⟨S5.a2, S5.a1⟩ ?_
  refine yu le0 ?_
  refine y1 7 ?_
  refine vA (.int .i64 (chkE c.r.ch h.index h.sum)) rfl rfl ?_
  refine ym S5.le ?_
  refine yd ?_
  refine g2 ?_
  rcases Bool.eq_false_or_eq_true c.alarm with hal | hal
  have hS : ({ c with alarm := true } : Cli) = c.cmpS h.index h.sum := by rw [Cli.cmpS, hal]; rfl
  refine g5 ?_
  refine vl _ rfl (dcT (r_loadA rfl (S5.a2) (u := (.bool c.alarm)) rfl U4 rfl) hal) ?_
  refine g6 ?_
  refine yS2 S5 ?_
  intro w4 S6
  refine g9 ?_
  refine f1 Tryz.results19 ?_
  have S7 : Sat _ _ (CliP (ptr b) p ({ c with alarm := true }) :: _) := CliP.cls (c := { c with alarm := true }) (wv := wv) (rv := rv) (pv := pv) cok.alarmed hrv1 (Hw.up le0) S6.fr3.fr1.fr3
  have q0 : { c with alarm := true } = c.cmpS h.index h.sum := hS
  have S8 := Sat.ah0 (CliP (ptr b) p) S7 q0
  exact ⟨I0, le0, rfl, S8.dr1⟩
  have hS : ({ c with alarm := decide (chkE c.r.ch h.index h.sum = 24) } : Cli) = c.cmpS h.index h.sum := by rw [Cli.cmpS, hal]; rfl
  refine g5 ?_
  refine vl _ rfl (dcF (r_loadA rfl (S5.a2) (u := (.bool c.alarm)) rfl U4 rfl) hal) ?_
  refine g6 ?_
  refine yS2 S5 ?_
  intro w5 S9
  refine g9 ?_
  refine f1 Tryz.results19 ?_
  have S10 : Sat _ _ (CliP (ptr b) p ({ c with alarm := decide (chkE c.r.ch h.index h.sum = 24) }) :: _) := CliP.cls (c := { c with alarm := decide (chkE c.r.ch h.index h.sum = 24) }) (wv := wv) (rv := rv) (pv := pv) cok.alarmed hrv1 (Hw.up le0) S9.fr3.fr1.fr3
  have q1 : { c with alarm := decide (chkE c.r.ch h.index h.sum = 24) } = c.cmpS h.index h.sum := hS
  have S11 := Sat.ah0 (CliP (ptr b) p) S10 q1
  exact ⟨I0, le0, rfl, S11.dr1⟩

theorem LAlarm_c (q : Value) (p : Value) (c : Cli) (I : Gh) (R : List HP) (w : World) (S : Sat w I (CliP q p c :: R)) : Ret Tryz.prog 20 [q] w fun v w' => .bool c.alarm = v ∧ Sat w' I (CliP q p c :: R) := by
  obtain ⟨b, wv, rv, pv, rfl, cok, hrv1, Hw, S0⟩ := CliP.opn S
  have lwv := RoB.le Hw S0.le
  have hrk := RplP.sok S0.fr1
  have hcn := cok.num
  have hcc := cok.cnt
  have hcl := cok.lst
  have hcs := cok.sec
  have hp8 := cok.pend8
  have hsr := seen_rng (n := c.who) hrk
  have hrs := cok.r
  have hpn := hrk.num.2.2.2
  refine ret_E Tryz.func20 rfl Tryz.ntmps20 (by simp) ?_
  refine g15 ?_
  refine f1 Tryz.results20 ?_
  have S1 : Sat w I (CliP (ptr b) p c :: R) := CliP.cls (c := c) (wv := wv) (rv := rv) (pv := pv) cok hrv1 Hw S0
  exact ⟨rfl, S1⟩

theorem LRep_c (b : Nat) (p : Value) (wv : Value) (rv : Value) (pv : Value) (c : Cli) (I : Gh) (R : List HP) (w : World) (S : Sat w I (Blk b 116 [p, .int .i64 c.coll, .int .i64 c.founder, .int .i64 c.who, wv, rv, pv, .int .i64 c.count, .int .i64 c.last, .bool c.alarm] :: R)) : Ret Tryz.prog 36 [ptr b] w fun v w' => rv = v ∧ Sat w' I (Blk b 116 [p, .int .i64 c.coll, .int .i64 c.founder, .int .i64 c.who, wv, rv, pv, .int .i64 c.count, .int .i64 c.last, .bool c.alarm] :: R) := by
  refine ret_E Tryz.func36 rfl Tryz.ntmps36 (by simp) ?_
  refine g15 ?_
  refine f1 Tryz.results36 ?_
  exact ⟨rfl, S⟩

theorem LNew_c (p : Value) (L : List Thing) (cx : List Value) (x : WhoT) (I : Gh) (R : List HP) (w : World) (S : Sat w I (Suite p L :: R)) (hx : whoR.r I cx x) (hl : L.length ≤ 600000) (hk : rplOk x.coll x.founder x.who = true) (hsec : x.sec.length ≤ 100000) : Ret Tryz.prog 14 [p, .agg cx.toArray] w fun v w' => ∃ b : Nat, ∃ J : Gh, Gh.le I J ∧ .tuple #[ptr b, .int .i64 0] = v ∧ Sat w' J (CliP (ptr b) p (newC L x.coll x.founder x.who x.sec) :: Suite p ((newR L x.coll x.founder x.who x.sec).1) :: R) := by
  have hp1 := Suite.one S
  obtain ⟨v0, rfl, r0, r1, r2, ⟨o0, H0⟩⟩ := hx
  refine ret_E Tryz.func14 rfl Tryz.ntmps14 (by simp) ?_
  refine g2 ?_
  refine yB (cs := whoRC x v0) S ?_
  intro b0 w0 S0
  refine g8 ?_
  refine yR (RpNewOk_c _ _ (whoRC x v0) x _ _ _ S0.fr1 ⟨v0, rfl, ad, ad, ad, ⟨o0, H0⟩⟩ au au au) ?_
  rintro _ w1 ⟨b1, I0, le0, rfl, S1⟩
  refine g11 ?_
  refine vl (.bool false) rfl (r_dec (by decide) (r_neq rfl rfl)) ?_
  refine g9 ?_
  have S2 := S1.nilB
  refine yP0 elB S2 (H0 _ (lT le0 S2.le)) ?_
  intro v1 w2 S3
  refine g1 ?_
  refine yS3 S3 ?_ (hu := own_one (S3.own 0 rfl))
  intro w3 S4
  refine g7 ?_
  refine vl _ rfl (gB [p, .int .i64 x.coll, .int .i64 x.founder, .int .i64 x.who, v1, ptr b1, .slice none 0 0, .int .i64 0, .int .i64 0, .bool false] st_116 (parts3 rfl rfl rfl) (fill_one rfl (one_cells hp1) (by kernel_rfl) (fill_some (cs := (((whoRC x v0).set 3 v1)).toArray) rfl rfl rfl (Nat.le_of_ble_eq_true (by kernel_rfl)) (fill_one rfl rfl (by kernel_rfl) fill_end)))) ?_
  refine yB (cs := [p, .int .i64 x.coll, .int .i64 x.founder, .int .i64 x.who, v1, ptr b1, .slice none 0 0, .int .i64 0, .int .i64 0, .bool false]) S4 ?_
  intro b2 w4 S5
  refine g5 ?_
  refine f2 Tryz.results14 ?_
  have S6 : Sat _ _ (OwnX 122 waiR (.slice none 0 0) [] :: _) := OwnX.nil S5 122 waiR
  obtain ⟨I1, le1, S7, H1⟩ := S6.fb2
  have hcok : (newC L x.coll x.founder x.who x.sec).ok := newC_ok hk hsec
  have hv0 : (ptr b1).oneCell' = true := rfl
  have S8 : Sat _ _ (CliP (ptr b2) p (newC L x.coll x.founder x.who x.sec) :: _) := CliP.cls (c := newC L x.coll x.founder x.who x.sec) (wv := v1) (rv := (ptr b1)) (pv := .slice none 0 0) hcok hv0 H1 S7.fr2.fr2
  exact ⟨b2, I1, (lT le0 le1), rfl, S8.dr2⟩

end Go.Proofs.YtanpinfhlbbjkaaGreat
