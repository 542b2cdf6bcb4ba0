import Derived.Test.YthddplghlljdbaaGreatQWorldPostCliB
set_option linter.unusedVariables false
set_option linter.unusedSimpArgs false
set_option maxRecDepth 100000
set_option maxHeartbeats 4000000
namespace Go.Proofs.YthddplghlljdbaaGreat
open Go.RowKit Go.Ecal
theorem LSeal_c (q:Value) (p:Value) (c:Cli) (ce:List Value) (e:Entry) (ep:Int) (L:List Thing) (I:Gh) (R:List HP) (w:World) (S:Sat w I (CliP q p c::Suite p L::R)) (he:entR.r I ce e) (hl:L.length≤700000) (h8:c.pend.length<8) (hep:-9223372036854775808≤ep∧ep≤9223372036854775807):Ret Tryz.prog 69 [q,.agg ce.toArray,.int .i64 ep] w fun v w'=>∃J:Gh,Gh.le I J∧.int .i64 (c.sealE ep e)=v∧Sat w' J (CliP q p (c.sealS L ep e)::Suite p (c.sealL L ep e)::R):=by
 obtain ⟨b,wv,rv,pv,rfl,cok,hrv1,Hw,S0⟩:=CliP.opn S
 have lwv:=RoB.le Hw S0.le
 have hrk:=RplP.sok S0.fr1
 have hcn:=cok.num
 have hcc:=cok.cnt
 have hcl:=cok.lst
 have hcs:=cok.sec
 have hp8:=cok.pend8
 have hsr:=seen_rng (n:=c.who) hrk
 have hrs:=cok.r
 have hpn:=hrk.num.2.2.2
 obtain ⟨v0,v1,v2,rfl,r0,r1,r2,⟨o0,H0⟩,⟨o1,H1⟩,r3,r4,r5,⟨o2,H2⟩⟩:=he
 refine ret_E Tryz.func69 rfl Tryz.ntmps69 (by simp) ?_
 refine g2 ?_
 refine yB (cs:=entRC e v0 v1 v2) S0 ?_
 intro b0 w0 S1
 refine g10 ?_
 refine yR (RpKey_c _ _ _ ep _ _ _ S1.fr2) ?_
 rintro _ w1 ⟨v3,rfl,S2⟩
 refine g14 ?_
 refine EC_cond (t:=!(!(keyAt c.r.ks ep).isEmpty)) rfl (fun h0=>?_) (fun h0=>?_)
 have hk1:(c.key ep).isEmpty=true:=by simpa [Cli.key] using h0
 have hE:c.sealE ep e=21:=if_pos hk1
 refine g7 ?_
 refine f1 Tryz.results69 ?_
 have hS:c=c.sealS L ep e:=(if_neg (by rw [hE];decide)).symm
 have S3:Sat _ _ (CliP (ptr b) p c::_):=CliP.cls (c:=c) (wv:=wv) (rv:=rv) (pv:=pv) cok hrv1 Hw S2.fr4.fr2.fr4
 have q0:c=c.sealS L ep e:=hS
 have S4:=Sat.ah0 (CliP (ptr b) p) S3 q0
 have q1:L=c.sealL L ep e:=(if_pos hk1).symm
 have S5:=Sat.ah3 (Suite p) S4 q1
 exact ⟨I,(Gh.le_refl _),(by rw [hE]),S5.dr1.dr1⟩
 have hk1:(c.key ep).isEmpty=false:=by simpa [Cli.key] using h0
 refine g2 ?_
 refine EC_cut (fun E' w'=>∃x4o25_0:Int,∃v4o28_0:Value,∃b4o32_0:Nat,∃J:Gh,E' 0=ptr b∧E' 4=ptr b0∧E' 6=.int .i64 0∧E' 9=ptr b4o32_0∧E' 10=.int .i64 (sealRE (keyAt c.r.ks ep) (⟨c.coll,ep,c.who,x4o25_0,[]⟩:Record) e)∧(x4o25_0=c.count+1)∧(-9223372036854775808≤(sealRR L c.sec (keyAt c.r.ks ep) (⟨c.coll,ep,c.who,x4o25_0,[]⟩:Record) e).coll∧(sealRR L c.sec (keyAt c.r.ks ep) (⟨c.coll,ep,c.who,x4o25_0,[]⟩:Record) e).coll≤9223372036854775807)∧(-9223372036854775808≤(sealRR L c.sec (keyAt c.r.ks ep) (⟨c.coll,ep,c.who,x4o25_0,[]⟩:Record) e).epoch∧(sealRR L c.sec (keyAt c.r.ks ep) (⟨c.coll,ep,c.who,x4o25_0,[]⟩:Record) e).epoch≤9223372036854775807)∧(-9223372036854775808≤(sealRR L c.sec (keyAt c.r.ks ep) (⟨c.coll,ep,c.who,x4o25_0,[]⟩:Record) e).writer∧(sealRR L c.sec (keyAt c.r.ks ep) (⟨c.coll,ep,c.who,x4o25_0,[]⟩:Record) e).writer≤9223372036854775807)∧(-9223372036854775808≤(sealRR L c.sec (keyAt c.r.ks ep) (⟨c.coll,ep,c.who,x4o25_0,[]⟩:Record) e).count∧(sealRR L c.sec (keyAt c.r.ks ep) (⟨c.coll,ep,c.who,x4o25_0,[]⟩:Record) e).count≤9223372036854775807)∧Gh.le I J∧RoB J v3 (keyAt c.r.ks ep)∧RoB J v4o28_0 ((sealRR L c.sec (keyAt c.r.ks ep) (⟨c.coll,ep,c.who,x4o25_0,[]⟩:Record) e).box)∧Sat w' J (Blk b4o32_0 199 (recRC (sealRR L c.sec (keyAt c.r.ks ep) (⟨c.coll,ep,c.who,x4o25_0,[]⟩:Record) e) v4o28_0)::Suite p (sealRL L c.sec (keyAt c.r.ks ep) (⟨c.coll,ep,c.who,x4o25_0,[]⟩:Record) e)::RplP rv p c.r::Blk b0 36 (entRC e v0 v1 v2)::Blk b 99 [p,.int .i64 c.coll,.int .i64 c.founder,.int .i64 c.who,wv,rv,pv,.int .i64 c.count,.int .i64 c.last,.bool c.alarm]::OwnX 166 waiR pv c.pend::R)) ?_ ?_
 refine yJ 33 (fun w'=>Arr w' b 99 [p,.int .i64 c.coll,.int .i64 c.founder,.int .i64 c.who,wv,rv,pv,.int .i64 c.count,.int .i64 c.last,.bool c.alarm]∧Arr w' b0 36 (entRC e v0 v1 v2)) S2 ?_
 intro w2 S6
 refine yT 0 S6.le ⟨S6.a3,S6.a2⟩ ?_
 refine yT 1 S6.le ⟨S6.a3,S6.a2⟩ ?_
 refine yT 2 S6.le ⟨S6.a3,S6.a2⟩ ?_
 refine yT 3 S6.le ⟨S6.a3,S6.a2⟩ ?_
 refine yT 4 S6.le ⟨S6.a3,S6.a2⟩ ?_
 refine yT 5 S6.le ⟨S6.a3,S6.a2⟩ ?_
 refine yT 6 S6.le ⟨S6.a3,S6.a2⟩ ?_
 refine yT 7 S6.le ⟨S6.a3,S6.a2⟩ ?_
 refine yT 8 S6.le ⟨S6.a3,S6.a2⟩ ?_
 refine yT 9 S6.le ⟨S6.a3,S6.a2⟩ ?_
 refine yT 10 S6.le ⟨S6.a3,S6.a2⟩ ?_
 refine yT 11 S6.le ⟨S6.a3,S6.a2⟩ ?_
 refine yT 12 S6.le ⟨S6.a3,S6.a2⟩ ?_
 refine yT 13 S6.le ⟨S6.a3,S6.a2⟩ ?_
 refine yT 14 S6.le ⟨S6.a3,S6.a2⟩ ?_
 refine yT 15 S6.le ⟨S6.a3,S6.a2⟩ ?_
 refine yT 16 S6.le ⟨S6.a3,S6.a2⟩ ?_
 refine yT 17 S6.le ⟨S6.a3,S6.a2⟩ ?_
 refine yT 18 S6.le ⟨S6.a3,S6.a2⟩ ?_
 refine yT 19 S6.le ⟨S6.a3,S6.a2⟩ ?_
 refine yT 20 S6.le ⟨S6.a3,S6.a2⟩ ?_
 refine yT 21 S6.le ⟨S6.a3,S6.a2⟩ ?_
 refine yT 22 S6.le ⟨S6.a3,S6.a2⟩ ?_
 refine yT 23 S6.le ⟨S6.a3,S6.a2⟩ ?_
 refine yT 24 S6.le ⟨S6.a3,S6.a2⟩ ?_
 obtain ⟨x4o25_0,hx4o25_1⟩:∃z:Int,z=c.count+1:=⟨_,rfl⟩
 refine jT 25 rfl (by kernel_rfl) (.int .i64 x4o25_0) rfl (fun _ hw ht=>by rw [hx4o25_1];exact r_addi rfl rfl (by omega)) ⟨S6.le,fun h=>⟨S6.a3,S6.a2⟩⟩ ?_
 refine jT 26 rfl (by kernel_rfl) (.agg ([.int .i64 c.coll,.int .i64 ep,.int .i64 c.who,.int .i64 x4o25_0,.slice none 0 0]).toArray) rfl (fun _ hw ht=>r_buildS (l:=[(0,.int .i64 c.coll),(1,.int .i64 ep),(2,.int .i64 c.who),(3,.int .i64 x4o25_0)]) st_199 (parts4 rfl rfl rfl rfl) (Eq.trans (show Instr.fill _ _ [(0,.int .i64 c.coll),(1,.int .i64 ep),(2,.int .i64 c.who),(3,.int .i64 x4o25_0)]=_ from (fill_one rfl rfl rfl (fill_one rfl rfl rfl (fill_one rfl rfl rfl (fill_one rfl rfl rfl fill_end))))) (by kernel_rfl))) ⟨S6.le,fun h=>⟨S6.a3,S6.a2⟩⟩ ?_
 refine yT 27 S6.le ⟨S6.a3,S6.a2⟩ ?_
 refine EJ_two 28 32 (by kernel_rfl) ⟨_,rfl,?_⟩ ⟨_,rfl,?_⟩
 obtain ⟨I0,le0,S7,H3⟩:=S6.fb0
 refine yR (RSeal_c _ _ _ _ _ _ [.int .i64 c.coll,.int .i64 ep,.int .i64 c.who,.int .i64 x4o25_0,.slice none 0 0] (⟨c.coll,ep,c.who,x4o25_0,[]⟩:Record) (entRC e v0 v1 v2) e _ _ _ S7.fr4 (Hw.up le0) H3 ⟨(.slice none 0 0),rfl,ad,ad,ad,ad,⟨rfl,Ro.nil⟩⟩ ⟨v0,v1,v2,rfl,ad,ad,ad,⟨o0,(H0.up le0)⟩,⟨o1,(H1.up le0)⟩,ad,ad,ad,⟨o2,(H2.up le0)⟩⟩ (by omega) hcs) ?_
 rintro _ w3 ⟨cs4o28_0,I1,le1,rfl,h4o28_0,S8⟩
 obtain ⟨v4o28_0,rfl,r4o28_0,r4o28_1,r4o28_2,r4o28_3,⟨o4o28_0,H4⟩⟩:=h4o28_0
 refine yn (lT (lT le0 le1) S8.le) ⟨S8.a3,S8.a2⟩ ?_
 refine yu (lT le0 le1) ?_
 refine yT 29 S8.le ⟨S8.a3,S8.a2⟩ ?_
 refine yT 30 S8.le ⟨S8.a3,S8.a2⟩ ?_
 refine yF 31 S8.le ⟨S8.a3,S8.a2⟩ ?_
 refine y1 32 ?_
 refine EL_alloc (z:=.agg #[.int .i64 0,.int .i64 0,.int .i64 0,.int .i64 0,.slice none 0 0]) recR0 rfl (by kernel_rfl) rfl ?_
 intro b4o32_0 w4 k0 A0 B0 z0
 have S9:=S8.newB B0 A0 k0
 refine yn S9.le ⟨S9.a4,S9.a3⟩ ?_
 refine y1 33 ?_
 refine yW0 S9 ?_ (h1:=ones_cons rfl (ones_cons rfl (ones_cons rfl (ones_cons rfl (ones_cons o4o28_0 ones_nil)))))
 intro w5 S10
 refine ym S10.le ?_
 refine yf 34 S10.le ?_
 refine yd ?_
 refine g1 ?_
 exact ⟨x4o25_0,v4o28_0,b4o32_0,I1,rfl,rfl,rfl,rfl,rfl,hx4o25_1,r4o28_0,r4o28_1,r4o28_2,r4o28_3,(lT le0 le1),(H3.up le1),H4,S10⟩
 refine EL_alloc (z:=.agg #[.int .i64 0,.int .i64 0,.int .i64 0,.int .i64 0,.slice none 0 0]) recR0 rfl (by kernel_rfl) rfl ?_
 intro b4o32_0 w6 k1 A1 B1 z1
 have S11:=S6.newB B1 A1 k1
 refine yn S11.le ⟨S11.a4,S11.a3⟩ ?_
 refine y1 28 ?_
 obtain ⟨I2,le2,S12,H5⟩:=S11.fb1
 refine yR (RSeal_c _ _ _ _ _ _ [.int .i64 c.coll,.int .i64 ep,.int .i64 c.who,.int .i64 x4o25_0,.slice none 0 0] (⟨c.coll,ep,c.who,x4o25_0,[]⟩:Record) (entRC e v0 v1 v2) e _ _ _ S12.fr5 (Hw.up le2) H5 ⟨(.slice none 0 0),rfl,ad,ad,ad,ad,⟨rfl,Ro.nil⟩⟩ ⟨v0,v1,v2,rfl,ad,ad,ad,⟨o0,(H0.up le2)⟩,⟨o1,(H1.up le2)⟩,ad,ad,ad,⟨o2,(H2.up le2)⟩⟩ (by omega) hcs) ?_
 rintro _ w7 ⟨cs4o28_0,I3,le3,rfl,h4o28_0,S13⟩
 obtain ⟨v4o28_0,rfl,r4o28_0,r4o28_1,r4o28_2,r4o28_3,⟨o4o28_0,H6⟩⟩:=h4o28_0
 refine yn (lT (lT le2 le3) S13.le) ⟨S13.a4,S13.a3⟩ ?_
 refine yu (lT le2 le3) ?_
 refine yT 29 S13.le ⟨S13.a4,S13.a3⟩ ?_
 refine yT 30 S13.le ⟨S13.a4,S13.a3⟩ ?_
 refine yF 31 S13.le ⟨S13.a4,S13.a3⟩ ?_
 refine y1 33 ?_
 refine yW1 S13 ?_ (h1:=ones_cons rfl (ones_cons rfl (ones_cons rfl (ones_cons rfl (ones_cons o4o28_0 ones_nil)))))
 intro w8 S14
 refine ym S14.le ?_
 refine yf 34 S14.le ?_
 refine yd ?_
 refine g1 ?_
 exact ⟨x4o25_0,v4o28_0,b4o32_0,I3,rfl,rfl,rfl,rfl,rfl,hx4o25_1,r4o28_0,r4o28_1,r4o28_2,r4o28_3,(lT le2 le3),(H5.up le3),H6,S14.fr5.fr5.fr5.fr5.fr4.fr5⟩
 rintro E0 w9 ⟨x4o25_0,v4o28_0,b4o32_0,I1,e0,e1,e2,e3,e4,hx4o25_1,r4o28_0,r4o28_1,r4o28_2,r4o28_3,le4,H7,H8,S15⟩
 refine g7 ?_
 have hxc:x4o25_0=c.count+1:=by assumption
 refine EC_if rfl (fun h2=>?_) (fun h2=>?_)
 have hE0:¬sealRE (c.key ep) (c.rec0 ep) e=0:=by have h:=h2;rw [hxc] at h;exact h
 have hE:c.sealE ep e=sealRE (c.key ep) (c.rec0 ep) e:=if_neg (by rw [hk1];decide)
 refine g8 ?_
 refine f1 Tryz.results69 ?_
 have hS:c=c.sealS L ep e:=(if_neg (by rw [hE];exact hE0)).symm
 have S16:Sat _ _ (CliP (ptr b) p c::_):=CliP.cls (c:=c) (wv:=wv) (rv:=rv) (pv:=pv) cok hrv1 (Hw.up le4) S15.fr5.fr3.fr5
 have q2:c=c.sealS L ep e:=hS
 have S17:=Sat.ah0 (CliP (ptr b) p) S16 q2
 have q3:sealRL L c.sec (keyAt c.r.ks ep) (⟨c.coll,ep,c.who,x4o25_0,[]⟩:Record) e=c.sealL L ep e:=by rw [Cli.sealL,if_neg (by rw [hk1];decide),hxc];rfl
 have S18:=Sat.ah2 (Suite p) S17 q3
 exact ⟨I1,le4,(by rw [hE,hxc];rfl),S18.dr1.dr2⟩
 have hE0:sealRE (c.key ep) (c.rec0 ep) e=0:=by have h:=Classical.byContradiction h2;rw [hxc] at h;exact h
 have hE:c.sealE ep e=0:=(if_neg (by rw [hk1];decide)).trans hE0
 refine g5 ?_
 refine yR (REnc_c (recRC (sealRR L c.sec (keyAt c.r.ks ep) (⟨c.coll,ep,c.who,x4o25_0,[]⟩:Record) e) v4o28_0) (sealRR L c.sec (keyAt c.r.ks ep) (⟨c.coll,ep,c.who,x4o25_0,[]⟩:Record) e) _ _ _ S15 ⟨v4o28_0,rfl,ad,ad,ad,ad,⟨(row_one (H8 _ S15.le)),H8⟩⟩) ?_
 rintro _ w10 ⟨v4,I4,le5,rfl,S19⟩
 refine g13 ?_
 refine EL_int (c.count+1) rfl (r_addi rfl rfl (by omega)) ?_
 intro x0 hx126
 refine g2 ?_
 refine yS5 S19 ?_
 intro w11 S20
 refine g9 ?_
 refine yS5 S20 ?_
 intro w12 S21
 refine g3 ?_
 refine yJ 12 (fun w'=>Arr w' b 99 [p,.int .i64 c.coll,.int .i64 c.founder,.int .i64 c.who,wv,rv,pv,.int .i64 x0,.int .i64 e.seq,.bool c.alarm]∧Arr w' b0 36 (entRC e v0 v1 v2)) S21 ?_
 intro w13 S22
 refine yT 0 S22.le ⟨S22.a5,S22.a4⟩ ?_
 refine yT 1 S22.le ⟨S22.a5,S22.a4⟩ ?_
 refine yT 2 S22.le ⟨S22.a5,S22.a4⟩ ?_
 refine yT 3 S22.le ⟨S22.a5,S22.a4⟩ ?_
 refine yT 4 S22.le ⟨S22.a5,S22.a4⟩ ?_
 refine yT 5 S22.le ⟨S22.a5,S22.a4⟩ ?_
 refine yT 6 S22.le ⟨S22.a5,S22.a4⟩ ?_
 refine jT 7 rfl (by kernel_rfl) (.agg ([.int .i64 e.kind,.int .i64 e.writer,.int .i64 e.seq,v0,v1,.int .i64 e.who,.int .i64 e.rights,.int .i64 e.epoch,v2,v4]).toArray) rfl (fun _ hw ht=>r_buildS (l:=[(0,.agg ((entRC e v0 v1 v2)).toArray),(1,v4)]) st_166 (parts2 rfl rfl) (Eq.trans (show Instr.fill _ _ [(0,.agg ((entRC e v0 v1 v2)).toArray),(1,v4)]=_ from (fill_some (cs:=((entRC e v0 v1 v2)).toArray) rfl rfl rfl (Nat.le_of_ble_eq_true (by kernel_rfl)) (fill_one rfl (one_cells (own_one (S22.own 0 rfl))) (by kernel_rfl) fill_end))) (by kernel_rfl))) ⟨S22.le,fun h=>⟨S22.a5,S22.a4⟩⟩ ?_
 refine y1 8 ?_
 obtain ⟨I5,le6,S23,H9⟩:=S22.fb0
 refine EL_litW (z:=#[.int .i64 0,.int .i64 0,.int .i64 0,.slice none 0 0,.slice none 0 0,.int .i64 0,.int .i64 0,.int .i64 0,.slice none 0 0,.slice none 0 0]) (cs:=([.int .i64 e.kind,.int .i64 e.writer,.int .i64 e.seq,v0,v1,.int .i64 e.who,.int .i64 e.rights,.int .i64 e.epoch,v2,v4]).toArray) (sz:=10) (l:=[(0,.agg ([.int .i64 e.kind,.int .i64 e.writer,.int .i64 e.seq,v0,v1,.int .i64 e.who,.int .i64 e.rights,.int .i64 e.epoch,v2,v4]).toArray)]) rfl U97 (by kernel_rfl) (parts1 rfl) (by kernel_rfl) rfl (by decide) ?_
 intro v5 w14 O0 B2 k2
 have S24:Sat _ _ (OwnX 166 waiR v5 [(⟨⟨e.kind,e.writer,e.seq,e.name,e.value,e.who,e.rights,e.epoch,e.wraps⟩,(sealRR L c.sec (keyAt c.r.ks ep) (⟨c.coll,ep,c.who,x4o25_0,[]⟩:Record) e).encB⟩:WaitT)]::_):=OwnX.cls (xss:=[[.int .i64 e.kind,.int .i64 e.writer,.int .i64 e.seq,v0,v1,.int .i64 e.who,.int .i64 e.rights,.int .i64 e.epoch,v2,v4]]) (.cons ⟨v0,v1,v2,v4,rfl,ad,ad,ad,⟨o0,(H0.up (lT (lT le4 le5) le6))⟩,⟨o1,(H1.up (lT (lT le4 le5) le6))⟩,ad,ad,ad,⟨o2,(H2.up (lT (lT le4 le5) le6))⟩,⟨(row_one (H9 _ S23.le)),H9⟩⟩ .nil) (S23.newO B2 O0)
 refine yn (lT le6 S24.le) ⟨S24.a5,S24.a4⟩ ?_
 refine yu le6 ?_
 refine y1 9 ?_
 have oH156:=(OwnX.one S24 0 rfl (by decide))
 obtain ⟨I6,le7,S25,H10⟩:=S24.fx0 (by decide)
 refine EL_appX (z:=(.agg #[.int .i64 0,.int .i64 0,.int .i64 0,.slice none 0 0,.slice none 0 0,.int .i64 0,.int .i64 0,.int .i64 0,.slice none 0 0,.slice none 0 0])) (bytes:=144) rfl U97 (by kernel_rfl) rfl (by decide) rfl rfl S25.fr5 H10 ac ac ?_
 intro v6 w15 S26
 refine yn (lT le7 S26.le) ⟨S26.a5,S26.a4⟩ ?_
 refine yu le7 ?_
 refine yT 10 S26.le ⟨S26.a5,S26.a4⟩ ?_
 refine yT 11 S26.le ⟨S26.a5,S26.a4⟩ ?_
 refine y1 12 ?_
 refine yS5 S26 ?_ (hu:=OwnX.one S26 0 rfl (by decide))
 intro w16 S27
 refine ym S27.le ?_
 refine yd ?_
 refine g7 ?_
 refine f1 Tryz.results69 ?_
 have S28:=S27
 rw [show x0=c.count+1 from by assumption] at S28
 have q4:c.pend++[(⟨⟨e.kind,e.writer,e.seq,e.name,e.value,e.who,e.rights,e.epoch,e.wraps⟩,(sealRR L c.sec (keyAt c.r.ks ep) (⟨c.coll,ep,c.who,x4o25_0,[]⟩:Record) e).encB⟩:WaitT)]=(c.waits L ep e).pend:=by rw [hxc];rfl
 have S29:=S28.ax0 q4
 have q5:sealRL L c.sec (keyAt c.r.ks ep) (⟨c.coll,ep,c.who,x4o25_0,[]⟩:Record) e=c.sealL L ep e:=by rw [Cli.sealL,if_neg (by rw [hk1];decide),hxc];rfl
 have S30:=Sat.ah2 (Suite p) S29 q5
 have hS:c.waits L ep e=c.sealS L ep e:=(if_pos hE).symm
 have S31:Sat _ _ (CliP (ptr b) p (c.waits L ep e)::_):=CliP.cls (c:=c.waits L ep e) (wv:=wv) (rv:=rv) (pv:=v6) (cok.waits h8 hE0) hrv1 (Hw.up (lT (lT (lT le4 le5) le6) le7)) S30.fr3.fr5
 have q6:c.waits L ep e=c.sealS L ep e:=hS
 have S32:=Sat.ah0 (CliP (ptr b) p) S31 q6
 exact ⟨I6,(lT (lT (lT le4 le5) le6) le7),(by rw [hE]),S32.dr1.dr2⟩
theorem CChk_c (q:Value) (p:Value) (c:Chn) (ch:List Value) (h:HeadT) (I:Gh) (R:List HP) (w:World) (S:Sat w I (ChainP q p c::R)) (hh:hedR.r I ch h):Ret Tryz.prog 111 [q,.agg ch.toArray] w fun v w'=>∃J:Gh,Gh.le I J∧.int .i64 (chkE c h.index h.sum)=v∧Sat w' J (ChainP q p c::R):=by
 obtain ⟨v0,rfl,r0,⟨o0,H0⟩⟩:=hh
 refine ret_E Tryz.func111 rfl Tryz.ntmps111 (by simp) ?_
 refine g2 ?_
 refine yB (cs:=[.int .i64 h.index,v0]) S ?_
 intro b0 w0 S0
 refine g11 ?_
 refine EC_if rfl (fun h0=>?_) (fun h0=>?_)
 have hi:h.index<0:=by simpa using h0
 refine g7 ?_
 refine f1 Tryz.results111 ?_
 exact ⟨I,(Gh.le_refl _),(by rw [chkE,if_pos hi]),S0.dr0⟩
 have hi:¬h.index<0:=by simpa using h0
 refine g7 ?_
 refine yR (At_c _ _ _ h.index _ _ _ S0.fr1) ?_
 rintro _ w1 ⟨cs0,I0,le0,rfl,h2,S1⟩
 obtain ⟨v1,rfl,r1,⟨o1,H1⟩⟩:=h2
 refine g3 ?_
 refine yN [.int .i64 0,.slice none 0 0] S1 ?_
 intro b1 w2 S2
 refine yW0 S2 ?_ (h1:=ones_cons rfl (ones_cons o1 ones_nil))
 intro w3 S3
 refine g12 ?_
 refine EC_cond (t:=!(atOk c h.index)) rfl (fun h3=>?_) (fun h3=>?_)
 have hat:atOk c h.index=false:=by simpa using h3
 refine g8 ?_
 refine f1 Tryz.results111 ?_
 exact ⟨I0,le0,(by rw [chkE,if_neg hi,if_pos hat]),S3.dr0.dr1⟩
 have hat:atOk c h.index=true:=by simpa using h3
 refine g6 ?_
 refine yR (Equal_c _ _ _ _ _ _ _ S3 H1 (H0.up le0)) ?_
 rintro _ w4 ⟨rfl,S4⟩
 refine g4 ?_
 refine EC_cond (t:=!(decide (((atV c h.index).sum)=h.sum))) rfl (fun h4=>?_) (fun h4=>?_)
 have hsm:¬(atV c h.index).sum=h.sum:=by simpa using h4
 refine g8 ?_
 refine f1 Tryz.results111 ?_
 exact ⟨I0,le0,(by rw [chkE,if_neg hi,if_neg (by rw [hat];decide),if_neg hsm]),S4.dr0.dr1⟩
 have hsm:(atV c h.index).sum=h.sum:=by simpa using h4
 refine g9 ?_
 refine f1 Tryz.results111 ?_
 exact ⟨I0,le0,(by rw [chkE,if_neg hi,if_neg (by rw [hat];decide),if_pos hsm]),S4.dr0.dr1⟩
theorem LIssue_c (q:Value) (p:Value) (c:Cli) (ce:List Value) (e:Entry) (L:List Thing) (I:Gh) (R:List HP) (w:World) (S:Sat w I (CliP q p c::Suite p L::R)) (he:entR.r I ce e) (hl:L.length≤700000):Ret Tryz.prog 44 [q,.agg ce.toArray] w fun v w'=>∃J:Gh,Gh.le I J∧.int .i64 (c.issueE e)=v∧Sat w' J (CliP q p (c.issueS L e)::Suite p (c.issueL L e)::R):=by
 obtain ⟨b,wv,rv,pv,rfl,cok,hrv1,Hw,S0⟩:=CliP.opn S
 have lwv:=RoB.le Hw S0.le
 have hrk:=RplP.sok S0.fr1
 have hcn:=cok.num
 have hcc:=cok.cnt
 have hcl:=cok.lst
 have hcs:=cok.sec
 have hp8:=cok.pend8
 have hsr:=seen_rng (n:=c.who) hrk
 have hrs:=cok.r
 have hpn:=hrk.num.2.2.2
 have hsq:=Cli.seq_rng cok hrk
 obtain ⟨v0,v1,v2,rfl,r0,r1,r2,⟨o0,H0⟩,⟨o1,H1⟩,r3,r4,r5,⟨o2,H2⟩⟩:=he
 refine ret_E Tryz.func44 rfl Tryz.ntmps44 (by simp) ?_
 refine g2 ?_
 refine yB (cs:=entRC e v0 v1 v2) S0 ?_
 intro b0 w0 S1
 refine g4 ?_
 refine yJ 10 (fun w'=>Arr w' b 99 [p,.int .i64 c.coll,.int .i64 c.founder,.int .i64 c.who,wv,rv,pv,.int .i64 c.count,.int .i64 c.last,.bool c.alarm]) S1 ?_
 intro w1 S2
 refine yT 0 S2.le (S2.a1) ?_
 refine yT 1 S2.le (S2.a1) ?_
 refine yT 2 S2.le (S2.a1) ?_
 refine yT 3 S2.le (S2.a1) ?_
 refine yT 4 S2.le (S2.a1) ?_
 refine yT 5 S2.le (S2.a1) ?_
 refine yT 7 S2.le (S2.a1) ?_
 refine y1 6 ?_
 refine yR (LSeq_c _ _ _ _ _ c _ _ _ S2.fr2.fr2 au au) ?_
 rintro _ w2 ⟨rfl,S3⟩
 refine yn S3.le (S3.a0) ?_
 refine y1 8 ?_
 refine yS2 S3 ?_
 intro w3 S4
 refine yn S4.le (S4.a0) ?_
 refine yT 9 S4.le (S4.a0) ?_
 refine y1 10 ?_
 refine yS2 S4 ?_
 intro w4 S5
 refine ym S5.le ?_
 refine yd ?_
 refine g4 ?_
 have S6:Sat _ _ (CliP (ptr b) p c::_):=CliP.cls (c:=c) (wv:=wv) (rv:=rv) (pv:=pv) cok hrv1 Hw S5.fr3.fr2.fr2
 refine yR (LSee_c _ _ _ _ _ _ S6) ?_
 rintro _ w5 ⟨cs0,q0,I0,le0,rfl,h0,S7⟩
 obtain ⟨v3,rfl,r6,r7,⟨o3,H3⟩⟩:=h0
 have S8:=S7.fr1
 obtain ⟨bb67,wv67,rv67,pv67,hq67,cok67,hrv67,Hw67,So67⟩:=CliP.opn S8
 obtain rfl:b=bb67:=by injection hq67 with hq;injection hq with hq;injection hq
 have lwv67:=RoB.le Hw67 So67.le
 refine g3 ?_
 refine EL_alloc (z:=.agg #[.int .i64 0,.int .i64 0,.slice none 0 0]) polR0 rfl (by kernel_rfl) rfl ?_
 intro b1 w6 k0 A0 B0 z0
 have S9:=So67.newB B0 A0 k0
 refine yW0 S9 ?_ (h1:=ones_cons rfl (ones_cons rfl (ones_cons o3 ones_nil)))
 intro w7 S10
 refine g7 ?_
 refine yR (May_c (polRC c.view.1 v3) c.view.1 (((entRC e v0 v1 v2).set 1 (.int .i64 c.who)).set 2 (.int .i64 c.seq)) (⟨e.kind,c.who,c.seq,e.name,e.value,e.who,e.rights,e.epoch,e.wraps⟩:Entry) _ _ _ S10 ⟨v3,rfl,ad,ad,⟨o3,H3⟩⟩ ⟨v0,v1,v2,rfl,ad,ad,ad,⟨o0,(H0.up le0)⟩,⟨o1,(H1.up le0)⟩,ad,ad,ad,⟨o2,(H2.up le0)⟩⟩) ?_
 rintro _ w8 ⟨I1,le1,rfl,S11⟩
 refine g14 ?_
 refine EC_cond (t:=c.alarm) rfl (fun h2=>?_) (fun h2=>?_)
 have hal:c.alarm=true:=by simpa using h2
 refine g8 ?_
 refine f1 Tryz.results44 ?_
 have hB:c.bars e=42:=by rw [Cli.bars,if_pos hal]
 have S12:Sat _ _ (CliP (ptr b) p c::_):=CliP.cls (c:=c) (wv:=wv67) (rv:=rv67) (pv:=pv67) cok hrv67 (Hw67.up le1) S11.fr3.fr3.fr3
 have q1:c=c.issueS L e:=(if_neg (by rw [hB];decide)).symm
 have S13:=Sat.ah0 (CliP (ptr b) p) S12 q1
 have q2:L=c.issueL L e:=(if_neg (by rw [hB];decide)).symm
 have S14:=Sat.ah4 (Suite p) S13 q2
 exact ⟨I1,(lT le0 le1),(by rw [show c.issueE e=c.bars e from if_neg (by rw [hB];decide),hB]),S14.dr1.dr1.dr1⟩
 have hal:c.alarm=false:=by simpa using h2
 refine g7 ?_
 refine EC_if rfl (fun h3=>?_) (fun h3=>?_)
 have hm1:c.view.1.mayE (c.own e)=10:=h3
 refine g9 ?_
 refine f1 Tryz.results44 ?_
 have hB:c.bars e=10:=by rw [Cli.bars,if_neg (by rw [hal];decide),if_pos hm1]
 have S15:Sat _ _ (CliP (ptr b) p c::_):=CliP.cls (c:=c) (wv:=wv67) (rv:=rv67) (pv:=pv67) cok hrv67 (Hw67.up le1) S11.fr3.fr3.fr3
 have q3:c=c.issueS L e:=(if_neg (by rw [hB];decide)).symm
 have S16:=Sat.ah0 (CliP (ptr b) p) S15 q3
 have q4:L=c.issueL L e:=(if_neg (by rw [hB];decide)).symm
 have S17:=Sat.ah4 (Suite p) S16 q4
 exact ⟨I1,(lT le0 le1),(by rw [show c.issueE e=c.bars e from if_neg (by rw [hB];decide),hB];exact congrArg (Value.int .i64) hm1.symm),S17.dr1.dr1.dr1⟩
 have hm1:¬c.view.1.mayE (c.own e)=10:=h3
 refine g8 ?_
 refine EC_if rfl (fun h4=>?_) (fun h4=>?_)
 have hk5:e.kind=5:=h4
 refine g8 ?_
 refine f1 Tryz.results44 ?_
 have hB:c.bars e=13:=by rw [Cli.bars,if_neg (by rw [hal];decide),if_neg hm1,if_pos hk5]
 have S18:Sat _ _ (CliP (ptr b) p c::_):=CliP.cls (c:=c) (wv:=wv67) (rv:=rv67) (pv:=pv67) cok hrv67 (Hw67.up le1) S11.fr3.fr3.fr3
 have q5:c=c.issueS L e:=(if_neg (by rw [hB];decide)).symm
 have S19:=Sat.ah0 (CliP (ptr b) p) S18 q5
 have q6:L=c.issueL L e:=(if_neg (by rw [hB];decide)).symm
 have S20:=Sat.ah4 (Suite p) S19 q6
 exact ⟨I1,(lT le0 le1),(by rw [show c.issueE e=c.bars e from if_neg (by rw [hB];decide),hB]),S20.dr1.dr1.dr1⟩
 have hk5:¬e.kind=5:=h4
 refine g6 ?_
 refine vl _ rfl (r_lenX rfl (OwnX.row S11 3 rfl (by decide)).1 U97) ?_
 refine g4 ?_
 refine EC_if rfl (fun h5=>?_) (fun h5=>?_)
 have hp1:(c.pend.length:Int)=8:=h5
 refine g8 ?_
 refine f1 Tryz.results44 ?_
 have hB:c.bars e=33:=by rw [Cli.bars,if_neg (by rw [hal];decide),if_neg hm1,if_neg hk5,if_pos hp1]
 have S21:Sat _ _ (CliP (ptr b) p c::_):=CliP.cls (c:=c) (wv:=wv67) (rv:=rv67) (pv:=pv67) cok hrv67 (Hw67.up le1) S11.fr3.fr3.fr3
 have q7:c=c.issueS L e:=(if_neg (by rw [hB];decide)).symm
 have S22:=Sat.ah0 (CliP (ptr b) p) S21 q7
 have q8:L=c.issueL L e:=(if_neg (by rw [hB];decide)).symm
 have S23:=Sat.ah4 (Suite p) S22 q8
 exact ⟨I1,(lT le0 le1),(by rw [show c.issueE e=c.bars e from if_neg (by rw [hB];decide),hB]),S23.dr1.dr1.dr1⟩
 have hp1:¬(c.pend.length:Int)=8:=h5
 refine g7 ?_
 refine EC_if rfl (fun h6=>?_) (fun h6=>?_)
 have hm0:¬c.view.1.mayE (c.own e)=0:=h6
 refine g9 ?_
 refine f1 Tryz.results44 ?_
 have hB:c.bars e=c.view.1.mayE (c.own e):=by rw [Cli.bars,if_neg (by rw [hal];decide),if_neg hm1,if_neg hk5,if_neg hp1]
 have S24:Sat _ _ (CliP (ptr b) p c::_):=CliP.cls (c:=c) (wv:=wv67) (rv:=rv67) (pv:=pv67) cok hrv67 (Hw67.up le1) S11.fr3.fr3.fr3
 have q9:c=c.issueS L e:=(if_neg (by rw [hB];exact hm0)).symm
 have S25:=Sat.ah0 (CliP (ptr b) p) S24 q9
 have q10:L=c.issueL L e:=(if_neg (by rw [hB];exact hm0)).symm
 have S26:=Sat.ah4 (Suite p) S25 q10
 exact ⟨I1,(lT le0 le1),(by rw [show c.issueE e=c.bars e from if_neg (by rw [hB];exact hm0),hB];rfl),S26.dr1.dr1.dr1⟩
 have hm0:c.view.1.mayE (c.own e)=0:=Classical.byContradiction h6
 refine g6 ?_
 refine yR (Encode_c (((entRC e v0 v1 v2).set 1 (.int .i64 c.who)).set 2 (.int .i64 c.seq)) (⟨e.kind,c.who,c.seq,e.name,e.value,e.who,e.rights,e.epoch,e.wraps⟩:Entry) _ _ _ S11 ⟨v0,v1,v2,rfl,ad,ad,ad,⟨o0,(H0.up (lT le0 le1))⟩,⟨o1,(H1.up (lT le0 le1))⟩,ad,ad,ad,⟨o2,(H2.up (lT le0 le1))⟩⟩) ?_
 rintro _ w9 ⟨v4,I2,le2,rfl,S27⟩
 have hB:c.bars e=0:=by rw [Cli.bars,if_neg (by rw [hal];decide),if_neg hm1,if_neg hk5,if_neg hp1];exact hm0
 have hrw:=(may_0 hm0).2
 have hel:=encB_len hrw
 have hvn:0≤c.view.1.epoch∧c.view.1.epoch≤16:=(view_num (l:=c.pendE) (x:=(c.r.pol,c.r.docs)) hpn).2
 refine g10 ?_
 obtain ⟨I3,le3,S28,H4⟩:=S27.fb0
 refine yR (Decode_c _ _ _ _ _ S28 H4 (Nat.le_trans hel.2 (by decide))) ?_
 rintro _ w10 ⟨cs1,I4,le4,rfl,h7,S29⟩
 obtain ⟨v5,v6,v7,rfl,r8,r9,r10,⟨o4,H5⟩,⟨o5,H6⟩,r11,r12,r13,⟨o6,H7⟩⟩:=h7
 refine g3 ?_
 refine yW5 S29 ?_ (h1:=ones_cons rfl (ones_cons rfl (ones_cons rfl (ones_cons o4 (ones_cons o5 (ones_cons rfl (ones_cons rfl (ones_cons rfl (ones_cons o6 ones_nil)))))))))
 intro w11 S30
 refine g8 ?_
 have S31:Sat _ _ (CliP (ptr b) p c::_):=CliP.cls (c:=c) (wv:=wv67) (rv:=rv67) (pv:=pv67) cok67 hrv67 (Hw67.up (lT (lT (lT le1 le2) le3) le4)) S30.fr3.fr3.fr3
 refine yR (LSeal_c _ _ _ ((((entRC e v0 v1 v2).set 1 (.int .i64 c.who)).set 2 (.int .i64 c.seq)).take 0++(entRC (decV ((⟨e.kind,c.who,c.seq,e.name,e.value,e.who,e.rights,e.epoch,e.wraps⟩:Entry).encB)) v5 v6 v7)++(((entRC e v0 v1 v2).set 1 (.int .i64 c.who)).set 2 (.int .i64 c.seq)).drop (0+9)) (decV ((⟨e.kind,c.who,c.seq,e.name,e.value,e.who,e.rights,e.epoch,e.wraps⟩:Entry).encB)) c.view.1.epoch _ _ _ _ S31.fr4.fr1 ⟨v5,v6,v7,rfl,ad,ad,ad,⟨o4,H5⟩,⟨o5,H6⟩,ad,ad,ad,⟨o6,H7⟩⟩ au (by omega) (by omega)) ?_
 rintro _ w12 ⟨I5,le5,rfl,S32⟩
 refine g4 ?_
 refine f1 Tryz.results44 ?_
 have q11:c.sealS L c.view.1.epoch (decV ((⟨e.kind,c.who,c.seq,e.name,e.value,e.who,e.rights,e.epoch,e.wraps⟩:Entry).encB))=c.issueS L e:=(by rw [Cli.issueS,if_pos hB];exact congrArg (c.sealS L _) (dec_enc hrw).2)
 have S33:=Sat.ah0 (CliP (ptr b) p) S32 q11
 have q12:c.sealL L c.view.1.epoch (decV ((⟨e.kind,c.who,c.seq,e.name,e.value,e.who,e.rights,e.epoch,e.wraps⟩:Entry).encB))=c.issueL L e:=(by rw [Cli.issueL,if_pos hB];exact congrArg (c.sealL L _) (dec_enc hrw).2)
 have S34:=Sat.ah1 (Suite p) S33 q12
 exact ⟨I5,(lT (lT (lT (lT (lT le0 le1) le2) le3) le4) le5),(congrArg (Value.int .i64) (by rw [Cli.issueE,if_pos hB];exact congrArg (c.sealE _) (dec_enc hrw).2.symm)),S34.dr2.dr2.dr2⟩
end Go.Proofs.YthddplghlljdbaaGreat
