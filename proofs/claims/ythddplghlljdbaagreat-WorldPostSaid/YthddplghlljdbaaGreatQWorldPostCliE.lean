import Derived.Test.YthddplghlljdbaaGreatQWorldPostCliC
set_option linter.unusedVariables false
set_option linter.unusedSimpArgs false
set_option maxRecDepth 100000
set_option maxHeartbeats 4000000
namespace Go.Proofs.YthddplghlljdbaaGreat
open Go.RowKit Go.Ecal
theorem TMake_c (a:Int) (b:Int) (I:Gh) (R:List HP) (w:World) (S:Sat w I (R)) (ha:0≤a∧a≤1099511627776) (hb:0≤b∧b≤1099511627776):Ret Tryz.prog 51 [.int .i64 a,.int .i64 b] w fun v w'=>.tuple #[.complex .f64 (fw a) (fw b),.int .i64 0]=v∧Sat w' I (R):=by
 refine ret_E Tryz.func51 rfl Tryz.ntmps51 (by simp) ?_
 refine g10 ?_
 refine vl _ rfl (dcF (r_lss rfl rfl) (by simp;omega)) ?_
 refine g2 ?_
 refine gl 8 rfl rfl rfl rfl _ rfl (dcF (r_gtr rfl rfl) (by simp;omega)) ?_
 refine g3 ?_
 refine gl 12 rfl rfl rfl rfl _ rfl (dcF (r_lss rfl rfl) (by simp;omega)) ?_
 refine g3 ?_
 refine gl 16 rfl rfl rfl rfl _ rfl (dcF (r_gtr rfl rfl) (by simp;omega)) ?_
 refine g9 ?_
 refine vl (.float .f64 (fw a)) rfl (r_i2f rfl (by rw [U3];rfl) U50) ?_
 refine g1 ?_
 refine vl (.float .f64 (fw b)) rfl (r_i2f rfl (by rw [U3];rfl) U50) (vl (.complex .f64 (fw a) (fw b)) rfl (r_complex rfl rfl) ?_)
 refine g5 ?_
 refine f2 Tryz.results51 ?_
 exact ⟨rfl,S⟩
theorem LTally_c (q:Value) (p:Value) (c:Cli) (I:Gh) (R:List HP) (w:World) (S:Sat w I (CliP q p c::R)):Ret Tryz.prog 34 [q] w fun v w'=>.complex .f64 (fw (c.r.ch.links.length:Int)) (fw (c.pend.length:Int))=v∧Sat w' I (CliP q p c::R):=by
 obtain ⟨b,wv,rv,pv,rfl,cok,hrv1,Hw,S0⟩:=CliP.opn S
 have lwv:=RoB.le Hw S0.le
 have hrk:=RplP.sok S0.fr1
 have hcn:=cok.num
 have hcc:=cok.cnt
 have hcl:=cok.lst
 have hcs:=cok.sec
 have hp8:=cok.pend8
 have hsr:=seen_rng (n:=c.who) hrk
 have hrs:=cok.r
 have hpn:=hrk.num.2.2.2
 have hl64:=hrs.links
 refine ret_E Tryz.func34 rfl Tryz.ntmps34 (by simp) ?_
 refine g6 ?_
 refine yJ 16 (fun w'=>Arr w' b 99 [p,.int .i64 c.coll,.int .i64 c.founder,.int .i64 c.who,wv,rv,pv,.int .i64 c.count,.int .i64 c.last,.bool c.alarm]∧XRow w' pv 10 c.pend.length) S0 ?_
 intro w0 S1
 refine yT 0 S1.le ⟨S1.a0,(OwnX.row S1 2 rfl (by decide)).1⟩ ?_
 refine yT 1 S1.le ⟨S1.a0,(OwnX.row S1 2 rfl (by decide)).1⟩ ?_
 refine yT 2 S1.le ⟨S1.a0,(OwnX.row S1 2 rfl (by decide)).1⟩ ?_
 refine yT 3 S1.le ⟨S1.a0,(OwnX.row S1 2 rfl (by decide)).1⟩ ?_
 refine yT 6 S1.le ⟨S1.a0,(OwnX.row S1 2 rfl (by decide)).1⟩ ?_
 refine yT 7 S1.le ⟨S1.a0,(OwnX.row S1 2 rfl (by decide)).1⟩ ?_
 refine yT 8 S1.le ⟨S1.a0,(OwnX.row S1 2 rfl (by decide)).1⟩ ?_
 refine yT 9 S1.le ⟨S1.a0,(OwnX.row S1 2 rfl (by decide)).1⟩ ?_
 refine jT 10 rfl (by kernel_rfl) (.int .i64 (c.pend.length:Int)) rfl (fun _ hw ht=>r_lenX rfl ht.2 U97) ⟨S1.le,fun h=>⟨S1.a0,(OwnX.row S1 2 rfl (by decide)).1⟩⟩ ?_
 refine y1 4 ?_
 refine yR (RpChain_c _ _ _ _ _ _ S1.fr1) ?_
 rintro _ w1 ⟨b0,sv0,cv0,vm0,dv0,rv0,rfl,h0,h1,h2,h3,h4,H0,H1,S2⟩
 refine yn S2.le ⟨S2.a4,(OwnX.row S2 5 rfl (by decide)).1⟩ ?_
 refine y1 5 ?_
 refine yR (CLen_c _ _ _ _ _ _ S2.fr1) ?_
 rintro _ w2 ⟨rfl,S3⟩
 have S4:Sat w2 I (RplP rv p c.r::Blk b 99 [p,.int .i64 c.coll,.int .i64 c.founder,.int .i64 c.who,wv,rv,pv,.int .i64 c.count,.int .i64 c.last,.bool c.alarm]::OwnX 166 waiR pv c.pend::R):=RplP.clsV h0 (s:=c.r) (sv:=sv0) (cv:=cv0) (vm:=vm0) (dv:=dv0) (rv:=rv0) h1 h2 h3 h4 H0 H1 S3.fr3.fr3.fr2.fr3
 refine yn S4.le ⟨S4.a1,(OwnX.row S4 2 rfl (by decide)).1⟩ ?_
 refine y1 11 ?_
 refine yR (TMake_c (c.r.ch.links.length:Int) (c.pend.length:Int) _ _ _ S4 au au) ?_
 rintro _ w3 ⟨rfl,S5⟩
 refine yn S5.le ⟨S5.a1,(OwnX.row S5 2 rfl (by decide)).1⟩ ?_
 refine yT 12 S5.le ⟨S5.a1,(OwnX.row S5 2 rfl (by decide)).1⟩ ?_
 refine yT 13 S5.le ⟨S5.a1,(OwnX.row S5 2 rfl (by decide)).1⟩ ?_
 refine yT 14 S5.le ⟨S5.a1,(OwnX.row S5 2 rfl (by decide)).1⟩ ?_
 refine yT 15 S5.le ⟨S5.a1,(OwnX.row S5 2 rfl (by decide)).1⟩ ?_
 refine y1 16 ?_
 refine vA (.int .i64 0) rfl rfl ?_
 refine ym S5.le ?_
 refine yd ?_
 refine g8 ?_
 refine f1 Tryz.results34 ?_
 have S6:Sat w3 I (CliP (ptr b) p c::R):=CliP.cls (c:=c) (wv:=wv) (rv:=rv) (pv:=pv) cok hrv1 Hw S5.fr2.fr1.fr2
 exact ⟨rfl,S6⟩
theorem LHead_c (q:Value) (p:Value) (c:Cli) (I:Gh) (R:List HP) (w:World) (S:Sat w I (CliP q p c::R)):Ret Tryz.prog 78 [q] w fun v w'=>∃cr:List Value,∃J:Gh,Gh.le I J∧.agg cr.toArray=v∧hedR.r J cr (atV c.r.ch (c.r.ch.links.length:Int))∧Sat w' J (CliP q p c::R):=by
 obtain ⟨b,wv,rv,pv,rfl,cok,hrv1,Hw,S0⟩:=CliP.opn S
 have lwv:=RoB.le Hw S0.le
 have hrk:=RplP.sok S0.fr1
 have hcn:=cok.num
 have hcc:=cok.cnt
 have hcl:=cok.lst
 have hcs:=cok.sec
 have hp8:=cok.pend8
 have hsr:=seen_rng (n:=c.who) hrk
 have hrs:=cok.r
 have hpn:=hrk.num.2.2.2
 refine ret_E Tryz.func78 rfl Tryz.ntmps78 (by simp) ?_
 refine g2 ?_
 refine yN [.int .i64 0,.slice none 0 0] S0 ?_
 intro b0 w0 S1
 refine g8 ?_
 refine yR (RpChain_c _ _ _ _ _ _ S1.fr2) ?_
 rintro _ w1 ⟨b1,sv0,cv0,vm0,dv0,rv0,rfl,h0,h2,h3,h4,h5,H0,H1,S2⟩
 refine yR (Head_c _ _ _ _ _ _ S2.fr1 hrs.links) ?_
 rintro _ w2 ⟨cs0,I0,le0,rfl,h6,S3⟩
 obtain ⟨v0,rfl,r0,⟨o0,H2⟩⟩:=h6
 have S4:Sat w2 I0 (RplP rv p c.r::Blk b0 170 [.int .i64 0,.slice none 0 0]::Blk b 99 [p,.int .i64 c.coll,.int .i64 c.founder,.int .i64 c.who,wv,rv,pv,.int .i64 c.count,.int .i64 c.last,.bool c.alarm]::OwnX 166 waiR pv c.pend::R):=RplP.clsV h0 (s:=c.r) (sv:=sv0) (cv:=cv0) (vm:=vm0) (dv:=dv0) (rv:=rv0) h2 h3 h4 h5 (H0.up le0) (H1.up le0) S3.fr3.fr3.fr2.fr3
 refine yW1 S4 ?_ (h1:=ones_cons rfl (ones_cons o0 ones_nil))
 intro w3 S5
 refine g3 ?_
 refine f1c Tryz.results78 ?_
 have S6:Sat _ _ (CliP (ptr b) p c::_):=CliP.cls (c:=c) (wv:=wv) (rv:=rv) (pv:=pv) cok hrv1 (Hw.up le0) S5.fr3.fr1.fr3
 have q0:(atV c.r.ch (c.r.ch.links.length:Int))=(⟨(atV c.r.ch (c.r.ch.links.length:Int)).index,(atV c.r.ch (c.r.ch.links.length:Int)).sum⟩:HeadT):=rfl
 exact ⟨_,I0,le0,rfl,(by rw [q0];exact ⟨v0,rfl,ad,⟨o0,H2⟩⟩),S6.dr1⟩
theorem LCmp_c (q:Value) (p:Value) (c:Cli) (ch:List Value) (h:HeadT) (I:Gh) (R:List HP) (w:World) (S:Sat w I (CliP q p c::R)) (hh:hedR.r I ch h):Ret Tryz.prog 77 [q,.agg ch.toArray] w fun v w'=>∃J:Gh,Gh.le I J∧.int .i64 (c.cmpE h.index h.sum)=v∧Sat w' J (CliP q p (c.cmpS h.index h.sum)::R):=by
 obtain ⟨b,wv,rv,pv,rfl,cok,hrv1,Hw,S0⟩:=CliP.opn S
 have lwv:=RoB.le Hw S0.le
 have hrk:=RplP.sok S0.fr1
 have hcn:=cok.num
 have hcc:=cok.cnt
 have hcl:=cok.lst
 have hcs:=cok.sec
 have hp8:=cok.pend8
 have hsr:=seen_rng (n:=c.who) hrk
 have hrs:=cok.r
 have hpn:=hrk.num.2.2.2
 obtain ⟨v0,rfl,r0,⟨o0,H0⟩⟩:=hh
 refine ret_E Tryz.func77 rfl Tryz.ntmps77 (by simp) ?_
 refine g2 ?_
 refine yB (cs:=[.int .i64 h.index,v0]) S0 ?_
 intro b0 w0 S1
 refine g4 ?_
 refine yJ 7 (fun w'=>Arr w' b 99 [p,.int .i64 c.coll,.int .i64 c.founder,.int .i64 c.who,wv,rv,pv,.int .i64 c.count,.int .i64 c.last,.bool c.alarm]∧Arr w' b0 170 [.int .i64 h.index,v0]) S1 ?_
 intro w1 S2
 refine yT 0 S2.le ⟨S2.a1,S2.a0⟩ ?_
 refine yT 1 S2.le ⟨S2.a1,S2.a0⟩ ?_
 refine yT 2 S2.le ⟨S2.a1,S2.a0⟩ ?_
 refine yT 3 S2.le ⟨S2.a1,S2.a0⟩ ?_
 refine yT 5 S2.le ⟨S2.a1,S2.a0⟩ ?_
 refine y1 4 ?_
 refine yR (RpChain_c _ _ _ _ _ _ S2.fr2) ?_
 rintro _ w2 ⟨b1,sv0,cv0,vm0,dv0,rv0,rfl,h0,h1,h2,h3,h4,H1,H2,S3⟩
 refine yn S3.le ⟨S3.a5,S3.a4⟩ ?_
 refine y1 6 ?_
 refine yR (CChk_c _ _ _ [.int .i64 h.index,v0] h _ _ _ S3.fr1 ⟨v0,rfl,ad,⟨o0,H0⟩⟩) ?_
 rintro _ w3 ⟨I0,le0,rfl,S4⟩
 have S5:Sat w3 I0 (RplP rv p c.r::Blk b0 170 [.int .i64 h.index,v0]::Blk b 99 [p,.int .i64 c.coll,.int .i64 c.founder,.int .i64 c.who,wv,rv,pv,.int .i64 c.count,.int .i64 c.last,.bool c.alarm]::OwnX 166 waiR pv c.pend::R):=RplP.clsV h0 (s:=c.r) (sv:=sv0) (cv:=cv0) (vm:=vm0) (dv:=dv0) (rv:=rv0) h1 h2 h3 h4 (H1.up le0) (H2.up le0) S4.fr3.fr3.fr2.fr3
 refine yn (lT le0 S5.le) ⟨S5.a2,S5.a1⟩ ?_
 refine yu le0 ?_
 refine y1 7 ?_
 refine vA (.int .i64 (chkE c.r.ch h.index h.sum)) rfl rfl ?_
 refine ym S5.le ?_
 refine yd ?_
 refine g2 ?_
 rcases Bool.eq_false_or_eq_true c.alarm with hal | hal
 have hS:({ c with alarm:=true }:Cli)=c.cmpS h.index h.sum:=by rw [Cli.cmpS,hal];rfl
 refine g5 ?_
 refine vl _ rfl (dcT (r_loadA rfl (S5.a2) (u:=(.bool c.alarm)) rfl U4 rfl) hal) ?_
 refine g6 ?_
 refine yS2 S5 ?_
 intro w4 S6
 refine g9 ?_
 refine f1 Tryz.results77 ?_
 have S7:Sat _ _ (CliP (ptr b) p ({ c with alarm:=true })::_):=CliP.cls (c:={ c with alarm:=true }) (wv:=wv) (rv:=rv) (pv:=pv) cok.alarmed hrv1 (Hw.up le0) S6.fr3.fr1.fr3
 have q0:{ c with alarm:=true }=c.cmpS h.index h.sum:=hS
 have S8:=Sat.ah0 (CliP (ptr b) p) S7 q0
 exact ⟨I0,le0,rfl,S8.dr1⟩
 have hS:({ c with alarm:=decide (chkE c.r.ch h.index h.sum=24) }:Cli)=c.cmpS h.index h.sum:=by rw [Cli.cmpS,hal];rfl
 refine g5 ?_
 refine vl _ rfl (dcF (r_loadA rfl (S5.a2) (u:=(.bool c.alarm)) rfl U4 rfl) hal) ?_
 refine g6 ?_
 refine yS2 S5 ?_
 intro w5 S9
 refine g9 ?_
 refine f1 Tryz.results77 ?_
 have S10:Sat _ _ (CliP (ptr b) p ({ c with alarm:=decide (chkE c.r.ch h.index h.sum=24) })::_):=CliP.cls (c:={ c with alarm:=decide (chkE c.r.ch h.index h.sum=24) }) (wv:=wv) (rv:=rv) (pv:=pv) cok.alarmed hrv1 (Hw.up le0) S9.fr3.fr1.fr3
 have q1:{ c with alarm:=decide (chkE c.r.ch h.index h.sum=24) }=c.cmpS h.index h.sum:=hS
 have S11:=Sat.ah0 (CliP (ptr b) p) S10 q1
 exact ⟨I0,le0,rfl,S11.dr1⟩
theorem LRep_c (b:Nat) (p:Value) (wv:Value) (rv:Value) (pv:Value) (c:Cli) (I:Gh) (R:List HP) (w:World) (S:Sat w I (Blk b 99 [p,.int .i64 c.coll,.int .i64 c.founder,.int .i64 c.who,wv,rv,pv,.int .i64 c.count,.int .i64 c.last,.bool c.alarm]::R)):Ret Tryz.prog 18 [ptr b] w fun v w'=>rv=v∧Sat w' I (Blk b 99 [p,.int .i64 c.coll,.int .i64 c.founder,.int .i64 c.who,wv,rv,pv,.int .i64 c.count,.int .i64 c.last,.bool c.alarm]::R):=by
 refine ret_E Tryz.func18 rfl Tryz.ntmps18 (by simp) ?_
 refine g15 ?_
 refine f1 Tryz.results18 ?_
 exact ⟨rfl,S⟩
theorem LNew_c (p:Value) (L:List Thing) (cx:List Value) (x:WhoT) (I:Gh) (R:List HP) (w:World) (S:Sat w I (Suite p L::R)) (hx:whoR.r I cx x) (hl:L.length≤600000) (hk:rplOk x.coll x.founder x.who=true) (hsec:x.sec.length≤100000):Ret Tryz.prog 28 [p,.agg cx.toArray] w fun v w'=>∃b:Nat,∃J:Gh,Gh.le I J∧.tuple #[ptr b,.int .i64 0]=v∧Sat w' J (CliP (ptr b) p (newC L x.coll x.founder x.who x.sec)::Suite p ((newR L x.coll x.founder x.who x.sec).1)::R):=by
 have hp1:=Suite.one S
 obtain ⟨v0,rfl,r0,r1,r2,⟨o0,H0⟩⟩:=hx
 refine ret_E Tryz.func28 rfl Tryz.ntmps28 (by simp) ?_
 refine g2 ?_
 refine yB (cs:=whoRC x v0) S ?_
 intro b0 w0 S0
 refine g8 ?_
 refine yR (RpNewOk_c _ _ (whoRC x v0) x _ _ _ S0.fr1 ⟨v0,rfl,ad,ad,ad,⟨o0,H0⟩⟩ au au au) ?_
 rintro _ w1 ⟨b1,I0,le0,rfl,S1⟩
 refine g11 ?_
 refine vl (.bool false) rfl (r_dec (by decide) (r_neq rfl rfl)) ?_
 refine g9 ?_
 have S2:=S1.nilB
 refine yP0 elB S2 (H0 _ (lT le0 S2.le)) ?_
 intro v1 w2 S3
 refine g1 ?_
 refine yS3 S3 ?_ (hu:=own_one (S3.own 0 rfl))
 intro w3 S4
 refine g7 ?_
 refine vl _ rfl (gB [p,.int .i64 x.coll,.int .i64 x.founder,.int .i64 x.who,v1,ptr b1,.slice none 0 0,.int .i64 0,.int .i64 0,.bool false] st_99 (parts3 rfl rfl rfl) (fill_one rfl (one_cells hp1) (by kernel_rfl) (fill_some (cs:=(((whoRC x v0).set 3 v1)).toArray) rfl rfl rfl (Nat.le_of_ble_eq_true (by kernel_rfl)) (fill_one rfl rfl (by kernel_rfl) fill_end)))) ?_
 refine yB (cs:=[p,.int .i64 x.coll,.int .i64 x.founder,.int .i64 x.who,v1,ptr b1,.slice none 0 0,.int .i64 0,.int .i64 0,.bool false]) S4 ?_
 intro b2 w4 S5
 refine g5 ?_
 refine f2 Tryz.results28 ?_
 have S6:Sat _ _ (OwnX 166 waiR (.slice none 0 0) []::_):=OwnX.nil S5 166 waiR
 obtain ⟨I1,le1,S7,H1⟩:=S6.fb2
 have hcok:(newC L x.coll x.founder x.who x.sec).ok:=newC_ok hk hsec
 have hv0:(ptr b1).oneCell'=true:=rfl
 have S8:Sat _ _ (CliP (ptr b2) p (newC L x.coll x.founder x.who x.sec)::_):=CliP.cls (c:=newC L x.coll x.founder x.who x.sec) (wv:=v1) (rv:=(ptr b1)) (pv:=.slice none 0 0) hcok hv0 H1 S7.fr2.fr2
 exact ⟨b2,I1,(lT le0 le1),rfl,S8.dr2⟩
end Go.Proofs.YthddplghlljdbaaGreat

set_option maxRecDepth 100000
set_option maxHeartbeats 4000000
namespace Go.Proofs.YthddplghlljdbaaGreat
open Go.RowKit Go.Ecal
theorem LPush_c (q:Value) (p:Value) (c:Cli) (I:Gh) (R:List HP) (w:World) (S:Sat w I (CliP q p c::R)):Ret Tryz.prog 46 [q] w fun v w'=>∃v1:Value,∃J:Gh,Gh.le I J∧.tuple #[v1,.int .i64 c.pushE]=v∧Sat w' J (OwnX 33 bytesR v1 c.pushR::CliP q p c::R):=by
 obtain ⟨b,wv,rv,pv,rfl,cok,hrv1,Hw,S0⟩:=CliP.opn S
 have lwv:=RoB.le Hw S0.le
 have hrk:=RplP.sok S0.fr1
 have hcn:=cok.num
 have hcc:=cok.cnt
 have hcl:=cok.lst
 have hcs:=cok.sec
 have hp8:=cok.pend8
 have hsr:=seen_rng (n:=c.who) hrk
 have hrs:=cok.r
 have hpn:=hrk.num.2.2.2
 refine ret_E Tryz.func46 rfl Tryz.ntmps46 (by simp) ?_
 refine g15 ?_
 refine EC_cond (t:=c.alarm) rfl (fun h0=>?_) (fun h0=>?_)
 have hal:c.alarm=true:=by simpa using h0
 refine g8 ?_
 refine f2 Tryz.results46 ?_
 have S1:Sat _ _ (OwnX 33 bytesR (.slice none 0 0) []::_):=OwnX.nil S0 33 bytesR
 have q0:[]=c.pushR:=(if_pos hal).symm
 have S2:=S1.ax0 q0
 have S3:Sat _ _ (CliP (ptr b) p c::_):=CliP.cls (c:=c) (wv:=wv) (rv:=rv) (pv:=pv) cok hrv1 Hw S2.fr3.fr3.fr3
 exact ⟨(.slice none 0 0),I,(Gh.le_refl _),(by rw [show c.pushE=_ from if_pos hal]),S3.fr1⟩
 have hal:c.alarm=false:=by simpa using h0
 refine g14 ?_
 have S4:Sat _ _ (OwnX 33 bytesR (.slice none 0 0) []::_):=OwnX.nil S0 33 bytesR
 refine EC_loop (fun m' E' w'=>∃n:Int,∃ov:Value,∃bs:List (List UInt8),∃J:Gh,m'=(8-n).toNat∧E' 5=.int .i64 n∧E' 4=ov∧E' 0=ptr b∧E' 2=.slice none 0 0∧E' 3=.int .i64 0∧(n=0∨(n=8∧0<c.pend.length))∧(bs=if n=0 then [] else [c.pushF.encB])∧(bs.length≤1)∧Gh.le I J∧Sat w' J (OwnX 33 bytesR ov bs::Blk b 99 [p,.int .i64 c.coll,.int .i64 c.founder,.int .i64 c.who,wv,rv,pv,.int .i64 c.count,.int .i64 c.last,.bool c.alarm]::RplP rv p c.r::OwnX 166 waiR pv c.pend::R)) _ ⟨0,.slice none 0 0,[],I,rfl,rfl,rfl,rfl,rfl,rfl,(.inl rfl),rfl,(by simp),(Gh.le_refl _),S4⟩ ?_
 rintro _ E0 w0 ⟨n,ov,bs,I0,rfl,e0,e1,e2,e3,e4,hn,hbs,hbl,le0,S5⟩
 refine g8 ?_
 refine vl _ rfl (r_lenX rfl (OwnX.row S5 3 rfl (by decide)).1 U97) ?_
 refine g3 ?_
 refine EC_if rfl (fun h2=>?_) (fun h2=>?_)
 refine g11 ?_
 refine vl _ rfl (gB [.int .i64 1,.int .i64 c.coll,.int .i64 0,.slice none 0 0,.slice none 0 0] st_164 (parts2 rfl rfl) (fill_one rfl rfl rfl (fill_one rfl rfl rfl fill_end))) ?_
 refine yN frmR0 S5 ?_
 intro b0 w1 S6
 refine yW0 S6 ?_
 intro w2 S7
 refine g4 ?_
 refine EC_quietB (by kernel_rfl) (by kernel_rfl) ?_
 refine g6 ?_
 refine EQ_int (n+8) rfl (fun _ hw=>r_addi rfl rfl (by omega)) ?_
 intro x0 hx44
 refine g4 ?_
 refine EQ_val (.int .i64 (c.pend.length:Int)) rfl (fun _ hw=>r_lenX rfl (XRow.below (OwnX.row S7 4 rfl (by decide)).1 (hp_below hw)) U97) ?_
 refine EQ_int (if (c.pend.length:Int)<x0 then (c.pend.length:Int) else x0) rfl (fun _ hw=>r_min rfl rfl) ?_
 intro x1 hx45
 refine EQ_val pv rfl (fun _ hw=>r_sliceAll rfl (XRow.below (OwnX.row S7 4 rfl (by decide)).1 (hp_below hw)) U97 (by kernel_rfl) rfl rfl (by omega) (by first | omega | (simp only [*];split<;>omega))) (EQ_val (.int .i64 (c.pend.length:Int)) rfl (fun _ hw=>r_lenX rfl (XRow.below (OwnX.row S7 4 rfl (by decide)).1 (hp_below hw)) U97) ?_)
 refine g1 ?_
 refine yE S7 ?_
 intro w3 S8
 refine g2 ?_
 have S9:Sat _ _ (OwnX 33 bytesR (.slice none 0 0) []::_):=OwnX.nil S8 33 bytesR
 have q1:[]=(c.pend.take 0).map WaitT.raw:=by simp
 have S10:=S9.ax0 q1
 refine EC_loop (fun m' E' w'=>∃j:Nat,∃lv:Value,∃J:Gh,m'=c.pend.length-j∧E' 45=.int .i64 (j:Int)∧E' 0=ptr b∧E' 2=.slice none 0 0∧E' 3=.int .i64 0∧E' 4=ov∧E' 5=.int .i64 n∧E' 6=ptr b0∧E' 43=pv∧E' 44=.int .i64 (c.pend.length:Int)∧(j≤c.pend.length)∧Gh.le I0 J∧Sat w' J (Blk b0 164 [.int .i64 1,.int .i64 c.coll,.int .i64 0,lv,.slice none 0 0]::OwnX 33 bytesR lv ((c.pend.take j).map WaitT.raw)::OwnX 33 bytesR ov bs::Blk b 99 [p,.int .i64 c.coll,.int .i64 c.founder,.int .i64 c.who,wv,rv,pv,.int .i64 c.count,.int .i64 c.last,.bool c.alarm]::RplP rv p c.r::OwnX 166 waiR pv c.pend::R)) _ ⟨0,.slice none 0 0,I0,rfl,rfl,(by exact e2),(by exact e3),(by exact e4),(by exact e1),(by exact e0),rfl,rfl,rfl,Nat.zero_le _,(Gh.le_refl _),S10.fr5.fr5.fr5.fr5.fr4.fr5⟩ ?_
 rintro _ E1 w4 ⟨j,lv,I1,rfl,e5,e6,e7,e8,e9,e10,e11,e12,e13,hj,le1,S11⟩
 refine g6 ?_
 refine EC_if rfl (fun h3=>?_) (fun h3=>?_)
 refine g6 ?_
 refine vl (ptr (blkOf pv) (offOf pv+((j:Int):Int).toNat*10)) rfl (r_indexX (by exact e12) (OwnX.row S11 5 rfl (by decide)).1 (by exact e5) (by omega) as' U97 (by kernel_rfl)) ?_
 obtain ⟨a0,ha0⟩:=get_some (l:=c.pend) (j:=((j:Int):Int).toNat) as'
 obtain ⟨cs0,hc0,he0⟩:=(OwnX.row S11 5 rfl (by decide)).2 _ _ ha0
 obtain ⟨v0,v2,v3,v4,rfl,r0,r1,r2,⟨o0,H0⟩,⟨o1,H1⟩,r3,r4,r5,⟨o2,H2⟩,⟨o3,H3⟩⟩:=hc0
 refine vl (.agg ((waiRC a0 v0 v2 v3 v4)).toArray) rfl (r_loadR (cs:=(waiRC a0 v0 v2 v3 v4)) rfl he0 U166 rfl (by kernel_rfl)) ?_
 refine yN waiR0 S11 ?_
 intro b1 w5 S12
 refine yW0 S12 ?_ (h1:=ones_cons rfl (ones_cons rfl (ones_cons rfl (ones_cons o0 (ones_cons o1 (ones_cons rfl (ones_cons rfl (ones_cons rfl (ones_cons o2 (ones_cons o3 ones_nil))))))))))
 intro w6 S13
 refine g7 ?_
 refine EL_lit1 (l:=[(0,v4)]) w6.heap.size [v4] el_52 rfl (by decide) rfl (Nat.le_refl _) (parts1 rfl) (Eq.trans (show Instr.fill _ _ [(0,v4)]=_ from (fill_one rfl (one_cells o3) (by kernel_rfl) fill_end)) (by kernel_rfl)) ?_
 intro v5 w7 O0 B0 k0
 have S14:Sat _ _ (OwnX 33 bytesR v5 [a0.raw]::_):=OwnX.cls (xss:=[[v4]]) (.cons ⟨_,rfl,o3,H3⟩ .nil) (S13.newO B0 O0)
 have oH120:=(OwnX.one S14 0 rfl (by decide))
 obtain ⟨I2,le2,S15,H4⟩:=S14.fx0 (by decide)
 refine EL_appX (z:=(.slice none 0 0)) (bytes:=24) rfl U52 (by kernel_rfl) rfl (by decide) rfl rfl S15.fr2 H4 ac ac ?_
 intro v6 w8 S16
 refine g1 ?_
 refine yS2 S16 ?_ (hu:=OwnX.one S16 0 rfl (by decide))
 intro w9 S17
 refine g4 ?_
 refine EL_int ((j:Int)+1) rfl (r_addi (by exact e5) rfl (by omega)) ?_
 intro x2 hx127
 refine g3 ?_
 have q2:((c.pend.take j).map WaitT.raw)++[a0.raw]=(c.pend.take (j+1)).map WaitT.raw:=by rw [List.take_add_one,(show c.pend[j]?=_ from ha0)];simp
 have S18:=S17.ax0 q2
 refine ⟨_,?_,j+1,v6,I2,rfl,(Eq.trans (show _=Value.int .i64 x2 from rfl) (congrArg _ (by omega))),(by exact e6),(by exact e7),(by exact e8),(by exact e9),(by exact e10),(by exact e11),(by exact e12),(by exact e13),by omega,(lT le1 le2),S18.dr1.fr5.fr5.fr5.fr5.fr4.fr5⟩
 first | omega | (simp;omega)
 refine g6 ?_
 have q3:(c.pend.take j).map WaitT.raw=c.pend.map WaitT.raw:=by rw [List.take_of_length_le (by omega)]
 have S19:=S11.ax1 q3
 skip
 refine g2 ?_
 have oH142:=(OwnX.one S19 1 rfl (by decide))
 obtain ⟨I3,le3,S20,H5⟩:=S19.fx1 (by decide)
 refine yR (FEnc_c [.int .i64 1,.int .i64 c.coll,.int .i64 0,lv,.slice none 0 0] (⟨1,c.coll,0,c.pend.map WaitT.raw,[]⟩:FrameT) _ _ _ S20 ⟨lv,(.slice none 0 0),rfl,(by dsimp only;omega),ad,(by dsimp only;omega),⟨oH142,H5⟩,⟨rfl,Ro.nil⟩⟩) ?_
 rintro _ w10 ⟨v7,I4,le4,rfl,h4,S21⟩
 refine g10 ?_
 obtain ⟨I5,le5,S22,H6⟩:=S21.fb0
 refine EL_lit1 (l:=[(0,v7)]) w10.heap.size [v7] el_52 rfl (by decide) rfl (Nat.le_refl _) (parts1 rfl) (Eq.trans (show Instr.fill _ _ [(0,v7)]=_ from (fill_one rfl (row_cells (H6 _ S22.le)) (by kernel_rfl) fill_end)) (by kernel_rfl)) ?_
 intro v8 w11 O1 B1 k1
 have S23:Sat _ _ (OwnX 33 bytesR v8 [(⟨1,c.coll,0,c.pend.map WaitT.raw,[]⟩:FrameT).encB]::_):=OwnX.cls (xss:=[[v7]]) (.cons ⟨_,rfl,(row_one (H6 _ S22.le)),H6⟩ .nil) (S22.newO B1 O1)
 have oH165:=(OwnX.one S23 0 rfl (by decide))
 obtain ⟨I6,le6,S24,H7⟩:=S23.fx0 (by decide)
 refine EL_appX (z:=(.slice none 0 0)) (bytes:=24) rfl U52 (by kernel_rfl) rfl (by decide) rfl rfl S24.fr1 H7 ac ac ?_
 intro v9 w12 S25
 refine g6 ?_
 refine EL_int (n+8) rfl (r_addi rfl rfl (by omega)) ?_
 intro x3 hx167
 refine g3 ?_
 refine ⟨_,?_,n+8,v9,bs++[(⟨1,c.coll,0,c.pend.map WaitT.raw,[]⟩:FrameT).encB],I6,rfl,(Eq.trans (show _=Value.int .i64 x3 from rfl) (congrArg _ (by omega))),rfl,(by exact e6),(by exact e7),(by exact e8),(.inr (by omega)),(by rw [hbs,if_pos (by omega:n=0),if_neg (by omega:¬n+8=0)];rfl),(by rw [hbs,if_pos (by omega:n=0)];simp),(lT (lT (lT (lT (lT le0 le1) le3) le4) le5) le6),S25.dr1⟩
 first | omega | (simp;omega)
 refine g13 ?_
 refine f2 Tryz.results46 ?_
 have q4:bs=c.pushR:=by rw [Cli.pushR,if_neg (by rw [hal];decide),Cli.pushL,hbs];split<;>split<;>first | rfl | (exfalso;omega)
 have S26:=S5.ax0 q4
 have S27:Sat _ _ (CliP (ptr b) p c::_):=CliP.cls (c:=c) (wv:=wv) (rv:=rv) (pv:=pv) cok hrv1 (Hw.up le0) S26.fr3.fr3.fr3
 exact ⟨ov,I0,le0,(by rw [show c.pushE=_ from if_neg (by rw [hal];decide)]),S27.fr1⟩
end Go.Proofs.YthddplghlljdbaaGreat
