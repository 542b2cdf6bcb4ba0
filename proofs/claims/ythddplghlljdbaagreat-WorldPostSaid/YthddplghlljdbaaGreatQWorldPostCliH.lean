import Derived.Test.YthddplghlljdbaaGreatQWorldPostCliF
set_option linter.unusedVariables false
set_option linter.unusedSimpArgs false
set_option maxRecDepth 100000
set_option maxHeartbeats 4000000
namespace Go.Proofs.YthddplghlljdbaaGreat
open Go.RowKit Go.Ecal
theorem LPull_c (q:Value) (p:Value) (c:Cli) (I:Gh) (R:List HP) (w:World) (S:Sat w I (CliP q p c::R)):Ret Tryz.prog 48 [q] w fun v w'=>∃v1:Value,∃J:Gh,Gh.le I J∧.tuple #[v1,.int .i64 c.pullE]=v∧Sat w' J (OwnB v1 c.pullB::CliP q p c::R):=by
 obtain ⟨b,wv,rv,pv,rfl,cok,hrv1,Hw,S0⟩:=CliP.opn S
 have lwv:=RoB.le Hw S0.le
 have hrk:=RplP.sok S0.fr1
 have hcn:=cok.num
 have hcc:=cok.cnt
 have hcl:=cok.lst
 have hcs:=cok.sec
 have hp8:=cok.pend8
 have hsr:=seen_rng (n:=c.who) hrk
 have hrs:=cok.r
 have hpn:=hrk.num.2.2.2
 have hl64:=hrs.links
 refine ret_E Tryz.func48 rfl Tryz.ntmps48 (by simp) ?_
 refine g15 ?_
 refine EC_cond (t:=c.alarm) rfl (fun h0=>?_) (fun h0=>?_)
 have hal:c.alarm=true:=by simpa using h0
 refine g8 ?_
 refine f2 Tryz.results48 ?_
 have S1:Sat w I (CliP (ptr b) p c::R):=CliP.cls (c:=c) (wv:=wv) (rv:=rv) (pv:=pv) cok hrv1 Hw S0
 rw [show c.pullB=[] from if_pos hal]
 have S2:=S1.nilB
 exact ⟨(.slice none 0 0),I,(Gh.le_refl _),(by rw [show c.pullE=42 from if_pos hal]),S2⟩
 have hal:c.alarm=false:=by simpa using h0
 refine g3 ?_
 refine yJ 16 (fun w'=>Arr w' b 99 [p,.int .i64 c.coll,.int .i64 c.founder,.int .i64 c.who,wv,rv,pv,.int .i64 c.count,.int .i64 c.last,.bool c.alarm]) S0 ?_
 intro w0 S3
 refine yT 0 S3.le (S3.a0) ?_
 refine yT 1 S3.le (S3.a0) ?_
 refine yT 2 S3.le (S3.a0) ?_
 refine yT 3 S3.le (S3.a0) ?_
 refine yT 4 S3.le (S3.a0) ?_
 refine yT 5 S3.le (S3.a0) ?_
 refine yT 6 S3.le (S3.a0) ?_
 refine yT 7 S3.le (S3.a0) ?_
 refine yT 8 S3.le (S3.a0) ?_
 refine y1 9 ?_
 refine yR (RpChain_c _ _ _ _ _ _ S3.fr1) ?_
 rintro _ w1 ⟨b0,sv0,cv0,vm0,dv0,rv0,rfl,h1,h2,h3,h4,h5,H0,H1,S4⟩
 refine yn S4.le (S4.a4) ?_
 refine y1 10 ?_
 refine yR (CLen_c _ _ _ _ _ _ S4.fr1) ?_
 rintro _ w2 ⟨rfl,S5⟩
 have S6:Sat w2 I (RplP rv p c.r::Blk b 99 [p,.int .i64 c.coll,.int .i64 c.founder,.int .i64 c.who,wv,rv,pv,.int .i64 c.count,.int .i64 c.last,.bool c.alarm]::OwnX 166 waiR pv c.pend::R):=RplP.clsV h1 (s:=c.r) (sv:=sv0) (cv:=cv0) (vm:=vm0) (dv:=dv0) (rv:=rv0) h2 h3 h4 h5 H0 H1 S5.fr3.fr3.fr2.fr3
 refine yn S6.le (S6.a1) ?_
 refine jT 11 rfl (by kernel_rfl) (.agg ([.int .i64 2,.int .i64 c.coll,.int .i64 (c.r.ch.links.length:Int),.slice none 0 0,.slice none 0 0]).toArray) rfl (fun _ hw ht=>r_buildS (l:=[(0,.int .i64 2),(1,.int .i64 c.coll),(2,.int .i64 (c.r.ch.links.length:Int))]) st_164 (parts3 rfl rfl rfl) (Eq.trans (show Instr.fill _ _ [(0,.int .i64 2),(1,.int .i64 c.coll),(2,.int .i64 (c.r.ch.links.length:Int))]=_ from (fill_one rfl rfl rfl (fill_one rfl rfl rfl (fill_one rfl rfl rfl fill_end)))) (by kernel_rfl))) ⟨S6.le,fun h=>S6.a1⟩ ?_
 refine y1 12 ?_
 refine yR (FEnc_c [.int .i64 2,.int .i64 c.coll,.int .i64 (c.r.ch.links.length:Int),.slice none 0 0,.slice none 0 0] (⟨2,c.coll,(c.r.ch.links.length:Int),[],[]⟩:FrameT) _ _ _ S6 ⟨(.slice none 0 0),(.slice none 0 0),rfl,(by dsimp only;omega),ad,ad,⟨rfl,RoX.nil⟩,⟨rfl,Ro.nil⟩⟩) ?_
 rintro _ w3 ⟨v0,I0,le0,rfl,h6,S7⟩
 refine yn (lT le0 S7.le) (S7.a2) ?_
 refine yu le0 ?_
 refine yT 13 S7.le (S7.a2) ?_
 refine yT 14 S7.le (S7.a2) ?_
 refine yT 15 S7.le (S7.a2) ?_
 refine y1 16 ?_
 refine vA (.int .i64 ((⟨2,c.coll,(c.r.ch.links.length:Int),[],[]⟩:FrameT).encE)) rfl rfl ?_
 refine ym S7.le ?_
 refine yd ?_
 refine g2 ?_
 refine f2 Tryz.results48 ?_
 have q0:(⟨2,c.coll,(c.r.ch.links.length:Int),[],[]⟩:FrameT).encB=c.pullB:=by rw [Cli.pullB,if_neg (by rw [hal];decide)];rfl
 have S8:=S7.ab0 q0
 have S9:Sat _ _ (CliP (ptr b) p c::_):=CliP.cls (c:=c) (wv:=wv) (rv:=rv) (pv:=pv) cok hrv1 (Hw.up le0) S8.fr3.fr2.fr3
 exact ⟨v0,I0,le0,(by rw [show c.pullE=c.pullF.encE from if_neg (by rw [hal];decide)];rfl),S9.fr1⟩
end Go.Proofs.YthddplghlljdbaaGreat

set_option maxRecDepth 100000
set_option maxHeartbeats 4000000
namespace Go.Proofs.YthddplghlljdbaaGreat
open Go.RowKit Go.Ecal
theorem readers_in {l:List MemT} (h:risingM 0 l=true):∀w∈readersOf l,1≤w∧w≤16:=by
 intro w hw
 obtain ⟨m,hm,rfl⟩:=List.mem_map.1 hw
 have:=rising_all h m (List.mem_filter.1 hm).1
 omega
theorem LRots_c (b:Nat) (p:Value) (wv:Value) (rv:Value) (pv:Value) (c:Cli) (I:Gh) (R:List HP) (w:World) (S:Sat w I (Blk b 99 [p,.int .i64 c.coll,.int .i64 c.founder,.int .i64 c.who,wv,rv,pv,.int .i64 c.count,.int .i64 c.last,.bool c.alarm]::OwnX 166 waiR pv c.pend::R)) (h8:c.pend.length≤8):Ret Tryz.prog 72 [ptr b] w fun v w'=>.bool c.rotates=v∧Sat w' I (Blk b 99 [p,.int .i64 c.coll,.int .i64 c.founder,.int .i64 c.who,wv,rv,pv,.int .i64 c.count,.int .i64 c.last,.bool c.alarm]::OwnX 166 waiR pv c.pend::R):=by
 refine ret_E Tryz.func72 rfl Tryz.ntmps72 (by simp) ?_
 refine g12 ?_
 refine vl _ rfl (r_lenX rfl (OwnX.row S 1 rfl (by decide)).1 U97) ?_
 refine g4 ?_
 refine EC_loop (fun m' E' w'=>∃j:Nat,m'=c.pend.length-j∧E' 10=.int .i64 (j:Int)∧E' 8=pv∧E' 9=.int .i64 (c.pend.length:Int)∧(j≤c.pend.length)∧((c.pend.take j).any (fun w=>decide (w.e.kind=5))=false)∧Sat w' I (Blk b 99 [p,.int .i64 c.coll,.int .i64 c.founder,.int .i64 c.who,wv,rv,pv,.int .i64 c.count,.int .i64 c.last,.bool c.alarm]::OwnX 166 waiR pv c.pend::R)) _ ⟨0,rfl,rfl,rfl,rfl,Nat.zero_le _,rfl,S⟩ ?_
 rintro _ E0 w0 ⟨j,rfl,e0,e1,e2,hj,hno,S0⟩
 refine g6 ?_
 refine EC_if rfl (fun h0=>?_) (fun h0=>?_)
 refine g6 ?_
 refine vl (ptr (blkOf pv) (offOf pv+((j:Int):Int).toNat*10)) rfl (r_indexX (by exact e1) (OwnX.row S0 1 rfl (by decide)).1 (by exact e0) (by omega) as' U97 (by kernel_rfl)) ?_
 obtain ⟨a0,ha0⟩:=get_some (l:=c.pend) (j:=((j:Int):Int).toNat) as'
 obtain ⟨cs0,hc0,he0⟩:=(OwnX.row S0 1 rfl (by decide)).2 _ _ ha0
 obtain ⟨v0,v1,v2,v3,rfl,r0,r1,r2,⟨o0,H0⟩,⟨o1,H1⟩,r3,r4,r5,⟨o2,H2⟩,⟨o3,H3⟩⟩:=hc0
 refine vl (.agg ((waiRC a0 v0 v1 v2 v3)).toArray) rfl (r_loadR (cs:=(waiRC a0 v0 v1 v2 v3)) rfl he0 U166 rfl (by kernel_rfl)) ?_
 refine yN waiR0 S0 ?_
 intro b0 w1 S1
 refine yW0 S1 ?_ (h1:=ones_cons rfl (ones_cons rfl (ones_cons rfl (ones_cons o0 (ones_cons o1 (ones_cons rfl (ones_cons rfl (ones_cons rfl (ones_cons o2 (ones_cons o3 ones_nil))))))))))
 intro w2 S2
 refine g10 ?_
 refine EC_if rfl (fun h2=>?_) (fun h2=>?_)
 have hk5:a0.e.kind=5:=h2
 refine g11 ?_
 refine f1 Tryz.results72 ?_
 exact ⟨(congrArg Value.bool (show c.rotates=true from List.any_eq_true.2 ⟨a0,List.mem_of_getElem? (show c.pend[j]?=_ from ha0),decide_eq_true hk5⟩)),S2.dr0⟩
 have hk5:¬a0.e.kind=5:=h2
 refine g4 ?_
 refine EL_int ((j:Int)+1) rfl (r_addi (by exact e0) rfl (by omega)) ?_
 intro x0 hx55
 refine g3 ?_
 refine ⟨_,?_,j+1,rfl,(Eq.trans (show _=Value.int .i64 x0 from rfl) (congrArg _ (by omega))),(by exact e1),(by exact e2),by omega,(by rw [List.take_add_one,(show c.pend[j]?=_ from ha0)];simp [hno,hk5]),S2.dr0⟩
 first | omega | (simp;omega)
 refine g11 ?_
 refine f1 Tryz.results72 ?_
 exact ⟨(congrArg Value.bool (show c.rotates=false from by rw [List.take_of_length_le (by omega)] at hno;exact hno)),S0⟩
theorem LRot_c (q:Value) (p:Value) (c:Cli) (L:List Thing) (I:Gh) (R:List HP) (w:World) (S:Sat w I (CliP q p c::Suite p L::R)) (hl:L.length≤600000):Ret Tryz.prog 45 [q] w fun v w'=>∃J:Gh,Gh.le I J∧.int .i64 (c.rotE L)=v∧Sat w' J (CliP q p (c.rotS L)::Suite p (c.rotL L)::R):=by
 obtain ⟨b,wv,rv,pv,rfl,cok,hrv1,Hw,S0⟩:=CliP.opn S
 have lwv:=RoB.le Hw S0.le
 have hrk:=RplP.sok S0.fr1
 have hcn:=cok.num
 have hcc:=cok.cnt
 have hcl:=cok.lst
 have hcs:=cok.sec
 have hp8:=cok.pend8
 have hsr:=seen_rng (n:=c.who) hrk
 have hrs:=cok.r
 have hpn:=hrk.num.2.2.2
 have hvn:0≤c.view.1.epoch∧c.view.1.epoch≤16:=(view_num (l:=c.pendE) (x:=(c.r.pol,c.r.docs)) hpn).2
 have hsq:=Cli.seq_rng cok hrk
 refine ret_E Tryz.func45 rfl Tryz.ntmps45 (by simp) ?_
 refine g8 ?_
 have S1:Sat _ _ (CliP (ptr b) p c::_):=CliP.cls (c:=c) (wv:=wv) (rv:=rv) (pv:=pv) cok hrv1 Hw S0
 refine yR (LSee_c _ _ _ _ _ _ S1) ?_
 rintro _ w0 ⟨cs0,q0,I0,le0,rfl,h0,S2⟩
 obtain ⟨v0,rfl,r0,r1,⟨o0,H0⟩⟩:=h0
 have S3:=S2.fr1
 obtain ⟨bb25,wv25,rv25,pv25,hq25,cok25,hrv25,Hw25,So25⟩:=CliP.opn S3
 obtain rfl:b=bb25:=by injection hq25 with hq;injection hq with hq;injection hq
 have lwv25:=RoB.le Hw25 So25.le
 refine g3 ?_
 refine EL_alloc (z:=.agg #[.int .i64 0,.int .i64 0,.slice none 0 0]) polR0 rfl (by kernel_rfl) rfl ?_
 intro b0 w1 k0 A0 B0 z0
 have S4:=So25.newB B0 A0 k0
 refine yW0 S4 ?_ (h1:=ones_cons rfl (ones_cons rfl (ones_cons o0 ones_nil)))
 intro w2 S5
 refine g3 ?_
 refine EC_cut (fun E' w'=>∃x2o9_0:Int,∃b2o11_0:Nat,E' 0=ptr b∧E' 2=.int .i64 0∧E' 3=ptr b0∧E' 5=ptr b2o11_0∧(x2o9_0=c.view.1.epoch+1)∧Sat w' I0 (Blk b2o11_0 36 [.int .i64 5,.int .i64 c.who,.int .i64 c.seq,.slice none 0 0,.slice none 0 0,.int .i64 0,.int .i64 0,.int .i64 x2o9_0,.slice none 0 0]::Blk b 99 [p,.int .i64 c.coll,.int .i64 c.founder,.int .i64 c.who,wv25,rv25,pv25,.int .i64 c.count,.int .i64 c.last,.bool c.alarm]::RplP rv25 p c.r::Blk b0 103 (polRC c.view.1 v0)::OwnX 166 waiR pv25 c.pend::DocsP q0 c.view.2::Suite p L::R)) ?_ ?_
 refine yJ 12 (fun w'=>Arr w' b 99 [p,.int .i64 c.coll,.int .i64 c.founder,.int .i64 c.who,wv25,rv25,pv25,.int .i64 c.count,.int .i64 c.last,.bool c.alarm]∧Arr w' b0 103 (polRC c.view.1 v0)) S5 ?_
 intro w3 S6
 refine yT 0 S6.le ⟨S6.a1,S6.a0⟩ ?_
 refine yT 1 S6.le ⟨S6.a1,S6.a0⟩ ?_
 refine yT 2 S6.le ⟨S6.a1,S6.a0⟩ ?_
 refine yT 3 S6.le ⟨S6.a1,S6.a0⟩ ?_
 refine yT 4 S6.le ⟨S6.a1,S6.a0⟩ ?_
 refine yT 5 S6.le ⟨S6.a1,S6.a0⟩ ?_
 refine yT 7 S6.le ⟨S6.a1,S6.a0⟩ ?_
 refine yT 8 S6.le ⟨S6.a1,S6.a0⟩ ?_
 obtain ⟨x2o9_0,hx2o9_1⟩:∃z:Int,z=c.view.1.epoch+1:=⟨_,rfl⟩
 refine jT 9 rfl (by kernel_rfl) (.int .i64 x2o9_0) rfl (fun _ hw ht=>by rw [hx2o9_1];exact r_addi rfl rfl (by omega)) ⟨S6.le,fun h=>⟨S6.a1,S6.a0⟩⟩ ?_
 refine EJ_two 6 11 (by kernel_rfl) ⟨_,rfl,?_⟩ ⟨_,rfl,?_⟩
 refine yR (LSeq_c _ _ _ _ _ c _ _ _ S6.fr2.fr2 au au) ?_
 rintro _ w4 ⟨rfl,S7⟩
 refine yn S7.le ⟨S7.a0,S7.a2⟩ ?_
 refine jT 10 rfl (by kernel_rfl) (.agg ([.int .i64 5,.int .i64 c.who,.int .i64 c.seq,.slice none 0 0,.slice none 0 0,.int .i64 0,.int .i64 0,.int .i64 x2o9_0,.slice none 0 0]).toArray) rfl (fun _ hw ht=>r_buildS (l:=[(0,.int .i64 5),(1,.int .i64 c.who),(2,.int .i64 c.seq),(7,.int .i64 x2o9_0)]) st_36 (parts4 rfl rfl rfl rfl) (Eq.trans (show Instr.fill _ _ [(0,.int .i64 5),(1,.int .i64 c.who),(2,.int .i64 c.seq),(7,.int .i64 x2o9_0)]=_ from (fill_one rfl rfl rfl (fill_one rfl rfl rfl (fill_one rfl rfl rfl (fill_one rfl rfl rfl fill_end))))) (by kernel_rfl))) ⟨S7.le,fun h=>⟨S7.a0,S7.a2⟩⟩ ?_
 refine y1 11 ?_
 refine EL_alloc (z:=.agg #[.int .i64 0,.int .i64 0,.int .i64 0,.slice none 0 0,.slice none 0 0,.int .i64 0,.int .i64 0,.int .i64 0,.slice none 0 0]) entR0 rfl (by kernel_rfl) rfl ?_
 intro b2o11_0 w5 k1 A1 B1 z1
 have S8:=S7.newB B1 A1 k1
 refine yn S8.le ⟨S8.a1,S8.a3⟩ ?_
 refine y1 12 ?_
 refine yW0 S8 ?_
 intro w6 S9
 refine ym S9.le ?_
 refine yd ?_
 refine g1 ?_
 exact ⟨x2o9_0,b2o11_0,rfl,rfl,rfl,rfl,hx2o9_1,S9⟩
 refine EL_alloc (z:=.agg #[.int .i64 0,.int .i64 0,.int .i64 0,.slice none 0 0,.slice none 0 0,.int .i64 0,.int .i64 0,.int .i64 0,.slice none 0 0]) entR0 rfl (by kernel_rfl) rfl ?_
 intro b2o11_0 w7 k2 A2 B2 z2
 have S10:=S6.newB B2 A2 k2
 refine yn S10.le ⟨S10.a2,S10.a1⟩ ?_
 refine y1 6 ?_
 refine yR (LSeq_c _ _ _ _ _ c _ _ _ S10.fr3.fr3 au au) ?_
 rintro _ w8 ⟨rfl,S11⟩
 refine yn S11.le ⟨S11.a0,S11.a3⟩ ?_
 refine jT 10 rfl (by kernel_rfl) (.agg ([.int .i64 5,.int .i64 c.who,.int .i64 c.seq,.slice none 0 0,.slice none 0 0,.int .i64 0,.int .i64 0,.int .i64 x2o9_0,.slice none 0 0]).toArray) rfl (fun _ hw ht=>r_buildS (l:=[(0,.int .i64 5),(1,.int .i64 c.who),(2,.int .i64 c.seq),(7,.int .i64 x2o9_0)]) st_36 (parts4 rfl rfl rfl rfl) (Eq.trans (show Instr.fill _ _ [(0,.int .i64 5),(1,.int .i64 c.who),(2,.int .i64 c.seq),(7,.int .i64 x2o9_0)]=_ from (fill_one rfl rfl rfl (fill_one rfl rfl rfl (fill_one rfl rfl rfl (fill_one rfl rfl rfl fill_end))))) (by kernel_rfl))) ⟨S11.le,fun h=>⟨S11.a0,S11.a3⟩⟩ ?_
 refine y1 12 ?_
 refine yW2 S11 ?_
 intro w9 S12
 refine ym S12.le ?_
 refine yd ?_
 refine g1 ?_
 exact ⟨x2o9_0,b2o11_0,rfl,rfl,rfl,rfl,hx2o9_1,S12.fr6.fr6.fr6.fr6.fr5.fr5.fr6⟩
 rintro E0 w10 ⟨x2o9_0,b2o11_0,e0,e1,e2,e3,hx2o9_1,S13⟩
 refine g1 ?_
 refine yJ 11 (fun w'=>Arr w' b 99 [p,.int .i64 c.coll,.int .i64 c.founder,.int .i64 c.who,wv25,rv25,pv25,.int .i64 c.count,.int .i64 c.last,.bool c.alarm]∧Arr w' b0 103 (polRC c.view.1 v0)) S13 ?_
 intro w11 S14
 refine yT 0 S14.le ⟨S14.a1,S14.a3⟩ ?_
 refine yT 1 S14.le ⟨S14.a1,S14.a3⟩ ?_
 refine yT 2 S14.le ⟨S14.a1,S14.a3⟩ ?_
 refine yT 3 S14.le ⟨S14.a1,S14.a3⟩ ?_
 refine yT 4 S14.le ⟨S14.a1,S14.a3⟩ ?_
 refine yT 5 S14.le ⟨S14.a1,S14.a3⟩ ?_
 refine y1 6 ?_
 refine yR (RpKey_c _ _ _ c.view.1.epoch _ _ _ S14.fr2) ?_
 rintro _ w12 ⟨v1,rfl,S15⟩
 refine yn S15.le ⟨S15.a3,S15.a4⟩ ?_
 refine yT 7 S15.le ⟨S15.a3,S15.a4⟩ ?_
 refine yT 8 S15.le ⟨S15.a3,S15.a4⟩ ?_
 refine yT 9 S15.le ⟨S15.a3,S15.a4⟩ ?_
 refine yT 10 S15.le ⟨S15.a3,S15.a4⟩ ?_
 refine y1 11 ?_
 refine vA (.bool (!(keyAt c.r.ks c.view.1.epoch).isEmpty)) rfl rfl ?_
 refine ym S15.le ?_
 refine yd ?_
 refine g12 ?_
 refine EC_cond (t:=c.alarm) rfl (fun h3=>?_) (fun h3=>?_)
 have hal:c.alarm=true:=by simpa using h3
 refine g8 ?_
 refine f1 Tryz.results45 ?_
 have hB:c.rotBars=42:=by rw [Cli.rotBars,if_pos hal]
 have S16:Sat _ _ (CliP (ptr b) p c::_):=CliP.cls (c:=c) (wv:=wv25) (rv:=rv25) (pv:=pv25) cok hrv25 Hw25 S15.fr5.fr2.fr4
 have q1:c=c.rotS L:=(if_neg (by rw [hB];decide)).symm
 have S17:=Sat.ah0 (CliP (ptr b) p) S16 q1
 have q2:L=c.rotL L:=(if_neg (by rw [hB];decide)).symm
 have S18:=Sat.ah5 (Suite p) S17 q2
 exact ⟨I0,le0,(by rw [show c.rotE L=c.rotBars from if_neg (by rw [hB];decide),hB]),S18.dr1.dr1.dr1.dr1⟩
 have hal:c.alarm=false:=by simpa using h3
 refine g8 ?_
 refine EC_if rfl (fun h4=>?_) (fun h4=>?_)
 have he16:c.view.1.epoch=16:=h4
 refine g8 ?_
 refine f1 Tryz.results45 ?_
 have hB:c.rotBars=34:=by rw [Cli.rotBars,if_neg (by rw [hal];decide),if_pos he16]
 have S19:Sat _ _ (CliP (ptr b) p c::_):=CliP.cls (c:=c) (wv:=wv25) (rv:=rv25) (pv:=pv25) cok hrv25 Hw25 S15.fr5.fr2.fr4
 have q3:c=c.rotS L:=(if_neg (by rw [hB];decide)).symm
 have S20:=Sat.ah0 (CliP (ptr b) p) S19 q3
 have q4:L=c.rotL L:=(if_neg (by rw [hB];decide)).symm
 have S21:=Sat.ah5 (Suite p) S20 q4
 exact ⟨I0,le0,(by rw [show c.rotE L=c.rotBars from if_neg (by rw [hB];decide),hB]),S21.dr1.dr1.dr1.dr1⟩
 have he16:¬c.view.1.epoch=16:=h4
 refine g6 ?_
 refine vl _ rfl (r_lenX rfl (OwnX.row S15 5 rfl (by decide)).1 U97) ?_
 refine g4 ?_
 refine EC_if rfl (fun h5=>?_) (fun h5=>?_)
 have hp1:(c.pend.length:Int)=8:=h5
 refine g8 ?_
 refine f1 Tryz.results45 ?_
 have hB:c.rotBars=33:=by rw [Cli.rotBars,if_neg (by rw [hal];decide),if_neg he16,if_pos hp1]
 have S22:Sat _ _ (CliP (ptr b) p c::_):=CliP.cls (c:=c) (wv:=wv25) (rv:=rv25) (pv:=pv25) cok hrv25 Hw25 S15.fr5.fr2.fr4
 have q5:c=c.rotS L:=(if_neg (by rw [hB];decide)).symm
 have S23:=Sat.ah0 (CliP (ptr b) p) S22 q5
 have q6:L=c.rotL L:=(if_neg (by rw [hB];decide)).symm
 have S24:=Sat.ah5 (Suite p) S23 q6
 exact ⟨I0,le0,(by rw [show c.rotE L=c.rotBars from if_neg (by rw [hB];decide),hB]),S24.dr1.dr1.dr1.dr1⟩
 have hp1:¬(c.pend.length:Int)=8:=h5
 refine g1 ?_
 refine yJ 6 (fun w'=>Arr w' b0 103 (polRC c.view.1 v0)∧Arr w' b 99 [p,.int .i64 c.coll,.int .i64 c.founder,.int .i64 c.who,wv25,rv25,pv25,.int .i64 c.count,.int .i64 c.last,.bool c.alarm]) S15 ?_
 intro w13 S25
 refine yT 0 S25.le ⟨S25.a4,S25.a3⟩ ?_
 refine yT 1 S25.le ⟨S25.a4,S25.a3⟩ ?_
 refine yT 2 S25.le ⟨S25.a4,S25.a3⟩ ?_
 refine yT 3 S25.le ⟨S25.a4,S25.a3⟩ ?_
 refine yT 4 S25.le ⟨S25.a4,S25.a3⟩ ?_
 refine yT 5 S25.le ⟨S25.a4,S25.a3⟩ ?_
 refine y1 6 ?_
 refine yR (PRights_c (polRC c.view.1 v0) c.view.1 c.who _ _ _ S25 ⟨v0,rfl,ad,ad,⟨o0,H0⟩⟩) ?_
 rintro _ w14 ⟨rfl,S26⟩
 refine ym S26.le ?_
 refine jF 7 rfl (by kernel_rfl) (.int .i64 (andI (rightsOf c.view.1.mem c.who) 4)) rfl (fun _ hw=>r_andI rfl rfl) ⟨S26.le,fun h=>by cases h⟩ ?_
 refine yf 8 S26.le ?_
 refine yf 9 S26.le ?_
 refine yd ?_
 refine g1 ?_
 refine EC_if rfl (fun h6=>?_) (fun h6=>?_)
 have hri:andI (rightsOf c.view.1.mem c.who) 4=0:=by have h:=h6;omega
 refine g8 ?_
 refine f1 Tryz.results45 ?_
 have hB:c.rotBars=30:=by rw [Cli.rotBars,if_neg (by rw [hal];decide),if_neg he16,if_neg hp1,if_pos hri]
 have S27:Sat _ _ (CliP (ptr b) p c::_):=CliP.cls (c:=c) (wv:=wv25) (rv:=rv25) (pv:=pv25) cok hrv25 Hw25 S26.fr5.fr2.fr4
 have q7:c=c.rotS L:=(if_neg (by rw [hB];decide)).symm
 have S28:=Sat.ah0 (CliP (ptr b) p) S27 q7
 have q8:L=c.rotL L:=(if_neg (by rw [hB];decide)).symm
 have S29:=Sat.ah5 (Suite p) S28 q8
 exact ⟨I0,le0,(by rw [show c.rotE L=c.rotBars from if_neg (by rw [hB];decide),hB]),S29.dr1.dr1.dr1.dr1⟩
 have hri:¬andI (rightsOf c.view.1.mem c.who) 4=0:=by have h:=h6;omega
 refine g3 ?_
 refine yR (LRots_c _ _ _ _ _ c _ _ _ S26.fr5.fr4 hp8) ?_
 rintro _ w15 ⟨rfl,S30⟩
 refine g3 ?_
 refine EC_cond (t:=c.rotates) rfl (fun h7=>?_) (fun h7=>?_)
 have hro:c.rotates=true:=by simpa using h7
 refine g8 ?_
 refine f1 Tryz.results45 ?_
 have hB:c.rotBars=31:=by rw [Cli.rotBars,if_neg (by rw [hal];decide),if_neg he16,if_neg hp1,if_neg hri,if_pos hro]
 have S31:Sat _ _ (CliP (ptr b) p c::_):=CliP.cls (c:=c) (wv:=wv25) (rv:=rv25) (pv:=pv25) cok hrv25 Hw25 S30.fr1.fr3.fr2
 have q9:c=c.rotS L:=(if_neg (by rw [hB];decide)).symm
 have S32:=Sat.ah0 (CliP (ptr b) p) S31 q9
 have q10:L=c.rotL L:=(if_neg (by rw [hB];decide)).symm
 have S33:=Sat.ah5 (Suite p) S32 q10
 exact ⟨I0,le0,(by rw [show c.rotE L=c.rotBars from if_neg (by rw [hB];decide),hB]),S33.dr1.dr1.dr1.dr1⟩
 have hro:c.rotates=false:=by simpa using h7
 refine g7 ?_
 refine EC_cond (t:=!(!(keyAt c.r.ks c.view.1.epoch).isEmpty)) rfl (fun h8=>?_) (fun h8=>?_)
 have hky:(c.key c.view.1.epoch).isEmpty=true:=by simpa [Cli.key] using h8
 refine g8 ?_
 refine f1 Tryz.results45 ?_
 have hB:c.rotBars=21:=by rw [Cli.rotBars,if_neg (by rw [hal];decide),if_neg he16,if_neg hp1,if_neg hri,if_neg (by rw [hro];decide),if_pos hky]
 have S34:Sat _ _ (CliP (ptr b) p c::_):=CliP.cls (c:=c) (wv:=wv25) (rv:=rv25) (pv:=pv25) cok hrv25 Hw25 S30.fr1.fr3.fr2
 have q11:c=c.rotS L:=(if_neg (by rw [hB];decide)).symm
 have S35:=Sat.ah0 (CliP (ptr b) p) S34 q11
 have q12:L=c.rotL L:=(if_neg (by rw [hB];decide)).symm
 have S36:=Sat.ah5 (Suite p) S35 q12
 exact ⟨I0,le0,(by rw [show c.rotE L=c.rotBars from if_neg (by rw [hB];decide),hB]),S36.dr1.dr1.dr1.dr1⟩
 have hky:(c.key c.view.1.epoch).isEmpty=false:=by simpa [Cli.key] using h8
 have hB:c.rotBars=0:=by rw [Cli.rotBars,if_neg (by rw [hal];decide),if_neg he16,if_neg hp1,if_neg hri,if_neg (by rw [hro];decide),if_neg (by rw [hky];decide)]
 have hvr:risingM 0 c.view.1.mem=true:=view_rise cok.rise
 have hrl:(readersOf c.view.1.mem).length≤16:=by have:=readers_len hvr c.view.1.mem.length;rwa [List.take_length] at this
 have hrw:=readers_in hvr
 refine g9 ?_
 refine yR (Key_c _ _ _ _ _ S30.fr7 (by omega)) ?_
 rintro _ w16 ⟨v2,rfl,S37⟩
 obtain ⟨I1,le1,S38,H1⟩:=S37.fb0
 refine g7 ?_
 refine yR (Readers_c (polRC c.view.1 v0) c.view.1 _ _ _ S38 ⟨v0,rfl,ad,ad,⟨o0,(H0.up le1)⟩⟩ hvr) ?_
 rintro _ w17 ⟨v3,rfl,S39⟩
 refine vl (.int .i64 ((readersOf c.view.1.mem).length:Int)) rfl (lenF (r_len rfl (own_row (S39.own 0 rfl)) U161)) ?_
 refine g4 ?_
 have S40:Sat _ _ (OwnX 113 wrapR (.slice none 0 0) []::_):=OwnX.nil S39 113 wrapR
 refine EC_loop (fun m' E' w'=>∃j:Nat,∃Lj:List Thing,∃wsv:Value,∃ws:List WrapT,∃J:Gh,m'=(readersOf c.view.1.mem).length-j∧E' 79=.int .i64 (j:Int)∧E' 0=ptr b∧E' 2=.int .i64 0∧E' 3=ptr b0∧E' 5=ptr b2o11_0∧E' 8=v2∧E' 77=v3∧E' 78=.int .i64 ((readersOf c.view.1.mem).length:Int)∧(j≤(readersOf c.view.1.mem).length)∧((Lj,ws)=c.rotX L ((readersOf c.view.1.mem).take j))∧(Lj.length≤L.length+1+2*j)∧(ws.length=j)∧Gh.le I1 J∧Sat w' J (Suite p Lj::Blk b2o11_0 36 [.int .i64 5,.int .i64 c.who,.int .i64 c.seq,.slice none 0 0,.slice none 0 0,.int .i64 0,.int .i64 0,.int .i64 x2o9_0,wsv]::OwnX 113 wrapR wsv ws::Own 3 1 v3 (readersOf c.view.1.mem).length ((readersOf c.view.1.mem).map (Value.int .i64))::Blk b 99 [p,.int .i64 c.coll,.int .i64 c.founder,.int .i64 c.who,wv25,rv25,pv25,.int .i64 c.count,.int .i64 c.last,.bool c.alarm]::OwnX 166 waiR pv25 c.pend::OwnB v1 (keyAt c.r.ks c.view.1.epoch)::RplP rv25 p c.r::Blk b0 103 (polRC c.view.1 v0)::DocsP q0 c.view.2::R)) _ ⟨0,L++[tKey],.slice none 0 0,[],I1,rfl,rfl,(by exact e0),(by exact e1),(by exact e2),(by exact e3),rfl,rfl,rfl,Nat.zero_le _,(by rw [List.take_zero];rfl),(by simp),rfl,(Gh.le_refl _),S40.fr9.fr9.fr8.fr8.fr8.fr8.fr7.fr7.fr9.fr9⟩ ?_
 rintro _ E1 w18 ⟨j,Lj,wsv,ws,I2,rfl,e4,e5,e6,e7,e8,e9,e10,e11,hj,hx,hlj,hwl,le2,S41⟩
 refine g6 ?_
 refine EC_if rfl (fun h9=>?_) (fun h9=>?_)
 refine g6 ?_
 refine vl (.pointer (some (at_ v3 (((j:Int):Int).toNat)))) rfl (r_index (by exact e10) (own_row (S41.own 3 rfl)) (by exact e4) (by omega) as' U161 (by kernel_rfl)) ?_
 obtain ⟨x0,hx0⟩:=get_some (l:=readersOf c.view.1.mem) (j:=((j:Int):Int).toNat) as'
 refine vl _ rfl (r_load rfl ((own_row (S41.own 3 rfl)).cell (int_get hx0)) U3 rfl) ?_
 refine g4 ?_
 have hwr:=hrw x0 (List.mem_of_getElem? (show (readersOf c.view.1.mem)[j]?=_ from hx0))
 have hxe:x2o9_0=c.view.1.epoch+1:=by assumption
 skip
 refine yJ 18 (fun w'=>Arr w' b 99 [p,.int .i64 c.coll,.int .i64 c.founder,.int .i64 c.who,wv25,rv25,pv25,.int .i64 c.count,.int .i64 c.last,.bool c.alarm]∧Arr w' b2o11_0 36 [.int .i64 5,.int .i64 c.who,.int .i64 c.seq,.slice none 0 0,.slice none 0 0,.int .i64 0,.int .i64 0,.int .i64 x2o9_0,wsv]) S41 ?_
 intro w19 S42
 refine yT 0 S42.le ⟨S42.a4,S42.a1⟩ ?_
 refine yT 1 S42.le ⟨S42.a4,S42.a1⟩ ?_
 refine yT 2 S42.le ⟨S42.a4,S42.a1⟩ ?_
 refine yT 3 S42.le ⟨S42.a4,S42.a1⟩ ?_
 refine yT 4 S42.le ⟨S42.a4,S42.a1⟩ ?_
 refine yT 5 S42.le ⟨S42.a4,S42.a1⟩ ?_
 refine yT 6 S42.le ⟨S42.a4,S42.a1⟩ ?_
 refine yT 7 S42.le ⟨S42.a4,S42.a1⟩ ?_
 refine yT 8 S42.le ⟨S42.a4,S42.a1⟩ ?_
 refine yT 9 S42.le ⟨S42.a4,S42.a1⟩ ?_
 refine yT 10 S42.le ⟨S42.a4,S42.a1⟩ ?_
 refine yT 11 S42.le ⟨S42.a4,S42.a1⟩ ?_
 refine yT 12 S42.le ⟨S42.a4,S42.a1⟩ ?_
 refine y1 13 ?_
 refine yR (Wrap_c _ _ _ _ x0 x2o9_0 _ _ _ _ _ S42 (Hw25.up (lT le1 le2)) (H1.up le2) (by omega) hcs) ?_
 rintro _ w20 ⟨v4,I3,le3,rfl,S43⟩
 refine yn (lT le3 S43.le) ⟨S43.a5,S43.a2⟩ ?_
 refine yu le3 ?_
 refine yT 14 S43.le ⟨S43.a5,S43.a2⟩ ?_
 refine yT 15 S43.le ⟨S43.a5,S43.a2⟩ ?_
 refine yT 16 S43.le ⟨S43.a5,S43.a2⟩ ?_
 refine yT 17 S43.le ⟨S43.a5,S43.a2⟩ ?_
 refine y1 18 ?_
 refine vA (.int .i64 (wrapE x0 x2o9_0 (signOf 75 ((L.length:Int)+1)))) rfl rfl ?_
 refine ym S43.le ?_
 refine yd ?_
 refine g6 ?_
 refine vl _ rfl (gB [.int .i64 x0,v4] st_113 (parts2 rfl rfl) (fill_one rfl rfl rfl (fill_one rfl (one_cells (own_one (S43.own 0 rfl))) rfl fill_end))) ?_
 obtain ⟨I4,le4,S44,H2⟩:=S43.fb0
 refine EL_litW (z:=#[.int .i64 0,.slice none 0 0]) (cs:=([.int .i64 x0,v4]).toArray) (sz:=2) (l:=[(0,.agg ([.int .i64 x0,v4]).toArray)]) rfl U34 (by kernel_rfl) (parts1 rfl) (by kernel_rfl) rfl (by decide) ?_
 intro v5 w21 O0 B3 k3
 have S45:Sat _ _ (OwnX 113 wrapR v5 [(⟨x0,wrapB Lj c.sec x0 x2o9_0 (signOf 75 ((L.length:Int)+1))⟩:WrapT)]::_):=OwnX.cls (xss:=[[.int .i64 x0,v4]]) (.cons ⟨v4,rfl,ad,⟨(row_one (H2 _ S44.le)),H2⟩⟩ .nil) (S44.newO B3 O0)
 have oH241:=(OwnX.one S45 0 rfl (by decide))
 obtain ⟨I5,le5,S46,H3⟩:=S45.fx0 (by decide)
 refine EL_appX (z:=(.agg #[.int .i64 0,.slice none 0 0])) (bytes:=32) rfl U34 (by kernel_rfl) rfl (by decide) rfl rfl S46.fr2 H3 ac ac ?_
 intro v6 w22 S47
 refine g1 ?_
 refine yS2 S47 ?_ (hu:=OwnX.one S47 0 rfl (by decide))
 intro w23 S48
 refine g4 ?_
 refine EL_int ((j:Int)+1) rfl (r_addi (by exact e4) rfl (by omega)) ?_
 intro x1 hx248
 refine g3 ?_
 refine ⟨_,?_,j+1,wrapL Lj c.sec x0 x2o9_0 (signOf 75 ((L.length:Int)+1)),v6,ws++[(⟨x0,wrapB Lj c.sec x0 x2o9_0 (signOf 75 ((L.length:Int)+1))⟩:WrapT)],I5,rfl,(Eq.trans (show _=Value.int .i64 x1 from rfl) (congrArg _ (by omega))),(by exact e5),(by exact e6),(by exact e7),(by exact e8),(by exact e9),(by exact e10),(by exact e11),by omega,(by rw [rotX_step (show (readersOf c.view.1.mem)[j]?=_ from hx0),←hx,←hxe];rfl),(by have:=wrapL_len Lj c.sec x0 (x2o9_0) (newKey L);first | omega | (have h2:(wrapL Lj c.sec x0 x2o9_0 (signOf 75 ((L.length:Int)+1))).length≤Lj.length+2:=this;omega)),(by simp [hwl]),(lT (lT (lT le2 le3) le4) le5),S48.fr9.fr9.fr9.fr9.fr9.fr9.fr9.fr7.fr9.fr9⟩
 first | omega | (simp;omega)
 refine g11 ?_
 have S49:Sat _ _ (CliP (ptr b) p c::_):=CliP.cls (c:=c) (wv:=wv25) (rv:=rv25) (pv:=pv25) cok25 hrv25 (Hw25.up (lT le1 le2)) S41.fr5.fr7.fr6
 have oH266:=(OwnX.one S49 3 rfl (by decide))
 obtain ⟨I6,le6,S50,H4⟩:=S49.fx3 (by decide)
 refine yR (LSeal_c _ _ _ [.int .i64 5,.int .i64 c.who,.int .i64 c.seq,.slice none 0 0,.slice none 0 0,.int .i64 0,.int .i64 0,.int .i64 x2o9_0,wsv] (⟨5,c.who,c.seq,[],[],0,0,x2o9_0,ws⟩:Entry) c.view.1.epoch _ _ _ _ S50 ⟨(.slice none 0 0),(.slice none 0 0),wsv,rfl,(by dsimp only;omega),ad,ad,⟨rfl,Ro.nil⟩,⟨rfl,Ro.nil⟩,(by dsimp only;omega),(by dsimp only;omega),ad,⟨oH266,H4⟩⟩ (by omega) (by omega) (by omega)) ?_
 rintro _ w24 ⟨I7,le7,rfl,S51⟩
 refine g4 ?_
 refine f1 Tryz.results45 ?_
 have hxe:x2o9_0=c.view.1.epoch+1:=by assumption
 rw [List.take_of_length_le (by omega:(readersOf c.view.1.mem).length≤j)] at hx
 have hw1:(c.rotW L).1=Lj:=by rw [Cli.rotW,←hx]
 have hw2:(c.rotW L).2=ws:=by rw [Cli.rotW,←hx]
 have q13:c.sealS Lj c.view.1.epoch (⟨5,c.who,c.seq,[],[],0,0,x2o9_0,ws⟩:Entry)=c.rotS L:=(by rw [Cli.rotS,if_pos hB,hw1,Cli.rotEnt,hw2,←hxe];try rfl)
 have S52:=Sat.ah0 (CliP (ptr b) p) S51 q13
 have q14:c.sealL Lj c.view.1.epoch (⟨5,c.who,c.seq,[],[],0,0,x2o9_0,ws⟩:Entry)=c.rotL L:=(by rw [Cli.rotL,if_pos hB,hw1,Cli.rotEnt,hw2,←hxe];try rfl)
 have S53:=Sat.ah1 (Suite p) S52 q14
 exact ⟨I7,(lT (lT (lT (lT le0 le1) le2) le6) le7),(congrArg (Value.int .i64) (by rw [Cli.rotE,if_pos hB,Cli.rotEnt,hw2,←hxe];try rfl)),S53.dr2.dr2.dr2.dr2.dr2⟩
end Go.Proofs.YthddplghlljdbaaGreat
