import Derived.Test.YthddplghlljdbaaGreatQWorldPostCliE
set_option linter.unusedVariables false
set_option linter.unusedSimpArgs false
set_option maxRecDepth 100000
set_option maxHeartbeats 4000000
namespace Go.Proofs.YthddplghlljdbaaGreat
open Go.RowKit Go.Ecal
theorem el_e41:Elem Tryz.prog 41 30 (.int .i64 0) 8:=⟨Tryz.underlying41,by kernel_rfl,rfl⟩
theorem comOuts_len2:∀{l:List (List UInt8)} {x:World2},(comOuts l x).length=l.length
 | [],_=>rfl
 | b::l,x=>by rw [comOuts,List.length_cons,List.length_cons,comOuts_len2]
theorem LChk_c (b:Nat) (p:Value) (wv:Value) (rv:Value) (pv:Value) (c:Cli) (cf:List Value) (f:FrameT) (I:Gh) (R:List HP) (w:World) (S:Sat w I (Blk b 99 [p,.int .i64 c.coll,.int .i64 c.founder,.int .i64 c.who,wv,rv,pv,.int .i64 c.count,.int .i64 c.last,.bool c.alarm]::RplP rv p c.r::R)) (hf:frmR.r I cf f) (hfl:f.links.length≤8) (hlb:∀b∈f.links,b.length≤4096) (hl6:c.r.ch.links.length≤64):Ret Tryz.prog 80 [ptr b,.agg cf.toArray] w fun v w'=>∃J:Gh,Gh.le I J∧.int .i64 (c.checkE f)=v∧Sat w' J (Blk b 99 [p,.int .i64 c.coll,.int .i64 c.founder,.int .i64 c.who,wv,rv,pv,.int .i64 c.count,.int .i64 c.last,.bool c.alarm]::RplP rv p c.r::R):=by
 obtain ⟨v0,v1,rfl,r0,r1,r2,⟨o0,H0⟩,⟨o1,H1⟩⟩:=hf
 refine ret_E Tryz.func80 rfl Tryz.ntmps80 (by simp) ?_
 refine g2 ?_
 refine yB (cs:=frmRC f v0 v1) S ?_
 intro b0 w0 S0
 refine g9 ?_
 refine yR (RpChain_c _ _ _ _ _ _ S0.fr2) ?_
 rintro _ w1 ⟨b1,sv0,cv0,vm0,dv0,rv0,rfl,h0,h2,h3,h4,h5,H2,H3,S1⟩
 refine yR (CLen_c _ _ _ _ _ _ S1.fr1) ?_
 rintro _ w2 ⟨rfl,S2⟩
 have S3:Sat w2 I (RplP rv p c.r::Blk b0 164 (frmRC f v0 v1)::Blk b 99 [p,.int .i64 c.coll,.int .i64 c.founder,.int .i64 c.who,wv,rv,pv,.int .i64 c.count,.int .i64 c.last,.bool c.alarm]::R):=RplP.clsV h0 (s:=c.r) (sv:=sv0) (cv:=cv0) (vm:=vm0) (dv:=dv0) (rv:=rv0) h2 h3 h4 h5 H2 H3 S2.fr3.fr3.fr2.fr3
 refine g13 ?_
 refine EC_if rfl (fun h6=>?_) (fun h6=>?_)
 have hk3:¬f.kind=3:=h6
 refine g8 ?_
 refine f1 Tryz.results80 ?_
 exact ⟨I,(Gh.le_refl _),(by rw [Cli.checkE,if_pos hk3]),S3.dr1.fr1⟩
 have hk3:f.kind=3:=Classical.byContradiction h6
 refine g1 ?_
 refine EC_quietB (by kernel_rfl) (by kernel_rfl) ?_
 refine g9 ?_
 refine yE S3 ?_
 intro w3 S4
 refine g1 ?_
 refine EC_if rfl (fun h7=>?_) (fun h7=>?_)
 have hco:¬f.coll=c.coll:=h7
 refine g8 ?_
 refine f1 Tryz.results80 ?_
 exact ⟨I,(Gh.le_refl _),(by rw [Cli.checkE,if_neg (fun q=>q hk3),if_pos hco]),S4.dr1.fr1⟩
 have hco:f.coll=c.coll:=Classical.byContradiction h7
 refine g9 ?_
 refine EC_cond (t:=c.alarm) rfl (fun h8=>?_) (fun h8=>?_)
 have hal:c.alarm=true:=by simpa using h8
 refine g8 ?_
 refine f1 Tryz.results80 ?_
 exact ⟨I,(Gh.le_refl _),(by rw [Cli.checkE,if_neg (fun q=>q hk3),if_neg (fun q=>q hco),if_pos hal]),S4.dr1.fr1⟩
 have hal:c.alarm=false:=by simpa using h8
 refine g9 ?_
 refine EC_if rfl (fun h9=>?_) (fun h9=>?_)
 have hix:¬f.index=(c.r.ch.links.length:Int):=h9
 refine g8 ?_
 refine f1 Tryz.results80 ?_
 exact ⟨I,(Gh.le_refl _),(by rw [Cli.checkE,if_neg (fun q=>q hk3),if_neg (fun q=>q hco),if_neg (by rw [hal];decide),if_pos hix]),S4.dr1.fr1⟩
 have hix:f.index=(c.r.ch.links.length:Int):=Classical.byContradiction h9
 refine g8 ?_
 refine vl _ rfl (r_lenX rfl (H0.row S4.le) U52) ?_
 refine g4 ?_
 refine EC_loop (fun m' E' w'=>∃j:Nat,∃J:Gh,m'=f.links.length-j∧E' 42=.int .i64 (j:Int)∧E' 0=ptr b∧E' 3=ptr b0∧E' 5=.int .i64 (c.r.ch.links.length:Int)∧E' 40=v0∧E' 41=.int .i64 (f.links.length:Int)∧(j≤f.links.length)∧((f.links.take j).any (linkBad c.coll)=false)∧Gh.le I J∧Sat w' J (RplP rv p c.r::Blk b0 164 (frmRC f v0 v1)::Blk b 99 [p,.int .i64 c.coll,.int .i64 c.founder,.int .i64 c.who,wv,rv,pv,.int .i64 c.count,.int .i64 c.last,.bool c.alarm]::R)) _ ⟨0,I,rfl,rfl,rfl,rfl,rfl,rfl,rfl,Nat.zero_le _,rfl,(Gh.le_refl _),S4⟩ ?_
 rintro _ E0 w4 ⟨j,I0,rfl,e0,e1,e2,e3,e4,e5,hj,hno,le0,S5⟩
 refine g6 ?_
 refine EC_if rfl (fun h10=>?_) (fun h10=>?_)
 refine g6 ?_
 refine vl (ptr (blkOf v0) (offOf v0+((j:Int):Int).toNat*1)) rfl (r_indexX (by exact e4) (H0.row (lT le0 S5.le)) (by exact e0) (by omega) as' U52 (by kernel_rfl)) ?_
 obtain ⟨a0,ha0⟩:=get_some (l:=f.links) (j:=((j:Int):Int).toNat) as'
 obtain ⟨cs0,hc0,he0⟩:=H0.el ha0
 obtain ⟨v2,rfl,o2,H4⟩:=hc0
 refine vl _ rfl (r_load0 rfl (he0 _ (lT le0 S5.le)) U33 rfl) ?_
 refine g6 ?_
 refine yR (RDec_c _ _ _ _ _ S5 (H4.up le0) (Nat.le_trans (hlb a0 (List.mem_of_getElem? (show f.links[j]?=_ from ha0))) (by decide))) ?_
 rintro _ w5 ⟨cs1,I1,le1,rfl,h11,S6⟩
 obtain ⟨v3,rfl,r3,r4,r5,r6,⟨o3,H5⟩⟩:=h11
 refine g3 ?_
 refine yN recR0 S6 ?_
 intro b2 w6 S7
 refine yW0 S7 ?_ (h1:=ones_cons rfl (ones_cons rfl (ones_cons rfl (ones_cons rfl (ones_cons o3 ones_nil)))))
 intro w7 S8
 refine g4 ?_
 rcases first2 (recE a0=0) ((recV a0).coll=c.coll) with hb | hb | hb
 refine EC_quietB (by kernel_rfl) (by kernel_rfl) ?_
 refine g1 ?_
 refine EQ_val _ rfl (fun _ hw=>dcT (r_neq rfl rfl) (by simp [hb])) ?_
 refine g10 ?_
 refine yE S8 ?_
 intro w8 S9
 refine g13 ?_
 refine f1 Tryz.results80 ?_
 have hany:f.links.any (linkBad c.coll)=true:=List.any_eq_true.2 ⟨a0,List.mem_of_getElem? (show f.links[j]?=_ from ha0),by simp [linkBad,hb]⟩
 exact ⟨I1,(lT le0 le1),(by rw [Cli.checkE,if_neg (fun q=>q hk3),if_neg (fun q=>q hco),if_neg (by rw [hal];decide),if_neg (fun q=>q hix),if_pos hany]),S9.dr0.dr1.fr1⟩
 refine EC_quietB (by kernel_rfl) (by kernel_rfl) ?_
 refine g1 ?_
 refine EQ_val _ rfl (fun _ hw=>dcF (r_neq rfl rfl) (by simp [hb.1])) ?_
 refine g8 ?_
 refine EQ_gval 53 rfl rfl rfl rfl _ rfl (fun _ hw=>dcT (r_neq rfl rfl) (by simp [hb.2])) ?_
 refine g1 ?_
 refine yE S8 ?_
 intro w9 S10
 refine g13 ?_
 refine f1 Tryz.results80 ?_
 have hany:f.links.any (linkBad c.coll)=true:=List.any_eq_true.2 ⟨a0,List.mem_of_getElem? (show f.links[j]?=_ from ha0),by simp [linkBad,hb]⟩
 exact ⟨I1,(lT le0 le1),(by rw [Cli.checkE,if_neg (fun q=>q hk3),if_neg (fun q=>q hco),if_neg (by rw [hal];decide),if_neg (fun q=>q hix),if_pos hany]),S10.dr0.dr1.fr1⟩
 refine EC_quietB (by kernel_rfl) (by kernel_rfl) ?_
 refine g1 ?_
 refine EQ_val _ rfl (fun _ hw=>dcF (r_neq rfl rfl) (by simp [hb.1])) ?_
 refine g8 ?_
 refine EQ_gval 53 rfl rfl rfl rfl _ rfl (fun _ hw=>dcF (r_neq rfl rfl) (by simp [hb.2])) ?_
 refine g1 ?_
 refine yE S8 ?_
 intro w10 S11
 refine g6 ?_
 refine EL_int ((j:Int)+1) rfl (r_addi (by exact e0) rfl (by omega)) ?_
 intro x0 hx126
 refine g3 ?_
 refine ⟨_,?_,j+1,I1,rfl,(Eq.trans (show _=Value.int .i64 x0 from rfl) (congrArg _ (by omega))),(by exact e1),(by exact e2),(by exact e3),(by exact e4),(by exact e5),by omega,(by rw [List.take_add_one,(show f.links[j]?=_ from ha0)];simp [hno,linkBad,hb.1,hb.2]),(lT le0 le1),S11.dr0⟩
 first | omega | (simp;omega)
 refine g11 ?_
 refine vl _ rfl (r_lenX rfl (H0.row (lT le0 S5.le)) U52) ?_
 refine EL_int ((c.r.ch.links.length:Int)+(f.links.length:Int)) rfl (r_addi rfl rfl (by omega)) ?_
 intro x1 hx128
 refine g3 ?_
 refine EC_if rfl (fun h12=>?_) (fun h12=>?_)
 have h64:64<(c.r.ch.links.length:Int)+(f.links.length:Int):=by have h:=h12;omega
 refine g7 ?_
 refine f1 Tryz.results80 ?_
 have hno2:f.links.any (linkBad c.coll)=false:=by rwa [List.take_of_length_le (by omega)] at hno
 exact ⟨I0,le0,(by rw [Cli.checkE,if_neg (fun q=>q hk3),if_neg (fun q=>q hco),if_neg (by rw [hal];decide),if_neg (fun q=>q hix),if_neg (by rw [hno2];decide),if_pos h64]),S5.dr1.fr1⟩
 have h64:¬64<(c.r.ch.links.length:Int)+(f.links.length:Int):=by have h:=h12;omega
 refine g8 ?_
 refine f1 Tryz.results80 ?_
 have hno2:f.links.any (linkBad c.coll)=false:=by rwa [List.take_of_length_le (by omega)] at hno
 exact ⟨I0,le0,(by rw [Cli.checkE,if_neg (fun q=>q hk3),if_neg (fun q=>q hco),if_neg (by rw [hal];decide),if_neg (fun q=>q hix),if_neg (by rw [hno2];decide),if_neg h64]),S5.dr1.fr1⟩
theorem LTake_c (q:Value) (p:Value) (c:Cli) (L:List Thing) (v0:Value) (bb:List UInt8) (I:Gh) (R:List HP) (w:World) (S:Sat w I (CliP q p c::Suite p L::R)) (Q0:RoB I v0 bb) (hl:L.length≤500000) (hT:TxtOk L):Ret Tryz.prog 50 [q,v0] w fun v w'=>∃v1:Value,∃J:Gh,Gh.le I J∧.tuple #[.int .i64 (c.takeE bb),v1]=v∧Sat w' J (Own 30 1 v1 (c.takeO L bb).length ((c.takeO L bb).map (Value.int .i64))::CliP q p ((c.takeS L bb).2)::Suite p ((c.takeS L bb).1)::R):=by
 have lq0:=RoB.le Q0 S.le
 obtain ⟨b,wv,rv,pv,rfl,cok,hrv1,Hw,S0⟩:=CliP.opn S
 have lwv:=RoB.le Hw S0.le
 have hrk:=RplP.sok S0.fr1
 have hcn:=cok.num
 have hcc:=cok.cnt
 have hcl:=cok.lst
 have hcs:=cok.sec
 have hp8:=cok.pend8
 have hsr:=seen_rng (n:=c.who) hrk
 have hrs:=cok.r
 have hpn:=hrk.num.2.2.2
 refine ret_E Tryz.func50 rfl Tryz.ntmps50 (by simp) ?_
 refine g9 ?_
 refine yR (FDec_c _ _ _ _ _ S0 Q0) ?_
 rintro _ w0 ⟨cs0,I0,le0,rfl,h0,S1⟩
 obtain ⟨v2,v3,rfl,r0,r1,r2,⟨o0,H0⟩,⟨o1,H1⟩⟩:=h0
 refine g3 ?_
 refine yN frmR0 S1 ?_
 intro b0 w1 S2
 refine yW0 S2 ?_ (h1:=ones_cons rfl (ones_cons rfl (ones_cons rfl (ones_cons o0 (ones_cons o1 ones_nil)))))
 intro w2 S3
 refine g10 ?_
 refine EC_if rfl (fun h2=>?_) (fun h2=>?_)
 have hfe:frE bb=0:=h2
 have hfr:=right_fr (fr_ok hfe)
 refine g3 ?_
 refine yR (LChk_c _ _ _ _ _ c (frmRC (frV bb) v2 v3) (frV bb) _ _ _ S3.fr2.fr2 ⟨v2,v3,rfl,ad,ad,ad,⟨o0,H0⟩,⟨o1,H1⟩⟩ hfr.2.1 (fun b hb=>(hfr.2.2.1 b hb).2) hrs.links) ?_
 rintro _ w3 ⟨I1,le1,rfl,S4⟩
 refine g10 ?_
 refine EC_if rfl (fun h3=>?_) (fun h3=>?_)
 have hce:¬c.checkE (frV bb)=0:=h3
 have hE:c.takeE bb=c.checkE (frV bb):=if_pos hfe
 refine g9 ?_
 refine f2 Tryz.results50 ?_
 have S5:Sat _ _ (Own 30 1 (.slice none 0 0) (([]:List Int)).length ((([]:List Int)).map (Value.int .i64))::_):=S4.nil 30 1
 have q0:([]:List Int)=c.takeO L bb:=(if_neg (by rw [hE];exact hce)).symm
 have S6:Sat w3 I1 (Own 30 1 (.slice none 0 0) (c.takeO L bb).length ((c.takeO L bb).map (Value.int .i64))::Blk b 99 [p,.int .i64 c.coll,.int .i64 c.founder,.int .i64 c.who,wv,rv,pv,.int .i64 c.count,.int .i64 c.last,.bool c.alarm]::RplP rv p c.r::Blk b0 164 (frmRC (frV bb) v2 v3)::OwnX 166 waiR pv c.pend::Suite p L::R):=S5.as 0 rfl (congrArg (fun zz=>Own 30 1 (.slice none 0 0) (zz).length ((zz).map (Value.int .i64))) q0)
 have hS:c.takeS L bb=(L,c):=if_neg (by rw [hE];exact hce)
 have S7:Sat _ _ (CliP (ptr b) p c::_):=CliP.cls (c:=c) (wv:=wv) (rv:=rv) (pv:=pv) cok hrv1 (Hw.up (lT le0 le1)) S6.fr4.fr3.fr3
 have q1:c=(c.takeS L bb).2:=by rw [hS]
 have S8:=Sat.ah0 (CliP (ptr b) p) S7 q1
 have q2:L=(c.takeS L bb).1:=by rw [hS]
 have S9:=Sat.ah3 (Suite p) S8 q2
 exact ⟨(.slice none 0 0),I1,(lT le0 le1),(by rw [hE]),S9.dr2.fr2.fr1.fr2⟩
 have hce:c.checkE (frV bb)=0:=Classical.byContradiction h3
 have hE:c.takeE bb=0:=(if_pos hfe).trans hce
 refine g12 ?_
 refine vl _ rfl (r_lenX rfl (H0.row (lT le1 S4.le)) U52) ?_
 refine g4 ?_
 have S10:Sat _ _ (Own 30 1 (.slice none 0 0) (([]:List Int)).length ((([]:List Int)).map (Value.int .i64))::_):=S4.nil 30 1
 have q3:([]:List Int)=comOuts ((frV bb).links.take 0) (L,c.r):=by rw [List.take_zero];rfl
 have S11:Sat w3 I1 (Own 30 1 (.slice none 0 0) (comOuts ((frV bb).links.take 0) (L,c.r)).length ((comOuts ((frV bb).links.take 0) (L,c.r)).map (Value.int .i64))::Blk b 99 [p,.int .i64 c.coll,.int .i64 c.founder,.int .i64 c.who,wv,rv,pv,.int .i64 c.count,.int .i64 c.last,.bool c.alarm]::RplP rv p c.r::Blk b0 164 (frmRC (frV bb) v2 v3)::OwnX 166 waiR pv c.pend::Suite p L::R):=S10.as 0 rfl (congrArg (fun zz=>Own 30 1 (.slice none 0 0) (zz).length ((zz).map (Value.int .i64))) q3)
 refine EC_loop (fun m' E' w'=>∃j:Nat,∃ov:Value,∃Lj:List Thing,∃sj:Rpl,∃J:Gh,m'=(frV bb).links.length-j∧E' 33=.int .i64 (j:Int)∧E' 8=ov∧E' 0=ptr b∧E' 4=.int .i64 0∧E' 5=.slice none 0 0∧E' 31=v2∧E' 32=.int .i64 (((frV bb).links).length:Int)∧(j≤(frV bb).links.length)∧((Lj,sj)=comAll ((frV bb).links.take j) (L,c.r))∧(sj.small)∧(TxtOk Lj)∧(Lj.length≤L.length+19*j)∧((comOuts ((frV bb).links.take j) (L,c.r)).length=j)∧Gh.le I1 J∧Sat w' J (Suite p Lj::RplP rv p sj::Own 30 1 ov (comOuts ((frV bb).links.take j) (L,c.r)).length ((comOuts ((frV bb).links.take j) (L,c.r)).map (Value.int .i64))::Blk b 99 [p,.int .i64 c.coll,.int .i64 c.founder,.int .i64 c.who,wv,rv,pv,.int .i64 c.count,.int .i64 c.last,.bool c.alarm]::Blk b0 164 (frmRC (frV bb) v2 v3)::OwnX 166 waiR pv c.pend::R)) _ ⟨0,.slice none 0 0,L,c.r,I1,rfl,rfl,rfl,rfl,rfl,rfl,rfl,rfl,Nat.zero_le _,(by rw [List.take_zero];rfl),cok.r,hT,Nat.le_refl _,(by rw [comOuts_len2,List.length_take];omega),(Gh.le_refl _),S11.fr4.fr4.fr3.fr3.fr4.fr5⟩ ?_
 rintro _ E0 w4 ⟨j,ov,Lj,sj,I2,rfl,e0,e1,e2,e3,e4,e5,e6,hj,hx,hsj,hTj,hlj,hlo,le2,S12⟩
 refine g6 ?_
 refine EC_if rfl (fun h4=>?_) (fun h4=>?_)
 refine g6 ?_
 refine vl (ptr (blkOf v2) (offOf v2+((j:Int):Int).toNat*1)) rfl (r_indexX (by exact e5) (H0.row (lT (lT le1 le2) S12.le)) (by exact e0) (by omega) as' U52 (by kernel_rfl)) ?_
 obtain ⟨a0,ha0⟩:=get_some (l:=(frV bb).links) (j:=((j:Int):Int).toNat) as'
 obtain ⟨cs1,hc0,he0⟩:=H0.el ha0
 obtain ⟨v4,rfl,o2,H2⟩:=hc0
 refine vl _ rfl (r_load0 rfl (he0 _ (lT (lT le1 le2) S12.le)) U33 rfl) ?_
 refine g10 ?_
 refine yR (RpCom_c _ _ _ _ _ _ _ _ _ S12.fr1 (H2.up (lT le1 le2)) (by have:=hfr.2.1;omega) hTj hsj.sec (by have:=hsj.docs;have:=hsj.links;omega) (Nat.le_trans (hfr.2.2.1 a0 (List.mem_of_getElem? (show (frV bb).links[j]?=_ from ha0))).2 (by decide))) ?_
 rintro _ w5 ⟨I3,le3,rfl,S13⟩
 refine g10 ?_
 refine EL_lit w5.heap.size #[.int .i64 (sj.comO Lj a0)] el_e41 rfl (by decide) rfl (Nat.le_refl _) (by kernel_rfl) ?_
 intro v5 w6 O0 B0 k0 z0
 have S14:Sat _ _ (Own 30 1 v5 (([sj.comO Lj a0]:List Int)).length ((([sj.comO Lj a0]:List Int)).map (Value.int .i64))::_):=S13.newO B0 (own_eqF (f:=Value.int .i64) (l:=([sj.comO Lj a0]:List Int)) O0 rfl)
 refine EL_append (v:=ov) (xs:=(comOuts ((frV bb).links.take j) (L,c.r)).map (Value.int .i64)) (ys:=([sj.comO Lj a0]:List Int).map (Value.int .i64)) 0 el_e41 rfl rfl rfl (own_len (S14.own 3 rfl)) (own_row (S14.own 0 rfl)) (int_one _) ap (by decide) (Nat.zero_le _) ?_
 intro v6 w7 O1 G0 A0
 have S15:=S14.gr3 G0 (own_appF O1) A0
 refine g5 ?_
 refine EL_int ((j:Int)+1) rfl (r_addi (by exact e0) rfl (by omega)) ?_
 intro x0 hx109
 refine g3 ?_
 have h5:=hsj.com (b:=a0) hTj
 have q4:(comOuts ((frV bb).links.take j) (L,c.r))++([sj.comO Lj a0]:List Int)=comOuts ((frV bb).links.take (j+1)) (L,c.r):=by rw [(comAll_step (show (frV bb).links[j]?=_ from ha0)).2,←hx]
 have S16:Sat w7 I3 (Own 30 1 v5 (([sj.comO Lj a0]:List Int)).length ((([sj.comO Lj a0]:List Int)).map (Value.int .i64))::RplP rv p ((sj.comS Lj a0).2)::Suite p ((sj.comS Lj a0).1)::Own 30 1 v6 (comOuts ((frV bb).links.take (j+1)) (L,c.r)).length ((comOuts ((frV bb).links.take (j+1)) (L,c.r)).map (Value.int .i64))::Blk b 99 [p,.int .i64 c.coll,.int .i64 c.founder,.int .i64 c.who,wv,rv,pv,.int .i64 c.count,.int .i64 c.last,.bool c.alarm]::Blk b0 164 (frmRC (frV bb) v2 v3)::OwnX 166 waiR pv c.pend::R):=S15.as 3 rfl (congrArg (fun zz=>Own 30 1 v6 (zz).length ((zz).map (Value.int .i64))) q4)
 refine ⟨_,?_,j+1,v6,(sj.comS Lj a0).1,(sj.comS Lj a0).2,I3,rfl,(Eq.trans (show _=Value.int .i64 x0 from rfl) (congrArg _ (by omega))),rfl,(by exact e2),(by exact e3),(by exact e4),(by exact e5),(by exact e6),by omega,(by rw [(comAll_step (show (frV bb).links[j]?=_ from ha0)).1,←hx]),h5.1,h5.2.1,(by have:=h5.2.2;omega),(by rw [comOuts_len2,List.length_take];omega),(lT le2 le3),S16.dr0.fr5.fr5.fr5.fr5.fr4.fr5⟩
 first | omega | (simp;omega)
 refine g6 ?_
 refine yJ 10 (fun w'=>Arr w' b 99 [p,.int .i64 c.coll,.int .i64 c.founder,.int .i64 c.who,wv,rv,pv,.int .i64 c.count,.int .i64 c.last,.bool c.alarm]) S12 ?_
 intro w8 S17
 refine yT 0 S17.le (S17.a3) ?_
 refine yT 1 S17.le (S17.a3) ?_
 refine yT 2 S17.le (S17.a3) ?_
 refine yT 3 S17.le (S17.a3) ?_
 refine yT 4 S17.le (S17.a3) ?_
 refine yT 5 S17.le (S17.a3) ?_
 refine yT 6 S17.le (S17.a3) ?_
 refine yT 7 S17.le (S17.a3) ?_
 refine yT 8 S17.le (S17.a3) ?_
 refine y1 9 ?_
 refine yR (RpSeen_c _ _ _ c.who _ _ _ S17.fr1) ?_
 rintro _ w9 ⟨rfl,S18⟩
 refine yn S18.le (S18.a3) ?_
 refine y1 10 ?_
 refine vA (.int .i64 (seenAt sj.seen c.who)) rfl rfl ?_
 refine ym S18.le ?_
 refine yd ?_
 refine g13 ?_
 refine vl _ rfl (r_lenX rfl (OwnX.row S18 5 rfl (by decide)).1 U97) ?_
 refine g4 ?_
 have S19:Sat _ _ (OwnX 166 waiR (.slice none 0 0) []::_):=OwnX.nil S18 166 waiR
 have q5:[]=(c.pend.take 0).filter (fun w=>decide (seenAt sj.seen c.who<w.e.seq)):=by simp
 have S20:=S19.ax0 q5
 refine EC_loop (fun m' E' w'=>∃i:Nat,∃nv:Value,∃J:Gh,m'=c.pend.length-i∧E' 66=.int .i64 (i:Int)∧E' 14=nv∧E' 0=ptr b∧E' 4=.int .i64 0∧E' 5=.slice none 0 0∧E' 8=ov∧E' 13=.int .i64 (seenAt sj.seen c.who)∧E' 64=pv∧E' 65=.int .i64 (c.pend.length:Int)∧(i≤c.pend.length)∧(((c.pend.take i).filter (fun w=>decide (seenAt sj.seen c.who<w.e.seq))).length≤i)∧Gh.le I2 J∧Sat w' J (OwnX 166 waiR nv ((c.pend.take i).filter (fun w=>decide (seenAt sj.seen c.who<w.e.seq)))::RplP rv p sj::Suite p Lj::Own 30 1 ov (comOuts ((frV bb).links.take j) (L,c.r)).length ((comOuts ((frV bb).links.take j) (L,c.r)).map (Value.int .i64))::Blk b 99 [p,.int .i64 c.coll,.int .i64 c.founder,.int .i64 c.who,wv,rv,pv,.int .i64 c.count,.int .i64 c.last,.bool c.alarm]::Blk b0 164 (frmRC (frV bb) v2 v3)::OwnX 166 waiR pv c.pend::R)) _ ⟨0,.slice none 0 0,I2,rfl,rfl,rfl,(by exact e2),(by exact e3),(by exact e4),(by exact e1),rfl,rfl,rfl,Nat.zero_le _,(by simp),(Gh.le_refl _),S20⟩ ?_
 rintro _ E1 w10 ⟨i,nv,I4,rfl,e7,e8,e9,e10,e11,e12,e13,e14,e15,hi,hln,le4,S21⟩
 refine g6 ?_
 refine EC_if rfl (fun h6=>?_) (fun h6=>?_)
 refine g6 ?_
 refine vl (ptr (blkOf pv) (offOf pv+((i:Int):Int).toNat*10)) rfl (r_indexX (by exact e14) (OwnX.row S21 6 rfl (by decide)).1 (by exact e7) (by omega) as' U97 (by kernel_rfl)) ?_
 obtain ⟨a1,ha1⟩:=get_some (l:=c.pend) (j:=((i:Int):Int).toNat) as'
 obtain ⟨cs2,hc1,he1⟩:=(OwnX.row S21 6 rfl (by decide)).2 _ _ ha1
 obtain ⟨v7,v8,v9,v10,rfl,r3,r4,r5,⟨o3,H3⟩,⟨o4,H4⟩,r6,r7,r8,⟨o5,H5⟩,⟨o6,H6⟩⟩:=hc1
 refine vl (.agg ((waiRC a1 v7 v8 v9 v10)).toArray) rfl (r_loadR (cs:=(waiRC a1 v7 v8 v9 v10)) rfl he1 U166 rfl (by kernel_rfl)) ?_
 refine yN waiR0 S21 ?_
 intro b1 w11 S22
 refine yW0 S22 ?_ (h1:=ones_cons rfl (ones_cons rfl (ones_cons rfl (ones_cons o3 (ones_cons o4 (ones_cons rfl (ones_cons rfl (ones_cons rfl (ones_cons o5 (ones_cons o6 ones_nil))))))))))
 intro w12 S23
 refine g11 ?_
 refine EC_if rfl (fun h7=>?_) (fun h7=>?_)
 have hsq:seenAt sj.seen c.who<a1.e.seq:=h7
 refine g3 ?_
 refine EL_litW (z:=#[.int .i64 0,.int .i64 0,.int .i64 0,.slice none 0 0,.slice none 0 0,.int .i64 0,.int .i64 0,.int .i64 0,.slice none 0 0,.slice none 0 0]) (cs:=([.int .i64 a1.e.kind,.int .i64 a1.e.writer,.int .i64 a1.e.seq,v7,v8,.int .i64 a1.e.who,.int .i64 a1.e.rights,.int .i64 a1.e.epoch,v9,v10]).toArray) (sz:=10) (l:=[(0,.agg ((waiRC a1 v7 v8 v9 v10)).toArray)]) rfl U97 (by kernel_rfl) (parts1 rfl) (by kernel_rfl) rfl (by decide) ?_
 intro v11 w13 O2 B1 k1
 have S24:Sat _ _ (OwnX 166 waiR v11 [a1]::_):=OwnX.cls (xss:=[(waiRC a1 v7 v8 v9 v10)]) (.cons ⟨v7,v8,v9,v10,rfl,ad,ad,ad,⟨o3,H3⟩,⟨o4,H4⟩,ad,ad,ad,⟨o5,H5⟩,⟨o6,H6⟩⟩ .nil) (S23.newO B1 O2)
 have oH192:=(OwnX.one S24 0 rfl (by decide))
 obtain ⟨I5,le5,S25,H7⟩:=S24.fx0 (by decide)
 refine EL_appX (z:=(.agg #[.int .i64 0,.int .i64 0,.int .i64 0,.slice none 0 0,.slice none 0 0,.int .i64 0,.int .i64 0,.int .i64 0,.slice none 0 0,.slice none 0 0])) (bytes:=144) rfl U97 (by kernel_rfl) rfl (by decide) rfl rfl S25.fr1 H7 ac ac ?_
 intro v12 w14 S26
 refine g5 ?_
 refine EL_int ((i:Int)+1) rfl (r_addi (by exact e7) rfl (by omega)) ?_
 intro x1 hx194
 refine g3 ?_
 have q6:((c.pend.take i).filter (fun w=>decide (seenAt sj.seen c.who<w.e.seq)))++[a1]=(c.pend.take (i+1)).filter (fun w=>decide (seenAt sj.seen c.who<w.e.seq)):=by rw [List.take_add_one,(show c.pend[i]?=_ from ha1),List.filter_append];simp [hsq]
 have S27:=S26.ax0 q6
 refine ⟨_,?_,i+1,v12,I5,rfl,(Eq.trans (show _=Value.int .i64 x1 from rfl) (congrArg _ (by omega))),rfl,(by exact e9),(by exact e10),(by exact e11),(by exact e12),(by exact e13),(by exact e14),(by exact e15),by omega,(Nat.le_trans (List.length_filter_le _ _) (by rw [List.length_take];omega)),(lT le4 le5),S27.dr1⟩
 first | omega | (simp;omega)
 have hsq:¬seenAt sj.seen c.who<a1.e.seq:=h7
 refine g4 ?_
 refine EL_int ((i:Int)+1) rfl (r_addi (by exact e7) rfl (by omega)) ?_
 intro x2 hx198
 refine g3 ?_
 have q7:(c.pend.take i).filter (fun w=>decide (seenAt sj.seen c.who<w.e.seq))=(c.pend.take (i+1)).filter (fun w=>decide (seenAt sj.seen c.who<w.e.seq)):=by rw [List.take_add_one,(show c.pend[i]?=_ from ha1),List.filter_append];simp [hsq]
 have S28:=S23.ax1 q7
 refine ⟨_,?_,i+1,nv,I4,rfl,(Eq.trans (show _=Value.int .i64 x2 from rfl) (congrArg _ (by omega))),(by exact e8),(by exact e9),(by exact e10),(by exact e11),(by exact e12),(by exact e13),(by exact e14),(by exact e15),by omega,(Nat.le_trans (List.length_filter_le _ _) (by rw [List.length_take];omega)),le4,S28.dr0⟩
 first | omega | (simp;omega)
 refine g11 ?_
 refine yS4 S21 ?_ (hu:=OwnX.one S21 0 rfl (by decide))
 intro w15 S29
 refine g10 ?_
 refine f2 Tryz.results50 ?_
 rw [List.take_of_length_le (by omega:(frV bb).links.length≤j)] at hx
 have q8:comOuts ((frV bb).links.take j) (L,c.r)=c.takeO L bb:=by rw [List.take_of_length_le (by omega)];exact (if_pos hE).symm
 have S30:Sat w15 I4 (OwnX 166 waiR nv ((c.pend.take i).filter (fun w=>decide (seenAt sj.seen c.who<w.e.seq)))::RplP rv p sj::Suite p Lj::Own 30 1 ov (c.takeO L bb).length ((c.takeO L bb).map (Value.int .i64))::Blk b 99 [p,.int .i64 c.coll,.int .i64 c.founder,.int .i64 c.who,wv,rv,nv,.int .i64 c.count,.int .i64 c.last,.bool c.alarm]::Blk b0 164 (frmRC (frV bb) v2 v3)::OwnX 166 waiR pv c.pend::R):=S29.as 3 rfl (congrArg (fun zz=>Own 30 1 ov (zz).length ((zz).map (Value.int .i64))) q8)
 have q9:(c.pend.take i).filter (fun w=>decide (seenAt sj.seen c.who<w.e.seq))=c.rest sj:=by rw [List.take_of_length_le (by omega)];rfl
 have S31:=S30.ax0 q9
 have hS:c.takeS L bb=(Lj,{ c with r:=sj,pend:=c.rest sj }):=by rw [Cli.takeS,if_pos hE,←hx]
 have S32:Sat _ _ (CliP (ptr b) p ({ c with r:=sj,pend:=c.rest sj })::_):=CliP.cls (c:={ c with r:=sj,pend:=c.rest sj }) (wv:=wv) (rv:=rv) (pv:=nv) (cok.taken hsj (by rw [show sj=(comAll (frV bb).links (L,c.r)).2 by rw [←hx]];exact comAll_rise cok.rise)) hrv1 (Hw.up (lT (lT (lT le0 le1) le2) le4)) S31.fr1.fr4
 have q10:{ c with r:=sj,pend:=c.rest sj }=(c.takeS L bb).2:=by rw [hS]
 have S33:=Sat.ah0 (CliP (ptr b) p) S32 q10
 have q11:Lj=(c.takeS L bb).1:=by rw [hS]
 have S34:=Sat.ah1 (Suite p) S33 q11
 exact ⟨ov,I4,(lT (lT (lT le0 le1) le2) le4),(by rw [hE]),S34.dr3.dr3.fr1.fr1.fr2⟩
 have hfe:¬frE bb=0:=h2
 have hE:c.takeE bb=frE bb:=if_neg hfe
 refine g9 ?_
 refine EC_cond_true (Eq.trans (show _=Value.bool (decide ((frE bb)≠0)) from rfl) (congrArg Value.bool (show (decide ((frE bb)≠0))=true from (decide_eq_true hfe)))) ?_
 refine g9 ?_
 refine f2 Tryz.results50 ?_
 have S35:Sat _ _ (Own 30 1 (.slice none 0 0) (([]:List Int)).length ((([]:List Int)).map (Value.int .i64))::_):=S3.nil 30 1
 have q12:([]:List Int)=c.takeO L bb:=(if_neg (by rw [hE];exact hfe)).symm
 have S36:Sat w2 I0 (Own 30 1 (.slice none 0 0) (c.takeO L bb).length ((c.takeO L bb).map (Value.int .i64))::Blk b0 164 (frmRC (frV bb) v2 v3)::Blk b 99 [p,.int .i64 c.coll,.int .i64 c.founder,.int .i64 c.who,wv,rv,pv,.int .i64 c.count,.int .i64 c.last,.bool c.alarm]::RplP rv p c.r::OwnX 166 waiR pv c.pend::Suite p L::R):=S35.as 0 rfl (congrArg (fun zz=>Own 30 1 (.slice none 0 0) (zz).length ((zz).map (Value.int .i64))) q12)
 have hS:c.takeS L bb=(L,c):=if_neg (by rw [hE];exact hfe)
 have S37:Sat _ _ (CliP (ptr b) p c::_):=CliP.cls (c:=c) (wv:=wv) (rv:=rv) (pv:=pv) cok hrv1 (Hw.up le0) S36.fr4.fr4.fr4
 have q13:c=(c.takeS L bb).2:=by rw [hS]
 have S38:=Sat.ah0 (CliP (ptr b) p) S37 q13
 have q14:L=(c.takeS L bb).1:=by rw [hS]
 have S39:=Sat.ah3 (Suite p) S38 q14
 exact ⟨(.slice none 0 0),I0,le0,(by rw [hE]),S39.dr2.fr2.fr1.fr2⟩
end Go.Proofs.YthddplghlljdbaaGreat
