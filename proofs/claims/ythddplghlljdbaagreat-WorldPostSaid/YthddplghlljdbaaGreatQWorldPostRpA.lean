import Derived.Test.YthddplghlljdbaaGreatQWorldPostReplayP
import Derived.Test.YthddplghlljdbaaGreatQWorldPostSeaC
set_option linter.unusedVariables false
set_option linter.unusedSimpArgs false
set_option maxRecDepth 100000
set_option maxHeartbeats 4000000
namespace Go.Proofs.YthddplghlljdbaaGreat
open Go.RowKit Go.Ecal
theorem RpKey_c (q:Value) (p:Value) (s:Rpl) (e:Int) (I:Gh) (R:List HP) (w:World) (S:Sat w I (RplP q p s::R)):Ret Tryz.prog 70 [q,.int .i64 e] w fun v w'=>∃v1:Value,.tuple #[v1,.bool (!(keyAt s.ks e).isEmpty)]=v∧Sat w' I (OwnB v1 (keyAt s.ks e)::RplP q p s::R):=by
 obtain ⟨b,sv,cv,vm,dv,rv,rfl,hok,hc1,hd1,hr1,Hs,Hm,S0⟩:=RplP.opn S
 have hks:=hok.ks.2
 have hnum:=hok.num
 have lsv:=RoB.le Hs S0.le
 have lvm:=XRow.le (Hm.row S0.le)
 refine ret_E Tryz.func70 rfl Tryz.ntmps70 (by simp) ?_
 refine g13 ?_
 refine yR (RKey_c _ _ e _ _ _ S0.fr3 hks) ?_
 rintro _ w0 ⟨v0,rfl,S1⟩
 refine g7 ?_
 refine f2 Tryz.results70 ?_
 have S2:Sat _ _ (RplP (ptr b) p s::_):=RplP.cls (s:=s) (sv:=sv) (cv:=cv) (vm:=vm) (dv:=dv) (rv:=rv) hok hc1 hd1 hr1 Hs Hm S1.fr1.fr4.fr4.fr4
 exact ⟨v0,rfl,S2.fr1⟩
theorem RpSeen_c (q:Value) (p:Value) (s:Rpl) (n:Int) (I:Gh) (R:List HP) (w:World) (S:Sat w I (RplP q p s::R)):Ret Tryz.prog 82 [q,.int .i64 n] w fun v w'=>.int .i64 (seenAt s.seen n)=v∧Sat w' I (RplP q p s::R):=by
 obtain ⟨b,sv,cv,vm,dv,rv,rfl,hok,hc1,hd1,hr1,Hs,Hm,S0⟩:=RplP.opn S
 have hks:=hok.ks.2
 have hnum:=hok.num
 have lsv:=RoB.le Hs S0.le
 have lvm:=XRow.le (Hm.row S0.le)
 refine ret_E Tryz.func82 rfl Tryz.ntmps82 (by simp) ?_
 refine g7 ?_
 rcases (by omega:(0≤n∧n≤16)∨n<0∨16<n) with hre | hre | hre
 refine g2 ?_
 refine vl _ rfl (dcF (r_lss rfl rfl) (by simp;omega)) ?_
 refine g2 ?_
 refine gl 7 rfl rfl rfl rfl _ rfl (dcF (r_gtr rfl rfl) (by simp;omega)) ?_
 refine g12 ?_
 refine vl (ptr b (11+(n:Int).toNat)) rfl (r_indexP (i:=n) rfl rfl (by omega) (by omega) U105 (by kernel_rfl)) ?_
 have hsr11:=seen_rng (n:=n) hok
 refine vl (.int .i64 (seenAt s.seen n)) rfl (r_loadA rfl (S0.a0) (u:=(.int .i64 (seenAt s.seen n))) (rplC_seen (n:=n) hok (by omega)) U3 rfl) ?_
 refine g4 ?_
 refine f1 Tryz.results82 ?_
 have S1:Sat w I (RplP (ptr b) p s::R):=RplP.cls (s:=s) (sv:=sv) (cv:=cv) (vm:=vm) (dv:=dv) (rv:=rv) hok hc1 hd1 hr1 Hs Hm S0
 exact ⟨rfl,S1⟩
 refine g2 ?_
 refine vl _ rfl (dcT (r_lss rfl rfl) (by simp;omega)) ?_
 refine g14 ?_
 refine f1 Tryz.results82 ?_
 have S2:Sat w I (RplP (ptr b) p s::R):=RplP.cls (s:=s) (sv:=sv) (cv:=cv) (vm:=vm) (dv:=dv) (rv:=rv) hok hc1 hd1 hr1 Hs Hm S0
 exact ⟨(congrArg (Value.int .i64) (show seenAt s.seen n=0 from if_neg (by omega))),S2⟩
 refine g2 ?_
 refine vl _ rfl (dcF (r_lss rfl rfl) (by simp;omega)) ?_
 refine g2 ?_
 refine gl 7 rfl rfl rfl rfl _ rfl (dcT (r_gtr rfl rfl) (by simp;omega)) ?_
 refine g11 ?_
 refine f1 Tryz.results82 ?_
 have S3:Sat w I (RplP (ptr b) p s::R):=RplP.cls (s:=s) (sv:=sv) (cv:=cv) (vm:=vm) (dv:=dv) (rv:=rv) hok hc1 hd1 hr1 Hs Hm S0
 exact ⟨(congrArg (Value.int .i64) (show seenAt s.seen n=0 from if_neg (by omega))),S3⟩
theorem RpPol_c (q:Value) (p:Value) (s:Rpl) (I:Gh) (R:List HP) (w:World) (S:Sat w I (RplP q p s::R)) (hm:s.pol.mem.length≤100000):Ret Tryz.prog 124 [q] w fun v w'=>∃cr:List Value,∃J:Gh,Gh.le I J∧.agg cr.toArray=v∧polR.r J cr s.pol∧Sat w' J (RplP q p s::R):=by
 obtain ⟨b,sv,cv,vm,dv,rv,rfl,hok,hc1,hd1,hr1,Hs,Hm,S0⟩:=RplP.opn S
 have hks:=hok.ks.2
 have hnum:=hok.num
 have lsv:=RoB.le Hs S0.le
 have lvm:=XRow.le (Hm.row S0.le)
 refine ret_E Tryz.func124 rfl Tryz.ntmps124 (by simp) ?_
 refine g2 ?_
 refine yN polR0 S0 ?_
 intro b0 w0 S1
 refine g7 ?_
 refine vl (.agg ((polRC s.pol vm)).toArray) rfl (r_loadR (o:=6) (cs:=(polRC s.pol vm)) rfl (range_cut0 (n:=3) 6 (Arr.range (S1.a1)) rfl) U103 rfl (by kernel_rfl)) ?_
 refine yN polR0 S1 ?_
 intro b1 w1 S2
 refine yW0 S2 ?_ (h1:=ones_cons rfl (ones_cons rfl (ones_cons (XRow.one (Hm.row S0.le)) ones_nil)))
 intro w2 S3
 refine g6 ?_
 have S4:Sat _ _ (OwnX 183 memR (.slice none 0 0) []::_):=OwnX.nil S3 183 memR
 refine EL_appX (z:=(.agg #[.int .i64 0,.int .i64 0])) (bytes:=16) rfl U101 (by kernel_rfl) rfl (by decide) rfl rfl S4 Hm ac ac ?_
 intro v0 w3 S5
 have S6:Sat w3 I (OwnX 183 memR v0 s.pol.mem::Blk b1 103 (polRC s.pol vm)::Blk b0 103 polR0::Blk b 107 (rplC s p sv cv vm dv rv)::ChainP cv p s.ch::DocsP dv s.docs::RingP rv s.ks::R):=S5
 refine g1 ?_
 refine yS1 S6 ?_ (hu:=OwnX.one S6 0 rfl (by decide))
 intro w4 S7
 refine g5 ?_
 refine yW2 S7 ?_ (h1:=ones_cons rfl (ones_cons rfl (ones_cons (OwnX.one S7 0 rfl (by decide)) ones_nil)))
 intro w5 S8
 refine g3 ?_
 refine f1c Tryz.results124 ?_
 have S9:Sat _ _ (RplP (ptr b) p s::_):=RplP.cls (s:=s) (sv:=sv) (cv:=cv) (vm:=vm) (dv:=dv) (rv:=rv) hok hc1 hd1 hr1 Hs Hm S8.fr6.fr6.fr6.fr6
 have oH53:=(OwnX.one S9 1 rfl (by decide))
 obtain ⟨I0,le0,S10,H0⟩:=S9.fx1 (by decide)
 have q0:s.pol=(⟨s.pol.founder,s.pol.epoch,s.pol.mem⟩:Pol):=rfl
 exact ⟨_,I0,le0,rfl,(by rw [q0];exact ⟨v0,rfl,ad,ad,⟨oH53,H0⟩⟩),S10.dr1.dr1⟩
theorem RpDocs_c (q:Value) (p:Value) (s:Rpl) (I:Gh) (R:List HP) (w:World) (S:Sat w I (RplP q p s::R)):Ret Tryz.prog 19 [q] w fun v w'=>∃q2:Value,q2=v∧Sat w' I (DocsP q2 s.docs::RplP q p s::R):=by
 obtain ⟨b,sv,cv,vm,dv,rv,rfl,hok,hc1,hd1,hr1,Hs,Hm,S0⟩:=RplP.opn S
 have hks:=hok.ks.2
 have hnum:=hok.num
 have lsv:=RoB.le Hs S0.le
 have lvm:=XRow.le (Hm.row S0.le)
 refine ret_E Tryz.func19 rfl Tryz.ntmps19 (by simp) ?_
 refine g11 ?_
 refine yR (DClone_c _ _ _ _ _ S0.fr2) ?_
 rintro _ w0 ⟨q0,rfl,S1⟩
 refine g4 ?_
 refine f1 Tryz.results19 ?_
 have S2:Sat _ _ (RplP (ptr b) p s::_):=RplP.cls (s:=s) (sv:=sv) (cv:=cv) (vm:=vm) (dv:=dv) (rv:=rv) hok hc1 hd1 hr1 Hs Hm S1.fr4.fr2.fr4.fr4
 exact ⟨q0,rfl,S2.fr1⟩
theorem RpLearn_c (q:Value) (p:Value) (s:Rpl) (ce:List Value) (e:Entry) (L:List Thing) (I:Gh) (R:List HP) (w:World) (S:Sat w I (RplP q p s::Suite p L::R)) (he:entR.r I ce e) (hl:L.length≤800000) (hT:TxtOk L) (hsec:s.sec.length≤100000) (hw:e.wraps.length≤1000) (hbx:∀a∈e.wraps,a.box.length≤800000000):Ret Tryz.prog 153 [q,.agg ce.toArray] w fun v w'=>∃J:Gh,Gh.le I J∧Sat w' J (RplP q p ({ s with ks:=(learnAll s.who s.sec e.epoch e.wraps (L,s.ks)).2 })::Suite p ((learnAll s.who s.sec e.epoch e.wraps (L,s.ks)).1)::R):=by
 obtain ⟨b,sv,cv,vm,dv,rv,rfl,hok,hc1,hd1,hr1,Hs,Hm,S0⟩:=RplP.opn S
 have hks:=hok.ks.2
 have hnum:=hok.num
 have lsv:=RoB.le Hs S0.le
 have lvm:=XRow.le (Hm.row S0.le)
 have hp1:=Suite.one S0.fr4
 obtain ⟨v0,v1,v2,rfl,r0,r1,r2,⟨o0,H0⟩,⟨o1,H1⟩,r3,r4,r5,⟨o2,H2⟩⟩:=he
 refine ret_E Tryz.func153 rfl Tryz.ntmps153 (by simp) ?_
 refine g2 ?_
 refine yB (cs:=entRC e v0 v1 v2) S0 ?_
 intro b0 w0 S1
 refine g6 ?_
 refine vl _ rfl (r_lenX rfl (H2.row S1.le) U34) ?_
 refine g4 ?_
 refine EC_loop (fun m' E' w'=>∃j:Nat,∃Lj:List Thing,∃kj:List (List UInt8),∃J:Gh,m'=e.wraps.length-j∧E' 11=.int .i64 (j:Int)∧E' 0=ptr b∧E' 3=ptr b0∧E' 9=v2∧E' 10=.int .i64 (e.wraps.length:Int)∧(j≤e.wraps.length)∧((Lj,kj)=learnAll s.who s.sec e.epoch (e.wraps.take j) (L,s.ks))∧(TxtOk Lj)∧(KsOk kj)∧(Lj.length≤L.length+j)∧Gh.le I J∧Sat w' J (Blk b0 36 (entRC e v0 v1 v2)::Blk b 107 (rplC s p sv cv vm dv rv)::ChainP cv p s.ch::DocsP dv s.docs::RingP rv kj::Suite p Lj::R)) _ ⟨0,L,s.ks,I,rfl,rfl,rfl,rfl,rfl,rfl,Nat.zero_le _,(by rw [List.take_zero];rfl),hT,hok.ks,by omega,(Gh.le_refl _),S1⟩ ?_
 rintro _ E0 w1 ⟨j,Lj,kj,I0,rfl,e0,e1,e2,e3,e4,hj,hx,hTj,hkj,hlj,le0,S2⟩
 refine g6 ?_
 refine EC_if rfl (fun h0=>?_) (fun h0=>?_)
 refine g6 ?_
 refine vl (ptr (blkOf v2) (offOf v2+((j:Int):Int).toNat*2)) rfl (r_indexX (by exact e3) (H2.row (lT le0 S2.le)) (by exact e0) (by omega) as' U34 (by kernel_rfl)) ?_
 obtain ⟨a0,ha0⟩:=get_some (l:=e.wraps) (j:=((j:Int):Int).toNat) as'
 obtain ⟨cs0,hc0,he0⟩:=H2.el ha0
 obtain ⟨v3,rfl,r6,⟨o3,H3⟩⟩:=hc0
 refine vl (.agg ([.int .i64 a0.who,v3]).toArray) rfl (r_loadR (cs:=[.int .i64 a0.who,v3]) rfl (he0 _ (lT le0 S2.le)) U113 rfl (by kernel_rfl)) ?_
 refine yN [.int .i64 0,.slice none 0 0] S2 ?_
 intro b1 w2 S3
 refine yW0 S3 ?_ (h1:=ones_cons rfl (ones_cons o3 ones_nil))
 intro w3 S4
 refine g4 ?_
 refine EC_quietB (by kernel_rfl) (by kernel_rfl) ?_
 refine g8 ?_
 refine yE S4 ?_
 intro w4 S5
 refine g1 ?_
 refine EC_if rfl (fun h2=>?_) (fun h2=>?_)
 have hwq:¬a0.who=s.who:=h2
 refine g5 ?_
 refine EL_int ((j:Int)+1) rfl (r_addi (by exact e0) rfl (by omega)) ?_
 intro x0 hx69
 refine g3 ?_
 have q0:learn1 s.who s.sec e.epoch a0 (Lj,kj)=(Lj,kj):=by rw [learn1,if_neg hwq]
 have h3:=learn1_ok (who:=s.who) (ep:=e.epoch) (sec:=s.sec) (a:=a0) (x:=(Lj,kj)) hTj hkj
 rw [q0] at h3
 refine ⟨_,?_,j+1,Lj,kj,I0,rfl,(Eq.trans (show _=Value.int .i64 x0 from rfl) (congrArg _ (by omega))),(by exact e1),(by exact e2),(by exact e3),(by exact e4),by omega,(by rw [learn_step (show e.wraps[j]?=_ from ha0),←hx,q0]),h3.1,h3.2.1,(by have:=h3.2.2;simp only at this;omega),le0,S5.dr0⟩
 first | omega | (simp;omega)
 have hwq:a0.who=s.who:=Classical.byContradiction h2
 have hbx0:=hbx a0 (List.mem_of_getElem? (show e.wraps[j]?=_ from ha0))
 refine g3 ?_
 refine yJ 15 (fun w'=>Arr w' b 107 (rplC s p sv cv vm dv rv)∧Arr w' b1 113 [.int .i64 a0.who,v3]∧Arr w' b0 36 (entRC e v0 v1 v2)) S5 ?_
 intro w5 S6
 refine yT 0 S6.le ⟨S6.a2,S6.a0,S6.a1⟩ ?_
 refine yT 1 S6.le ⟨S6.a2,S6.a0,S6.a1⟩ ?_
 refine yT 2 S6.le ⟨S6.a2,S6.a0,S6.a1⟩ ?_
 refine yT 3 S6.le ⟨S6.a2,S6.a0,S6.a1⟩ ?_
 refine yT 4 S6.le ⟨S6.a2,S6.a0,S6.a1⟩ ?_
 refine yT 5 S6.le ⟨S6.a2,S6.a0,S6.a1⟩ ?_
 refine yT 6 S6.le ⟨S6.a2,S6.a0,S6.a1⟩ ?_
 refine yT 7 S6.le ⟨S6.a2,S6.a0,S6.a1⟩ ?_
 refine yT 8 S6.le ⟨S6.a2,S6.a0,S6.a1⟩ ?_
 refine yT 9 S6.le ⟨S6.a2,S6.a0,S6.a1⟩ ?_
 refine yT 10 S6.le ⟨S6.a2,S6.a0,S6.a1⟩ ?_
 refine yT 11 S6.le ⟨S6.a2,S6.a0,S6.a1⟩ ?_
 refine yT 12 S6.le ⟨S6.a2,S6.a0,S6.a1⟩ ?_
 refine yT 13 S6.le ⟨S6.a2,S6.a0,S6.a1⟩ ?_
 refine yT 14 S6.le ⟨S6.a2,S6.a0,S6.a1⟩ ?_
 refine y1 15 ?_
 refine yR (Unwrap_c _ _ _ _ a0.who e.epoch _ _ _ _ _ S6.fr6 (Hs.up le0) (H3.up le0) (by omega) (by omega) hbx0 hTj) ?_
 rintro _ w6 ⟨v4,I1,le1,rfl,H4,S7⟩
 refine ym (lT le1 S7.le) ?_
 refine yu le1 ?_
 refine yf 16 S7.le ?_
 refine yf 17 S7.le ?_
 refine yf 18 S7.le ?_
 refine yf 19 S7.le ?_
 refine yf 20 S7.le ?_
 refine yd ?_
 refine g7 ?_
 refine EC_if rfl (fun h4=>?_) (fun h4=>?_)
 have hun:unwrapE Lj s.sec a0.who e.epoch a0.box=0:=h4
 refine yJ 7 (fun w'=>Arr w' b 107 (rplC s p sv cv vm dv rv)∧Arr w' b0 36 (entRC e v0 v1 v2)) S7 ?_
 intro w7 S8
 refine yT 0 S8.le ⟨S8.a3,S8.a2⟩ ?_
 refine yT 1 S8.le ⟨S8.a3,S8.a2⟩ ?_
 refine yT 2 S8.le ⟨S8.a3,S8.a2⟩ ?_
 refine yT 3 S8.le ⟨S8.a3,S8.a2⟩ ?_
 refine yT 4 S8.le ⟨S8.a3,S8.a2⟩ ?_
 refine yT 5 S8.le ⟨S8.a3,S8.a2⟩ ?_
 refine yT 6 S8.le ⟨S8.a3,S8.a2⟩ ?_
 refine y1 7 ?_
 refine yR (Learn_c _ _ e.epoch _ _ _ _ _ S8.fr6 H4) ?_
 rintro _ w8 ⟨I2,le2,rfl,S9⟩
 refine ym (lT le2 S9.le) ?_
 refine yu le2 ?_
 refine yd ?_
 refine g3 ?_
 refine EL_int ((j:Int)+1) rfl (r_addi (by exact e0) rfl (by omega)) ?_
 intro x1 hx92
 refine g3 ?_
 have q1:learn1 s.who s.sec e.epoch a0 (Lj,kj)=(unwrapL Lj s.sec a0.who e.epoch,learnK kj e.epoch (unwrapB Lj s.sec a0.who e.epoch a0.box)):=by rw [learn1,if_pos hwq,←hwq,if_pos hun]
 have h5:=learn1_ok (who:=s.who) (ep:=e.epoch) (sec:=s.sec) (a:=a0) (x:=(Lj,kj)) hTj hkj
 rw [q1] at h5
 refine ⟨_,?_,j+1,unwrapL Lj s.sec a0.who e.epoch,learnK kj e.epoch (unwrapB Lj s.sec a0.who e.epoch a0.box),I2,rfl,(Eq.trans (show _=Value.int .i64 x1 from rfl) (congrArg _ (by omega))),(by exact e1),(by exact e2),(by exact e3),(by exact e4),by omega,(by rw [learn_step (show e.wraps[j]?=_ from ha0),←hx,q1]),h5.1,h5.2.1,(by have:=h5.2.2;simp only at this;omega),(lT (lT le0 le1) le2),S9.dr2.fr1.fr1.fr5.fr5.fr5.fr5⟩
 first | omega | (simp;omega)
 have hun:¬unwrapE Lj s.sec a0.who e.epoch a0.box=0:=h4
 refine g4 ?_
 refine EL_int ((j:Int)+1) rfl (r_addi (by exact e0) rfl (by omega)) ?_
 intro x2 hx102
 refine g3 ?_
 have q2:learn1 s.who s.sec e.epoch a0 (Lj,kj)=(unwrapL Lj s.sec a0.who e.epoch,kj):=by rw [learn1,if_pos hwq,←hwq,if_neg hun]
 have h6:=learn1_ok (who:=s.who) (ep:=e.epoch) (sec:=s.sec) (a:=a0) (x:=(Lj,kj)) hTj hkj
 rw [q2] at h6
 refine ⟨_,?_,j+1,unwrapL Lj s.sec a0.who e.epoch,kj,I1,rfl,(Eq.trans (show _=Value.int .i64 x2 from rfl) (congrArg _ (by omega))),(by exact e1),(by exact e2),(by exact e3),(by exact e4),by omega,(by rw [learn_step (show e.wraps[j]?=_ from ha0),←hx,q2]),h6.1,h6.2.1,(by have:=h6.2.2;simp only at this;omega),(lT le0 le1),S7.dr1.fr5.fr5.fr5.fr5.fr5⟩
 first | omega | (simp;omega)
 refine g4 ?_
 refine fin0n rfl ⟨_,rfl,?_⟩
 rw [List.take_of_length_le (by omega:e.wraps.length≤j)] at hx
 have S10:Sat _ _ (RplP (ptr b) p ({ s with ks:=kj })::_):=RplP.cls (s:={ s with ks:=kj }) (sv:=sv) (cv:=cv) (vm:=vm) (dv:=dv) (rv:=rv) ⟨hok.seen,hok.seenN,hkj,hok.num⟩ hc1 hd1 hr1 (Hs.up le0) (Hm.up le0) S2.fr4.fr4.fr4.fr4
 have q3:{ s with ks:=kj }={ s with ks:=(learnAll s.who s.sec e.epoch e.wraps (L,s.ks)).2 }:=by rw [←hx]
 have S11:=Sat.ah0 (RplP (ptr b) p) S10 q3
 have q4:Lj=(learnAll s.who s.sec e.epoch e.wraps (L,s.ks)).1:=by rw [←hx]
 have S12:=Sat.ah2 (Suite p) S11 q4
 exact ⟨I0,le0,S12.dr1⟩
theorem RpOut_c (q:Value) (p:Value) (s:Rpl) (cr:List Value) (r:Record) (L:List Thing) (I:Gh) (R:List HP) (w:World) (S:Sat w I (RplP q p s::Suite p L::R)) (hr:recR.r I cr r) (hl:L.length≤700000) (hT:TxtOk L) (hsec:s.sec.length≤100000) (hdl:s.docs.length≤100000):Ret Tryz.prog 115 [q,.agg cr.toArray] w fun v w'=>∃J:Gh,Gh.le I J∧.int .i64 (s.outE L r)=v∧Sat w' J (RplP q p ((s.outS L r).2)::Suite p ((s.outS L r).1)::R):=by
 obtain ⟨b,sv,cv,vm,dv,rv,rfl,hok,hc1,hd1,hr1,Hs,Hm,S0⟩:=RplP.opn S
 have hks:=hok.ks.2
 have hnum:=hok.num
 have lsv:=RoB.le Hs S0.le
 have lvm:=XRow.le (Hm.row S0.le)
 have hp1:=Suite.one S0.fr4
 obtain ⟨v0,rfl,r0,r1,r2,r3,⟨o0,H0⟩⟩:=hr
 refine ret_E Tryz.func115 rfl Tryz.ntmps115 (by simp) ?_
 refine g2 ?_
 refine yB (cs:=recRC r v0) S0 ?_
 intro b0 w0 S1
 refine g5 ?_
 refine EC_quietB (by kernel_rfl) (by kernel_rfl) ?_
 refine g8 ?_
 refine yE S1 ?_
 intro w1 S2
 refine g1 ?_
 refine EC_if rfl (fun h0=>?_) (fun h0=>?_)
 have hE1:s.pol.epoch<r.epoch:=h0
 refine g7 ?_
 refine f1 Tryz.results115 ?_
 have ho:=out_1 (L:=L) hE1
 have S3:Sat _ _ (RplP (ptr b) p s::_):=RplP.cls (s:=s) (sv:=sv) (cv:=cv) (vm:=vm) (dv:=dv) (rv:=rv) hok hc1 hd1 hr1 Hs Hm S2.fr4.fr4.fr4.fr4
 have q0:s=(s.outS L r).2:=by rw [ho.2]
 have S4:=Sat.ah0 (RplP (ptr b) p) S3 q0
 have q1:L=(s.outS L r).1:=by rw [ho.2]
 have S5:=Sat.ah2 (Suite p) S4 q1
 exact ⟨I,(Gh.le_refl _),(congrArg (Value.int .i64) (ho.1)),S5.dr1⟩
 have hE1:¬s.pol.epoch<r.epoch:=h0
 refine g3 ?_
 refine yJ 6 (fun w'=>Arr w' b 107 (rplC s p sv cv vm dv rv)∧Arr w' b0 199 (recRC r v0)) S2 ?_
 intro w2 S6
 refine yT 0 S6.le ⟨S6.a1,S6.a0⟩ ?_
 refine yT 1 S6.le ⟨S6.a1,S6.a0⟩ ?_
 refine yT 2 S6.le ⟨S6.a1,S6.a0⟩ ?_
 refine yT 3 S6.le ⟨S6.a1,S6.a0⟩ ?_
 refine yT 4 S6.le ⟨S6.a1,S6.a0⟩ ?_
 refine yT 5 S6.le ⟨S6.a1,S6.a0⟩ ?_
 refine y1 6 ?_
 refine yR (RKey_c _ _ r.epoch _ _ _ S6.fr4 hks) ?_
 rintro _ w3 ⟨v1,rfl,S7⟩
 refine ym S7.le ?_
 refine yf 7 S7.le ?_
 refine yf 8 S7.le ?_
 refine yf 9 S7.le ?_
 refine yf 10 S7.le ?_
 refine yf 11 S7.le ?_
 refine yd ?_
 refine g8 ?_
 refine EC_cond (t:=!(!(keyAt s.ks r.epoch).isEmpty)) rfl (fun h2=>?_) (fun h2=>?_)
 have hkE:(keyAt s.ks r.epoch).isEmpty=true:=by simpa using h2
 refine g7 ?_
 refine f1 Tryz.results115 ?_
 have ho:=out_2 (L:=L) hE1 hkE
 have S8:Sat _ _ (RplP (ptr b) p s::_):=RplP.cls (s:=s) (sv:=sv) (cv:=cv) (vm:=vm) (dv:=dv) (rv:=rv) hok hc1 hd1 hr1 Hs Hm S7.fr1.fr5.fr5.fr5
 have q2:s=(s.outS L r).2:=by rw [ho.2]
 have S9:=Sat.ah0 (RplP (ptr b) p) S8 q2
 have q3:L=(s.outS L r).1:=by rw [ho.2]
 have S10:=Sat.ah3 (Suite p) S9 q3
 exact ⟨I,(Gh.le_refl _),(congrArg (Value.int .i64) (ho.1)),S10.dr1.dr1⟩
 have hkE:¬(keyAt s.ks r.epoch).isEmpty=true:=by simpa using h2
 refine g2 ?_
 refine EC_cut (fun E' w'=>∃en:Entry,∃v6o11_0:Value,∃v6o11_1:Value,∃v6o11_2:Value,∃b6o15_0:Nat,∃J:Gh,E' 0=ptr b∧E' 3=ptr b0∧E' 4=.int .i64 0∧E' 7=ptr b6o15_0∧E' 8=.int .i64 (openRE L s.sec (keyAt s.ks r.epoch) r)∧(en=(openRV L s.sec (keyAt s.ks r.epoch) r))∧(-9223372036854775808≤en.kind∧en.kind≤9223372036854775807)∧(-9223372036854775808≤en.writer∧en.writer≤9223372036854775807)∧(-9223372036854775808≤en.seq∧en.seq≤9223372036854775807)∧(-9223372036854775808≤en.who∧en.who≤9223372036854775807)∧(-9223372036854775808≤en.rights∧en.rights≤9223372036854775807)∧(-9223372036854775808≤en.epoch∧en.epoch≤9223372036854775807)∧Gh.le I J∧RoB J v1 (keyAt s.ks r.epoch)∧RoB J v6o11_0 en.name∧RoB J v6o11_1 en.value∧RoX J v6o11_2 wrapR en.wraps∧Sat w' J (Blk b6o15_0 36 (entRC en v6o11_0 v6o11_1 v6o11_2)::Suite p (openRL L s.sec (keyAt s.ks r.epoch) r)::RingP rv s.ks::Blk b0 199 (recRC r v0)::Blk b 107 (rplC s p sv cv vm dv rv)::ChainP cv p s.ch::DocsP dv s.docs::R)) ?_ ?_
 refine yJ 16 (fun w'=>Arr w' b 107 (rplC s p sv cv vm dv rv)∧Arr w' b0 199 (recRC r v0)) S7 ?_
 intro w4 S11
 refine yT 0 S11.le ⟨S11.a3,S11.a2⟩ ?_
 refine yT 1 S11.le ⟨S11.a3,S11.a2⟩ ?_
 refine yT 2 S11.le ⟨S11.a3,S11.a2⟩ ?_
 refine yT 3 S11.le ⟨S11.a3,S11.a2⟩ ?_
 refine yT 4 S11.le ⟨S11.a3,S11.a2⟩ ?_
 refine yT 5 S11.le ⟨S11.a3,S11.a2⟩ ?_
 refine yT 6 S11.le ⟨S11.a3,S11.a2⟩ ?_
 refine yT 7 S11.le ⟨S11.a3,S11.a2⟩ ?_
 refine yT 8 S11.le ⟨S11.a3,S11.a2⟩ ?_
 refine yT 9 S11.le ⟨S11.a3,S11.a2⟩ ?_
 refine yT 10 S11.le ⟨S11.a3,S11.a2⟩ ?_
 refine EJ_two 11 15 (by kernel_rfl) ⟨_,rfl,?_⟩ ⟨_,rfl,?_⟩
 obtain ⟨I0,le0,S12,H1⟩:=S11.fb0
 refine yR (ROpen_c _ _ _ _ _ _ (recRC r v0) r _ _ _ S12.fr5 (Hs.up le0) H1 ⟨v0,rfl,ad,ad,ad,ad,⟨o0,(H0.up le0)⟩⟩ (by omega) (by omega) hT) ?_
 rintro _ w5 ⟨cs6o11_0,I1,le1,rfl,h6o11_0,S13⟩
 obtain ⟨en,hnen⟩:∃x:Entry,x=(openRV L s.sec (keyAt s.ks r.epoch) r):=⟨_,rfl⟩
 rw [show (openRV L s.sec (keyAt s.ks r.epoch) r)=en from hnen.symm] at h6o11_0
 obtain ⟨v6o11_0,v6o11_1,v6o11_2,rfl,r6o11_0,r6o11_1,r6o11_2,⟨o6o11_0,H2⟩,⟨o6o11_1,H3⟩,r6o11_3,r6o11_4,r6o11_5,⟨o6o11_2,H4⟩⟩:=h6o11_0
 refine yn (lT (lT le0 le1) S13.le) ⟨S13.a3,S13.a2⟩ ?_
 refine yu (lT le0 le1) ?_
 refine yT 12 S13.le ⟨S13.a3,S13.a2⟩ ?_
 refine yT 13 S13.le ⟨S13.a3,S13.a2⟩ ?_
 refine yF 14 S13.le ⟨S13.a3,S13.a2⟩ ?_
 refine y1 15 ?_
 refine EL_alloc (z:=.agg #[.int .i64 0,.int .i64 0,.int .i64 0,.slice none 0 0,.slice none 0 0,.int .i64 0,.int .i64 0,.int .i64 0,.slice none 0 0]) entR0 rfl (by kernel_rfl) rfl ?_
 intro b6o15_0 w6 k0 A0 B0 z0
 have S14:=S13.newB B0 A0 k0
 refine yn S14.le ⟨S14.a4,S14.a3⟩ ?_
 refine y1 16 ?_
 refine yW0 S14 ?_ (h1:=ones_cons rfl (ones_cons rfl (ones_cons rfl (ones_cons o6o11_0 (ones_cons o6o11_1 (ones_cons rfl (ones_cons rfl (ones_cons rfl (ones_cons o6o11_2 ones_nil)))))))))
 intro w7 S15
 refine ym S15.le ?_
 refine yf 17 S15.le ?_
 refine yd ?_
 refine g1 ?_
 exact ⟨en,v6o11_0,v6o11_1,v6o11_2,b6o15_0,I1,rfl,rfl,rfl,rfl,rfl,hnen,r6o11_0,r6o11_1,r6o11_2,r6o11_3,r6o11_4,r6o11_5,(lT le0 le1),(H1.up le1),H2,H3,H4,S15⟩
 refine EL_alloc (z:=.agg #[.int .i64 0,.int .i64 0,.int .i64 0,.slice none 0 0,.slice none 0 0,.int .i64 0,.int .i64 0,.int .i64 0,.slice none 0 0]) entR0 rfl (by kernel_rfl) rfl ?_
 intro b6o15_0 w8 k1 A1 B1 z1
 have S16:=S11.newB B1 A1 k1
 refine yn S16.le ⟨S16.a4,S16.a3⟩ ?_
 refine y1 11 ?_
 obtain ⟨I2,le2,S17,H5⟩:=S16.fb1
 refine yR (ROpen_c _ _ _ _ _ _ (recRC r v0) r _ _ _ S17.fr6 (Hs.up le2) H5 ⟨v0,rfl,ad,ad,ad,ad,⟨o0,(H0.up le2)⟩⟩ (by omega) (by omega) hT) ?_
 rintro _ w9 ⟨cs6o11_0,I3,le3,rfl,h6o11_0,S18⟩
 obtain ⟨en,hnen⟩:∃x:Entry,x=(openRV L s.sec (keyAt s.ks r.epoch) r):=⟨_,rfl⟩
 rw [show (openRV L s.sec (keyAt s.ks r.epoch) r)=en from hnen.symm] at h6o11_0
 obtain ⟨v6o11_0,v6o11_1,v6o11_2,rfl,r6o11_0,r6o11_1,r6o11_2,⟨o6o11_0,H6⟩,⟨o6o11_1,H7⟩,r6o11_3,r6o11_4,r6o11_5,⟨o6o11_2,H8⟩⟩:=h6o11_0
 refine yn (lT (lT le2 le3) S18.le) ⟨S18.a4,S18.a3⟩ ?_
 refine yu (lT le2 le3) ?_
 refine yT 12 S18.le ⟨S18.a4,S18.a3⟩ ?_
 refine yT 13 S18.le ⟨S18.a4,S18.a3⟩ ?_
 refine yF 14 S18.le ⟨S18.a4,S18.a3⟩ ?_
 refine y1 16 ?_
 refine yW1 S18 ?_ (h1:=ones_cons rfl (ones_cons rfl (ones_cons rfl (ones_cons o6o11_0 (ones_cons o6o11_1 (ones_cons rfl (ones_cons rfl (ones_cons rfl (ones_cons o6o11_2 ones_nil)))))))))
 intro w10 S19
 refine ym S19.le ?_
 refine yf 17 S19.le ?_
 refine yd ?_
 refine g1 ?_
 exact ⟨en,v6o11_0,v6o11_1,v6o11_2,b6o15_0,I3,rfl,rfl,rfl,rfl,rfl,hnen,r6o11_0,r6o11_1,r6o11_2,r6o11_3,r6o11_4,r6o11_5,(lT le2 le3),(H5.up le3),H6,H7,H8,S19.fr6.fr6.fr6.fr6.fr6.fr5.fr6⟩
 rintro E0 w11 ⟨en,v6o11_0,v6o11_1,v6o11_2,b6o15_0,I1,e0,e1,e2,e3,e4,hnen,r6o11_0,r6o11_1,r6o11_2,r6o11_3,r6o11_4,r6o11_5,le4,H9,H10,H11,H12,S20⟩
 refine g9 ?_
 refine EC_if rfl (fun h3=>?_) (fun h3=>?_)
 have hop:openRE L s.sec (keyAt s.ks r.epoch) r≠0:=h3
 refine g9 ?_
 refine f1 Tryz.results115 ?_
 have ho:=out_3 hE1 hkE hop
 have S21:Sat _ _ (RplP (ptr b) p s::_):=RplP.cls (s:=s) (sv:=sv) (cv:=cv) (vm:=vm) (dv:=dv) (rv:=rv) hok hc1 hd1 hr1 (Hs.up le4) (Hm.up le4) S20.fr2.fr6.fr6.fr6
 have q4:s=(s.outS L r).2:=by rw [ho.2]
 have S22:=Sat.ah0 (RplP (ptr b) p) S21 q4
 have q5:openRL L s.sec (keyAt s.ks r.epoch) r=(s.outS L r).1:=by rw [ho.2]
 have S23:=Sat.ah2 (Suite p) S22 q5
 exact ⟨I1,le4,(congrArg (Value.int .i64) (ho.1)),S23.dr1.dr2⟩
 have hop:openRE L s.sec (keyAt s.ks r.epoch) r=0:=Classical.byContradiction h3
 have her:en.right=true:=by rw [hnen];exact open_right hop
 have hrg:=right_rng her
 have hwl:=right_wl her
 have hb48:=right_box48 her
 have hTo:=hT.open (s:=s.sec) (k:=(keyAt s.ks r.epoch)) (r:=r)
 have hlo:=openRL_le L s.sec (keyAt s.ks r.epoch) r
 refine g1 ?_
 refine EC_quietB (by kernel_rfl) (by kernel_rfl) ?_
 refine g7 ?_
 refine EQ_val (ptr b (11+(en.writer:Int).toNat)) rfl (fun _ hw=>r_indexP (i:=en.writer) rfl rfl (by omega) (by omega) U105 (by kernel_rfl)) ?_
 have hsr139:=seen_rng (n:=en.writer) hok
 refine EQ_val (.int .i64 (seenAt s.seen en.writer)) rfl (fun _ hw=>r_loadA rfl ((S20.a4).below hw) (u:=(.int .i64 (seenAt s.seen en.writer))) (rplC_seen (n:=en.writer) hok (by omega)) U3 rfl) ?_
 refine g2 ?_
 refine yE S20 ?_
 intro w12 S24
 refine g1 ?_
 refine EC_if rfl (fun h4=>?_) (fun h4=>?_)
 have hsq:en.seq≤seenAt s.seen en.writer:=h4
 refine g8 ?_
 refine f1 Tryz.results115 ?_
 have ho:=out_4 hE1 hkE hop hnen
 have ht:=ent_1 (L:=openRL L s.sec (keyAt s.ks r.epoch) r) (ep:=r.epoch) hsq
 have S25:Sat _ _ (RplP (ptr b) p s::_):=RplP.cls (s:=s) (sv:=sv) (cv:=cv) (vm:=vm) (dv:=dv) (rv:=rv) hok hc1 hd1 hr1 (Hs.up le4) (Hm.up le4) S24.fr2.fr6.fr6.fr6
 have q6:s=(s.outS L r).2:=by rw [ho.2.trans ht.2]
 have S26:=Sat.ah0 (RplP (ptr b) p) S25 q6
 have q7:openRL L s.sec (keyAt s.ks r.epoch) r=(s.outS L r).1:=by rw [ho.2.trans ht.2]
 have S27:=Sat.ah2 (Suite p) S26 q7
 exact ⟨I1,le4,(congrArg (Value.int .i64) (ho.1.trans ht.1)),S27.dr1.dr2⟩
 have hsq:¬en.seq≤seenAt s.seen en.writer:=h4
 refine g4 ?_
 refine yJ 8 (fun w'=>Arr w' b6o15_0 36 (entRC en v6o11_0 v6o11_1 v6o11_2)) S24 ?_
 intro w13 S28
 refine yT 0 S28.le (S28.a0) ?_
 refine yT 1 S28.le (S28.a0) ?_
 refine yT 2 S28.le (S28.a0) ?_
 refine yT 3 S28.le (S28.a0) ?_
 refine yT 4 S28.le (S28.a0) ?_
 refine yT 5 S28.le (S28.a0) ?_
 refine yT 6 S28.le (S28.a0) ?_
 refine jT 7 rfl (by kernel_rfl) (ptr b (11+(en.writer:Int).toNat)) rfl (fun _ hw ht=>r_indexP (i:=en.writer) rfl rfl (by omega) (by omega) U105 (by kernel_rfl)) ⟨S28.le,fun h=>S28.a0⟩ ?_
 refine y1 8 ?_
 refine EL_storeA (u:=.int .i64 en.seq) rfl rfl (S28.a4) (by rw [rplC_len hok];omega) rfl (by kernel_rfl) ?_
 intro w14 A2 K0 z2
 have S29:=S28.wr4 (ds:=(rplC (s.sees en) p sv cv vm dv rv)) K0 (by rw [←rplC_set];exact A2)
 refine ym S29.le ?_
 refine yd ?_
 refine g3 ?_
 refine EC_quietB (by kernel_rfl) (by kernel_rfl) ?_
 refine g13 ?_
 refine yE S29 ?_
 intro w15 S30
 refine g1 ?_
 refine EC_cond (t:=(decide (en.kind≠5))&&(decide (r.epoch≠s.pol.epoch))) rfl (fun h5=>?_) (fun h5=>?_)
 have hko:en.kind≠5∧r.epoch≠s.pol.epoch:=by simpa using h5
 refine g7 ?_
 refine f1 Tryz.results115 ?_
 have ho:=out_4 hE1 hkE hop hnen
 have ht:=ent_2 (L:=openRL L s.sec (keyAt s.ks r.epoch) r) hsq hko
 have S31:Sat _ _ (RplP (ptr b) p (s.sees en)::_):=RplP.cls (s:=s.sees en) (sv:=sv) (cv:=cv) (vm:=vm) (dv:=dv) (rv:=rv) (hok.sees (by omega)) hc1 hd1 hr1 (Hs.up le4) (Hm.up le4) S30.fr2.fr6.fr6.fr6
 have q8:s.sees en=(s.outS L r).2:=by rw [ho.2.trans ht.2]
 have S32:=Sat.ah0 (RplP (ptr b) p) S31 q8
 have q9:openRL L s.sec (keyAt s.ks r.epoch) r=(s.outS L r).1:=by rw [ho.2.trans ht.2]
 have S33:=Sat.ah2 (Suite p) S32 q9
 exact ⟨I1,le4,(congrArg (Value.int .i64) (ho.1.trans ht.1)),S33.dr1.dr2⟩
 have hko:¬(en.kind≠5∧r.epoch≠s.pol.epoch):=by simpa using h5
 refine g2 ?_
 refine EC_cut (fun E' w'=>∃v14o5_0:Value,∃b14o9_0:Nat,∃J:Gh,E' 0=ptr b∧E' 4=.int .i64 0∧E' 7=ptr b6o15_0∧E' 8=.int .i64 (s.pol.mayE en)∧E' 9=ptr b14o9_0∧(-9223372036854775808≤(s.pol.app0 en).founder∧(s.pol.app0 en).founder≤9223372036854775807)∧(-9223372036854775808≤(s.pol.app0 en).epoch∧(s.pol.app0 en).epoch≤9223372036854775807)∧Gh.le I1 J∧RoX J v14o5_0 memR ((s.pol.app0 en).mem)∧Sat w' J (Blk b14o9_0 103 (polRC (s.pol.app0 en) v14o5_0)::Blk b6o15_0 36 (entRC en v6o11_0 v6o11_1 v6o11_2)::Suite p (openRL L s.sec (keyAt s.ks r.epoch) r)::RingP rv s.ks::Blk b0 199 (recRC r v0)::Blk b 107 (rplC (s.sees en) p sv cv vm dv rv)::ChainP cv p s.ch::DocsP dv s.docs::R)) ?_ ?_
 refine yJ 10 (fun w'=>Arr w' b 107 (rplC (s.sees en) p sv cv vm dv rv)∧Arr w' b6o15_0 36 (entRC en v6o11_0 v6o11_1 v6o11_2)) S30 ?_
 intro w16 S34
 refine yT 0 S34.le ⟨S34.a4,S34.a0⟩ ?_
 refine yT 1 S34.le ⟨S34.a4,S34.a0⟩ ?_
 refine yT 2 S34.le ⟨S34.a4,S34.a0⟩ ?_
 refine jT 3 rfl (by kernel_rfl) (.agg ((polRC s.pol vm)).toArray) rfl (fun _ hw ht=>r_loadR (o:=6) (cs:=(polRC s.pol vm)) rfl (range_cut0 (n:=3) 6 (Arr.range ht.1) rfl) U103 rfl (by kernel_rfl)) ⟨S34.le,fun h=>⟨S34.a4,S34.a0⟩⟩ ?_
 refine yT 4 S34.le ⟨S34.a4,S34.a0⟩ ?_
 refine EJ_two 5 9 (by kernel_rfl) ⟨_,rfl,?_⟩ ⟨_,rfl,?_⟩
 refine yR (PApply_c (polRC s.pol vm) s.pol (entRC en v6o11_0 v6o11_1 v6o11_2) en _ _ _ S34 ⟨vm,rfl,ad,ad,⟨(XRow.one (Hm.row S0.le)),(Hm.up le4)⟩⟩ ⟨v6o11_0,v6o11_1,v6o11_2,rfl,ad,ad,ad,⟨(row_one (H10 _ S34.le)),H10⟩,⟨(row_one (H11 _ S34.le)),H11⟩,ad,ad,ad,⟨(XRow.one (H12.row S34.le)),H12⟩⟩) ?_
 rintro _ w17 ⟨cs14o5_0,I4,le5,rfl,h14o5_0,S35⟩
 obtain ⟨v14o5_0,rfl,r14o5_0,r14o5_1,⟨o14o5_0,H13⟩⟩:=h14o5_0
 refine yn (lT le5 S35.le) ⟨S35.a4,S35.a0⟩ ?_
 refine yu le5 ?_
 refine yT 6 S35.le ⟨S35.a4,S35.a0⟩ ?_
 refine yT 7 S35.le ⟨S35.a4,S35.a0⟩ ?_
 refine yF 8 S35.le ⟨S35.a4,S35.a0⟩ ?_
 refine y1 9 ?_
 refine EL_alloc (z:=.agg #[.int .i64 0,.int .i64 0,.slice none 0 0]) polR0 rfl (by kernel_rfl) rfl ?_
 intro b14o9_0 w18 k2 A3 B2 z3
 have S36:=S35.newB B2 A3 k2
 refine yn S36.le ⟨S36.a5,S36.a1⟩ ?_
 refine y1 10 ?_
 refine yW0 S36 ?_ (h1:=ones_cons rfl (ones_cons rfl (ones_cons o14o5_0 ones_nil)))
 intro w19 S37
 refine ym S37.le ?_
 refine yf 11 S37.le ?_
 refine yd ?_
 refine g1 ?_
 exact ⟨v14o5_0,b14o9_0,I4,(by exact e0),(by exact e2),(by exact e3),rfl,rfl,r14o5_0,r14o5_1,le5,H13,S37⟩
 refine EL_alloc (z:=.agg #[.int .i64 0,.int .i64 0,.slice none 0 0]) polR0 rfl (by kernel_rfl) rfl ?_
 intro b14o9_0 w20 k3 A4 B3 z4
 have S38:=S34.newB B3 A4 k3
 refine yn S38.le ⟨S38.a5,S38.a1⟩ ?_
 refine y1 5 ?_
 refine yR (PApply_c (polRC s.pol vm) s.pol (entRC en v6o11_0 v6o11_1 v6o11_2) en _ _ _ S38 ⟨vm,rfl,ad,ad,⟨(XRow.one (Hm.row S0.le)),(Hm.up le4)⟩⟩ ⟨v6o11_0,v6o11_1,v6o11_2,rfl,ad,ad,ad,⟨(row_one (H10 _ S38.le)),H10⟩,⟨(row_one (H11 _ S38.le)),H11⟩,ad,ad,ad,⟨(XRow.one (H12.row S38.le)),H12⟩⟩) ?_
 rintro _ w21 ⟨cs14o5_0,I5,le6,rfl,h14o5_0,S39⟩
 obtain ⟨v14o5_0,rfl,r14o5_0,r14o5_1,⟨o14o5_0,H14⟩⟩:=h14o5_0
 refine yn (lT le6 S39.le) ⟨S39.a5,S39.a1⟩ ?_
 refine yu le6 ?_
 refine yT 6 S39.le ⟨S39.a5,S39.a1⟩ ?_
 refine yT 7 S39.le ⟨S39.a5,S39.a1⟩ ?_
 refine yF 8 S39.le ⟨S39.a5,S39.a1⟩ ?_
 refine y1 10 ?_
 refine yW0 S39 ?_ (h1:=ones_cons rfl (ones_cons rfl (ones_cons o14o5_0 ones_nil)))
 intro w22 S40
 refine ym S40.le ?_
 refine yf 11 S40.le ?_
 refine yd ?_
 refine g1 ?_
 exact ⟨v14o5_0,b14o9_0,I5,(by exact e0),(by exact e2),(by exact e3),rfl,rfl,r14o5_0,r14o5_1,le6,H14,S40⟩
 rintro E1 w23 ⟨v14o5_0,b14o9_0,I4,e5,e6,e7,e8,e9,r14o5_0,r14o5_1,le7,H15,S41⟩
 refine g7 ?_
 refine EC_if rfl (fun h6=>?_) (fun h6=>?_)
 have hma:¬s.pol.mayE en=0:=h6
 refine g8 ?_
 refine f1 Tryz.results115 ?_
 have ho:=out_4 hE1 hkE hop hnen
 have ht:=ent_3 (L:=openRL L s.sec (keyAt s.ks r.epoch) r) hsq hko
 have S42:Sat _ _ (RplP (ptr b) p (s.sees en)::_):=RplP.cls (s:=s.sees en) (sv:=sv) (cv:=cv) (vm:=vm) (dv:=dv) (rv:=rv) (hok.sees (by omega)) hc1 hd1 hr1 (Hs.up (lT le4 le7)) (Hm.up (lT le4 le7)) S41.fr3.fr7.fr7.fr7
 have q10:s.sees en=(s.outS L r).2:=by rw [ho.2.trans (ht.2.1 hma)]
 have S43:=Sat.ah0 (RplP (ptr b) p) S42 q10
 have q11:openRL L s.sec (keyAt s.ks r.epoch) r=(s.outS L r).1:=by rw [ho.2.trans (ht.2.1 hma)]
 have S44:=Sat.ah3 (Suite p) S43 q11
 exact ⟨I4,(lT le4 le7),(congrArg (Value.int .i64) (ho.1.trans ht.1)),S44.dr1.dr1.dr2⟩
 have hma:s.pol.mayE en=0:=Classical.byContradiction h6
 refine g8 ?_
 refine EL_storeP (v:=.agg ((polRC (s.pol.app0 en) v14o5_0)).toArray) (vs:=(polRC (s.pol.app0 en) v14o5_0)) (o:=6) rfl rfl rfl (S41.a5) (by first | decide | exact Nat.le_of_ble_eq_true rfl) (by kernel_rfl) (ones_cons rfl (ones_cons rfl (ones_cons (XRow.one (H15.row S41.le)) ones_nil))) ?_
 intro w24 A5 K1 z5
 have S45:=S41.wr5 (ds:=((rplC (s.sees en) p sv cv vm dv rv).take 6++(polRC (s.pol.app0 en) v14o5_0)++(rplC (s.sees en) p sv cv vm dv rv).drop (6+3))) K1 A5
 refine g3 ?_
 refine yJ 5 (fun w'=>Arr w' b 107 ((rplC (s.sees en) p sv cv vm dv rv).take 6++(polRC (s.pol.app0 en) v14o5_0)++(rplC (s.sees en) p sv cv vm dv rv).drop (6+3))∧Arr w' b6o15_0 36 (entRC en v6o11_0 v6o11_1 v6o11_2)) S45 ?_
 intro w25 S46
 refine yT 0 S46.le ⟨S46.a5,S46.a1⟩ ?_
 refine yT 1 S46.le ⟨S46.a5,S46.a1⟩ ?_
 refine yT 2 S46.le ⟨S46.a5,S46.a1⟩ ?_
 refine yT 3 S46.le ⟨S46.a5,S46.a1⟩ ?_
 refine yT 4 S46.le ⟨S46.a5,S46.a1⟩ ?_
 refine y1 5 ?_
 have S47:=S46.fr7
 refine yR (DApp_c _ _ (entRC en v6o11_0 v6o11_1 v6o11_2) en _ _ _ S47 ⟨v6o11_0,v6o11_1,v6o11_2,rfl,ad,ad,ad,⟨(row_one (H10 _ (lT le7 S47.le))),(H10.up le7)⟩,⟨(row_one (H11 _ (lT le7 S47.le))),(H11.up le7)⟩,ad,ad,ad,⟨(XRow.one (H12.row (lT le7 S47.le))),(H12.up le7)⟩⟩ (by omega)) ?_
 rintro _ w26 ⟨I6,le8,rfl,S48⟩
 refine ym (lT le8 S48.le) ?_
 refine yu le8 ?_
 refine yd ?_
 refine g5 ?_
 have hpa:s.pol.app0 en=s.pol.app en:=if_pos hma
 have S49:Sat _ _ (RplP (ptr b) p ({ s.sees en with pol:=s.pol.app0 en,docs:=applyD s.docs en })::_):=RplP.cls (s:={ s.sees en with pol:=s.pol.app0 en,docs:=applyD s.docs en }) (sv:=sv) (cv:=cv) (vm:=v14o5_0) (dv:=dv) (rv:=rv) ⟨(hok.sees (e:=en) (by omega)).seen,(hok.sees (e:=en) (by omega)).seenN,hok.ks,⟨hnum.1,hnum.2.1,hnum.2.2.1,(by rw [hpa];exact app_num her hnum.2.2.2)⟩⟩ hc1 hd1 hr1 (Hs.up (lT (lT le4 le7) le8)) (H15.up le8) S48.fr4.fr1.fr7.fr7
 have S50:=S49.fr3.fr1
 refine yR (RpLearn_c _ _ _ (entRC en v6o11_0 v6o11_1 v6o11_2) en _ _ _ _ S50 ⟨v6o11_0,v6o11_1,v6o11_2,rfl,ad,ad,ad,⟨(row_one (H10 _ (lT (lT le7 le8) S50.le))),(H10.up (lT le7 le8))⟩,⟨(row_one (H11 _ (lT (lT le7 le8) S50.le))),(H11.up (lT le7 le8))⟩,ad,ad,ad,⟨(XRow.one (H12.row (lT (lT le7 le8) S50.le))),(H12.up (lT le7 le8))⟩⟩ (by omega) hTo hsec (by omega) hb48) ?_
 rintro v2 w27 ⟨I7,le9,S51⟩
 refine g8 ?_
 refine f1 Tryz.results115 ?_
 have ho:=out_4 hE1 hkE hop hnen
 have ht:=ent_3 (L:=openRL L s.sec (keyAt s.ks r.epoch) r) hsq hko
 have q12:{ ({ s.sees en with pol:=s.pol.app0 en,docs:=applyD s.docs en }) with ks:=(learnAll ({ s.sees en with pol:=s.pol.app0 en,docs:=applyD s.docs en }).who ({ s.sees en with pol:=s.pol.app0 en,docs:=applyD s.docs en }).sec en.epoch en.wraps ((openRL L s.sec (keyAt s.ks r.epoch) r),({ s.sees en with pol:=s.pol.app0 en,docs:=applyD s.docs en }).ks)).2 }=(s.outS L r).2:=by rw [ho.2.trans (ht.2.2 hma),hpa];rfl
 have S52:=Sat.ah0 (RplP (ptr b) p) S51 q12
 have q13:(learnAll ({ s.sees en with pol:=s.pol.app0 en,docs:=applyD s.docs en }).who ({ s.sees en with pol:=s.pol.app0 en,docs:=applyD s.docs en }).sec en.epoch en.wraps ((openRL L s.sec (keyAt s.ks r.epoch) r),({ s.sees en with pol:=s.pol.app0 en,docs:=applyD s.docs en }).ks)).1=(s.outS L r).1:=by rw [ho.2.trans (ht.2.2 hma)];rfl
 have S53:=Sat.ah1 (Suite p) S52 q13
 exact ⟨I7,(lT (lT (lT le4 le7) le8) le9),(congrArg (Value.int .i64) ((ho.1.trans ht.1).trans hma)),S53.dr2.dr2.dr2⟩
end Go.Proofs.YthddplghlljdbaaGreat
