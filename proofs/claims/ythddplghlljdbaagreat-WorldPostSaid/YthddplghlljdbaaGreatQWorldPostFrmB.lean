import Derived.Test.YthddplghlljdbaaGreatQWorldPostRpA
set_option linter.unusedVariables false
set_option linter.unusedSimpArgs false
set_option maxRecDepth 100000
set_option maxHeartbeats 4000000
namespace Go.Proofs.YthddplghlljdbaaGreat
open Go.RowKit Go.Ecal
def whoR:Rep WhoT:=⟨4,fun I cs a=>∃v3,cs=[.int .i64 a.coll,.int .i64 a.founder,.int .i64 a.who,v3]∧(-9223372036854775808≤a.coll∧a.coll≤9223372036854775807)∧(-9223372036854775808≤a.founder∧a.founder≤9223372036854775807)∧(-9223372036854775808≤a.who∧a.who≤9223372036854775807)∧(v3.oneCell'=true∧RoB I v3 a.sec),fun k h=>by obtain ⟨v3,rfl,h0,h1,h2,⟨o3,h3⟩⟩:=h;exact ⟨v3,rfl,h0,h1,h2,⟨o3,h3.up k⟩⟩,
 fun h=>by obtain ⟨v3,rfl,h0,h1,h2,⟨o3,h3⟩⟩:=h;rfl,fun h u hu=>by
  obtain ⟨v3,rfl,h0,h1,h2,⟨o3,h3⟩⟩:=h
  simp only [List.mem_cons,List.not_mem_nil,or_false] at hu
  rcases hu with rfl | rfl | rfl | rfl<;>first | rfl | assumption⟩
abbrev whoRC (a:WhoT) (v3:Value):List Value:=[.int .i64 a.coll,.int .i64 a.founder,.int .i64 a.who,v3]
theorem RpCom_c (q:Value) (p:Value) (s:Rpl) (L:List Thing) (v0:Value) (bb:List UInt8) (I:Gh) (R:List HP) (w:World) (S:Sat w I (RplP q p s::Suite p L::R)) (Q0:RoB I v0 bb) (hl:L.length≤600000) (hT:TxtOk L) (hsec:s.sec.length≤100000) (hdl:s.docs.length≤100000) (hbl:bb.length≤1000000000):Ret Tryz.prog 81 [q,v0] w fun v w'=>∃J:Gh,Gh.le I J∧.tuple #[.int .i64 (s.comE bb),.int .i64 (s.comO L bb)]=v∧Sat w' J (RplP q p ((s.comS L bb).2)::Suite p ((s.comS L bb).1)::R):=by
 have lq0:=RoB.le Q0 S.le
 obtain ⟨b,sv,cv,vm,dv,rv,rfl,hok,hc1,hd1,hr1,Hs,Hm,S0⟩:=RplP.opn S
 have hks:=hok.ks.2
 have hnum:=hok.num
 have lsv:=RoB.le Hs S0.le
 have lvm:=XRow.le (Hm.row S0.le)
 have hp1:=Suite.one S0.fr4
 obtain ⟨_,_,_,_,_,_,h32,_,_⟩:=ChainP.opn S0.fr1
 refine ret_E Tryz.func81 rfl Tryz.ntmps81 (by simp) ?_
 refine g9 ?_
 refine yR (RDec_c _ _ _ _ _ S0 Q0 hbl) ?_
 rintro _ w0 ⟨cs0,I0,le0,rfl,h0,S1⟩
 obtain ⟨v1,rfl,r0,r1,r2,r3,⟨o0,H0⟩⟩:=h0
 refine g3 ?_
 refine yN recR0 S1 ?_
 intro b0 w1 S2
 refine yW0 S2 ?_ (h1:=ones_cons rfl (ones_cons rfl (ones_cons rfl (ones_cons rfl (ones_cons o0 ones_nil)))))
 intro w2 S3
 refine g5 ?_
 refine EC_quietB (by kernel_rfl) (by kernel_rfl) ?_
 refine g12 ?_
 refine yE S3 ?_
 intro w3 S4
 refine g1 ?_
 refine EC_cond (t:=(decide ((recE bb)≠0))||(decide (((recV bb).coll)≠s.coll))) rfl (fun h2=>?_) (fun h2=>?_)
 have hrec:¬s.isRec bb=true:=by simp only [Rpl.isRec,Bool.and_eq_true,decide_eq_true_eq];simp at h2;intro hh;rcases h2 with h1 | h1;exact h1 hh.1;exact h1 hh.2
 refine g8 ?_
 refine f2 Tryz.results81 ?_
 have hc:=com_1 (L:=L) hrec
 have S5:Sat _ _ (RplP (ptr b) p s::_):=RplP.cls (s:=s) (sv:=sv) (cv:=cv) (vm:=vm) (dv:=dv) (rv:=rv) hok hc1 hd1 hr1 (Hs.up le0) (Hm.up le0) S4.fr4.fr4.fr4.fr4
 have q0:s=(s.comS L bb).2:=by rw [hc.2.2]
 have S6:=Sat.ah0 (RplP (ptr b) p) S5 q0
 have q1:L=(s.comS L bb).1:=by rw [hc.2.2]
 have S7:=Sat.ah2 (Suite p) S6 q1
 exact ⟨I0,le0,(by rw [hc.1,hc.2.1]),S7.dr1⟩
 have hrec:s.isRec bb=true:=by simp only [Rpl.isRec,Bool.and_eq_true,decide_eq_true_eq];simpa using h2
 refine g10 ?_
 refine yR (CApp_c _ _ _ _ _ _ _ _ _ S4.fr5.fr3 (Q0.up le0) (by omega)) ?_
 rintro _ w4 ⟨I1,le1,rfl,S8⟩
 refine g9 ?_
 refine EC_if rfl (fun h3=>?_) (fun h3=>?_)
 have hce:¬chE s.ch bb=0:=h3
 refine g9 ?_
 refine f2 Tryz.results81 ?_
 have hc:=com_2 (L:=L) hrec hce
 have q2:chApp L s.ch bb=s.ch:=by rw [chApp,if_neg hce]
 have S9:=Sat.ah0 (ChainP cv p) S8 q2
 have q3:chL L s.ch bb=L:=by rw [chL,if_neg hce]
 have S10:=Sat.ah1 (Suite p) S9 q3
 have S11:Sat _ _ (RplP (ptr b) p s::_):=RplP.cls (s:=s) (sv:=sv) (cv:=cv) (vm:=vm) (dv:=dv) (rv:=rv) hok hc1 hd1 hr1 (Hs.up (lT le0 le1)) (Hm.up (lT le0 le1)) S10.fr5.fr5.fr2.fr5
 have q4:s=(s.comS L bb).2:=by rw [hc.2.2]
 have S12:=Sat.ah0 (RplP (ptr b) p) S11 q4
 have q5:L=(s.comS L bb).1:=by rw [hc.2.2]
 have S13:=Sat.ah1 (Suite p) S12 q5
 exact ⟨I1,(lT le0 le1),(by rw [hc.1,hc.2.1]),S13.dr2⟩
 have hce:chE s.ch bb=0:=Classical.byContradiction h3
 have hcl:=chL_len L s.ch bb
 have hct:=hT.ch (c:=s.ch) (b:=bb) h32
 refine g6 ?_
 have S14:Sat _ _ (RplP (ptr b) p (s.linked L bb)::_):=RplP.cls (s:=(s.linked L bb)) (sv:=sv) (cv:=cv) (vm:=vm) (dv:=dv) (rv:=rv) (⟨hok.seen,hok.seenN,hok.ks,hok.num⟩:(s.linked L bb).ok) hc1 hd1 hr1 (Hs.up (lT le0 le1)) (Hm.up (lT le0 le1)) S8.fr5.fr5.fr2.fr5
 refine yR (RpOut_c _ _ _ (recRC (recV bb) v1) (recV bb) _ _ _ _ S14 ⟨v1,rfl,ad,ad,ad,ad,⟨o0,(H0.up le1)⟩⟩ (by omega) hct hsec hdl) ?_
 rintro _ w5 ⟨I2,le2,rfl,S15⟩
 refine g5 ?_
 refine f2 Tryz.results81 ?_
 have hc:=com_3 (L:=L) hrec hce
 have q6:((s.linked L bb).outS (chL L s.ch bb) (recV bb)).2=(s.comS L bb).2:=by rw [hc.2.2]
 have S16:=Sat.ah0 (RplP (ptr b) p) S15 q6
 have q7:((s.linked L bb).outS (chL L s.ch bb) (recV bb)).1=(s.comS L bb).1:=by rw [hc.2.2]
 have S17:=Sat.ah1 (Suite p) S16 q7
 exact ⟨I2,(lT (lT le0 le1) le2),(by rw [hc.1,hc.2.1]),S17.dr2⟩
theorem First1_c (f:Int) (I:Gh) (R:List HP) (w:World) (S:Sat w I (R)) (hf0:-9223372036854775808≤f∧f≤9223372036854775807) (hf:within f 1 16=true):Ret Tryz.prog 59 [.int .i64 f] w fun v w'=>∃cr:List Value,∃J:Gh,Gh.le I J∧.tuple #[.agg cr.toArray,.int .i64 0]=v∧polR.r J cr (firstP f)∧Sat w' J (R):=
 (First_c f I R w S hf0).mono fun v w' h=>by
  rw [show firstE f=0 from if_pos hf,show firstV f=firstP f from if_pos hf] at h;exact h
theorem RpNewOk_c (p:Value) (L:List Thing) (cx:List Value) (x:WhoT) (I:Gh) (R:List HP) (w:World) (S:Sat w I (Suite p L::R)) (hx:whoR.r I cx x) (hl:L.length≤600000) (hk:rplOk x.coll x.founder x.who=true) (hsec:x.sec.length≤100000):Ret Tryz.prog 40 [p,.agg cx.toArray] w fun v w'=>∃b:Nat,∃J:Gh,Gh.le I J∧.tuple #[ptr b,.int .i64 0]=v∧Sat w' J (RplP (ptr b) p ((newR L x.coll x.founder x.who x.sec).2)::Suite p ((newR L x.coll x.founder x.who x.sec).1)::R):=by
 have hnum:=rplOk_iff.1 hk
 have hp1:=Suite.one S
 obtain ⟨v0,rfl,r0,r1,r2,⟨o0,H0⟩⟩:=hx
 refine ret_E Tryz.func40 rfl Tryz.ntmps40 (by simp) ?_
 refine g2 ?_
 refine yB (cs:=[.int .i64 x.coll,.int .i64 x.founder,.int .i64 x.who,v0]) S ?_
 intro b0 w0 S0
 refine g8 ?_
 refine yR (First1_c x.founder _ _ _ S0 au (within_iff.2 hnum.2.1)) ?_
 rintro _ w1 ⟨cs0,I0,le0,rfl,h0,S1⟩
 obtain ⟨v1,rfl,r3,r4,⟨o1,H1⟩⟩:=h0
 refine g3 ?_
 refine yN polR0 S1 ?_
 intro b1 w2 S2
 refine yW0 S2 ?_ (h1:=ones_cons rfl (ones_cons rfl (ones_cons o1 ones_nil)))
 intro w3 S3
 refine g7 ?_
 refine vl (.bool false) rfl (r_dec (by decide) (r_neq rfl rfl)) ?_
 refine g3 ?_
 refine gl 18 rfl rfl rfl rfl _ rfl (dcF (r_lss rfl rfl) (by simp;omega)) ?_
 refine g4 ?_
 refine gl 23 rfl rfl rfl rfl _ rfl (dcF (r_gtr rfl rfl) (by simp;omega)) ?_
 refine g4 ?_
 refine gl 28 rfl rfl rfl rfl _ rfl (dcF (r_lss rfl rfl) (by simp;omega)) ?_
 refine g4 ?_
 refine gl 33 rfl rfl rfl rfl _ rfl (dcF (r_gtr rfl rfl) (by simp;omega)) ?_
 refine g10 ?_
 have S4:=S3.nilB
 refine yP0 elB S4 (H0 _ (lT le0 S4.le)) ?_
 intro v2 w4 S5
 refine g1 ?_
 refine yS2 S5 ?_ (hu:=own_one (S5.own 0 rfl))
 intro w5 S6
 refine g7 ?_
 refine yR (CNew_c _ _ x.coll _ _ _ S6.fr3 (by omega) au) ?_
 rintro _ w6 ⟨q0,I1,le1,rfl,S7⟩
 have o2:=ChainP.oneV S7
 refine g8 ?_
 refine yJ 10 (fun w'=>Arr w' b0 86 ([.int .i64 x.coll,.int .i64 x.founder,.int .i64 x.who,v0].set 3 v2)∧Arr w' b1 103 (polRC (firstP x.founder) v1)) S7 ?_
 intro w7 S8
 refine yT 0 S8.le ⟨S8.a4,S8.a3⟩ ?_
 refine yT 1 S8.le ⟨S8.a4,S8.a3⟩ ?_
 refine yT 2 S8.le ⟨S8.a4,S8.a3⟩ ?_
 refine yT 3 S8.le ⟨S8.a4,S8.a3⟩ ?_
 refine yT 5 S8.le ⟨S8.a4,S8.a3⟩ ?_
 refine yT 6 S8.le ⟨S8.a4,S8.a3⟩ ?_
 refine yT 7 S8.le ⟨S8.a4,S8.a3⟩ ?_
 refine y1 4 ?_
 refine yR (DNew_c _ _ _ S8) ?_
 rintro _ w8 ⟨q1,rfl,S9⟩
 have o3:=DocsP.oneV S9
 refine yn S9.le ⟨S9.a5,S9.a4⟩ ?_
 refine y1 8 ?_
 obtain ⟨I2,le2,S10,H2⟩:=S9.fb3
 refine yR (RNew_c _ _ _ _ _ _ _ S10.fr2 H2 (by have:=onceL_len (chT x.coll) L;omega) (by simp;omega)) ?_
 rintro _ w9 ⟨r5,I3,le3,rfl,S11⟩
 have o4:=RingP.oneV S11
 refine yn (lT (lT le2 le3) S11.le) ⟨S11.a5,S11.a4⟩ ?_
 refine yu (lT le2 le3) ?_
 refine jT 9 rfl (by kernel_rfl) (.agg ([p,.int .i64 x.coll,.int .i64 x.founder,.int .i64 x.who,v2,q0,.int .i64 ((firstP x.founder).founder),.int .i64 ((firstP x.founder).epoch),v1,q1,r5,.int .i64 0,.int .i64 0,.int .i64 0,.int .i64 0,.int .i64 0,.int .i64 0,.int .i64 0,.int .i64 0,.int .i64 0,.int .i64 0,.int .i64 0,.int .i64 0,.int .i64 0,.int .i64 0,.int .i64 0,.int .i64 0,.int .i64 0]).toArray) rfl (fun _ hw ht=>r_buildS (l:=[(0,p),(1,.agg (([.int .i64 x.coll,.int .i64 x.founder,.int .i64 x.who,v0].set 3 v2)).toArray),(2,q0),(3,.agg ((polRC (firstP x.founder) v1)).toArray),(4,q1),(5,r5)]) st_107 (parts6 rfl rfl rfl rfl rfl rfl) (Eq.trans (show Instr.fill _ _ [(0,p),(1,.agg (([.int .i64 x.coll,.int .i64 x.founder,.int .i64 x.who,v0].set 3 v2)).toArray),(2,q0),(3,.agg ((polRC (firstP x.founder) v1)).toArray),(4,q1),(5,r5)]=_ from (fill_one rfl (one_cells hp1) (by kernel_rfl) (fill_some (cs:=(([.int .i64 x.coll,.int .i64 x.founder,.int .i64 x.who,v0].set 3 v2)).toArray) rfl rfl rfl (Nat.le_of_ble_eq_true (by kernel_rfl)) (fill_one rfl (one_cells o2) (by kernel_rfl) (fill_some (cs:=((polRC (firstP x.founder) v1)).toArray) rfl rfl rfl (Nat.le_of_ble_eq_true (by kernel_rfl)) (fill_one rfl (one_cells o3) (by kernel_rfl) (fill_one rfl (one_cells o4) (by kernel_rfl) fill_end))))))) (by kernel_rfl))) ⟨S11.le,fun h=>⟨S11.a5,S11.a4⟩⟩ ?_
 refine y1 10 ?_
 refine yB (cs:=[p,.int .i64 x.coll,.int .i64 x.founder,.int .i64 x.who,v2,q0,.int .i64 ((firstP x.founder).founder),.int .i64 ((firstP x.founder).epoch),v1,q1,r5,.int .i64 0,.int .i64 0,.int .i64 0,.int .i64 0,.int .i64 0,.int .i64 0,.int .i64 0,.int .i64 0,.int .i64 0,.int .i64 0,.int .i64 0,.int .i64 0,.int .i64 0,.int .i64 0,.int .i64 0,.int .i64 0,.int .i64 0]) S11 ?_
 intro b2 w10 S12
 refine ym S12.le ?_
 refine yf 11 S12.le ?_
 refine yf 12 S12.le ?_
 refine yd ?_
 refine g2 ?_
 refine f2 Tryz.results40 ?_
 have h2:=newR_ok (L:=L) (x:=x) hk
 have S13:=S12.fr1.fr3.fr4
 have o5:=ChainP.oneV S13
 have o6:=DocsP.oneV S13.fr1
 have o7:=RingP.oneV S13.fr2
 have S14:Sat _ _ (RplP (ptr b2) p ((newR L x.coll x.founder x.who x.sec).2)::_):=RplP.cls (s:=(newR L x.coll x.founder x.who x.sec).2) (sv:=v2) (cv:=q0) (vm:=v1) (dv:=q1) (rv:=r5) ⟨h2.1,h2.2.1,h2.2.2,⟨hnum.1,hnum.2.1,hnum.2.2,hnum.2.1,(show (0:Int)≤0∧(0:Int)≤16 from by decide)⟩⟩ o5 o6 o7 (H2.up le3) (H1.up (lT (lT le1 le2) le3)) S13.fr2.fr2.fr2.fr3
 have q2:onceL (derT (([]:List UInt8)++x.sec) uEpoch 0) (onceL (chT x.coll) L)=(newR L x.coll x.founder x.who x.sec).1:=by simp only [newR,List.nil_append]
 have S15:=Sat.ah1 (Suite p) S14 q2
 exact ⟨b2,I3,(lT (lT (lT le0 le1) le2) le3),rfl,S15.dr2.dr2⟩
end Go.Proofs.YthddplghlljdbaaGreat

set_option maxRecDepth 100000
set_option maxHeartbeats 4000000
namespace Go.Proofs.YthddplghlljdbaaGreat
open Go.RowKit Go.Ecal
theorem DGet_c (q:Value) (K:List Doc) (v0:Value) (n:List UInt8) (I:Gh) (R:List HP) (w:World) (S:Sat w I (DocsP q K::R)) (Q0:RoB I v0 n) (hn:n.length≤1000000) (hK:∀d∈K,d.2.length≤1000000):Ret Tryz.prog 20 [q,v0] w fun v w'=>∃v1:Value,∃J:Gh,Gh.le I J∧.tuple #[v1,.bool ((lkD K n).isSome)]=v∧RoB J v1 ((lkD K n).getD [])∧Sat w' J (DocsP q K::R):=by
 have lq0:=RoB.le Q0 S.le
 obtain ⟨b,m,rfl,S0⟩:=DocsP.opn S
 have hlk:=lkD_len (n:=n) hK
 refine ret_E Tryz.func20 rfl Tryz.ntmps20 (by simp) ?_
 refine g7 ?_
 refine EC_quietB (by kernel_rfl) (by kernel_rfl) ?_
 refine g5 ?_
 refine EQ_val (.string (str n)) rfl (fun _ hw=>r_str rfl ((Q0 _ S0.le).below hw) U33 U5 U9) ?_
 obtain ⟨ar0,ck0,hm0,hK0⟩:=S0.md 1 rfl
 refine EQ_val (.tuple #[.string (str ((lkD K n).getD [])),.bool ((lkD K n).isSome)]) rfl (fun _ hw=>(r_lookD2 U9 U109 (by kernel_rfl) rfl rfl (map_below hm0 hw) hK0 (by first | assumption | omega | (simp;omega))).1) ?_
 refine g5 ?_
 refine yE S0 ?_
 intro w0 S1
 refine g4 ?_
 refine EL_bytes (l:=(lkD K n).getD []) rfl rfl U9 U33 U5 (by first | omega | (simp;omega)) ?_
 intro v2 w1 B0 V0 R0 V21l
 obtain ⟨I0,le0,S2,H0⟩:=S1.newR B0 V0 R0 V21l
 refine g6 ?_
 refine f2 Tryz.results20 ?_
 have S3:Sat w1 I0 (DocsP (ptr b) K::R):=DocsP.cls S2
 exact ⟨v2,I0,le0,rfl,H0,S3⟩
theorem RpChain_c (q:Value) (p:Value) (s:Rpl) (I:Gh) (R:List HP) (w:World) (S:Sat w I (RplP q p s::R)):Ret Tryz.prog 52 [q] w fun v w'=>∃b:Nat,∃sv:Value,∃cv:Value,∃vm:Value,∃dv:Value,∃rv:Value,cv=v∧(q=ptr b)∧(s.ok)∧(cv.oneCell'=true)∧(dv.oneCell'=true)∧(rv.oneCell'=true)∧RoB I sv s.sec∧RoX I vm memR s.pol.mem∧Sat w' I (Blk b 107 (rplC s p sv cv vm dv rv)::ChainP cv p s.ch::DocsP dv s.docs::RingP rv s.ks::R):=by
 obtain ⟨b,sv,cv,vm,dv,rv,rfl,hok,hc1,hd1,hr1,Hs,Hm,S0⟩:=RplP.opn S
 have hks:=hok.ks.2
 have hnum:=hok.num
 have lsv:=RoB.le Hs S0.le
 have lvm:=XRow.le (Hm.row S0.le)
 refine ret_E Tryz.func52 rfl Tryz.ntmps52 (by simp) ?_
 refine g15 ?_
 refine f1 Tryz.results52 ?_
 exact ⟨b,sv,cv,vm,dv,rv,rfl,rfl,hok,hc1,hd1,hr1,Hs,Hm,S0⟩
end Go.Proofs.YthddplghlljdbaaGreat

set_option maxRecDepth 100000
set_option maxHeartbeats 4000000
namespace Go.Proofs.YthddplghlljdbaaGreat
open Go.RowKit Go.Ecal
def frmR:Rep FrameT:=⟨5,fun I cs a=>∃v3 v4,cs=[.int .i64 a.kind,.int .i64 a.coll,.int .i64 a.index,v3,v4]∧(-9223372036854775808≤a.kind∧a.kind≤9223372036854775807)∧(-9223372036854775808≤a.coll∧a.coll≤9223372036854775807)∧(-9223372036854775808≤a.index∧a.index≤9223372036854775807)∧(v3.oneCell'=true∧RoX I v3 bytesR a.links)∧(v4.oneCell'=true∧RoB I v4 a.sum),fun k h=>by obtain ⟨v3,v4,rfl,h0,h1,h2,⟨o3,h3⟩,⟨o4,h4⟩⟩:=h;exact ⟨v3,v4,rfl,h0,h1,h2,⟨o3,h3.up k⟩,⟨o4,h4.up k⟩⟩,
 fun h=>by obtain ⟨v3,v4,rfl,h0,h1,h2,⟨o3,h3⟩,⟨o4,h4⟩⟩:=h;rfl,fun h u hu=>by
  obtain ⟨v3,v4,rfl,h0,h1,h2,⟨o3,h3⟩,⟨o4,h4⟩⟩:=h
  simp only [List.mem_cons,List.not_mem_nil,or_false] at hu
  rcases hu with rfl | rfl | rfl | rfl | rfl<;>first | rfl | assumption⟩
abbrev frmRC (a:FrameT) (v3 v4:Value):List Value:=[.int .i64 a.kind,.int .i64 a.coll,.int .i64 a.index,v3,v4]
abbrev frmR0:List Value:=[.int .i64 0,.int .i64 0,.int .i64 0,.slice none 0 0,.slice none 0 0]
theorem frmRz (I:Gh):frmR.r I frmR0 (⟨0,0,0,[],[]⟩:FrameT):=⟨_,_,rfl,(by dsimp only;omega),(by dsimp only;omega),(by dsimp only;omega),⟨rfl,RoX.nil⟩,⟨rfl,Ro.nil⟩⟩
theorem badL_c (v0:Value) (b:List UInt8) (I:Gh) (R:List HP) (w:World) (S:Sat w I (R)) (Q0:RoB I v0 b):Ret Tryz.prog 168 [v0] w fun v w'=>.bool (badLink b)=v∧Sat w' I (R):=by
 have lq0:=RoB.le Q0 S.le
 refine ret_E Tryz.func168 rfl Tryz.ntmps168 (by simp) ?_
 refine g8 ?_
 refine vl _ rfl (lenB (r_len rfl (Q0 _ S.le) U33)) ?_
 refine g3 ?_
 refine EL_gite 6 rfl rfl rfl (.int .i64 (b.length:Int)) rfl (fun g12=>lenB (r_len (cond_of g12 rfl) (Q0 _ S.le) U33)) ?_
 refine g6 ?_
 refine f1 Tryz.results168 ?_
 exact ⟨rfl,S⟩
theorem BIdx_c (v0:Value) (l:List (List UInt8)) (I:Gh) (R:List HP) (w:World) (S:Sat w I (R)) (Q0:RoX I v0 bytesR l):Ret Tryz.prog 156 [v0,.func (.func 168) #[] #[]] w fun v w'=>∃n:Int,.int .i64 n=v∧((n=-1∧l.any badLink=false)∨(0≤n∧l.any badLink=true))∧Sat w' I (R):=by
 have lq0:=XRow.le (Q0.row S.le)
 refine ret_E Tryz.func156 rfl Tryz.ntmps156 (by simp) ?_
 refine g9 ?_
 refine vl _ rfl (r_lenX rfl (Q0.row S.le) U52) ?_
 refine g4 ?_
 refine EC_loop (fun m' E' w'=>∃j:Nat,m'=l.length-j∧E' 8=.int .i64 (j:Int)∧E' 0=v0∧E' 1=.func (.func 168) #[] #[]∧E' 7=.int .i64 (l.length:Int)∧(j≤l.length)∧((l.take j).any badLink=false)∧Sat w' I (R)) _ ⟨0,rfl,rfl,rfl,rfl,rfl,Nat.zero_le _,rfl,S⟩ ?_
 rintro _ E0 w0 ⟨j,rfl,e0,e1,e2,e3,hj,hno,S0⟩
 refine g6 ?_
 refine EC_if rfl (fun h0=>?_) (fun h0=>?_)
 refine g15 ?_
 refine vl (ptr (blkOf v0) (offOf v0+((j:Int):Int).toNat*1)) rfl (r_indexX rfl (Q0.row S0.le) rfl (by omega) as' U52 (by kernel_rfl)) ?_
 obtain ⟨a0,ha0⟩:=get_some (l:=l) (j:=((j:Int):Int).toNat) as'
 obtain ⟨cs0,hc0,he0⟩:=Q0.el ha0
 obtain ⟨v1,rfl,o0,H0⟩:=hc0
 refine vl _ rfl (r_load0 rfl (he0 _ S0.le) U33 rfl) ?_
 refine EL_retw _ rfl rfl Tryz.func168 rfl nm168 rfl (badL_c _ _ _ _ _ S0 H0) ?_
 rintro _ w1 ⟨rfl,S1⟩
 refine g2 ?_
 refine EC_cond (t:=badLink a0) rfl (fun h1=>?_) (fun h1=>?_)
 have hab:badLink a0=true:=by simpa using h1
 refine g12 ?_
 refine f1 Tryz.results156 ?_
 exact ⟨(j:Int),rfl,(.inr ⟨by omega,List.any_eq_true.2 ⟨_,List.mem_of_getElem? (show l[j]?=_ from ha0),hab⟩⟩),S1⟩
 have hab:badLink a0=false:=by simpa using h1
 refine g4 ?_
 refine EL_int ((j:Int)+1) rfl (r_addi (by exact e0) rfl (by omega)) ?_
 intro x0 hx30
 refine g3 ?_
 refine ⟨_,?_,j+1,rfl,(Eq.trans (show _=Value.int .i64 x0 from rfl) (congrArg _ (by omega))),(by exact e1),(by exact e2),(by exact e3),by omega,(by rw [List.take_add_one,(show l[j]?=_ from ha0)];simp [hno,hab]),S1⟩
 first | omega | (simp;omega)
 refine g11 ?_
 refine f1 Tryz.results156 ?_
 exact ⟨(-1),rfl,(.inl ⟨rfl,by rwa [List.take_of_length_le (by omega)] at hno⟩),S0⟩
theorem BCon_c (v0:Value) (l:List (List UInt8)) (I:Gh) (R:List HP) (w:World) (S:Sat w I (R)) (Q0:RoX I v0 bytesR l):Ret Tryz.prog 121 [v0,.func (.func 168) #[] #[]] w fun v w'=>.bool (l.any badLink)=v∧Sat w' I (R):=by
 have lq0:=XRow.le (Q0.row S.le)
 refine ret_E Tryz.func121 rfl Tryz.ntmps121 (by simp) ?_
 refine g9 ?_
 refine yR (BIdx_c _ _ _ _ _ S Q0) ?_
 rintro _ w0 ⟨n0,rfl,h0,S0⟩
 have hcn:=h0
 refine g5 ?_
 refine f1 Tryz.results121 ?_
 exact ⟨(congrArg Value.bool (by rcases hcn with ⟨h1,h2⟩ | ⟨h1,h2⟩<;>rw [h2]<;>simp<;>omega)),S0⟩
theorem links_c (v0:Value) (l:List (List UInt8)) (least:Int) (I:Gh) (R:List HP) (w:World) (S:Sat w I (R)) (Q0:RoX I v0 bytesR l):Ret Tryz.prog 149 [v0,.int .i64 least] w fun v w'=>.bool (linksOk l least)=v∧Sat w' I (R):=by
 have lq0:=XRow.le (Q0.row S.le)
 refine ret_E Tryz.func149 rfl Tryz.ntmps149 (by simp) ?_
 refine g6 ?_
 rcases first2 (least≤(l.length:Int)) ((l.length:Int)≤8) with hc | hc | hc
 refine g2 ?_
 refine vl _ rfl (r_lenX rfl (Q0.row S.le) U52) ?_
 refine g1 ?_
 refine vl _ rfl (dcF (r_geq rfl rfl) (decide_eq_false hc)) ?_
 refine g14 ?_
 refine f1 Tryz.results149 ?_
 exact ⟨(congrArg Value.bool (by rw [linksOk,decide_eq_false hc]<;>rfl)),S⟩
 refine g2 ?_
 refine vl _ rfl (r_lenX rfl (Q0.row S.le) U52) ?_
 refine g1 ?_
 refine vl _ rfl (dcT (r_geq rfl rfl) (decide_eq_true hc.1)) ?_
 refine g2 ?_
 refine gl 9 rfl rfl rfl rfl _ rfl (r_lenX rfl (Q0.row S.le) U52) (gl 9 rfl rfl rfl rfl _ rfl (dcF (r_leq rfl rfl) (decide_eq_false hc.2)) ?_)
 refine g10 ?_
 refine f1 Tryz.results149 ?_
 exact ⟨(congrArg Value.bool (by rw [linksOk,decide_eq_true hc.1,decide_eq_false hc.2]<;>rfl)),S⟩
 refine g2 ?_
 refine vl _ rfl (r_lenX rfl (Q0.row S.le) U52) ?_
 refine g1 ?_
 refine vl _ rfl (dcT (r_geq rfl rfl) (decide_eq_true hc.1)) ?_
 refine g2 ?_
 refine gl 9 rfl rfl rfl rfl _ rfl (r_lenX rfl (Q0.row S.le) U52) (gl 9 rfl rfl rfl rfl _ rfl (dcT (r_leq rfl rfl) (decide_eq_true hc.2)) ?_)
 refine g3 ?_
 refine yG (BCon_c _ _ _ _ _ S Q0) ?_
 rintro _ w0 ⟨rfl,S0⟩
 refine g6 ?_
 refine f1 Tryz.results149 ?_
 exact ⟨(congrArg Value.bool (by rw [linksOk,decide_eq_true hc.1,decide_eq_true hc.2]<;>rfl)),S0⟩
theorem FRight_c (cf:List Value) (f:FrameT) (I:Gh) (R:List HP) (w:World) (S:Sat w I (R)) (hf:frmR.r I cf f):Ret Tryz.prog 110 [.agg cf.toArray] w fun v w'=>.bool f.right=v∧Sat w' I (R):=by
 obtain ⟨v0,v1,rfl,r0,r1,r2,⟨o0,H0⟩,⟨o1,H1⟩⟩:=hf
 refine ret_E Tryz.func110 rfl Tryz.ntmps110 (by simp) ?_
 refine g2 ?_
 refine yB (cs:=[.int .i64 f.kind,.int .i64 f.coll,.int .i64 f.index,v0,v1]) S ?_
 intro b0 w0 S0
 refine g26 ?_
 refine EC_cond (t:=(((decide (f.coll<1))||(decide (1099511627776<f.coll)))||(decide (f.index<0)))||(decide (64<f.index))) rfl (fun h0=>?_) (fun h0=>?_)
 have hnu:f.nums=false:=by rw [Bool.eq_false_iff];intro q;rw [nums_fr] at q;simp at h0;omega
 refine g7 ?_
 refine f1 Tryz.results110 ?_
 exact ⟨(congrArg Value.bool (by rw [FrameT.right,hnu];rfl)),S0.dr0⟩
 have hnu:f.nums=true:=nums_fr.2 (by simp at h0;omega)
 refine g4 ?_
 rcases (by omega:f.kind=1∨f.kind=2∨f.kind=3∨f.kind=4∨(¬f.kind=1∧¬f.kind=2∧¬f.kind=3∧¬f.kind=4)) with hk | hk | hk | hk | hk
 refine g8 ?_
 refine vl _ rfl (dT (r_eql rfl rfl)) ?_
 refine g8 ?_
 refine yR (links_c _ _ 1 _ _ _ S0 H0) ?_
 rintro _ w1 ⟨rfl,S1⟩
 refine g8 ?_
 refine EL_gite 33 rfl rfl rfl (.int .i64 (f.sum.length:Int)) rfl (fun g45=>lenB (r_len (cond_of g45 rfl) (H1 _ S1.le) U33)) ?_
 refine g8 ?_
 refine f1 Tryz.results110 ?_
 exact ⟨(congrArg Value.bool (by rw [FrameT.right,hnu,FrameT.body,if_pos hk];simp [Bool.and_assoc])),S1.dr0⟩
 refine g8 ?_
 refine vl _ rfl (dF (r_eql rfl rfl)) ?_
 refine g6 ?_
 refine vl _ rfl (dT (r_eql rfl rfl)) ?_
 refine g8 ?_
 refine vl _ rfl (r_lenX rfl (H0.row S0.le) U52) ?_
 refine g4 ?_
 refine EL_gite 45 rfl rfl rfl (.int .i64 (f.sum.length:Int)) rfl (fun g50=>lenB (r_len (cond_of g50 rfl) (H1 _ S0.le) U33)) ?_
 refine g8 ?_
 refine f1 Tryz.results110 ?_
 exact ⟨(congrArg Value.bool (by rw [FrameT.right,hnu,FrameT.body,if_neg (by omega),if_pos hk];simp [Bool.and_assoc])),S0.dr0⟩
 refine g8 ?_
 refine vl _ rfl (dF (r_eql rfl rfl)) ?_
 refine g6 ?_
 refine vl _ rfl (dF (r_eql rfl rfl)) ?_
 refine g6 ?_
 refine vl _ rfl (dT (r_eql rfl rfl)) ?_
 refine g8 ?_
 refine yR (links_c _ _ 0 _ _ _ S0 H0) ?_
 rintro _ w2 ⟨rfl,S2⟩
 refine g3 ?_
 refine EL_gite 56 rfl rfl rfl (.int .i64 (f.sum.length:Int)) rfl (fun g57=>lenB (r_len (cond_of g57 rfl) (H1 _ S2.le) U33)) ?_
 refine g8 ?_
 refine f1 Tryz.results110 ?_
 exact ⟨(congrArg Value.bool (by rw [FrameT.right,hnu,FrameT.body,if_neg (by omega),if_neg (by omega),if_pos hk];simp [Bool.and_assoc])),S2.dr0⟩
 refine g8 ?_
 refine vl _ rfl (dF (r_eql rfl rfl)) ?_
 refine g6 ?_
 refine vl _ rfl (dF (r_eql rfl rfl)) ?_
 refine g6 ?_
 refine vl _ rfl (dF (r_eql rfl rfl)) ?_
 refine g6 ?_
 refine vl _ rfl (dT (r_eql rfl rfl)) ?_
 refine g8 ?_
 refine vl _ rfl (r_lenX rfl (H0.row S0.le) U52) ?_
 refine g4 ?_
 refine EL_gite 68 rfl rfl rfl (.int .i64 (f.sum.length:Int)) rfl (fun g62=>lenB (r_len (cond_of g62 rfl) (H1 _ S0.le) U33)) ?_
 refine g8 ?_
 refine f1 Tryz.results110 ?_
 exact ⟨(congrArg Value.bool (by rw [FrameT.right,hnu,FrameT.body,if_neg (by omega),if_neg (by omega),if_neg (by omega),if_pos hk];simp [Bool.and_assoc])),S0.dr0⟩
 refine g8 ?_
 refine vl _ rfl (dF (r_eql rfl rfl)) ?_
 refine g6 ?_
 refine vl _ rfl (dF (r_eql rfl rfl)) ?_
 refine g6 ?_
 refine vl _ rfl (dF (r_eql rfl rfl)) ?_
 refine g6 ?_
 refine vl _ rfl (dF (r_eql rfl rfl)) ?_
 refine g13 ?_
 refine f1 Tryz.results110 ?_
 exact ⟨(congrArg Value.bool (by rw [FrameT.right,hnu,FrameT.body,if_neg (by omega),if_neg (by omega),if_neg (by omega),if_neg (by omega)];simp [Bool.and_assoc])),S0.dr0⟩
end Go.Proofs.YthddplghlljdbaaGreat

set_option maxRecDepth 100000
set_option maxHeartbeats 4000000
namespace Go.Proofs.YthddplghlljdbaaGreat
open Go.RowKit Go.Ecal
theorem FEnc_c (cf:List Value) (f:FrameT) (I:Gh) (R:List HP) (w:World) (S:Sat w I (R)) (hf:frmR.r I cf f):Ret Tryz.prog 76 [.agg cf.toArray] w fun v w'=>∃v1:Value,∃J:Gh,Gh.le I J∧.tuple #[v1,.int .i64 f.encE]=v∧(isNil v1=f.encB.isEmpty)∧Sat w' J (OwnB v1 f.encB::R):=by
 obtain ⟨v0,v2,rfl,r0,r1,r2,⟨o0,H0⟩,⟨o1,H1⟩⟩:=hf
 refine ret_E Tryz.func76 rfl Tryz.ntmps76 (by simp) ?_
 refine g2 ?_
 refine yB (cs:=frmRC f v0 v2) S ?_
 intro b0 w0 S0
 refine g8 ?_
 refine yR (FRight_c (frmRC f v0 v2) f _ _ _ S0 ⟨v0,v2,rfl,ad,ad,ad,⟨o0,H0⟩,⟨o1,H1⟩⟩) ?_
 rintro _ w1 ⟨rfl,S1⟩
 refine g3 ?_
 refine EC_cond (t:=!f.right) rfl (fun h0=>?_) (fun h0=>?_)
 have hrt:f.right=false:=(Bool.not_eq_true' _).mp h0
 refine g8 ?_
 refine f2 Tryz.results76 ?_
 have hE:f.encE=10:=by rw [FrameT.encE,if_pos hrt]
 rw [show f.encB=[] from if_neg (by rw [hE];decide)]
 have S2:=S1.nilB
 exact ⟨(.slice none 0 0),I,(Gh.le_refl _),(by rw [hE]),rfl,S2.dr1⟩
 have hrt:f.right=true:=(Bool.not_eq_false' _).mp h0
 have hrf:=right_fr hrt
 refine g6 ?_
 refine vl _ rfl (r_iface rfl U3 rfl) ?_
 refine g2 ?_
 refine vl _ rfl (r_iface rfl U3 rfl) ?_
 refine g2 ?_
 refine vl _ rfl (r_iface rfl U3 rfl) ?_
 refine g2 ?_
 refine vl _ rfl (r_lenX rfl (H0.row S1.le) U52) (vl _ rfl (r_iface rfl U3 rfl) ?_)
 refine EL_lit1 (l:=[(0,.iface 3 (.int .i64 f.kind)),(1,.iface 3 (.int .i64 f.coll)),(2,.iface 3 (.int .i64 f.index)),(3,.iface 3 (.int .i64 (f.links.length:Int)))]) w1.heap.size [.iface 3 (.int .i64 f.kind),.iface 3 (.int .i64 f.coll),.iface 3 (.int .i64 f.index),.iface 3 (.int .i64 (f.links.length:Int))] el_122 rfl (by decide) rfl (Nat.le_refl _) (parts4 rfl rfl rfl rfl) (Eq.trans (show Instr.fill _ _ [(0,.iface 3 (.int .i64 f.kind)),(1,.iface 3 (.int .i64 f.coll)),(2,.iface 3 (.int .i64 f.index)),(3,.iface 3 (.int .i64 (f.links.length:Int)))]=_ from (fill_one rfl rfl (by kernel_rfl) (fill_one rfl rfl (by kernel_rfl) (fill_one rfl rfl (by kernel_rfl) (fill_one rfl rfl (by kernel_rfl) fill_end))))) (by kernel_rfl)) ?_
 intro v3 w2 O0 B0 k0
 have S3:Sat _ _ (OwnX 20 anyR v3 [(Any.int f.kind),(Any.int f.coll),(Any.int f.index),(Any.int (f.links.length:Int))]::_):=OwnX.cls (xss:=[[.iface 3 (.int .i64 f.kind)],[.iface 3 (.int .i64 f.coll)],[.iface 3 (.int .i64 f.index)],[.iface 3 (.int .i64 (f.links.length:Int))]]) (.cons ⟨rfl,(by first | assumption | omega)⟩ (.cons ⟨rfl,(by first | assumption | omega)⟩ (.cons ⟨rfl,(by first | assumption | omega)⟩ (.cons ⟨rfl,(by first | assumption | omega)⟩ .nil)))) (S1.newO B0 O0)
 refine g8 ?_
 refine vl _ rfl (r_lenX rfl (H0.row S3.le) U52) ?_
 refine g4 ?_
 have q0:[(Any.int f.kind),(Any.int f.coll),(Any.int f.index),(Any.int (f.links.length:Int))]=f.head++(f.links.take 0).map Any.bytes:=by simp [FrameT.head]
 have S4:=S3.ax0 q0
 refine EC_loop (fun m' E' w'=>∃j:Nat,∃qv:Value,∃J:Gh,m'=f.links.length-j∧E' 29=.int .i64 (j:Int)∧E' 4=qv∧E' 1=ptr b0∧E' 2=.slice none 0 0∧E' 3=.int .i64 0∧E' 27=v0∧E' 28=.int .i64 (f.links.length:Int)∧(j≤f.links.length)∧((f.head++(f.links.take j).map Any.bytes).length≤12)∧Gh.le I J∧Sat w' J (OwnX 20 anyR qv (f.head++(f.links.take j).map Any.bytes)::Blk b0 164 (frmRC f v0 v2)::R)) _ ⟨0,v3,I,rfl,rfl,rfl,rfl,rfl,rfl,rfl,rfl,Nat.zero_le _,(by simp [FrameT.head]),(Gh.le_refl _),S4⟩ ?_
 rintro _ E0 w3 ⟨j,qv,I0,rfl,e0,e1,e2,e3,e4,e5,e6,hj,hln,le0,S5⟩
 refine g6 ?_
 refine EC_if rfl (fun h1=>?_) (fun h1=>?_)
 refine g6 ?_
 refine vl (ptr (blkOf v0) (offOf v0+((j:Int):Int).toNat*1)) rfl (r_indexX (by exact e5) (H0.row (lT le0 S5.le)) (by exact e0) (by omega) as' U52 (by kernel_rfl)) ?_
 obtain ⟨a0,ha0⟩:=get_some (l:=f.links) (j:=((j:Int):Int).toNat) as'
 obtain ⟨cs0,hc0,he0⟩:=H0.el ha0
 obtain ⟨v4,rfl,o2,H2⟩:=hc0
 refine vl _ rfl (r_load0 rfl (he0 _ (lT le0 S5.le)) U33 rfl) ?_
 refine g6 ?_
 refine vl _ rfl (r_iface rfl U33 rfl) ?_
 refine EL_lit1 (l:=[(0,.iface 33 v4)]) w3.heap.size [.iface 33 v4] el_122 rfl (by decide) rfl (Nat.le_refl _) (parts1 rfl) (Eq.trans (show Instr.fill _ _ [(0,.iface 33 v4)]=_ from (fill_one rfl rfl (by kernel_rfl) fill_end)) (by kernel_rfl)) ?_
 intro v5 w4 O1 B1 k1
 have S6:Sat _ _ (OwnX 20 anyR v5 [(Any.bytes a0)]::_):=OwnX.cls (xss:=[[.iface 33 v4]]) (.cons ⟨_,rfl,o2,(H2.up le0)⟩ .nil) (S5.newO B1 O1)
 have oH74:=(OwnX.one S6 0 rfl (by decide))
 obtain ⟨I1,le1,S7,H3⟩:=S6.fx0 (by decide)
 refine EL_appX (z:=(.nilIface)) (bytes:=16) rfl U122 (by kernel_rfl) rfl (by decide) rfl rfl S7 H3 ac ac ?_
 intro v6 w5 S8
 refine g5 ?_
 refine EL_int ((j:Int)+1) rfl (r_addi (by exact e0) rfl (by omega)) ?_
 intro x0 hx75
 refine g3 ?_
 have q1:(f.head++(f.links.take j).map Any.bytes)++[(Any.bytes a0)]=f.head++(f.links.take (j+1)).map Any.bytes:=by rw [List.take_add_one,(show f.links[j]?=_ from ha0)];simp
 have S9:=S8.ax0 q1
 refine ⟨_,?_,j+1,v6,I1,rfl,(Eq.trans (show _=Value.int .i64 x0 from rfl) (congrArg _ (by omega))),rfl,(by exact e2),(by exact e3),(by exact e4),(by exact e5),(by exact e6),by omega,(by simp [FrameT.head];omega),(lT le0 le1),S9⟩
 first | omega | (simp;omega)
 refine g6 ?_
 have hlt:(f.head++f.links.map Any.bytes).length≤12:=by simp [FrameT.head];omega
 have q2:f.head++(f.links.take j).map Any.bytes=f.head++f.links.map Any.bytes:=by rw [List.take_of_length_le (by omega)]
 have S10:=S5.ax0 q2
 skip
 refine g4 ?_
 refine vl _ rfl (r_iface rfl U33 rfl) ?_
 refine EL_lit1 (l:=[(0,.iface 33 v2)]) w3.heap.size [.iface 33 v2] el_122 rfl (by decide) rfl (Nat.le_refl _) (parts1 rfl) (Eq.trans (show Instr.fill _ _ [(0,.iface 33 v2)]=_ from (fill_one rfl rfl (by kernel_rfl) fill_end)) (by kernel_rfl)) ?_
 intro v7 w6 O2 B2 k2
 have S11:Sat _ _ (OwnX 20 anyR v7 [(Any.bytes f.sum)]::_):=OwnX.cls (xss:=[[.iface 33 v2]]) (.cons ⟨_,rfl,o1,(H1.up le0)⟩ .nil) (S10.newO B2 O2)
 have oH92:=(OwnX.one S11 0 rfl (by decide))
 obtain ⟨I2,le2,S12,H4⟩:=S11.fx0 (by decide)
 refine EL_appX (z:=(.nilIface)) (bytes:=16) rfl U122 (by kernel_rfl) rfl (by decide) rfl rfl S12 H4 ac ac ?_
 intro v8 w7 S13
 have oH96:=(OwnX.one S13 0 rfl (by decide))
 obtain ⟨I3,le3,S14,H5⟩:=S13.fx0 (by decide)
 refine yR (Put_c _ _ _ _ _ S14 H5 (by simp [FrameT.head];omega)) ?_
 rintro _ w8 ⟨v9,rfl,S15⟩
 refine g11 ?_
 refine vl _ rfl (lenB (r_len rfl (own_row (S15.own 0 rfl)) U33)) ?_
 refine g3 ?_
 refine EC_if rfl (fun h2=>?_) (fun h2=>?_)
 have hbig:32768<((putB f.parts).length:Int):=h2
 refine g8 ?_
 refine f2 Tryz.results76 ?_
 have hE:f.encE=11:=by rw [FrameT.encE,if_neg (by rw [hrt];decide),if_pos hbig]
 rw [show f.encB=[] from if_neg (by rw [hE];decide)]
 have S16:=S15.nilB
 exact ⟨(.slice none 0 0),I3,(lT (lT le0 le2) le3),(by rw [hE]),rfl,S16.dr1.dr1⟩
 have hbig:¬32768<((putB f.parts).length:Int):=h2
 refine g10 ?_
 refine f2 Tryz.results76 ?_
 have hE:f.encE=0:=by rw [FrameT.encE,if_neg (by rw [hrt];decide),if_neg hbig]
 have q3:putB ((f.head++f.links.map Any.bytes)++[(Any.bytes f.sum)])=f.encB:=by rw [FrameT.encB,if_pos hE];rfl
 have S17:=S15.ab0 q3
 have hnn:=nil_is (isNil_own S17 0 rfl (enc_ne hE)) (enc_ne hE)
 exact ⟨v9,I3,(lT (lT le0 le2) le3),(by rw [hE]),hnn,S17.dr1⟩
end Go.Proofs.YthddplghlljdbaaGreat
