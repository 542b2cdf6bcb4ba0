import Derived.Test.YthddplghlljdbaaGreatQWorldPostEntF
set_option linter.unusedVariables false
set_option linter.unusedSimpArgs false
set_option maxRecDepth 100000
set_option maxHeartbeats 4000000
namespace Go.Proofs.YthddplghlljdbaaGreat
open Go.RowKit Go.Ecal
theorem dl3 (n:Nat) (b:Bool):n=0∨(0<n∧b=true)∨(0<n∧b=false):=(Nat.eq_zero_or_pos n).elim .inl fun h=>by cases b;exact .inr (.inr ⟨h,rfl⟩);exact .inr (.inl ⟨h,rfl⟩)
theorem who_c (b:Nat) (q:Nat) (r:Rd) (I:Gh) (R:List HP) (w:World) (S:Sat w I (Blk b 194 [ptr q]::RdP (ptr q) r::R)):Ret Tryz.prog 95 [ptr b] w fun v w'=>∃J:Gh,Gh.le I J∧.int .i64 (rdNum r 1 16)=v∧Sat w' J (Blk b 194 [ptr q]::RdP (ptr q) (rdNumS r 1 16)::R):=by
 refine ret_E Tryz.func95 rfl Tryz.ntmps95 (by simp) ?_
 refine g8 ?_
 refine yR (Number_c _ _ 1 16 _ _ _ S.fr1) ?_
 rintro _ w0 ⟨I0,le0,rfl,S0⟩
 refine g4 ?_
 refine f1 Tryz.results95 ?_
 exact ⟨I0,le0,rfl,S0.fr1⟩
theorem Decode_c (v0:Value) (l:List UInt8) (I:Gh) (R:List HP) (w:World) (S:Sat w I (R)) (Q0:RoB I v0 l) (hl:l.length≤1000000000):Ret Tryz.prog 68 [v0] w fun v w'=>∃cr:List Value,∃J:Gh,Gh.le I J∧.tuple #[.agg cr.toArray,.int .i64 (decE l)]=v∧entR.r J cr (decV l)∧Sat w' J (R):=by
 have lq0:=RoB.le Q0 S.le
 refine ret_E Tryz.func68 rfl Tryz.ntmps68 (by simp) ?_
 refine g2 ?_
 refine yN entR0 S ?_
 intro b0 w0 S0
 refine g6 ?_
 refine yR (Read_c _ _ _ _ _ S0 Q0 au) ?_
 rintro _ w1 ⟨p0,I0,le0,rfl,S1⟩
 obtain ⟨q0,rfl⟩:=RdP.ptr S1
 refine yN [.pointer none] S1 ?_
 intro b1 w2 S2
 refine yS0 S2 ?_
 intro w3 S3
 refine g4 ?_
 refine vl (.func (.func 95) #[] [ptr b1].toArray) rfl (r_mkfun rfl rfl) ?_
 refine g6 ?_
 refine yR (Number_c _ _ 1 5 _ _ _ S3.fr1) ?_
 rintro _ w4 ⟨I1,le1,rfl,S4⟩
 have hn0:=rdNum_rng (Rd.mk l false) 1 (hi:=5) (by omega)
 refine vl _ rfl (gB [.int .i64 (rdNum (Rd.mk l false) 1 5),.int .i64 0,.int .i64 0,.slice none 0 0,.slice none 0 0,.int .i64 0,.int .i64 0,.int .i64 0,.slice none 0 0] st_36 (parts1 rfl) (fill_one rfl rfl rfl fill_end)) ?_
 refine yN entR0 S4 ?_
 intro b2 w5 S5
 refine yW0 S5 ?_
 intro w6 S6
 refine g5 ?_
 refine EL_retw _ rfl rfl Tryz.func95 rfl nm95 rfl (who_c _ _ _ _ _ _ S6.fr1.fr2) ?_
 rintro _ w7 ⟨I2,le2,rfl,S7⟩
 have hn1:=rdNum_rng (rdNumS (Rd.mk l false) 1 5) 1 (hi:=16) (by omega)
 refine g1 ?_
 refine yS2 S7 ?_
 intro w8 S8
 refine g5 ?_
 refine yR (Number_c _ _ 1 1099511627776 _ _ _ S8.fr1) ?_
 rintro _ w9 ⟨I3,le3,rfl,S9⟩
 have hn2:=rdNum_rng (rdNumS (rdNumS (Rd.mk l false) 1 5) 1 16) 1 (hi:=1099511627776) (by omega)
 refine g1 ?_
 refine yS2 S9 ?_
 intro w10 S10
 refine g4 ?_
 rcases (by omega:rdNum (Rd.mk l false) 1 5=1∨rdNum (Rd.mk l false) 1 5=2∨rdNum (Rd.mk l false) 1 5=3∨rdNum (Rd.mk l false) 1 5=4∨rdNum (Rd.mk l false) 1 5=5∨(¬rdNum (Rd.mk l false) 1 5=1∧¬rdNum (Rd.mk l false) 1 5=2∧¬rdNum (Rd.mk l false) 1 5=3∧¬rdNum (Rd.mk l false) 1 5=4∧¬rdNum (Rd.mk l false) 1 5=5)) with hk | hk | hk | hk | hk | hk
 refine g8 ?_
 refine vl _ rfl (dT (r_eql rfl rfl)) ?_
 refine g7 ?_
 refine yR (Text_c _ _ 1 64 _ _ _ S10) ?_
 rintro _ w11 ⟨u0,I4,le4,rfl,H0,S11⟩
 refine g1 ?_
 refine yS2 S11 ?_ (hu:=row_one (H0 _ S11.le))
 intro w12 S12
 refine g4 ?_
 refine yR (Text_c _ _ 0 512 _ _ _ S12) ?_
 rintro _ w13 ⟨u1,I5,le5,rfl,H1,S13⟩
 refine g1 ?_
 refine yS2 S13 ?_ (hu:=row_one (H1 _ S13.le))
 intro w14 S14
 refine g5 ?_
 have hde:rdEntry ⟨l,false⟩=((⟨rdNum (Rd.mk l false) 1 5,rdNum (rdNumS (Rd.mk l false) 1 5) 1 16,rdNum (rdNumS (rdNumS (Rd.mk l false) 1 5) 1 16) 1 1099511627776,rdTxt (rdNumS (rdNumS (rdNumS (Rd.mk l false) 1 5) 1 16) 1 1099511627776) 1 64,rdTxt (rdTxtS (rdNumS (rdNumS (rdNumS (Rd.mk l false) 1 5) 1 16) 1 1099511627776) 1 64) 0 512,0,0,0,[]⟩:Entry),rdTxtS (rdTxtS (rdNumS (rdNumS (rdNumS (Rd.mk l false) 1 5) 1 16) 1 1099511627776) 1 64) 0 512):=by rw [rdEntry,rdBody,if_pos hk]
 rcases (by cases rdEnd (rdTxtS (rdTxtS (rdNumS (rdNumS (rdNumS (Rd.mk l false) 1 5) 1 16) 1 1099511627776) 1 64) 0 512)<;>simp:rdEnd (rdTxtS (rdTxtS (rdNumS (rdNumS (rdNumS (Rd.mk l false) 1 5) 1 16) 1 1099511627776) 1 64) 0 512)=true∨rdEnd (rdTxtS (rdTxtS (rdNumS (rdNumS (rdNumS (Rd.mk l false) 1 5) 1 16) 1 1099511627776) 1 64) 0 512)=false) with hen | hen
 refine g2 ?_
 refine yR (End_c _ _ _ _ _ S14) ?_
 rintro _ w15 ⟨rfl,S15⟩
 refine vl _ rfl (nF rfl hen) ?_
 refine g2 ?_
 refine yG (Right_c [.int .i64 (rdNum (Rd.mk l false) 1 5),.int .i64 (rdNum (rdNumS (Rd.mk l false) 1 5) 1 16),.int .i64 (rdNum (rdNumS (rdNumS (Rd.mk l false) 1 5) 1 16) 1 1099511627776),u0,u1,.int .i64 0,.int .i64 0,.int .i64 0,.slice none 0 0] (⟨rdNum (Rd.mk l false) 1 5,rdNum (rdNumS (Rd.mk l false) 1 5) 1 16,rdNum (rdNumS (rdNumS (Rd.mk l false) 1 5) 1 16) 1 1099511627776,rdTxt (rdNumS (rdNumS (rdNumS (Rd.mk l false) 1 5) 1 16) 1 1099511627776) 1 64,rdTxt (rdTxtS (rdNumS (rdNumS (rdNumS (Rd.mk l false) 1 5) 1 16) 1 1099511627776) 1 64) 0 512,0,0,0,[]⟩:Entry) _ _ _ S15 ⟨u0,u1,(.slice none 0 0),rfl,ad,ad,ad,⟨(row_one (H0 _ (lT le5 S15.le))),(H0.up le5)⟩,⟨(row_one (H1 _ S15.le)),H1⟩,(by dsimp only;omega),(by dsimp only;omega),(by dsimp only;omega),⟨rfl,RoX.nil⟩⟩) ?_
 rintro _ w16 ⟨I6,le6,rfl,S16⟩
 refine g4 ?_
 refine EC_cond (t:=!((⟨rdNum (Rd.mk l false) 1 5,rdNum (rdNumS (Rd.mk l false) 1 5) 1 16,rdNum (rdNumS (rdNumS (Rd.mk l false) 1 5) 1 16) 1 1099511627776,rdTxt (rdNumS (rdNumS (rdNumS (Rd.mk l false) 1 5) 1 16) 1 1099511627776) 1 64,rdTxt (rdTxtS (rdNumS (rdNumS (rdNumS (Rd.mk l false) 1 5) 1 16) 1 1099511627776) 1 64) 0 512,0,0,0,[]⟩:Entry).right)) rfl (fun h0=>?_) (fun h0=>?_)
 have hrt:((⟨rdNum (Rd.mk l false) 1 5,rdNum (rdNumS (Rd.mk l false) 1 5) 1 16,rdNum (rdNumS (rdNumS (Rd.mk l false) 1 5) 1 16) 1 1099511627776,rdTxt (rdNumS (rdNumS (rdNumS (Rd.mk l false) 1 5) 1 16) 1 1099511627776) 1 64,rdTxt (rdTxtS (rdNumS (rdNumS (rdNumS (Rd.mk l false) 1 5) 1 16) 1 1099511627776) 1 64) 0 512,0,0,0,[]⟩:Entry)).right=false:=(Bool.not_eq_true' _).mp h0
 refine g2 ?_
 refine vl _ rfl (gB entR0 st_36 rfl fill_end) ?_
 refine yW3 S16 ?_
 intro w17 S17
 refine g5 ?_
 refine f2c Tryz.results68 ?_
 have hok:decOk l=false:=by rw [decOk,hde];dsimp only;rw [hen,hrt];rfl
 have q1:(decV l)=(⟨0,0,0,[],[],0,0,0,[]⟩:Entry):=by rw [decV,hok];rfl
 exact ⟨entR0,I6,(lT (lT (lT (lT (lT (lT le0 le1) le2) le3) le4) le5) le6),(by rw [decE,hok];rfl),(by rw [q1];exact (entRz _)),S17.dr0.dr0.dr0.dr0⟩
 have hrt:((⟨rdNum (Rd.mk l false) 1 5,rdNum (rdNumS (Rd.mk l false) 1 5) 1 16,rdNum (rdNumS (rdNumS (Rd.mk l false) 1 5) 1 16) 1 1099511627776,rdTxt (rdNumS (rdNumS (rdNumS (Rd.mk l false) 1 5) 1 16) 1 1099511627776) 1 64,rdTxt (rdTxtS (rdNumS (rdNumS (rdNumS (Rd.mk l false) 1 5) 1 16) 1 1099511627776) 1 64) 0 512,0,0,0,[]⟩:Entry)).right=true:=(Bool.not_eq_false' _).mp h0
 refine g5 ?_
 refine yW3 S16 ?_ (h1:=ones_cons rfl (ones_cons rfl (ones_cons rfl (ones_cons (row_one (H0 _ (lT (lT le5 le6) S16.le))) (ones_cons (row_one (H1 _ (lT le6 S16.le))) (ones_cons rfl (ones_cons rfl (ones_cons rfl (ones_cons rfl ones_nil)))))))))
 intro w18 S18
 refine g4 ?_
 refine f2c Tryz.results68 ?_
 have hok:decOk l=true:=by rw [decOk,hde];dsimp only;rw [hen,hrt];rfl
 have q2:(decV l)=(⟨rdNum (Rd.mk l false) 1 5,rdNum (rdNumS (Rd.mk l false) 1 5) 1 16,rdNum (rdNumS (rdNumS (Rd.mk l false) 1 5) 1 16) 1 1099511627776,rdTxt (rdNumS (rdNumS (rdNumS (Rd.mk l false) 1 5) 1 16) 1 1099511627776) 1 64,rdTxt (rdTxtS (rdNumS (rdNumS (rdNumS (Rd.mk l false) 1 5) 1 16) 1 1099511627776) 1 64) 0 512,0,0,0,[]⟩:Entry):=by rw [decV,if_pos hok,hde]
 have S19:=S18.dr0.dr0.dr0.dr0
 exact ⟨[.int .i64 (rdNum (Rd.mk l false) 1 5),.int .i64 (rdNum (rdNumS (Rd.mk l false) 1 5) 1 16),.int .i64 (rdNum (rdNumS (rdNumS (Rd.mk l false) 1 5) 1 16) 1 1099511627776),u0,u1,.int .i64 0,.int .i64 0,.int .i64 0,.slice none 0 0],I6,(lT (lT (lT (lT (lT (lT le0 le1) le2) le3) le4) le5) le6),(by rw [decE,if_pos hok]),(by rw [q2];exact ⟨u0,u1,(.slice none 0 0),rfl,ad,ad,ad,⟨(row_one (H0 _ (lT (lT le5 le6) S19.le))),(H0.up (lT le5 le6))⟩,⟨(row_one (H1 _ (lT le6 S19.le))),(H1.up le6)⟩,(by dsimp only;omega),(by dsimp only;omega),(by dsimp only;omega),⟨rfl,RoX.nil⟩⟩),S19⟩
 refine g2 ?_
 refine yR (End_c _ _ _ _ _ S14) ?_
 rintro _ w19 ⟨rfl,S20⟩
 refine vl _ rfl (nT rfl hen) ?_
 refine g10 ?_
 refine vl _ rfl (gB entR0 st_36 rfl fill_end) ?_
 refine yW3 S20 ?_
 intro w20 S21
 refine g5 ?_
 refine f2c Tryz.results68 ?_
 have hok:decOk l=false:=by rw [decOk,hde];dsimp only;rw [hen,Bool.false_and]
 have q3:(decV l)=(⟨0,0,0,[],[],0,0,0,[]⟩:Entry):=by rw [decV,hok];rfl
 exact ⟨entR0,I5,(lT (lT (lT (lT (lT le0 le1) le2) le3) le4) le5),(by rw [decE,hok];rfl),(by rw [q3];exact (entRz _)),S21.dr0.dr0.dr0.dr0⟩
 refine g8 ?_
 refine vl _ rfl (dF (r_eql rfl rfl)) ?_
 refine g6 ?_
 refine vl _ rfl (dT (r_eql rfl rfl)) ?_
 refine g6 ?_
 refine yR (Text_c _ _ 1 64 _ _ _ S10) ?_
 rintro _ w21 ⟨u2,I7,le7,rfl,H2,S22⟩
 refine g1 ?_
 refine yS2 S22 ?_ (hu:=row_one (H2 _ S22.le))
 intro w22 S23
 refine g5 ?_
 have hde:rdEntry ⟨l,false⟩=((⟨rdNum (Rd.mk l false) 1 5,rdNum (rdNumS (Rd.mk l false) 1 5) 1 16,rdNum (rdNumS (rdNumS (Rd.mk l false) 1 5) 1 16) 1 1099511627776,rdTxt (rdNumS (rdNumS (rdNumS (Rd.mk l false) 1 5) 1 16) 1 1099511627776) 1 64,[],0,0,0,[]⟩:Entry),rdTxtS (rdNumS (rdNumS (rdNumS (Rd.mk l false) 1 5) 1 16) 1 1099511627776) 1 64):=by rw [rdEntry,rdBody,if_neg (by omega),if_pos hk]
 rcases (by cases rdEnd (rdTxtS (rdNumS (rdNumS (rdNumS (Rd.mk l false) 1 5) 1 16) 1 1099511627776) 1 64)<;>simp:rdEnd (rdTxtS (rdNumS (rdNumS (rdNumS (Rd.mk l false) 1 5) 1 16) 1 1099511627776) 1 64)=true∨rdEnd (rdTxtS (rdNumS (rdNumS (rdNumS (Rd.mk l false) 1 5) 1 16) 1 1099511627776) 1 64)=false) with hen | hen
 refine g2 ?_
 refine yR (End_c _ _ _ _ _ S23) ?_
 rintro _ w23 ⟨rfl,S24⟩
 refine vl _ rfl (nF rfl hen) ?_
 refine g2 ?_
 refine yG (Right_c [.int .i64 (rdNum (Rd.mk l false) 1 5),.int .i64 (rdNum (rdNumS (Rd.mk l false) 1 5) 1 16),.int .i64 (rdNum (rdNumS (rdNumS (Rd.mk l false) 1 5) 1 16) 1 1099511627776),u2,.slice none 0 0,.int .i64 0,.int .i64 0,.int .i64 0,.slice none 0 0] (⟨rdNum (Rd.mk l false) 1 5,rdNum (rdNumS (Rd.mk l false) 1 5) 1 16,rdNum (rdNumS (rdNumS (Rd.mk l false) 1 5) 1 16) 1 1099511627776,rdTxt (rdNumS (rdNumS (rdNumS (Rd.mk l false) 1 5) 1 16) 1 1099511627776) 1 64,[],0,0,0,[]⟩:Entry) _ _ _ S24 ⟨u2,(.slice none 0 0),(.slice none 0 0),rfl,ad,ad,ad,⟨(row_one (H2 _ S24.le)),H2⟩,⟨rfl,Ro.nil⟩,(by dsimp only;omega),(by dsimp only;omega),(by dsimp only;omega),⟨rfl,RoX.nil⟩⟩) ?_
 rintro _ w24 ⟨I8,le8,rfl,S25⟩
 refine g4 ?_
 refine EC_cond (t:=!((⟨rdNum (Rd.mk l false) 1 5,rdNum (rdNumS (Rd.mk l false) 1 5) 1 16,rdNum (rdNumS (rdNumS (Rd.mk l false) 1 5) 1 16) 1 1099511627776,rdTxt (rdNumS (rdNumS (rdNumS (Rd.mk l false) 1 5) 1 16) 1 1099511627776) 1 64,[],0,0,0,[]⟩:Entry).right)) rfl (fun h2=>?_) (fun h2=>?_)
 have hrt:((⟨rdNum (Rd.mk l false) 1 5,rdNum (rdNumS (Rd.mk l false) 1 5) 1 16,rdNum (rdNumS (rdNumS (Rd.mk l false) 1 5) 1 16) 1 1099511627776,rdTxt (rdNumS (rdNumS (rdNumS (Rd.mk l false) 1 5) 1 16) 1 1099511627776) 1 64,[],0,0,0,[]⟩:Entry)).right=false:=(Bool.not_eq_true' _).mp h2
 refine g2 ?_
 refine vl _ rfl (gB entR0 st_36 rfl fill_end) ?_
 refine yW3 S25 ?_
 intro w25 S26
 refine g5 ?_
 refine f2c Tryz.results68 ?_
 have hok:decOk l=false:=by rw [decOk,hde];dsimp only;rw [hen,hrt];rfl
 have q4:(decV l)=(⟨0,0,0,[],[],0,0,0,[]⟩:Entry):=by rw [decV,hok];rfl
 exact ⟨entR0,I8,(lT (lT (lT (lT (lT le0 le1) le2) le3) le7) le8),(by rw [decE,hok];rfl),(by rw [q4];exact (entRz _)),S26.dr0.dr0.dr0.dr0⟩
 have hrt:((⟨rdNum (Rd.mk l false) 1 5,rdNum (rdNumS (Rd.mk l false) 1 5) 1 16,rdNum (rdNumS (rdNumS (Rd.mk l false) 1 5) 1 16) 1 1099511627776,rdTxt (rdNumS (rdNumS (rdNumS (Rd.mk l false) 1 5) 1 16) 1 1099511627776) 1 64,[],0,0,0,[]⟩:Entry)).right=true:=(Bool.not_eq_false' _).mp h2
 refine g5 ?_
 refine yW3 S25 ?_ (h1:=ones_cons rfl (ones_cons rfl (ones_cons rfl (ones_cons (row_one (H2 _ (lT le8 S25.le))) (ones_cons rfl (ones_cons rfl (ones_cons rfl (ones_cons rfl (ones_cons rfl ones_nil)))))))))
 intro w26 S27
 refine g4 ?_
 refine f2c Tryz.results68 ?_
 have hok:decOk l=true:=by rw [decOk,hde];dsimp only;rw [hen,hrt];rfl
 have q5:(decV l)=(⟨rdNum (Rd.mk l false) 1 5,rdNum (rdNumS (Rd.mk l false) 1 5) 1 16,rdNum (rdNumS (rdNumS (Rd.mk l false) 1 5) 1 16) 1 1099511627776,rdTxt (rdNumS (rdNumS (rdNumS (Rd.mk l false) 1 5) 1 16) 1 1099511627776) 1 64,[],0,0,0,[]⟩:Entry):=by rw [decV,if_pos hok,hde]
 have S28:=S27.dr0.dr0.dr0.dr0
 exact ⟨[.int .i64 (rdNum (Rd.mk l false) 1 5),.int .i64 (rdNum (rdNumS (Rd.mk l false) 1 5) 1 16),.int .i64 (rdNum (rdNumS (rdNumS (Rd.mk l false) 1 5) 1 16) 1 1099511627776),u2,.slice none 0 0,.int .i64 0,.int .i64 0,.int .i64 0,.slice none 0 0],I8,(lT (lT (lT (lT (lT le0 le1) le2) le3) le7) le8),(by rw [decE,if_pos hok]),(by rw [q5];exact ⟨u2,(.slice none 0 0),(.slice none 0 0),rfl,ad,ad,ad,⟨(row_one (H2 _ (lT le8 S28.le))),(H2.up le8)⟩,⟨rfl,Ro.nil⟩,(by dsimp only;omega),(by dsimp only;omega),(by dsimp only;omega),⟨rfl,RoX.nil⟩⟩),S28⟩
 refine g2 ?_
 refine yR (End_c _ _ _ _ _ S23) ?_
 rintro _ w27 ⟨rfl,S29⟩
 refine vl _ rfl (nT rfl hen) ?_
 refine g10 ?_
 refine vl _ rfl (gB entR0 st_36 rfl fill_end) ?_
 refine yW3 S29 ?_
 intro w28 S30
 refine g5 ?_
 refine f2c Tryz.results68 ?_
 have hok:decOk l=false:=by rw [decOk,hde];dsimp only;rw [hen,Bool.false_and]
 have q6:(decV l)=(⟨0,0,0,[],[],0,0,0,[]⟩:Entry):=by rw [decV,hok];rfl
 exact ⟨entR0,I7,(lT (lT (lT (lT le0 le1) le2) le3) le7),(by rw [decE,hok];rfl),(by rw [q6];exact (entRz _)),S30.dr0.dr0.dr0.dr0⟩
 refine g8 ?_
 refine vl _ rfl (dF (r_eql rfl rfl)) ?_
 refine g6 ?_
 refine vl _ rfl (dF (r_eql rfl rfl)) ?_
 refine g6 ?_
 refine vl _ rfl (dT (r_eql rfl rfl)) ?_
 refine g7 ?_
 refine EL_retw _ rfl rfl Tryz.func95 rfl nm95 rfl (who_c _ _ _ _ _ _ S10.fr1) ?_
 rintro _ w29 ⟨I9,le9,rfl,S31⟩
 have hn3:=rdNum_rng (rdNumS (rdNumS (rdNumS (Rd.mk l false) 1 5) 1 16) 1 1099511627776) 1 (hi:=16) (by omega)
 refine g1 ?_
 refine yS2 S31 ?_
 intro w30 S32
 refine g4 ?_
 refine yR (Number_c _ _ 1 7 _ _ _ S32.fr1) ?_
 rintro _ w31 ⟨I10,le10,rfl,S33⟩
 have hn4:=rdNum_rng (rdNumS (rdNumS (rdNumS (rdNumS (Rd.mk l false) 1 5) 1 16) 1 1099511627776) 1 16) 1 (hi:=7) (by omega)
 refine g1 ?_
 refine yS2 S33 ?_
 intro w32 S34
 refine g5 ?_
 have hde:rdEntry ⟨l,false⟩=((⟨rdNum (Rd.mk l false) 1 5,rdNum (rdNumS (Rd.mk l false) 1 5) 1 16,rdNum (rdNumS (rdNumS (Rd.mk l false) 1 5) 1 16) 1 1099511627776,[],[],rdNum (rdNumS (rdNumS (rdNumS (Rd.mk l false) 1 5) 1 16) 1 1099511627776) 1 16,rdNum (rdNumS (rdNumS (rdNumS (rdNumS (Rd.mk l false) 1 5) 1 16) 1 1099511627776) 1 16) 1 7,0,[]⟩:Entry),rdNumS (rdNumS (rdNumS (rdNumS (rdNumS (Rd.mk l false) 1 5) 1 16) 1 1099511627776) 1 16) 1 7):=by rw [rdEntry,rdBody,if_neg (by omega),if_neg (by omega),if_pos hk]
 rcases (by cases rdEnd (rdNumS (rdNumS (rdNumS (rdNumS (rdNumS (Rd.mk l false) 1 5) 1 16) 1 1099511627776) 1 16) 1 7)<;>simp:rdEnd (rdNumS (rdNumS (rdNumS (rdNumS (rdNumS (Rd.mk l false) 1 5) 1 16) 1 1099511627776) 1 16) 1 7)=true∨rdEnd (rdNumS (rdNumS (rdNumS (rdNumS (rdNumS (Rd.mk l false) 1 5) 1 16) 1 1099511627776) 1 16) 1 7)=false) with hen | hen
 refine g2 ?_
 refine yR (End_c _ _ _ _ _ S34) ?_
 rintro _ w33 ⟨rfl,S35⟩
 refine vl _ rfl (nF rfl hen) ?_
 refine g2 ?_
 refine yG (Right_c [.int .i64 (rdNum (Rd.mk l false) 1 5),.int .i64 (rdNum (rdNumS (Rd.mk l false) 1 5) 1 16),.int .i64 (rdNum (rdNumS (rdNumS (Rd.mk l false) 1 5) 1 16) 1 1099511627776),.slice none 0 0,.slice none 0 0,.int .i64 (rdNum (rdNumS (rdNumS (rdNumS (Rd.mk l false) 1 5) 1 16) 1 1099511627776) 1 16),.int .i64 (rdNum (rdNumS (rdNumS (rdNumS (rdNumS (Rd.mk l false) 1 5) 1 16) 1 1099511627776) 1 16) 1 7),.int .i64 0,.slice none 0 0] (⟨rdNum (Rd.mk l false) 1 5,rdNum (rdNumS (Rd.mk l false) 1 5) 1 16,rdNum (rdNumS (rdNumS (Rd.mk l false) 1 5) 1 16) 1 1099511627776,[],[],rdNum (rdNumS (rdNumS (rdNumS (Rd.mk l false) 1 5) 1 16) 1 1099511627776) 1 16,rdNum (rdNumS (rdNumS (rdNumS (rdNumS (Rd.mk l false) 1 5) 1 16) 1 1099511627776) 1 16) 1 7,0,[]⟩:Entry) _ _ _ S35 ⟨(.slice none 0 0),(.slice none 0 0),(.slice none 0 0),rfl,ad,ad,ad,⟨rfl,Ro.nil⟩,⟨rfl,Ro.nil⟩,ad,ad,(by dsimp only;omega),⟨rfl,RoX.nil⟩⟩) ?_
 rintro _ w34 ⟨I11,le11,rfl,S36⟩
 refine g4 ?_
 refine EC_cond (t:=!((⟨rdNum (Rd.mk l false) 1 5,rdNum (rdNumS (Rd.mk l false) 1 5) 1 16,rdNum (rdNumS (rdNumS (Rd.mk l false) 1 5) 1 16) 1 1099511627776,[],[],rdNum (rdNumS (rdNumS (rdNumS (Rd.mk l false) 1 5) 1 16) 1 1099511627776) 1 16,rdNum (rdNumS (rdNumS (rdNumS (rdNumS (Rd.mk l false) 1 5) 1 16) 1 1099511627776) 1 16) 1 7,0,[]⟩:Entry).right)) rfl (fun h3=>?_) (fun h3=>?_)
 have hrt:((⟨rdNum (Rd.mk l false) 1 5,rdNum (rdNumS (Rd.mk l false) 1 5) 1 16,rdNum (rdNumS (rdNumS (Rd.mk l false) 1 5) 1 16) 1 1099511627776,[],[],rdNum (rdNumS (rdNumS (rdNumS (Rd.mk l false) 1 5) 1 16) 1 1099511627776) 1 16,rdNum (rdNumS (rdNumS (rdNumS (rdNumS (Rd.mk l false) 1 5) 1 16) 1 1099511627776) 1 16) 1 7,0,[]⟩:Entry)).right=false:=(Bool.not_eq_true' _).mp h3
 refine g2 ?_
 refine vl _ rfl (gB entR0 st_36 rfl fill_end) ?_
 refine yW3 S36 ?_
 intro w35 S37
 refine g5 ?_
 refine f2c Tryz.results68 ?_
 have hok:decOk l=false:=by rw [decOk,hde];dsimp only;rw [hen,hrt];rfl
 have q7:(decV l)=(⟨0,0,0,[],[],0,0,0,[]⟩:Entry):=by rw [decV,hok];rfl
 exact ⟨entR0,I11,(lT (lT (lT (lT (lT (lT le0 le1) le2) le3) le9) le10) le11),(by rw [decE,hok];rfl),(by rw [q7];exact (entRz _)),S37.dr0.dr0.dr0.dr0⟩
 have hrt:((⟨rdNum (Rd.mk l false) 1 5,rdNum (rdNumS (Rd.mk l false) 1 5) 1 16,rdNum (rdNumS (rdNumS (Rd.mk l false) 1 5) 1 16) 1 1099511627776,[],[],rdNum (rdNumS (rdNumS (rdNumS (Rd.mk l false) 1 5) 1 16) 1 1099511627776) 1 16,rdNum (rdNumS (rdNumS (rdNumS (rdNumS (Rd.mk l false) 1 5) 1 16) 1 1099511627776) 1 16) 1 7,0,[]⟩:Entry)).right=true:=(Bool.not_eq_false' _).mp h3
 refine g5 ?_
 refine yW3 S36 ?_
 intro w36 S38
 refine g4 ?_
 refine f2c Tryz.results68 ?_
 have hok:decOk l=true:=by rw [decOk,hde];dsimp only;rw [hen,hrt];rfl
 have q8:(decV l)=(⟨rdNum (Rd.mk l false) 1 5,rdNum (rdNumS (Rd.mk l false) 1 5) 1 16,rdNum (rdNumS (rdNumS (Rd.mk l false) 1 5) 1 16) 1 1099511627776,[],[],rdNum (rdNumS (rdNumS (rdNumS (Rd.mk l false) 1 5) 1 16) 1 1099511627776) 1 16,rdNum (rdNumS (rdNumS (rdNumS (rdNumS (Rd.mk l false) 1 5) 1 16) 1 1099511627776) 1 16) 1 7,0,[]⟩:Entry):=by rw [decV,if_pos hok,hde]
 exact ⟨[.int .i64 (rdNum (Rd.mk l false) 1 5),.int .i64 (rdNum (rdNumS (Rd.mk l false) 1 5) 1 16),.int .i64 (rdNum (rdNumS (rdNumS (Rd.mk l false) 1 5) 1 16) 1 1099511627776),.slice none 0 0,.slice none 0 0,.int .i64 (rdNum (rdNumS (rdNumS (rdNumS (Rd.mk l false) 1 5) 1 16) 1 1099511627776) 1 16),.int .i64 (rdNum (rdNumS (rdNumS (rdNumS (rdNumS (Rd.mk l false) 1 5) 1 16) 1 1099511627776) 1 16) 1 7),.int .i64 0,.slice none 0 0],I11,(lT (lT (lT (lT (lT (lT le0 le1) le2) le3) le9) le10) le11),(by rw [decE,if_pos hok]),(by rw [q8];exact ⟨(.slice none 0 0),(.slice none 0 0),(.slice none 0 0),rfl,ad,ad,ad,⟨rfl,Ro.nil⟩,⟨rfl,Ro.nil⟩,ad,ad,(by dsimp only;omega),⟨rfl,RoX.nil⟩⟩),S38.dr0.dr0.dr0.dr0⟩
 refine g2 ?_
 refine yR (End_c _ _ _ _ _ S34) ?_
 rintro _ w37 ⟨rfl,S39⟩
 refine vl _ rfl (nT rfl hen) ?_
 refine g10 ?_
 refine vl _ rfl (gB entR0 st_36 rfl fill_end) ?_
 refine yW3 S39 ?_
 intro w38 S40
 refine g5 ?_
 refine f2c Tryz.results68 ?_
 have hok:decOk l=false:=by rw [decOk,hde];dsimp only;rw [hen,Bool.false_and]
 have q9:(decV l)=(⟨0,0,0,[],[],0,0,0,[]⟩:Entry):=by rw [decV,hok];rfl
 exact ⟨entR0,I10,(lT (lT (lT (lT (lT le0 le1) le2) le3) le9) le10),(by rw [decE,hok];rfl),(by rw [q9];exact (entRz _)),S40.dr0.dr0.dr0.dr0⟩
 refine g8 ?_
 refine vl _ rfl (dF (r_eql rfl rfl)) ?_
 refine g6 ?_
 refine vl _ rfl (dF (r_eql rfl rfl)) ?_
 refine g6 ?_
 refine vl _ rfl (dF (r_eql rfl rfl)) ?_
 refine g6 ?_
 refine vl _ rfl (dT (r_eql rfl rfl)) ?_
 refine g6 ?_
 refine EL_retw _ rfl rfl Tryz.func95 rfl nm95 rfl (who_c _ _ _ _ _ _ S10.fr1) ?_
 rintro _ w39 ⟨I12,le12,rfl,S41⟩
 have hn5:=rdNum_rng (rdNumS (rdNumS (rdNumS (Rd.mk l false) 1 5) 1 16) 1 1099511627776) 1 (hi:=16) (by omega)
 refine g1 ?_
 refine yS2 S41 ?_
 intro w40 S42
 refine g5 ?_
 have hde:rdEntry ⟨l,false⟩=((⟨rdNum (Rd.mk l false) 1 5,rdNum (rdNumS (Rd.mk l false) 1 5) 1 16,rdNum (rdNumS (rdNumS (Rd.mk l false) 1 5) 1 16) 1 1099511627776,[],[],rdNum (rdNumS (rdNumS (rdNumS (Rd.mk l false) 1 5) 1 16) 1 1099511627776) 1 16,0,0,[]⟩:Entry),rdNumS (rdNumS (rdNumS (rdNumS (Rd.mk l false) 1 5) 1 16) 1 1099511627776) 1 16):=by rw [rdEntry,rdBody,if_neg (by omega),if_neg (by omega),if_neg (by omega),if_pos hk]
 rcases (by cases rdEnd (rdNumS (rdNumS (rdNumS (rdNumS (Rd.mk l false) 1 5) 1 16) 1 1099511627776) 1 16)<;>simp:rdEnd (rdNumS (rdNumS (rdNumS (rdNumS (Rd.mk l false) 1 5) 1 16) 1 1099511627776) 1 16)=true∨rdEnd (rdNumS (rdNumS (rdNumS (rdNumS (Rd.mk l false) 1 5) 1 16) 1 1099511627776) 1 16)=false) with hen | hen
 refine g2 ?_
 refine yR (End_c _ _ _ _ _ S42.fr1) ?_
 rintro _ w41 ⟨rfl,S43⟩
 refine vl _ rfl (nF rfl hen) ?_
 refine g2 ?_
 refine yG (Right_c [.int .i64 (rdNum (Rd.mk l false) 1 5),.int .i64 (rdNum (rdNumS (Rd.mk l false) 1 5) 1 16),.int .i64 (rdNum (rdNumS (rdNumS (Rd.mk l false) 1 5) 1 16) 1 1099511627776),.slice none 0 0,.slice none 0 0,.int .i64 (rdNum (rdNumS (rdNumS (rdNumS (Rd.mk l false) 1 5) 1 16) 1 1099511627776) 1 16),.int .i64 0,.int .i64 0,.slice none 0 0] (⟨rdNum (Rd.mk l false) 1 5,rdNum (rdNumS (Rd.mk l false) 1 5) 1 16,rdNum (rdNumS (rdNumS (Rd.mk l false) 1 5) 1 16) 1 1099511627776,[],[],rdNum (rdNumS (rdNumS (rdNumS (Rd.mk l false) 1 5) 1 16) 1 1099511627776) 1 16,0,0,[]⟩:Entry) _ _ _ S43 ⟨(.slice none 0 0),(.slice none 0 0),(.slice none 0 0),rfl,ad,ad,ad,⟨rfl,Ro.nil⟩,⟨rfl,Ro.nil⟩,ad,(by dsimp only;omega),(by dsimp only;omega),⟨rfl,RoX.nil⟩⟩) ?_
 rintro _ w42 ⟨I13,le13,rfl,S44⟩
 refine g4 ?_
 refine EC_cond (t:=!((⟨rdNum (Rd.mk l false) 1 5,rdNum (rdNumS (Rd.mk l false) 1 5) 1 16,rdNum (rdNumS (rdNumS (Rd.mk l false) 1 5) 1 16) 1 1099511627776,[],[],rdNum (rdNumS (rdNumS (rdNumS (Rd.mk l false) 1 5) 1 16) 1 1099511627776) 1 16,0,0,[]⟩:Entry).right)) rfl (fun h4=>?_) (fun h4=>?_)
 have hrt:((⟨rdNum (Rd.mk l false) 1 5,rdNum (rdNumS (Rd.mk l false) 1 5) 1 16,rdNum (rdNumS (rdNumS (Rd.mk l false) 1 5) 1 16) 1 1099511627776,[],[],rdNum (rdNumS (rdNumS (rdNumS (Rd.mk l false) 1 5) 1 16) 1 1099511627776) 1 16,0,0,[]⟩:Entry)).right=false:=(Bool.not_eq_true' _).mp h4
 refine g2 ?_
 refine vl _ rfl (gB entR0 st_36 rfl fill_end) ?_
 refine yW3 S44 ?_
 intro w43 S45
 refine g5 ?_
 refine f2c Tryz.results68 ?_
 have hok:decOk l=false:=by rw [decOk,hde];dsimp only;rw [hen,hrt];rfl
 have q10:(decV l)=(⟨0,0,0,[],[],0,0,0,[]⟩:Entry):=by rw [decV,hok];rfl
 exact ⟨entR0,I13,(lT (lT (lT (lT (lT le0 le1) le2) le3) le12) le13),(by rw [decE,hok];rfl),(by rw [q10];exact (entRz _)),S45.dr0.dr0.dr0.dr0⟩
 have hrt:((⟨rdNum (Rd.mk l false) 1 5,rdNum (rdNumS (Rd.mk l false) 1 5) 1 16,rdNum (rdNumS (rdNumS (Rd.mk l false) 1 5) 1 16) 1 1099511627776,[],[],rdNum (rdNumS (rdNumS (rdNumS (Rd.mk l false) 1 5) 1 16) 1 1099511627776) 1 16,0,0,[]⟩:Entry)).right=true:=(Bool.not_eq_false' _).mp h4
 refine g5 ?_
 refine yW3 S44 ?_
 intro w44 S46
 refine g4 ?_
 refine f2c Tryz.results68 ?_
 have hok:decOk l=true:=by rw [decOk,hde];dsimp only;rw [hen,hrt];rfl
 have q11:(decV l)=(⟨rdNum (Rd.mk l false) 1 5,rdNum (rdNumS (Rd.mk l false) 1 5) 1 16,rdNum (rdNumS (rdNumS (Rd.mk l false) 1 5) 1 16) 1 1099511627776,[],[],rdNum (rdNumS (rdNumS (rdNumS (Rd.mk l false) 1 5) 1 16) 1 1099511627776) 1 16,0,0,[]⟩:Entry):=by rw [decV,if_pos hok,hde]
 exact ⟨[.int .i64 (rdNum (Rd.mk l false) 1 5),.int .i64 (rdNum (rdNumS (Rd.mk l false) 1 5) 1 16),.int .i64 (rdNum (rdNumS (rdNumS (Rd.mk l false) 1 5) 1 16) 1 1099511627776),.slice none 0 0,.slice none 0 0,.int .i64 (rdNum (rdNumS (rdNumS (rdNumS (Rd.mk l false) 1 5) 1 16) 1 1099511627776) 1 16),.int .i64 0,.int .i64 0,.slice none 0 0],I13,(lT (lT (lT (lT (lT le0 le1) le2) le3) le12) le13),(by rw [decE,if_pos hok]),(by rw [q11];exact ⟨(.slice none 0 0),(.slice none 0 0),(.slice none 0 0),rfl,ad,ad,ad,⟨rfl,Ro.nil⟩,⟨rfl,Ro.nil⟩,ad,(by dsimp only;omega),(by dsimp only;omega),⟨rfl,RoX.nil⟩⟩),S46.dr0.dr0.dr0.dr0⟩
 refine g2 ?_
 refine yR (End_c _ _ _ _ _ S42.fr1) ?_
 rintro _ w45 ⟨rfl,S47⟩
 refine vl _ rfl (nT rfl hen) ?_
 refine g10 ?_
 refine vl _ rfl (gB entR0 st_36 rfl fill_end) ?_
 refine yW3 S47 ?_
 intro w46 S48
 refine g5 ?_
 refine f2c Tryz.results68 ?_
 have hok:decOk l=false:=by rw [decOk,hde];dsimp only;rw [hen,Bool.false_and]
 have q12:(decV l)=(⟨0,0,0,[],[],0,0,0,[]⟩:Entry):=by rw [decV,hok];rfl
 exact ⟨entR0,I12,(lT (lT (lT (lT le0 le1) le2) le3) le12),(by rw [decE,hok];rfl),(by rw [q12];exact (entRz _)),S48.dr0.dr0.dr0.dr0⟩
 refine g8 ?_
 refine vl _ rfl (dF (r_eql rfl rfl)) ?_
 refine g6 ?_
 refine vl _ rfl (dF (r_eql rfl rfl)) ?_
 refine g6 ?_
 refine vl _ rfl (dF (r_eql rfl rfl)) ?_
 refine g6 ?_
 refine vl _ rfl (dF (r_eql rfl rfl)) ?_
 refine g6 ?_
 refine vl _ rfl (dT (r_eql rfl rfl)) ?_
 refine g7 ?_
 refine yR (Number_c _ _ 1 16 _ _ _ S10) ?_
 rintro _ w47 ⟨I14,le14,rfl,S49⟩
 have hn6:=rdNum_rng (rdNumS (rdNumS (rdNumS (Rd.mk l false) 1 5) 1 16) 1 1099511627776) 1 (hi:=16) (by omega)
 refine g1 ?_
 refine yS2 S49 ?_
 intro w48 S50
 refine g5 ?_
 refine yR (Number_c _ _ 0 16 _ _ _ S50) ?_
 rintro _ w49 ⟨I15,le15,rfl,S51⟩
 have hn7:=rdNum_rng (rdNumS (rdNumS (rdNumS (rdNumS (Rd.mk l false) 1 5) 1 16) 1 1099511627776) 1 16) 0 (hi:=16) (by omega)
 refine g4 ?_
 have S52:Sat _ _ (OwnX 113 wrapR (.slice none 0 0) []::_):=OwnX.nil S51 113 wrapR
 refine EC_loop (fun m' E' w'=>∃n:Nat,∃r:Rd,∃wv:Value,∃ws:List WrapT,∃J:Gh,m'=0+n∧E' 7=.int .i64 (n:Int)∧E' 2=ptr b0∧E' 3=.int .i64 0∧E' 4=ptr b1∧E' 5=.func (.func 95) #[] [ptr b1].toArray∧E' 6=ptr b2∧(rdWraps n r ws=rdWraps (rdNum (rdNumS (rdNumS (rdNumS (rdNumS (Rd.mk l false) 1 5) 1 16) 1 1099511627776) 1 16) 0 16).toNat (rdNumS (rdNumS (rdNumS (rdNumS (rdNumS (Rd.mk l false) 1 5) 1 16) 1 1099511627776) 1 16) 0 16) [])∧(n+ws.length≤16)∧Gh.le I15 J∧Sat w' J (Blk b2 36 [.int .i64 (rdNum (Rd.mk l false) 1 5),.int .i64 (rdNum (rdNumS (Rd.mk l false) 1 5) 1 16),.int .i64 (rdNum (rdNumS (rdNumS (Rd.mk l false) 1 5) 1 16) 1 1099511627776),.slice none 0 0,.slice none 0 0,.int .i64 0,.int .i64 0,.int .i64 (rdNum (rdNumS (rdNumS (rdNumS (Rd.mk l false) 1 5) 1 16) 1 1099511627776) 1 16),wv]::OwnX 113 wrapR wv ws::RdP (ptr q0) r::Blk b1 194 [ptr q0]::Blk b0 36 entR0::R)) _ ⟨(rdNum (rdNumS (rdNumS (rdNumS (rdNumS (Rd.mk l false) 1 5) 1 16) 1 1099511627776) 1 16) 0 16).toNat,rdNumS (rdNumS (rdNumS (rdNumS (rdNumS (Rd.mk l false) 1 5) 1 16) 1 1099511627776) 1 16) 0 16,.slice none 0 0,[],I15,rfl,(Eq.trans (show _=Value.int .i64 (rdNum (rdNumS (rdNumS (rdNumS (rdNumS (Rd.mk l false) 1 5) 1 16) 1 1099511627776) 1 16) 0 16) from rfl) (congrArg _ (Int.toNat_of_nonneg (by omega)).symm)),rfl,rfl,rfl,rfl,rfl,rfl,(by simp;omega),(Gh.le_refl _),S52.fr4.fr3.fr3.fr3.fr4⟩ ?_
 rintro _ E0 w50 ⟨n,r,wv,ws,I16,rfl,e0,e1,e2,e3,e4,e5,hr,hn16,le16,S53⟩
 refine g2 ?_
 rcases dl3 n r.bad with hq | hq | hq
 have hx:rdWraps (rdNum (rdNumS (rdNumS (rdNumS (rdNumS (Rd.mk l false) 1 5) 1 16) 1 1099511627776) 1 16) 0 16).toNat (rdNumS (rdNumS (rdNumS (rdNumS (rdNumS (Rd.mk l false) 1 5) 1 16) 1 1099511627776) 1 16) 0 16) []=(ws,r):=by rw [←hr,hq];rfl
 refine g2 ?_
 refine vl _ rfl (dcF (r_gtr rfl rfl) (by simp;omega)) ?_
 refine g16 ?_
 have oH336:=(OwnX.one S53 1 rfl (by decide))
 obtain ⟨I17,le17,S54,H3⟩:=S53.fx1 (by decide)
 have hde:rdEntry ⟨l,false⟩=((⟨rdNum (Rd.mk l false) 1 5,rdNum (rdNumS (Rd.mk l false) 1 5) 1 16,rdNum (rdNumS (rdNumS (Rd.mk l false) 1 5) 1 16) 1 1099511627776,[],[],0,0,rdNum (rdNumS (rdNumS (rdNumS (Rd.mk l false) 1 5) 1 16) 1 1099511627776) 1 16,ws⟩:Entry),r):=by rw [rdEntry,rdBody,if_neg (by omega),if_neg (by omega),if_neg (by omega),if_neg (by omega),if_pos hk];dsimp only;rw [hx]
 rcases (by cases rdEnd r<;>simp:rdEnd r=true∨rdEnd r=false) with hen | hen
 refine g2 ?_
 refine yR (End_c _ _ _ _ _ S54.fr1) ?_
 rintro _ w51 ⟨rfl,S55⟩
 refine vl _ rfl (nF rfl hen) ?_
 refine g2 ?_
 refine yG (Right_c [.int .i64 (rdNum (Rd.mk l false) 1 5),.int .i64 (rdNum (rdNumS (Rd.mk l false) 1 5) 1 16),.int .i64 (rdNum (rdNumS (rdNumS (Rd.mk l false) 1 5) 1 16) 1 1099511627776),.slice none 0 0,.slice none 0 0,.int .i64 0,.int .i64 0,.int .i64 (rdNum (rdNumS (rdNumS (rdNumS (Rd.mk l false) 1 5) 1 16) 1 1099511627776) 1 16),wv] (⟨rdNum (Rd.mk l false) 1 5,rdNum (rdNumS (Rd.mk l false) 1 5) 1 16,rdNum (rdNumS (rdNumS (Rd.mk l false) 1 5) 1 16) 1 1099511627776,[],[],0,0,rdNum (rdNumS (rdNumS (rdNumS (Rd.mk l false) 1 5) 1 16) 1 1099511627776) 1 16,ws⟩:Entry) _ _ _ S55 ⟨(.slice none 0 0),(.slice none 0 0),wv,rfl,ad,ad,ad,⟨rfl,Ro.nil⟩,⟨rfl,Ro.nil⟩,(by dsimp only;omega),(by dsimp only;omega),ad,⟨oH336,H3⟩⟩) ?_
 rintro _ w52 ⟨I18,le18,rfl,S56⟩
 refine g4 ?_
 refine EC_cond (t:=!((⟨rdNum (Rd.mk l false) 1 5,rdNum (rdNumS (Rd.mk l false) 1 5) 1 16,rdNum (rdNumS (rdNumS (Rd.mk l false) 1 5) 1 16) 1 1099511627776,[],[],0,0,rdNum (rdNumS (rdNumS (rdNumS (Rd.mk l false) 1 5) 1 16) 1 1099511627776) 1 16,ws⟩:Entry).right)) rfl (fun h5=>?_) (fun h5=>?_)
 have hrt:((⟨rdNum (Rd.mk l false) 1 5,rdNum (rdNumS (Rd.mk l false) 1 5) 1 16,rdNum (rdNumS (rdNumS (Rd.mk l false) 1 5) 1 16) 1 1099511627776,[],[],0,0,rdNum (rdNumS (rdNumS (rdNumS (Rd.mk l false) 1 5) 1 16) 1 1099511627776) 1 16,ws⟩:Entry)).right=false:=(Bool.not_eq_true' _).mp h5
 refine g2 ?_
 refine vl _ rfl (gB entR0 st_36 rfl fill_end) ?_
 refine yW3 S56 ?_
 intro w53 S57
 refine g5 ?_
 refine f2c Tryz.results68 ?_
 have hok:decOk l=false:=by rw [decOk,hde];dsimp only;rw [hen,hrt];rfl
 have q13:(decV l)=(⟨0,0,0,[],[],0,0,0,[]⟩:Entry):=by rw [decV,hok];rfl
 exact ⟨entR0,I18,(lT (lT (lT (lT (lT (lT (lT (lT le0 le1) le2) le3) le14) le15) le16) le17) le18),(by rw [decE,hok];rfl),(by rw [q13];exact (entRz _)),S57.dr0.dr0.dr0.dr0⟩
 have hrt:((⟨rdNum (Rd.mk l false) 1 5,rdNum (rdNumS (Rd.mk l false) 1 5) 1 16,rdNum (rdNumS (rdNumS (Rd.mk l false) 1 5) 1 16) 1 1099511627776,[],[],0,0,rdNum (rdNumS (rdNumS (rdNumS (Rd.mk l false) 1 5) 1 16) 1 1099511627776) 1 16,ws⟩:Entry)).right=true:=(Bool.not_eq_false' _).mp h5
 refine g5 ?_
 refine yW3 S56 ?_ (h1:=ones_cons rfl (ones_cons rfl (ones_cons rfl (ones_cons rfl (ones_cons rfl (ones_cons rfl (ones_cons rfl (ones_cons rfl (ones_cons oH336 ones_nil)))))))))
 intro w54 S58
 refine g4 ?_
 refine f2c Tryz.results68 ?_
 have hok:decOk l=true:=by rw [decOk,hde];dsimp only;rw [hen,hrt];rfl
 have q14:(decV l)=(⟨rdNum (Rd.mk l false) 1 5,rdNum (rdNumS (Rd.mk l false) 1 5) 1 16,rdNum (rdNumS (rdNumS (Rd.mk l false) 1 5) 1 16) 1 1099511627776,[],[],0,0,rdNum (rdNumS (rdNumS (rdNumS (Rd.mk l false) 1 5) 1 16) 1 1099511627776) 1 16,ws⟩:Entry):=by rw [decV,if_pos hok,hde]
 exact ⟨[.int .i64 (rdNum (Rd.mk l false) 1 5),.int .i64 (rdNum (rdNumS (Rd.mk l false) 1 5) 1 16),.int .i64 (rdNum (rdNumS (rdNumS (Rd.mk l false) 1 5) 1 16) 1 1099511627776),.slice none 0 0,.slice none 0 0,.int .i64 0,.int .i64 0,.int .i64 (rdNum (rdNumS (rdNumS (rdNumS (Rd.mk l false) 1 5) 1 16) 1 1099511627776) 1 16),wv],I18,(lT (lT (lT (lT (lT (lT (lT (lT le0 le1) le2) le3) le14) le15) le16) le17) le18),(by rw [decE,if_pos hok]),(by rw [q14];exact ⟨(.slice none 0 0),(.slice none 0 0),wv,rfl,ad,ad,ad,⟨rfl,Ro.nil⟩,⟨rfl,Ro.nil⟩,(by dsimp only;omega),(by dsimp only;omega),ad,⟨oH336,(H3.up le18)⟩⟩),S58.dr0.dr0.dr0.dr0⟩
 refine g2 ?_
 refine yR (End_c _ _ _ _ _ S54.fr1) ?_
 rintro _ w55 ⟨rfl,S59⟩
 refine vl _ rfl (nT rfl hen) ?_
 refine g10 ?_
 refine vl _ rfl (gB entR0 st_36 rfl fill_end) ?_
 refine yW3 S59 ?_
 intro w56 S60
 refine g5 ?_
 refine f2c Tryz.results68 ?_
 have hok:decOk l=false:=by rw [decOk,hde];dsimp only;rw [hen,Bool.false_and]
 have q15:(decV l)=(⟨0,0,0,[],[],0,0,0,[]⟩:Entry):=by rw [decV,hok];rfl
 exact ⟨entR0,I17,(lT (lT (lT (lT (lT (lT (lT le0 le1) le2) le3) le14) le15) le16) le17),(by rw [decE,hok];rfl),(by rw [q15];exact (entRz _)),S60.dr0.dr0.dr0.dr0⟩
 have hx:rdWraps (rdNum (rdNumS (rdNumS (rdNumS (rdNumS (Rd.mk l false) 1 5) 1 16) 1 1099511627776) 1 16) 0 16).toNat (rdNumS (rdNumS (rdNumS (rdNumS (rdNumS (Rd.mk l false) 1 5) 1 16) 1 1099511627776) 1 16) 0 16) []=(ws,r):=by rw [←hr];exact rdw_bad hq.2
 refine g2 ?_
 refine vl _ rfl (dcT (r_gtr rfl rfl) (by simp;omega)) ?_
 refine g2 ?_
 refine yG (Bad_c _ _ _ _ _ S53.fr2) ?_
 rintro _ w57 ⟨rfl,S61⟩
 refine gl 58 rfl rfl rfl rfl _ rfl (nF rfl hq.2) ?_
 refine g12 ?_
 have oH384:=(OwnX.one S61 2 rfl (by decide))
 obtain ⟨I19,le19,S62,H4⟩:=S61.fx2 (by decide)
 have hde:rdEntry ⟨l,false⟩=((⟨rdNum (Rd.mk l false) 1 5,rdNum (rdNumS (Rd.mk l false) 1 5) 1 16,rdNum (rdNumS (rdNumS (Rd.mk l false) 1 5) 1 16) 1 1099511627776,[],[],0,0,rdNum (rdNumS (rdNumS (rdNumS (Rd.mk l false) 1 5) 1 16) 1 1099511627776) 1 16,ws⟩:Entry),r):=by rw [rdEntry,rdBody,if_neg (by omega),if_neg (by omega),if_neg (by omega),if_neg (by omega),if_pos hk];dsimp only;rw [hx]
 rcases (by cases rdEnd r<;>simp:rdEnd r=true∨rdEnd r=false) with hen | hen
 refine g2 ?_
 refine yR (End_c _ _ _ _ _ S62) ?_
 rintro _ w58 ⟨rfl,S63⟩
 refine vl _ rfl (nF rfl hen) ?_
 refine g2 ?_
 refine yG (Right_c [.int .i64 (rdNum (Rd.mk l false) 1 5),.int .i64 (rdNum (rdNumS (Rd.mk l false) 1 5) 1 16),.int .i64 (rdNum (rdNumS (rdNumS (Rd.mk l false) 1 5) 1 16) 1 1099511627776),.slice none 0 0,.slice none 0 0,.int .i64 0,.int .i64 0,.int .i64 (rdNum (rdNumS (rdNumS (rdNumS (Rd.mk l false) 1 5) 1 16) 1 1099511627776) 1 16),wv] (⟨rdNum (Rd.mk l false) 1 5,rdNum (rdNumS (Rd.mk l false) 1 5) 1 16,rdNum (rdNumS (rdNumS (Rd.mk l false) 1 5) 1 16) 1 1099511627776,[],[],0,0,rdNum (rdNumS (rdNumS (rdNumS (Rd.mk l false) 1 5) 1 16) 1 1099511627776) 1 16,ws⟩:Entry) _ _ _ S63 ⟨(.slice none 0 0),(.slice none 0 0),wv,rfl,ad,ad,ad,⟨rfl,Ro.nil⟩,⟨rfl,Ro.nil⟩,(by dsimp only;omega),(by dsimp only;omega),ad,⟨oH384,H4⟩⟩) ?_
 rintro _ w59 ⟨I20,le20,rfl,S64⟩
 refine g4 ?_
 refine EC_cond (t:=!((⟨rdNum (Rd.mk l false) 1 5,rdNum (rdNumS (Rd.mk l false) 1 5) 1 16,rdNum (rdNumS (rdNumS (Rd.mk l false) 1 5) 1 16) 1 1099511627776,[],[],0,0,rdNum (rdNumS (rdNumS (rdNumS (Rd.mk l false) 1 5) 1 16) 1 1099511627776) 1 16,ws⟩:Entry).right)) rfl (fun h6=>?_) (fun h6=>?_)
 have hrt:((⟨rdNum (Rd.mk l false) 1 5,rdNum (rdNumS (Rd.mk l false) 1 5) 1 16,rdNum (rdNumS (rdNumS (Rd.mk l false) 1 5) 1 16) 1 1099511627776,[],[],0,0,rdNum (rdNumS (rdNumS (rdNumS (Rd.mk l false) 1 5) 1 16) 1 1099511627776) 1 16,ws⟩:Entry)).right=false:=(Bool.not_eq_true' _).mp h6
 refine g2 ?_
 refine vl _ rfl (gB entR0 st_36 rfl fill_end) ?_
 refine yW3 S64 ?_
 intro w60 S65
 refine g5 ?_
 refine f2c Tryz.results68 ?_
 have hok:decOk l=false:=by rw [decOk,hde];dsimp only;rw [hen,hrt];rfl
 have q16:(decV l)=(⟨0,0,0,[],[],0,0,0,[]⟩:Entry):=by rw [decV,hok];rfl
 exact ⟨entR0,I20,(lT (lT (lT (lT (lT (lT (lT (lT le0 le1) le2) le3) le14) le15) le16) le19) le20),(by rw [decE,hok];rfl),(by rw [q16];exact (entRz _)),S65.dr0.dr0.dr0.dr0⟩
 have hrt:((⟨rdNum (Rd.mk l false) 1 5,rdNum (rdNumS (Rd.mk l false) 1 5) 1 16,rdNum (rdNumS (rdNumS (Rd.mk l false) 1 5) 1 16) 1 1099511627776,[],[],0,0,rdNum (rdNumS (rdNumS (rdNumS (Rd.mk l false) 1 5) 1 16) 1 1099511627776) 1 16,ws⟩:Entry)).right=true:=(Bool.not_eq_false' _).mp h6
 refine g5 ?_
 refine yW3 S64 ?_ (h1:=ones_cons rfl (ones_cons rfl (ones_cons rfl (ones_cons rfl (ones_cons rfl (ones_cons rfl (ones_cons rfl (ones_cons rfl (ones_cons oH384 ones_nil)))))))))
 intro w61 S66
 refine g4 ?_
 refine f2c Tryz.results68 ?_
 have hok:decOk l=true:=by rw [decOk,hde];dsimp only;rw [hen,hrt];rfl
 have q17:(decV l)=(⟨rdNum (Rd.mk l false) 1 5,rdNum (rdNumS (Rd.mk l false) 1 5) 1 16,rdNum (rdNumS (rdNumS (Rd.mk l false) 1 5) 1 16) 1 1099511627776,[],[],0,0,rdNum (rdNumS (rdNumS (rdNumS (Rd.mk l false) 1 5) 1 16) 1 1099511627776) 1 16,ws⟩:Entry):=by rw [decV,if_pos hok,hde]
 exact ⟨[.int .i64 (rdNum (Rd.mk l false) 1 5),.int .i64 (rdNum (rdNumS (Rd.mk l false) 1 5) 1 16),.int .i64 (rdNum (rdNumS (rdNumS (Rd.mk l false) 1 5) 1 16) 1 1099511627776),.slice none 0 0,.slice none 0 0,.int .i64 0,.int .i64 0,.int .i64 (rdNum (rdNumS (rdNumS (rdNumS (Rd.mk l false) 1 5) 1 16) 1 1099511627776) 1 16),wv],I20,(lT (lT (lT (lT (lT (lT (lT (lT le0 le1) le2) le3) le14) le15) le16) le19) le20),(by rw [decE,if_pos hok]),(by rw [q17];exact ⟨(.slice none 0 0),(.slice none 0 0),wv,rfl,ad,ad,ad,⟨rfl,Ro.nil⟩,⟨rfl,Ro.nil⟩,(by dsimp only;omega),(by dsimp only;omega),ad,⟨oH384,(H4.up le20)⟩⟩),S66.dr0.dr0.dr0.dr0⟩
 refine g2 ?_
 refine yR (End_c _ _ _ _ _ S62) ?_
 rintro _ w62 ⟨rfl,S67⟩
 refine vl _ rfl (nT rfl hen) ?_
 refine g10 ?_
 refine vl _ rfl (gB entR0 st_36 rfl fill_end) ?_
 refine yW3 S67 ?_
 intro w63 S68
 refine g5 ?_
 refine f2c Tryz.results68 ?_
 have hok:decOk l=false:=by rw [decOk,hde];dsimp only;rw [hen,Bool.false_and]
 have q18:(decV l)=(⟨0,0,0,[],[],0,0,0,[]⟩:Entry):=by rw [decV,hok];rfl
 exact ⟨entR0,I19,(lT (lT (lT (lT (lT (lT (lT le0 le1) le2) le3) le14) le15) le16) le19),(by rw [decE,hok];rfl),(by rw [q18];exact (entRz _)),S68.dr0.dr0.dr0.dr0⟩
 refine g2 ?_
 refine vl _ rfl (dcT (r_gtr rfl rfl) (by simp;omega)) ?_
 refine g2 ?_
 refine yG (Bad_c _ _ _ _ _ S53.fr2) ?_
 rintro _ w64 ⟨rfl,S69⟩
 refine gl 58 rfl rfl rfl rfl _ rfl (nT rfl hq.2) ?_
 refine g11 ?_
 refine EL_retw _ rfl rfl Tryz.func95 rfl nm95 rfl (who_c _ _ _ _ _ _ S69.fr3) ?_
 rintro _ w65 ⟨I21,le21,rfl,S70⟩
 have hn8:=rdNum_rng r 1 (hi:=16) (by omega)
 refine vl _ rfl (gB [.int .i64 (rdNum r 1 16),.slice none 0 0] st_113 (parts1 rfl) (fill_one rfl rfl rfl fill_end)) ?_
 refine yN [.int .i64 0,.slice none 0 0] S70 ?_
 intro b3 w66 S71
 refine yW0 S71 ?_
 intro w67 S72
 refine g5 ?_
 refine yR (Text_c _ _ 48 48 _ _ _ S72.fr2) ?_
 rintro _ w68 ⟨u3,I22,le22,rfl,H5,S73⟩
 refine g1 ?_
 refine yS1 S73 ?_ (hu:=row_one (H5 _ S73.le))
 intro w69 S74
 refine g6 ?_
 refine EL_litW (z:=#[.int .i64 0,.slice none 0 0]) (cs:=([.int .i64 (rdNum r 1 16),u3]).toArray) (sz:=2) (l:=[(0,.agg ([.int .i64 (rdNum r 1 16),u3]).toArray)]) rfl U34 (by kernel_rfl) (parts1 rfl) (by kernel_rfl) rfl (by decide) ?_
 intro v1 w70 O0 B0 k0
 have S75:Sat _ _ (OwnX 113 wrapR v1 [(⟨rdNum r 1 16,rdTxt (rdNumS r 1 16) 48 48⟩:WrapT)]::_):=OwnX.cls (xss:=[[.int .i64 (rdNum r 1 16),u3]]) (.cons ⟨u3,rfl,ad,⟨(row_one (H5 _ S74.le)),H5⟩⟩ .nil) (S74.newO B0 O0)
 have oH469:=(OwnX.one S75 0 rfl (by decide))
 obtain ⟨I23,le23,S76,H6⟩:=S75.fx0 (by decide)
 refine EL_appX (z:=(.agg #[.int .i64 0,.slice none 0 0])) (bytes:=32) rfl U34 (by kernel_rfl) rfl (by decide) rfl rfl S76.fr4 H6 ac ac ?_
 intro v2 w71 S77
 refine g1 ?_
 refine yS4 S77 ?_ (hu:=OwnX.one S77 0 rfl (by decide))
 intro w72 S78
 refine g5 ?_
 refine EL_int ((n:Int)-1) rfl (r_subi rfl rfl (by omega)) ?_
 intro x0 hx476
 refine g3 ?_
 refine ⟨_,?_,n-1,rdTxtS (rdNumS r 1 16) 48 48,v2,ws++[(⟨rdNum r 1 16,rdTxt (rdNumS r 1 16) 48 48⟩:WrapT)],I23,rfl,(Eq.trans (show _=Value.int .i64 x0 from rfl) (congrArg _ (by omega))),(by exact e1),(by exact e2),(by exact e3),(by exact e4),(by exact e5),((rdw_step hq.1 hq.2).symm.trans hr),(by simp;omega),(lT (lT (lT le16 le21) le22) le23),S78.dr2.fr4.fr3.fr3.fr3.fr4⟩
 first | omega | (simp;omega)
 refine g8 ?_
 refine vl _ rfl (dF (r_eql rfl rfl)) ?_
 refine g6 ?_
 refine vl _ rfl (dF (r_eql rfl rfl)) ?_
 refine g6 ?_
 refine vl _ rfl (dF (r_eql rfl rfl)) ?_
 refine g6 ?_
 refine vl _ rfl (dF (r_eql rfl rfl)) ?_
 refine g6 ?_
 refine vl _ rfl (dF (r_eql rfl rfl)) ?_
 refine g9 ?_
 have hde:rdEntry ⟨l,false⟩=((⟨rdNum (Rd.mk l false) 1 5,rdNum (rdNumS (Rd.mk l false) 1 5) 1 16,rdNum (rdNumS (rdNumS (Rd.mk l false) 1 5) 1 16) 1 1099511627776,[],[],0,0,0,[]⟩:Entry),rdNumS (rdNumS (rdNumS (Rd.mk l false) 1 5) 1 16) 1 1099511627776):=by rw [rdEntry,rdBody,if_neg (by omega),if_neg (by omega),if_neg (by omega),if_neg (by omega),if_neg (by omega)]
 rcases (by cases rdEnd (rdNumS (rdNumS (rdNumS (Rd.mk l false) 1 5) 1 16) 1 1099511627776)<;>simp:rdEnd (rdNumS (rdNumS (rdNumS (Rd.mk l false) 1 5) 1 16) 1 1099511627776)=true∨rdEnd (rdNumS (rdNumS (rdNumS (Rd.mk l false) 1 5) 1 16) 1 1099511627776)=false) with hen | hen
 refine g2 ?_
 refine yR (End_c _ _ _ _ _ S10) ?_
 rintro _ w73 ⟨rfl,S79⟩
 refine vl _ rfl (nF rfl hen) ?_
 refine g2 ?_
 refine yG (Right_c [.int .i64 (rdNum (Rd.mk l false) 1 5),.int .i64 (rdNum (rdNumS (Rd.mk l false) 1 5) 1 16),.int .i64 (rdNum (rdNumS (rdNumS (Rd.mk l false) 1 5) 1 16) 1 1099511627776),.slice none 0 0,.slice none 0 0,.int .i64 0,.int .i64 0,.int .i64 0,.slice none 0 0] (⟨rdNum (Rd.mk l false) 1 5,rdNum (rdNumS (Rd.mk l false) 1 5) 1 16,rdNum (rdNumS (rdNumS (Rd.mk l false) 1 5) 1 16) 1 1099511627776,[],[],0,0,0,[]⟩:Entry) _ _ _ S79 ⟨(.slice none 0 0),(.slice none 0 0),(.slice none 0 0),rfl,ad,ad,ad,⟨rfl,Ro.nil⟩,⟨rfl,Ro.nil⟩,(by dsimp only;omega),(by dsimp only;omega),(by dsimp only;omega),⟨rfl,RoX.nil⟩⟩) ?_
 rintro _ w74 ⟨I24,le24,rfl,S80⟩
 refine g4 ?_
 refine EC_cond (t:=!((⟨rdNum (Rd.mk l false) 1 5,rdNum (rdNumS (Rd.mk l false) 1 5) 1 16,rdNum (rdNumS (rdNumS (Rd.mk l false) 1 5) 1 16) 1 1099511627776,[],[],0,0,0,[]⟩:Entry).right)) rfl (fun h7=>?_) (fun h7=>?_)
 have hrt:((⟨rdNum (Rd.mk l false) 1 5,rdNum (rdNumS (Rd.mk l false) 1 5) 1 16,rdNum (rdNumS (rdNumS (Rd.mk l false) 1 5) 1 16) 1 1099511627776,[],[],0,0,0,[]⟩:Entry)).right=false:=(Bool.not_eq_true' _).mp h7
 refine g2 ?_
 refine vl _ rfl (gB entR0 st_36 rfl fill_end) ?_
 refine yW3 S80 ?_
 intro w75 S81
 refine g5 ?_
 refine f2c Tryz.results68 ?_
 have hok:decOk l=false:=by rw [decOk,hde];dsimp only;rw [hen,hrt];rfl
 have q19:(decV l)=(⟨0,0,0,[],[],0,0,0,[]⟩:Entry):=by rw [decV,hok];rfl
 exact ⟨entR0,I24,(lT (lT (lT (lT le0 le1) le2) le3) le24),(by rw [decE,hok];rfl),(by rw [q19];exact (entRz _)),S81.dr0.dr0.dr0.dr0⟩
 have hrt:((⟨rdNum (Rd.mk l false) 1 5,rdNum (rdNumS (Rd.mk l false) 1 5) 1 16,rdNum (rdNumS (rdNumS (Rd.mk l false) 1 5) 1 16) 1 1099511627776,[],[],0,0,0,[]⟩:Entry)).right=true:=(Bool.not_eq_false' _).mp h7
 refine g5 ?_
 refine yW3 S80 ?_
 intro w76 S82
 refine g4 ?_
 refine f2c Tryz.results68 ?_
 have hok:decOk l=true:=by rw [decOk,hde];dsimp only;rw [hen,hrt];rfl
 have q20:(decV l)=(⟨rdNum (Rd.mk l false) 1 5,rdNum (rdNumS (Rd.mk l false) 1 5) 1 16,rdNum (rdNumS (rdNumS (Rd.mk l false) 1 5) 1 16) 1 1099511627776,[],[],0,0,0,[]⟩:Entry):=by rw [decV,if_pos hok,hde]
 exact ⟨[.int .i64 (rdNum (Rd.mk l false) 1 5),.int .i64 (rdNum (rdNumS (Rd.mk l false) 1 5) 1 16),.int .i64 (rdNum (rdNumS (rdNumS (Rd.mk l false) 1 5) 1 16) 1 1099511627776),.slice none 0 0,.slice none 0 0,.int .i64 0,.int .i64 0,.int .i64 0,.slice none 0 0],I24,(lT (lT (lT (lT le0 le1) le2) le3) le24),(by rw [decE,if_pos hok]),(by rw [q20];exact ⟨(.slice none 0 0),(.slice none 0 0),(.slice none 0 0),rfl,ad,ad,ad,⟨rfl,Ro.nil⟩,⟨rfl,Ro.nil⟩,(by dsimp only;omega),(by dsimp only;omega),(by dsimp only;omega),⟨rfl,RoX.nil⟩⟩),S82.dr0.dr0.dr0.dr0⟩
 refine g2 ?_
 refine yR (End_c _ _ _ _ _ S10) ?_
 rintro _ w77 ⟨rfl,S83⟩
 refine vl _ rfl (nT rfl hen) ?_
 refine g10 ?_
 refine vl _ rfl (gB entR0 st_36 rfl fill_end) ?_
 refine yW3 S83 ?_
 intro w78 S84
 refine g5 ?_
 refine f2c Tryz.results68 ?_
 have hok:decOk l=false:=by rw [decOk,hde];dsimp only;rw [hen,Bool.false_and]
 have q21:(decV l)=(⟨0,0,0,[],[],0,0,0,[]⟩:Entry):=by rw [decV,hok];rfl
 exact ⟨entR0,I3,(lT (lT (lT le0 le1) le2) le3),(by rw [decE,hok];rfl),(by rw [q21];exact (entRz _)),S84.dr0.dr0.dr0.dr0⟩
end Go.Proofs.YthddplghlljdbaaGreat
