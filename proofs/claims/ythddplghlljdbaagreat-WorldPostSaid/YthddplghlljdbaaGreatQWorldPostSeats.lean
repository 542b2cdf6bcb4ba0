import Derived.Test.YthddplghlljdbaaGreatQWorldPostWorld
import Derived.Test.YthddplghlljdbaaGreatQWorldPostFrmB
set_option linter.unusedVariables false
set_option linter.unusedSimpArgs false
set_option maxRecDepth 100000
set_option maxHeartbeats 4000000
namespace Go.Proofs.YthddplghlljdbaaGreat
open Go.RowKit Go.Ecal
def waiR:Rep WaitT:=⟨10,fun I cs a=>∃v3 v4 v8 v9,cs=[.int .i64 a.e.kind,.int .i64 a.e.writer,.int .i64 a.e.seq,v3,v4,.int .i64 a.e.who,.int .i64 a.e.rights,.int .i64 a.e.epoch,v8,v9]∧(-9223372036854775808≤a.e.kind∧a.e.kind≤9223372036854775807)∧(-9223372036854775808≤a.e.writer∧a.e.writer≤9223372036854775807)∧(-9223372036854775808≤a.e.seq∧a.e.seq≤9223372036854775807)∧(v3.oneCell'=true∧RoB I v3 a.e.name)∧(v4.oneCell'=true∧RoB I v4 a.e.value)∧(-9223372036854775808≤a.e.who∧a.e.who≤9223372036854775807)∧(-9223372036854775808≤a.e.rights∧a.e.rights≤9223372036854775807)∧(-9223372036854775808≤a.e.epoch∧a.e.epoch≤9223372036854775807)∧(v8.oneCell'=true∧RoX I v8 wrapR a.e.wraps)∧(v9.oneCell'=true∧RoB I v9 a.raw),fun k h=>by obtain ⟨v3,v4,v8,v9,rfl,h0,h1,h2,⟨o3,h3⟩,⟨o4,h4⟩,h5,h6,h7,⟨o8,h8⟩,⟨o9,h9⟩⟩:=h;exact ⟨v3,v4,v8,v9,rfl,h0,h1,h2,⟨o3,h3.up k⟩,⟨o4,h4.up k⟩,h5,h6,h7,⟨o8,h8.up k⟩,⟨o9,h9.up k⟩⟩,
 fun h=>by obtain ⟨v3,v4,v8,v9,rfl,h0,h1,h2,⟨o3,h3⟩,⟨o4,h4⟩,h5,h6,h7,⟨o8,h8⟩,⟨o9,h9⟩⟩:=h;rfl,fun h u hu=>by
  obtain ⟨v3,v4,v8,v9,rfl,h0,h1,h2,⟨o3,h3⟩,⟨o4,h4⟩,h5,h6,h7,⟨o8,h8⟩,⟨o9,h9⟩⟩:=h
  simp only [List.mem_cons,List.not_mem_nil,or_false] at hu
  rcases hu with rfl | rfl | rfl | rfl | rfl | rfl | rfl | rfl | rfl | rfl<;>first | rfl | assumption⟩
abbrev waiRC (a:WaitT) (v3 v4 v8 v9:Value):List Value:=[.int .i64 a.e.kind,.int .i64 a.e.writer,.int .i64 a.e.seq,v3,v4,.int .i64 a.e.who,.int .i64 a.e.rights,.int .i64 a.e.epoch,v8,v9]
abbrev waiR0:List Value:=[.int .i64 0,.int .i64 0,.int .i64 0,.slice none 0 0,.slice none 0 0,.int .i64 0,.int .i64 0,.int .i64 0,.slice none 0 0,.slice none 0 0]
theorem FDec_c (v0:Value) (l:List UInt8) (I:Gh) (R:List HP) (w:World) (S:Sat w I (R)) (Q0:RoB I v0 l):Ret Tryz.prog 79 [v0] w fun v w'=>∃cr:List Value,∃J:Gh,Gh.le I J∧.tuple #[.agg cr.toArray,.int .i64 (frE l)]=v∧frmR.r J cr (frV l)∧Sat w' J (R):=by
 have lq0:=RoB.le Q0 S.le
 refine ret_E Tryz.func79 rfl Tryz.ntmps79 (by simp) ?_
 refine g2 ?_
 refine yN frmR0 S ?_
 intro b0 w0 S0
 refine g7 ?_
 refine vl _ rfl (lenB (r_len rfl (Q0 _ S0.le) U33)) ?_
 refine g3 ?_
 refine EC_if rfl (fun h0=>?_) (fun h0=>?_)
 have hbig:32768<(l.length:Int):=h0
 refine g2 ?_
 refine vl _ rfl (gB frmR0 st_164 rfl fill_end) ?_
 refine yW0 S0 ?_
 intro w1 S1
 refine g5 ?_
 refine f2c Tryz.results79 ?_
 have hE:frE l=11:=if_pos hbig
 have q0:(frV l)=(⟨0,0,0,[],[]⟩:FrameT):=by rw [frV,if_neg (by rw [hE];decide)];rfl
 exact ⟨frmR0,I,(Gh.le_refl _),(by rw [hE]),(by rw [q0];exact (frmRz _)),S1.dr0⟩
 have hbig:¬32768<(l.length:Int):=h0
 refine g5 ?_
 refine yR (Read_c _ _ _ _ _ S0 Q0 au) ?_
 rintro _ w2 ⟨p0,I0,le0,rfl,S2⟩
 obtain ⟨q1,rfl⟩:=RdP.ptr S2
 refine g6 ?_
 refine vl (.func (.func 96) [ptr q1].toArray [].toArray) rfl (r_mkfunB rfl rfl) ?_
 refine g5 ?_
 refine yN frmR0 S2 ?_
 intro b1 w3 S3
 refine g5 ?_
 refine EL_retB _ rfl rfl Tryz.func96 rfl nm96 rfl (Number_c _ _ 1 4 _ _ _ S3.fr1) ?_
 rintro _ w4 ⟨I1,le1,rfl,S4⟩
 have hn0:=rdNum_rng (Rd.mk l false) 1 (hi:=4) (by omega)
 refine g1 ?_
 refine yS1 S4 ?_
 intro w5 S5
 refine g5 ?_
 refine EL_retB _ rfl rfl Tryz.func96 rfl nm96 rfl (Number_c _ _ 1 1099511627776 _ _ _ S5) ?_
 rintro _ w6 ⟨I2,le2,rfl,S6⟩
 have hn1:=rdNum_rng (rdNumS (Rd.mk l false) 1 4) 1 (hi:=1099511627776) (by omega)
 refine g1 ?_
 refine yS1 S6 ?_
 intro w7 S7
 refine g5 ?_
 refine EL_retB _ rfl rfl Tryz.func96 rfl nm96 rfl (Number_c _ _ 0 64 _ _ _ S7) ?_
 rintro _ w8 ⟨I3,le3,rfl,S8⟩
 have hn2:=rdNum_rng (rdNumS (rdNumS (Rd.mk l false) 1 4) 1 1099511627776) 0 (hi:=64) (by omega)
 refine g1 ?_
 refine yS1 S8 ?_
 intro w9 S9
 refine g6 ?_
 refine EL_retB _ rfl rfl Tryz.func96 rfl nm96 rfl (Number_c _ _ 0 8 _ _ _ S9) ?_
 rintro _ w10 ⟨I4,le4,rfl,S10⟩
 have hn3:=rdNum_rng (rdNumS (rdNumS (rdNumS (Rd.mk l false) 1 4) 1 1099511627776) 0 64) 0 (hi:=8) (by omega)
 refine g4 ?_
 have S11:Sat _ _ (OwnX 33 bytesR (.slice none 0 0) []::_):=OwnX.nil S10 33 bytesR
 refine EC_loop (fun m' E' w'=>∃n:Nat,∃r:Rd,∃wv:Value,∃ws:List (List UInt8),∃J:Gh,m'=0+n∧E' 7=.int .i64 (n:Int)∧E' 2=ptr b0∧E' 3=.int .i64 0∧E' 4=ptr q1∧E' 6=ptr b1∧(rdLinks n r ws=rdLinks (rdNum (rdNumS (rdNumS (rdNumS (Rd.mk l false) 1 4) 1 1099511627776) 0 64) 0 8).toNat (rdNumS (rdNumS (rdNumS (rdNumS (Rd.mk l false) 1 4) 1 1099511627776) 0 64) 0 8) [])∧(n+ws.length≤8)∧Gh.le I4 J∧Sat w' J (Blk b1 164 [.int .i64 (rdNum (Rd.mk l false) 1 4),.int .i64 (rdNum (rdNumS (Rd.mk l false) 1 4) 1 1099511627776),.int .i64 (rdNum (rdNumS (rdNumS (Rd.mk l false) 1 4) 1 1099511627776) 0 64),wv,.slice none 0 0]::OwnX 33 bytesR wv ws::RdP (ptr q1) r::Blk b0 164 frmR0::R)) _ ⟨(rdNum (rdNumS (rdNumS (rdNumS (Rd.mk l false) 1 4) 1 1099511627776) 0 64) 0 8).toNat,rdNumS (rdNumS (rdNumS (rdNumS (Rd.mk l false) 1 4) 1 1099511627776) 0 64) 0 8,.slice none 0 0,[],I4,rfl,(Eq.trans (show _=Value.int .i64 (rdNum (rdNumS (rdNumS (rdNumS (Rd.mk l false) 1 4) 1 1099511627776) 0 64) 0 8) from rfl) (congrArg _ (Int.toNat_of_nonneg (by omega)).symm)),rfl,rfl,rfl,rfl,rfl,(by simp;omega),(Gh.le_refl _),S11.fr3.fr2.fr2.fr3⟩ ?_
 rintro _ E0 w11 ⟨n,r,wv,ws,I5,rfl,e0,e1,e2,e3,e4,hr,hn8,le5,S12⟩
 refine g2 ?_
 rcases dl3 n r.bad with hq | hq | hq
 have hx:rdLinks (rdNum (rdNumS (rdNumS (rdNumS (Rd.mk l false) 1 4) 1 1099511627776) 0 64) 0 8).toNat (rdNumS (rdNumS (rdNumS (rdNumS (Rd.mk l false) 1 4) 1 1099511627776) 0 64) 0 8) []=(ws,r):=by rw [←hr,hq];rfl
 refine g2 ?_
 refine vl _ rfl (dcF (r_gtr rfl rfl) (by simp;omega)) ?_
 refine g16 ?_
 refine yR (Text_c _ _ 0 32 _ _ _ S12.fr2) ?_
 rintro _ w12 ⟨u0,I6,le6,rfl,H0,S13⟩
 refine g1 ?_
 refine yS1 S13 ?_ (hu:=row_one (H0 _ S13.le))
 intro w13 S14
 refine g4 ?_
 have oH105:=(OwnX.one S14 2 rfl (by decide))
 obtain ⟨I7,le7,S15,H1⟩:=S14.fx2 (by decide)
 have hde:rdFrame ⟨l,false⟩=((⟨rdNum (Rd.mk l false) 1 4,rdNum (rdNumS (Rd.mk l false) 1 4) 1 1099511627776,rdNum (rdNumS (rdNumS (Rd.mk l false) 1 4) 1 1099511627776) 0 64,ws,rdTxt r 0 32⟩:FrameT),rdTxtS r 0 32):=by simp only [rdFrame];rw [hx]
 rcases (by cases rdEnd (rdTxtS r 0 32)<;>simp:rdEnd (rdTxtS r 0 32)=true∨rdEnd (rdTxtS r 0 32)=false) with hen | hen
 refine g2 ?_
 refine yR (End_c _ _ _ _ _ S15) ?_
 rintro _ w14 ⟨rfl,S16⟩
 refine vl _ rfl (nF rfl hen) ?_
 refine g2 ?_
 refine yG (FRight_c [.int .i64 (rdNum (Rd.mk l false) 1 4),.int .i64 (rdNum (rdNumS (Rd.mk l false) 1 4) 1 1099511627776),.int .i64 (rdNum (rdNumS (rdNumS (Rd.mk l false) 1 4) 1 1099511627776) 0 64),wv,u0] (⟨rdNum (Rd.mk l false) 1 4,rdNum (rdNumS (Rd.mk l false) 1 4) 1 1099511627776,rdNum (rdNumS (rdNumS (Rd.mk l false) 1 4) 1 1099511627776) 0 64,ws,rdTxt r 0 32⟩:FrameT) _ _ _ S16 ⟨wv,u0,rfl,ad,ad,ad,⟨oH105,H1⟩,⟨(row_one (H0 _ (lT le7 S16.le))),(H0.up le7)⟩⟩) ?_
 rintro _ w15 ⟨rfl,S17⟩
 refine g4 ?_
 refine EC_cond (t:=!((⟨rdNum (Rd.mk l false) 1 4,rdNum (rdNumS (Rd.mk l false) 1 4) 1 1099511627776,rdNum (rdNumS (rdNumS (Rd.mk l false) 1 4) 1 1099511627776) 0 64,ws,rdTxt r 0 32⟩:FrameT).right)) rfl (fun h2=>?_) (fun h2=>?_)
 have hrt:((⟨rdNum (Rd.mk l false) 1 4,rdNum (rdNumS (Rd.mk l false) 1 4) 1 1099511627776,rdNum (rdNumS (rdNumS (Rd.mk l false) 1 4) 1 1099511627776) 0 64,ws,rdTxt r 0 32⟩:FrameT)).right=false:=(Bool.not_eq_true' _).mp h2
 refine g2 ?_
 refine vl _ rfl (gB frmR0 st_164 rfl fill_end) ?_
 refine yW2 S17 ?_
 intro w16 S18
 refine g5 ?_
 refine f2c Tryz.results79 ?_
 have hok:frOk l=false:=by rw [frOk,hde];dsimp only;rw [hen,hrt];rfl
 have hE:frE l=10:=by rw [frE,if_neg hbig,hok];rfl
 have q2:(frV l)=(⟨0,0,0,[],[]⟩:FrameT):=by rw [frV,if_neg (by rw [hE];decide)];rfl
 exact ⟨frmR0,I7,(lT (lT (lT (lT (lT (lT (lT le0 le1) le2) le3) le4) le5) le6) le7),(by rw [hE]),(by rw [q2];exact (frmRz _)),S18.dr0.dr0.dr0⟩
 have hrt:((⟨rdNum (Rd.mk l false) 1 4,rdNum (rdNumS (Rd.mk l false) 1 4) 1 1099511627776,rdNum (rdNumS (rdNumS (Rd.mk l false) 1 4) 1 1099511627776) 0 64,ws,rdTxt r 0 32⟩:FrameT)).right=true:=(Bool.not_eq_false' _).mp h2
 refine g5 ?_
 refine yW2 S17 ?_ (h1:=ones_cons rfl (ones_cons rfl (ones_cons rfl (ones_cons oH105 (ones_cons (row_one (H0 _ (lT le7 S17.le))) ones_nil)))))
 intro w17 S19
 refine g4 ?_
 refine f2c Tryz.results79 ?_
 have hok:frOk l=true:=by rw [frOk,hde];dsimp only;rw [hen,hrt];rfl
 have hE:frE l=0:=by rw [frE,if_neg hbig,if_pos hok]
 have q3:(frV l)=(⟨rdNum (Rd.mk l false) 1 4,rdNum (rdNumS (Rd.mk l false) 1 4) 1 1099511627776,rdNum (rdNumS (rdNumS (Rd.mk l false) 1 4) 1 1099511627776) 0 64,ws,rdTxt r 0 32⟩:FrameT):=by rw [frV,if_pos hE,hde]
 have S20:=S19.dr0.dr0.dr0
 exact ⟨[.int .i64 (rdNum (Rd.mk l false) 1 4),.int .i64 (rdNum (rdNumS (Rd.mk l false) 1 4) 1 1099511627776),.int .i64 (rdNum (rdNumS (rdNumS (Rd.mk l false) 1 4) 1 1099511627776) 0 64),wv,u0],I7,(lT (lT (lT (lT (lT (lT (lT le0 le1) le2) le3) le4) le5) le6) le7),(by rw [hE]),(by rw [q3];exact ⟨wv,u0,rfl,ad,ad,ad,⟨oH105,H1⟩,⟨(row_one (H0 _ (lT le7 S20.le))),(H0.up le7)⟩⟩),S20⟩
 refine g2 ?_
 refine yR (End_c _ _ _ _ _ S15) ?_
 rintro _ w18 ⟨rfl,S21⟩
 refine vl _ rfl (nT rfl hen) ?_
 refine g10 ?_
 refine vl _ rfl (gB frmR0 st_164 rfl fill_end) ?_
 refine yW2 S21 ?_
 intro w19 S22
 refine g5 ?_
 refine f2c Tryz.results79 ?_
 have hok:frOk l=false:=by rw [frOk,hde];dsimp only;rw [hen,Bool.false_and]
 have hE:frE l=10:=by rw [frE,if_neg hbig,hok];rfl
 have q4:(frV l)=(⟨0,0,0,[],[]⟩:FrameT):=by rw [frV,if_neg (by rw [hE];decide)];rfl
 exact ⟨frmR0,I7,(lT (lT (lT (lT (lT (lT (lT le0 le1) le2) le3) le4) le5) le6) le7),(by rw [hE]),(by rw [q4];exact (frmRz _)),S22.dr0.dr0.dr0⟩
 have hx:rdLinks (rdNum (rdNumS (rdNumS (rdNumS (Rd.mk l false) 1 4) 1 1099511627776) 0 64) 0 8).toNat (rdNumS (rdNumS (rdNumS (rdNumS (Rd.mk l false) 1 4) 1 1099511627776) 0 64) 0 8) []=(ws,r):=by rw [←hr];exact rdl_bad hq.2
 refine g2 ?_
 refine vl _ rfl (dcT (r_gtr rfl rfl) (by simp;omega)) ?_
 refine g2 ?_
 refine yG (Bad_c _ _ _ _ _ S12.fr2) ?_
 rintro _ w20 ⟨rfl,S23⟩
 refine gl 29 rfl rfl rfl rfl _ rfl (nF rfl hq.2) ?_
 refine g12 ?_
 refine yR (Text_c _ _ 0 32 _ _ _ S23) ?_
 rintro _ w21 ⟨u1,I8,le8,rfl,H2,S24⟩
 refine g1 ?_
 refine yS1 S24 ?_ (hu:=row_one (H2 _ S24.le))
 intro w22 S25
 refine g4 ?_
 have oH157:=(OwnX.one S25 2 rfl (by decide))
 obtain ⟨I9,le9,S26,H3⟩:=S25.fx2 (by decide)
 have hde:rdFrame ⟨l,false⟩=((⟨rdNum (Rd.mk l false) 1 4,rdNum (rdNumS (Rd.mk l false) 1 4) 1 1099511627776,rdNum (rdNumS (rdNumS (Rd.mk l false) 1 4) 1 1099511627776) 0 64,ws,rdTxt r 0 32⟩:FrameT),rdTxtS r 0 32):=by simp only [rdFrame];rw [hx]
 rcases (by cases rdEnd (rdTxtS r 0 32)<;>simp:rdEnd (rdTxtS r 0 32)=true∨rdEnd (rdTxtS r 0 32)=false) with hen | hen
 refine g2 ?_
 refine yR (End_c _ _ _ _ _ S26) ?_
 rintro _ w23 ⟨rfl,S27⟩
 refine vl _ rfl (nF rfl hen) ?_
 refine g2 ?_
 refine yG (FRight_c [.int .i64 (rdNum (Rd.mk l false) 1 4),.int .i64 (rdNum (rdNumS (Rd.mk l false) 1 4) 1 1099511627776),.int .i64 (rdNum (rdNumS (rdNumS (Rd.mk l false) 1 4) 1 1099511627776) 0 64),wv,u1] (⟨rdNum (Rd.mk l false) 1 4,rdNum (rdNumS (Rd.mk l false) 1 4) 1 1099511627776,rdNum (rdNumS (rdNumS (Rd.mk l false) 1 4) 1 1099511627776) 0 64,ws,rdTxt r 0 32⟩:FrameT) _ _ _ S27 ⟨wv,u1,rfl,ad,ad,ad,⟨oH157,H3⟩,⟨(row_one (H2 _ (lT le9 S27.le))),(H2.up le9)⟩⟩) ?_
 rintro _ w24 ⟨rfl,S28⟩
 refine g4 ?_
 refine EC_cond (t:=!((⟨rdNum (Rd.mk l false) 1 4,rdNum (rdNumS (Rd.mk l false) 1 4) 1 1099511627776,rdNum (rdNumS (rdNumS (Rd.mk l false) 1 4) 1 1099511627776) 0 64,ws,rdTxt r 0 32⟩:FrameT).right)) rfl (fun h3=>?_) (fun h3=>?_)
 have hrt:((⟨rdNum (Rd.mk l false) 1 4,rdNum (rdNumS (Rd.mk l false) 1 4) 1 1099511627776,rdNum (rdNumS (rdNumS (Rd.mk l false) 1 4) 1 1099511627776) 0 64,ws,rdTxt r 0 32⟩:FrameT)).right=false:=(Bool.not_eq_true' _).mp h3
 refine g2 ?_
 refine vl _ rfl (gB frmR0 st_164 rfl fill_end) ?_
 refine yW2 S28 ?_
 intro w25 S29
 refine g5 ?_
 refine f2c Tryz.results79 ?_
 have hok:frOk l=false:=by rw [frOk,hde];dsimp only;rw [hen,hrt];rfl
 have hE:frE l=10:=by rw [frE,if_neg hbig,hok];rfl
 have q5:(frV l)=(⟨0,0,0,[],[]⟩:FrameT):=by rw [frV,if_neg (by rw [hE];decide)];rfl
 exact ⟨frmR0,I9,(lT (lT (lT (lT (lT (lT (lT le0 le1) le2) le3) le4) le5) le8) le9),(by rw [hE]),(by rw [q5];exact (frmRz _)),S29.dr0.dr0.dr0⟩
 have hrt:((⟨rdNum (Rd.mk l false) 1 4,rdNum (rdNumS (Rd.mk l false) 1 4) 1 1099511627776,rdNum (rdNumS (rdNumS (Rd.mk l false) 1 4) 1 1099511627776) 0 64,ws,rdTxt r 0 32⟩:FrameT)).right=true:=(Bool.not_eq_false' _).mp h3
 refine g5 ?_
 refine yW2 S28 ?_ (h1:=ones_cons rfl (ones_cons rfl (ones_cons rfl (ones_cons oH157 (ones_cons (row_one (H2 _ (lT le9 S28.le))) ones_nil)))))
 intro w26 S30
 refine g4 ?_
 refine f2c Tryz.results79 ?_
 have hok:frOk l=true:=by rw [frOk,hde];dsimp only;rw [hen,hrt];rfl
 have hE:frE l=0:=by rw [frE,if_neg hbig,if_pos hok]
 have q6:(frV l)=(⟨rdNum (Rd.mk l false) 1 4,rdNum (rdNumS (Rd.mk l false) 1 4) 1 1099511627776,rdNum (rdNumS (rdNumS (Rd.mk l false) 1 4) 1 1099511627776) 0 64,ws,rdTxt r 0 32⟩:FrameT):=by rw [frV,if_pos hE,hde]
 have S31:=S30.dr0.dr0.dr0
 exact ⟨[.int .i64 (rdNum (Rd.mk l false) 1 4),.int .i64 (rdNum (rdNumS (Rd.mk l false) 1 4) 1 1099511627776),.int .i64 (rdNum (rdNumS (rdNumS (Rd.mk l false) 1 4) 1 1099511627776) 0 64),wv,u1],I9,(lT (lT (lT (lT (lT (lT (lT le0 le1) le2) le3) le4) le5) le8) le9),(by rw [hE]),(by rw [q6];exact ⟨wv,u1,rfl,ad,ad,ad,⟨oH157,H3⟩,⟨(row_one (H2 _ (lT le9 S31.le))),(H2.up le9)⟩⟩),S31⟩
 refine g2 ?_
 refine yR (End_c _ _ _ _ _ S26) ?_
 rintro _ w27 ⟨rfl,S32⟩
 refine vl _ rfl (nT rfl hen) ?_
 refine g10 ?_
 refine vl _ rfl (gB frmR0 st_164 rfl fill_end) ?_
 refine yW2 S32 ?_
 intro w28 S33
 refine g5 ?_
 refine f2c Tryz.results79 ?_
 have hok:frOk l=false:=by rw [frOk,hde];dsimp only;rw [hen,Bool.false_and]
 have hE:frE l=10:=by rw [frE,if_neg hbig,hok];rfl
 have q7:(frV l)=(⟨0,0,0,[],[]⟩:FrameT):=by rw [frV,if_neg (by rw [hE];decide)];rfl
 exact ⟨frmR0,I9,(lT (lT (lT (lT (lT (lT (lT le0 le1) le2) le3) le4) le5) le8) le9),(by rw [hE]),(by rw [q7];exact (frmRz _)),S33.dr0.dr0.dr0⟩
 refine g2 ?_
 refine vl _ rfl (dcT (r_gtr rfl rfl) (by simp;omega)) ?_
 refine g2 ?_
 refine yG (Bad_c _ _ _ _ _ S12.fr2) ?_
 rintro _ w29 ⟨rfl,S34⟩
 refine gl 29 rfl rfl rfl rfl _ rfl (nT rfl hq.2) ?_
 refine g8 ?_
 refine yJ 7 (fun w'=>Arr w' b1 164 [.int .i64 (rdNum (Rd.mk l false) 1 4),.int .i64 (rdNum (rdNumS (Rd.mk l false) 1 4) 1 1099511627776),.int .i64 (rdNum (rdNumS (rdNumS (Rd.mk l false) 1 4) 1 1099511627776) 0 64),wv,.slice none 0 0]) S34 ?_
 intro w30 S35
 refine yT 0 S35.le (S35.a1) ?_
 refine yT 1 S35.le (S35.a1) ?_
 refine yT 2 S35.le (S35.a1) ?_
 refine y1 3 ?_
 refine yR (Text_c _ _ 1 4096 _ _ _ S35) ?_
 rintro _ w31 ⟨u2,I10,le10,rfl,H4,S36⟩
 refine yn (lT le10 S36.le) (S36.a1) ?_
 refine yu le10 ?_
 refine y1 4 ?_
 refine EL_lit1 (l:=[(0,u2)]) w31.heap.size [u2] el_52 rfl (by decide) rfl (Nat.le_refl _) (parts1 rfl) (Eq.trans (show Instr.fill _ _ [(0,u2)]=_ from (fill_one rfl (row_cells (H4 _ S36.le)) (by kernel_rfl) fill_end)) (by kernel_rfl)) ?_
 intro v1 w32 O0 B0 k0
 have S37:Sat _ _ (OwnX 33 bytesR v1 [rdTxt r 1 4096]::_):=OwnX.cls (xss:=[[u2]]) (.cons ⟨_,rfl,(row_one (H4 _ S36.le)),H4⟩ .nil) (S36.newO B0 O0)
 refine yn S37.le (S37.a2) ?_
 refine y1 5 ?_
 have oH216:=(OwnX.one S37 0 rfl (by decide))
 obtain ⟨I11,le11,S38,H5⟩:=S37.fx0 (by decide)
 refine EL_appX (z:=(.slice none 0 0)) (bytes:=24) rfl U52 (by kernel_rfl) rfl (by decide) rfl rfl S38.fr2 H5 ac ac ?_
 intro v2 w33 S39
 refine yn (lT le11 S39.le) (S39.a2) ?_
 refine yu le11 ?_
 refine yT 6 S39.le (S39.a2) ?_
 refine y1 7 ?_
 refine yS2 S39 ?_ (hu:=OwnX.one S39 0 rfl (by decide))
 intro w34 S40
 refine ym S40.le ?_
 refine yd ?_
 refine g4 ?_
 refine EL_int ((n:Int)-1) rfl (r_subi rfl rfl (by omega)) ?_
 intro x0 hx223
 refine g3 ?_
 refine ⟨_,?_,n-1,rdTxtS r 1 4096,v2,ws++[rdTxt r 1 4096],I11,rfl,(Eq.trans (show _=Value.int .i64 x0 from rfl) (congrArg _ (by omega))),(by exact e1),(by exact e2),(by exact e3),(by exact e4),((rdl_step hq.1 hq.2).symm.trans hr),(by simp;omega),(lT (lT le5 le10) le11),S40.fr3.fr2.fr2.fr3⟩
 first | omega | (simp;omega)
end Go.Proofs.YthddplghlljdbaaGreat

namespace Go.Proofs.YthddplghlljdbaaGreat
open Go.RowKit Go.Ecal
def cliC (c:Cli) (p wv rv pv:Value):List Value:=[p,.int .i64 c.coll,.int .i64 c.founder,.int .i64 c.who,wv,rv,pv,.int .i64 c.count,.int .i64 c.last,.bool c.alarm]
def CliP (q p:Value) (c:Cli):HP:=.ex fun b=>.ex fun wv=>.ex fun rv=>.ex fun pv =>
 Sep [.prop (q=ptr b∧c.ok∧rv.oneCell'=true),.fact ⟨fun I=>RoB I wv c.sec,fun h k=>k.up h⟩,
  Blk b 99 (cliC c p wv rv pv),RplP rv p c.r,OwnX 166 waiR pv c.pend]
section
variable {w : World} {I : Gh} {R : List HP} {q p : Value} {c : Cli}
theorem CliP.opn (S : Sat w I (CliP q p c :: R)) : ∃ b wv rv pv, q = ptr b ∧ c.ok ∧ rv.oneCell' = true ∧ RoB I wv c.sec ∧
    Sat w I (Blk b 99 [p, .int .i64 c.coll, .int .i64 c.founder, .int .i64 c.who, wv, rv, pv, .int .i64 c.count, .int .i64 c.last, .bool c.alarm] :: RplP rv p c.r :: OwnX 166 waiR pv c.pend :: R) := by
  obtain ⟨b, S⟩ := S.unex; obtain ⟨wv, S⟩ := S.unex; obtain ⟨rv, S⟩ := S.unex; obtain ⟨pv, S⟩ := S.unex
  obtain ⟨⟨h1, h2, h3⟩, S⟩ := S.split.unprop
  obtain ⟨h4, S⟩ := S.unfact
  exact ⟨b, wv, rv, pv, h1, h2, h3, h4, S⟩
theorem CliP.cls {b : Nat} {wv rv pv : Value} (h2 : c.ok) (h3 : rv.oneCell' = true) (h4 : RoB I wv c.sec)
    (S : Sat w I (Blk b 99 (cliC c p wv rv pv) :: RplP rv p c.r :: OwnX 166 waiR pv c.pend :: R)) : Sat w I (CliP (ptr b) p c :: R) :=
  Sat.toex b (Sat.toex wv (Sat.toex rv (Sat.toex pv (Sat.join [_, _, _, _, _] ((Sat.tofact (φ := ⟨fun I => RoB I wv c.sec, fun h k => k.up h⟩) h4 S).toprop ⟨rfl, h2, h3⟩)))))
theorem RplP.sok {s:Rpl} (S:Sat w I (RplP q p s::R)):s.ok:=by obtain ⟨b,_,_,_,_,_,rfl,h,_⟩:=RplP.opn S;exact h
end
/-- A client's numbers stay in their bounds. -/
theorem Cli.seq_rng {c:Cli} (h:c.ok) (hr:c.r.ok):1≤c.seq∧c.seq≤1099511627777:=by
 have h1:=seen_rng (n:=c.who) hr
 have h2:=h.lst
 rw [Cli.seq];split<;>omega
end Go.Proofs.YthddplghlljdbaaGreat

namespace Go.Proofs.YthddplghlljdbaaGreat
open Go.RowKit Go.Ecal
/-- A seat: its block,and its client's. -/
def SeatB (T:TypeId) (p:Value) (a:Nat×Nat) (x:Seat):HP:=
 Sep [Blk a.1 T [ptr a.2,.int .i64 x.c.coll,.int .i64 x.c.founder,.int .i64 x.c.who,.int .i64 x.branch],CliP (ptr a.2) p x.c]
def SeatsP (T:TypeId) (p:Value):List (Nat×Nat)→List Seat→HP
 | a::r,x::l=>Sep [SeatB T p a x,SeatsP T p r l]
 | [],[]=>Sep []
 | _::_,[]=>.prop False
 | [],_::_=>.prop False
section
variable {w : World} {I : Gh} {R : List HP} {T : TypeId} {p : Value}
theorem SeatsP.at:∀{i:Nat} {bs:List (Nat×Nat)} {l:List Seat} {a:Nat×Nat} {x:Seat} {R:List HP},bs[i]?=some a→l[i]?=some x→Sat w I (SeatsP T p bs l::R)→Sat w I (SeatB T p a x::SeatsP T p (bs.eraseIdx i) (l.eraseIdx i)::R)
 | 0,b::r,y::t,a,x,R,ha,hx,S=>by
  obtain rfl:b=a:=by simpa using ha
  obtain rfl:y=x:=by simpa using hx
  exact S.split
 | i+1,b::r,y::t,a,x,R,ha,hx,S=>by
  have S1:Sat w I (SeatB T p b y::SeatsP T p r t::R):=S.split
  have S2:=SeatsP.at (i:=i) (a:=a) (x:=x) (by simpa using ha) (by simpa using hx) (S1.fr1)
  have S3:Sat w I (SeatB T p b y::SeatsP T p (r.eraseIdx i) (t.eraseIdx i)::SeatB T p a x::R):=(S2.fr1).fr2
  exact (Sat.join [_,_] S3).fr1
 | _,[],_,_,_,_,ha,_,_=>by simp at ha
 | _,_::_,[],_,_,_,_,hx,_=>by simp at hx
theorem SeatsP.back:∀{i:Nat} {bs:List (Nat×Nat)} {l:List Seat} {a:Nat×Nat} {x y:Seat} {R:List HP},bs[i]?=some a→l[i]?=some y→Sat w I (SeatB T p a x::SeatsP T p (bs.eraseIdx i) (l.eraseIdx i)::R)→Sat w I (SeatsP T p bs (l.set i x)::R)
 | 0,b::r,z::t,a,x,y,R,ha,hy,S=>by
  obtain rfl:b=a:=by simpa using ha
  exact Sat.join [_,_] S
 | i+1,b::r,z::t,a,x,y,R,ha,hy,S=>by
  have S1:Sat w I (SeatB T p b z::SeatsP T p (r.eraseIdx i) (t.eraseIdx i)::SeatB T p a x::R):=Sat.split (m:=[_,_]) S.fr1
  have S2:Sat w I (SeatB T p a x::SeatsP T p (r.eraseIdx i) (t.eraseIdx i)::SeatB T p b z::R):=(S1.fr1).fr2
  have S3:=SeatsP.back (i:=i) (y:=y) (by simpa using ha) (by simpa using hy) S2
  exact Sat.join [_,_] S3.fr1
 | _,[],_,_,_,_,_,ha,_,_=>by simp at ha
 | _,_::_,[],_,_,_,_,_,hx,_=>by simp at hx
theorem SeatsP.nil (S:Sat w I R):Sat w I (SeatsP T p [] []::R):=Sat.join [] S
/-- One more. -/
theorem SeatsP.snoc:∀{bs:List (Nat×Nat)} {l:List Seat} {a:Nat×Nat} {x:Seat} {R:List HP},Sat w I (SeatB T p a x::SeatsP T p bs l::R)→Sat w I (SeatsP T p (bs++[a]) (l++[x])::R)
 | [],[],a,x,R,S=>by
  have S1:Sat w I (SeatB T p a x::R):=Sat.split (m:=[]) S.fr1
  exact Sat.join [_,_] ((SeatsP.nil S1).fr1)
 | b::r,y::t,a,x,R,S=>by
  have S1:Sat w I (SeatB T p b y::SeatsP T p r t::SeatB T p a x::R):=Sat.split (m:=[_,_]) S.fr1
  have S2:Sat w I (SeatB T p a x::SeatsP T p r t::SeatB T p b y::R):=(S1.fr1).fr2
  exact Sat.join [_,_] (SeatsP.snoc S2).fr1
 | _::_,[],_,_,_,S=>(S.fr1.unprop).1.elim
 | [],_::_,_,_,_,S=>(S.fr1.unprop).1.elim
end
end Go.Proofs.YthddplghlljdbaaGreat
