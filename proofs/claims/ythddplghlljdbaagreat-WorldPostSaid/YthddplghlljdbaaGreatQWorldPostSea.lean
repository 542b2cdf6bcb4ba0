import Derived.Test.YthddplghlljdbaaGreatQWorldPostRngA
import Derived.Test.YthddplghlljdbaaGreatQWorldPostBuc
set_option linter.unusedVariables false
set_option linter.unusedSimpArgs false
set_option maxRecDepth 100000
set_option maxHeartbeats 4000000
namespace Go.Proofs.YthddplghlljdbaaGreat
open Go.RowKit Go.Ecal
def recR:Rep Record:=⟨5,fun I cs a=>∃v4,cs=[.int .i64 a.coll,.int .i64 a.epoch,.int .i64 a.writer,.int .i64 a.count,v4]∧(-9223372036854775808≤a.coll∧a.coll≤9223372036854775807)∧(-9223372036854775808≤a.epoch∧a.epoch≤9223372036854775807)∧(-9223372036854775808≤a.writer∧a.writer≤9223372036854775807)∧(-9223372036854775808≤a.count∧a.count≤9223372036854775807)∧(v4.oneCell'=true∧RoB I v4 a.box),fun k h=>by obtain ⟨v4,rfl,h0,h1,h2,h3,⟨o4,h4⟩⟩:=h;exact ⟨v4,rfl,h0,h1,h2,h3,⟨o4,h4.up k⟩⟩,
 fun h=>by obtain ⟨v4,rfl,h0,h1,h2,h3,⟨o4,h4⟩⟩:=h;rfl,fun h u hu=>by
  obtain ⟨v4,rfl,h0,h1,h2,h3,⟨o4,h4⟩⟩:=h
  simp only [List.mem_cons,List.not_mem_nil,or_false] at hu
  rcases hu with rfl | rfl | rfl | rfl | rfl<;>first | rfl | assumption⟩
abbrev recRC (a:Record) (v4:Value):List Value:=[.int .i64 a.coll,.int .i64 a.epoch,.int .i64 a.writer,.int .i64 a.count,v4]
abbrev recR0:List Value:=[.int .i64 0,.int .i64 0,.int .i64 0,.int .i64 0,.slice none 0 0]
theorem recRz (I:Gh):recR.r I recR0 (⟨0,0,0,0,[]⟩:Record):=⟨_,rfl,(by dsimp only;omega),(by dsimp only;omega),(by dsimp only;omega),(by dsimp only;omega),⟨rfl,Ro.nil⟩⟩
theorem nums_c (cr:List Value) (r:Record) (I:Gh) (R:List HP) (w:World) (S:Sat w I (R)) (hr:recR.r I cr r):Ret Tryz.prog 134 [.agg cr.toArray] w fun v w'=>.bool r.nums=v∧Sat w' I (R):=by
 obtain ⟨v0,rfl,r0,r1,r2,r3,⟨o0,H0⟩⟩:=hr
 refine ret_E Tryz.func134 rfl Tryz.ntmps134 (by simp) ?_
 refine g2 ?_
 refine yB (cs:=[.int .i64 r.coll,.int .i64 r.epoch,.int .i64 r.writer,.int .i64 r.count,v0]) S ?_
 intro b0 w0 S0
 refine g30 ?_
 refine g17 ?_
 refine f1 Tryz.results134 ?_
 exact ⟨rfl,S0.dr0⟩
theorem RRight_c (cr:List Value) (r:Record) (I:Gh) (R:List HP) (w:World) (S:Sat w I (R)) (hr:recR.r I cr r):Ret Tryz.prog 139 [.agg cr.toArray] w fun v w'=>.bool r.right=v∧Sat w' I (R):=by
 obtain ⟨v0,rfl,r0,r1,r2,r3,⟨o0,H0⟩⟩:=hr
 refine ret_E Tryz.func139 rfl Tryz.ntmps139 (by simp) ?_
 refine g2 ?_
 refine yB (cs:=[.int .i64 r.coll,.int .i64 r.epoch,.int .i64 r.writer,.int .i64 r.count,v0]) S ?_
 intro b0 w0 S0
 refine g4 ?_
 rcases (by cases r.nums<;>simp:r.nums=true∨r.nums=false) with hnu | hnu
 refine g2 ?_
 refine yR (nums_c [.int .i64 r.coll,.int .i64 r.epoch,.int .i64 r.writer,.int .i64 r.count,v0] r _ _ _ S0 ⟨v0,rfl,ad,ad,ad,ad,⟨o0,H0⟩⟩) ?_
 rintro _ w1 ⟨rfl,S1⟩
 refine vl (.bool true) rfl (r_move (Eq.trans (show _=Value.bool (r.nums) from rfl) (congrArg Value.bool (show (r.nums)=true from hnu)))) ?_
 refine g2 ?_
 refine gl 5 rfl rfl rfl rfl _ rfl (lenB (r_len rfl (H0 _ S1.le) U33)) ?_
 refine g5 ?_
 refine EL_gite 11 rfl rfl rfl (.int .i64 (r.box.length:Int)) rfl (fun g29=>lenB (r_len (cond_of g29 rfl) (H0 _ S1.le) U33)) ?_
 refine g6 ?_
 refine f1 Tryz.results139 ?_
 exact ⟨(congrArg Value.bool (by rw [Record.right,hnu]<;>simp)),S1.dr0⟩
 refine g2 ?_
 refine yR (nums_c [.int .i64 r.coll,.int .i64 r.epoch,.int .i64 r.writer,.int .i64 r.count,v0] r _ _ _ S0 ⟨v0,rfl,ad,ad,ad,ad,⟨o0,H0⟩⟩) ?_
 rintro _ w2 ⟨rfl,S2⟩
 refine vl (.bool false) rfl (r_move (Eq.trans (show _=Value.bool (r.nums) from rfl) (congrArg Value.bool (show (r.nums)=false from hnu)))) ?_
 refine g15 ?_
 refine f1 Tryz.results139 ?_
 exact ⟨(congrArg Value.bool (by rw [Record.right,hnu]<;>simp)),S2.dr0⟩
theorem front_c (cr:List Value) (r:Record) (I:Gh) (R:List HP) (w:World) (S:Sat w I (R)) (hr:recR.r I cr r):Ret Tryz.prog 138 [.agg cr.toArray] w fun v w'=>∃v1:Value,∃J:Gh,Gh.le I J∧v1=v∧Sat w' J (OwnB v1 r.front::R):=by
 obtain ⟨v0,rfl,r0,r1,r2,r3,⟨o0,H0⟩⟩:=hr
 refine ret_E Tryz.func138 rfl Tryz.ntmps138 (by simp) ?_
 refine g2 ?_
 refine yB (cs:=[.int .i64 r.coll,.int .i64 r.epoch,.int .i64 r.writer,.int .i64 r.count,v0]) S ?_
 intro b0 w0 S0
 refine g7 ?_
 refine vl _ rfl (r_iface rfl U3 rfl) ?_
 refine g2 ?_
 refine vl _ rfl (r_iface rfl U3 rfl) ?_
 refine g2 ?_
 refine vl _ rfl (r_iface rfl U3 rfl) ?_
 refine g2 ?_
 refine vl _ rfl (r_iface rfl U3 rfl) ?_
 refine EL_lit1 (l:=[(0,.iface 3 (.int .i64 r.coll)),(1,.iface 3 (.int .i64 r.epoch)),(2,.iface 3 (.int .i64 r.writer)),(3,.iface 3 (.int .i64 r.count))]) w0.heap.size [.iface 3 (.int .i64 r.coll),.iface 3 (.int .i64 r.epoch),.iface 3 (.int .i64 r.writer),.iface 3 (.int .i64 r.count)] el_122 rfl (by decide) rfl (Nat.le_refl _) (parts4 rfl rfl rfl rfl) (Eq.trans (show Instr.fill _ _ [(0,.iface 3 (.int .i64 r.coll)),(1,.iface 3 (.int .i64 r.epoch)),(2,.iface 3 (.int .i64 r.writer)),(3,.iface 3 (.int .i64 r.count))]=_ from (fill_one rfl rfl (by kernel_rfl) (fill_one rfl rfl (by kernel_rfl) (fill_one rfl rfl (by kernel_rfl) (fill_one rfl rfl (by kernel_rfl) fill_end))))) (by kernel_rfl)) ?_
 intro v2 w1 O0 B0 k0
 have S1:Sat _ _ (OwnX 20 anyR v2 [(Any.int r.coll),(Any.int r.epoch),(Any.int r.writer),(Any.int r.count)]::_):=OwnX.cls (xss:=[[.iface 3 (.int .i64 r.coll)],[.iface 3 (.int .i64 r.epoch)],[.iface 3 (.int .i64 r.writer)],[.iface 3 (.int .i64 r.count)]]) (.cons ⟨rfl,(by first | assumption | omega)⟩ (.cons ⟨rfl,(by first | assumption | omega)⟩ (.cons ⟨rfl,(by first | assumption | omega)⟩ (.cons ⟨rfl,(by first | assumption | omega)⟩ .nil)))) (S0.newO B0 O0)
 have oH34:=(OwnX.one S1 0 rfl (by decide))
 obtain ⟨I0,le0,S2,H1⟩:=S1.fx0 (by decide)
 refine yR (Put_c _ _ _ _ _ S2 H1 (by simp)) ?_
 rintro _ w2 ⟨v3,rfl,S3⟩
 refine g14 ?_
 refine f1 Tryz.results138 ?_
 exact ⟨v3,I0,le0,rfl,S3.dr1⟩
theorem REnc_c (cr:List Value) (r:Record) (I:Gh) (R:List HP) (w:World) (S:Sat w I (R)) (hr:recR.r I cr r):Ret Tryz.prog 101 [.agg cr.toArray] w fun v w'=>∃v1:Value,∃J:Gh,Gh.le I J∧.tuple #[v1,.int .i64 r.encE]=v∧Sat w' J (OwnB v1 r.encB::R):=by
 obtain ⟨v0,rfl,r0,r1,r2,r3,⟨o0,H0⟩⟩:=hr
 refine ret_E Tryz.func101 rfl Tryz.ntmps101 (by simp) ?_
 refine g2 ?_
 refine yB (cs:=[.int .i64 r.coll,.int .i64 r.epoch,.int .i64 r.writer,.int .i64 r.count,v0]) S ?_
 intro b0 w0 S0
 refine g8 ?_
 refine yR (RRight_c [.int .i64 r.coll,.int .i64 r.epoch,.int .i64 r.writer,.int .i64 r.count,v0] r _ _ _ S0 ⟨v0,rfl,ad,ad,ad,ad,⟨o0,H0⟩⟩) ?_
 rintro _ w1 ⟨rfl,S1⟩
 refine g3 ?_
 refine EC_cond (t:=!r.right) rfl (fun h0=>?_) (fun h0=>?_)
 have hrt:r.right=false:=(Bool.not_eq_true' _).mp h0
 refine g8 ?_
 refine f2 Tryz.results101 ?_
 rw [show r.encB=[] from by rw [Record.encB,hrt];rfl]
 have S2:=S1.nilB
 exact ⟨(.slice none 0 0),I,(Gh.le_refl _),(by rw [Record.encE,hrt];rfl),S2.dr1⟩
 have hrt:r.right=true:=(Bool.not_eq_false' _).mp h0
 refine g6 ?_
 refine vl _ rfl (r_iface rfl U3 rfl) ?_
 refine g2 ?_
 refine vl _ rfl (r_iface rfl U3 rfl) ?_
 refine g2 ?_
 refine vl _ rfl (r_iface rfl U3 rfl) ?_
 refine g2 ?_
 refine vl _ rfl (r_iface rfl U3 rfl) ?_
 refine g2 ?_
 refine vl _ rfl (r_iface rfl U33 rfl) ?_
 refine EL_lit1 (l:=[(0,.iface 3 (.int .i64 r.coll)),(1,.iface 3 (.int .i64 r.epoch)),(2,.iface 3 (.int .i64 r.writer)),(3,.iface 3 (.int .i64 r.count)),(4,.iface 33 v0)]) w1.heap.size [.iface 3 (.int .i64 r.coll),.iface 3 (.int .i64 r.epoch),.iface 3 (.int .i64 r.writer),.iface 3 (.int .i64 r.count),.iface 33 v0] el_122 rfl (by decide) rfl (Nat.le_refl _) (parts5 rfl rfl rfl rfl rfl) (Eq.trans (show Instr.fill _ _ [(0,.iface 3 (.int .i64 r.coll)),(1,.iface 3 (.int .i64 r.epoch)),(2,.iface 3 (.int .i64 r.writer)),(3,.iface 3 (.int .i64 r.count)),(4,.iface 33 v0)]=_ from (fill_one rfl rfl (by kernel_rfl) (fill_one rfl rfl (by kernel_rfl) (fill_one rfl rfl (by kernel_rfl) (fill_one rfl rfl (by kernel_rfl) (fill_one rfl rfl (by kernel_rfl) fill_end)))))) (by kernel_rfl)) ?_
 intro v2 w2 O0 B0 k0
 have S3:Sat _ _ (OwnX 20 anyR v2 [(Any.int r.coll),(Any.int r.epoch),(Any.int r.writer),(Any.int r.count),(Any.bytes r.box)]::_):=OwnX.cls (xss:=[[.iface 3 (.int .i64 r.coll)],[.iface 3 (.int .i64 r.epoch)],[.iface 3 (.int .i64 r.writer)],[.iface 3 (.int .i64 r.count)],[.iface 33 v0]]) (.cons ⟨rfl,(by first | assumption | omega)⟩ (.cons ⟨rfl,(by first | assumption | omega)⟩ (.cons ⟨rfl,(by first | assumption | omega)⟩ (.cons ⟨rfl,(by first | assumption | omega)⟩ (.cons ⟨_,rfl,o0,H0⟩ .nil))))) (S1.newO B0 O0)
 have oH40:=(OwnX.one S3 0 rfl (by decide))
 obtain ⟨I0,le0,S4,H1⟩:=S3.fx0 (by decide)
 refine yR (Put_c _ _ _ _ _ S4 H1 (by simp)) ?_
 rintro _ w3 ⟨v3,rfl,S5⟩
 refine g7 ?_
 refine f2 Tryz.results101 ?_
 have q0:putB [(Any.int r.coll),(Any.int r.epoch),(Any.int r.writer),(Any.int r.count),(Any.bytes r.box)]=r.encB:=by rw [Record.encB,if_pos hrt];rfl
 have S6:=S5.ab0 q0
 exact ⟨v3,I0,le0,(by rw [Record.encE,if_pos hrt];rfl),S6.dr1⟩
theorem RDec_c (v0:Value) (l:List UInt8) (I:Gh) (R:List HP) (w:World) (S:Sat w I (R)) (Q0:RoB I v0 l) (hl:l.length≤1000000000):Ret Tryz.prog 113 [v0] w fun v w'=>∃cr:List Value,∃J:Gh,Gh.le I J∧.tuple #[.agg cr.toArray,.int .i64 (recE l)]=v∧recR.r J cr (recV l)∧Sat w' J (R):=by
 have lq0:=RoB.le Q0 S.le
 refine ret_E Tryz.func113 rfl Tryz.ntmps113 (by simp) ?_
 refine g2 ?_
 refine yN [.int .i64 0,.int .i64 0,.int .i64 0,.int .i64 0,.slice none 0 0] S ?_
 intro b0 w0 S0
 refine g6 ?_
 refine yR (Read_c _ _ _ _ _ S0 Q0 au) ?_
 rintro _ w1 ⟨p0,I0,le0,rfl,S1⟩
 obtain ⟨q0,rfl⟩:=RdP.ptr S1
 refine g5 ?_
 refine yN [.int .i64 0,.int .i64 0,.int .i64 0,.int .i64 0,.slice none 0 0] S1 ?_
 intro b1 w2 S2
 refine g5 ?_
 refine yR (Number_c _ _ 1 1099511627776 _ _ _ S2.fr1) ?_
 rintro _ w3 ⟨I1,le1,rfl,S3⟩
 have hn0:=rdNum_rng (Rd.mk l false) 1 (hi:=1099511627776) (by omega)
 refine g1 ?_
 refine yS1 S3 ?_
 intro w4 S4
 refine g5 ?_
 refine yR (Number_c _ _ 0 16 _ _ _ S4) ?_
 rintro _ w5 ⟨I2,le2,rfl,S5⟩
 have hn1:=rdNum_rng (rdNumS (Rd.mk l false) 1 1099511627776) 0 (hi:=16) (by omega)
 refine g1 ?_
 refine yS1 S5 ?_
 intro w6 S6
 refine g5 ?_
 refine yR (Number_c _ _ 1 16 _ _ _ S6) ?_
 rintro _ w7 ⟨I3,le3,rfl,S7⟩
 have hn2:=rdNum_rng (rdNumS (rdNumS (Rd.mk l false) 1 1099511627776) 0 16) 1 (hi:=16) (by omega)
 refine g1 ?_
 refine yS1 S7 ?_
 intro w8 S8
 refine g5 ?_
 refine yR (Number_c _ _ 1 1099511627776 _ _ _ S8) ?_
 rintro _ w9 ⟨I4,le4,rfl,S9⟩
 have hn3:=rdNum_rng (rdNumS (rdNumS (rdNumS (Rd.mk l false) 1 1099511627776) 0 16) 1 16) 1 (hi:=1099511627776) (by omega)
 refine g1 ?_
 refine yS1 S9 ?_
 intro w10 S10
 refine g5 ?_
 refine yR (Text_c _ _ 80 2064 _ _ _ S10) ?_
 rintro _ w11 ⟨u0,I5,le5,rfl,H0,S11⟩
 refine g1 ?_
 refine yS1 S11 ?_ (hu:=row_one (H0 _ S11.le))
 intro w12 S12
 refine g6 ?_
 refine yR (End_c _ _ _ _ _ S12) ?_
 rintro _ w13 ⟨rfl,S13⟩
 refine g3 ?_
 refine EC_cond (t:=!(rdEnd (rdTxtS (rdNumS (rdNumS (rdNumS (rdNumS (Rd.mk l false) 1 1099511627776) 0 16) 1 16) 1 1099511627776) 80 2064))) rfl (fun h0=>?_) (fun h0=>?_)
 have hen:rdEnd _=false:=(Bool.not_eq_true' _).mp h0
 refine g2 ?_
 refine vl _ rfl (gB [.int .i64 0,.int .i64 0,.int .i64 0,.int .i64 0,.slice none 0 0] st_199 rfl fill_end) ?_
 refine yW2 S13 ?_
 intro w14 S14
 refine g5 ?_
 refine f2c Tryz.results113 ?_
 have hok:recOk l=false:=hen
 have q1:(recV l)=(⟨0,0,0,0,[]⟩:Record):=by rw [recV,hok];rfl
 exact ⟨[.int .i64 0,.int .i64 0,.int .i64 0,.int .i64 0,.slice none 0 0],I5,(lT (lT (lT (lT (lT le0 le1) le2) le3) le4) le5),(by rw [recE,hok];rfl),(by rw [q1];exact ⟨(.slice none 0 0),rfl,(by dsimp only;omega),(by dsimp only;omega),(by dsimp only;omega),(by dsimp only;omega),⟨rfl,Ro.nil⟩⟩),S14.dr0.dr0.dr0⟩
 have hen:rdEnd _=true:=(Bool.not_eq_false' _).mp h0
 refine g5 ?_
 refine yW2 S13 ?_ (h1:=ones_cons rfl (ones_cons rfl (ones_cons rfl (ones_cons rfl (ones_cons (row_one (H0 _ S13.le)) ones_nil)))))
 intro w15 S15
 refine g4 ?_
 refine f2c Tryz.results113 ?_
 have hok:recOk l=true:=hen
 have q2:(recV l)=(⟨rdNum (Rd.mk l false) 1 1099511627776,rdNum (rdNumS (Rd.mk l false) 1 1099511627776) 0 16,rdNum (rdNumS (rdNumS (Rd.mk l false) 1 1099511627776) 0 16) 1 16,rdNum (rdNumS (rdNumS (rdNumS (Rd.mk l false) 1 1099511627776) 0 16) 1 16) 1 1099511627776,rdTxt (rdNumS (rdNumS (rdNumS (rdNumS (Rd.mk l false) 1 1099511627776) 0 16) 1 16) 1 1099511627776) 80 2064⟩:Record):=by rw [recV,if_pos hok];rfl
 have S16:=S15.dr0.dr0.dr0
 exact ⟨[.int .i64 (rdNum (Rd.mk l false) 1 1099511627776),.int .i64 (rdNum (rdNumS (Rd.mk l false) 1 1099511627776) 0 16),.int .i64 (rdNum (rdNumS (rdNumS (Rd.mk l false) 1 1099511627776) 0 16) 1 16),.int .i64 (rdNum (rdNumS (rdNumS (rdNumS (Rd.mk l false) 1 1099511627776) 0 16) 1 16) 1 1099511627776),u0],I5,(lT (lT (lT (lT (lT le0 le1) le2) le3) le4) le5),(by rw [recE,if_pos hok]),(by rw [q2];exact ⟨u0,rfl,ad,ad,ad,ad,⟨(row_one (H0 _ S16.le)),H0⟩⟩),S16⟩
theorem mark_c (p:Value) (L:List Thing) (v0:Value) (s:List UInt8) (coll:Int) (who:Int) (v1:Value) (b:List UInt8) (I:Gh) (R:List HP) (w:World) (S:Sat w I (Suite p L::R)) (Q0:RoB I v0 s) (Q1:RoB I v1 b) (hl:L.length≤900000) (hs:s.length≤100000) (hc:-9223372036854775808≤coll∧coll≤9223372036854775807):Ret Tryz.prog 136 [p,v0,.int .i64 coll,.int .i64 who,v1] w fun v w'=>∃v2:Value,∃J:Gh,Gh.le I J∧v2=v∧Sat w' J (OwnB v2 (markB L s coll who b)::Suite p (markL L s coll who b)::R):=by
 have lq0:=RoB.le Q0 S.le
 have lq1:=RoB.le Q1 S.le
 refine ret_E Tryz.func136 rfl Tryz.ntmps136 (by simp) ?_
 refine g10 ?_
 refine yR (Writer_c _ _ _ _ who _ _ _ S Q0 (by omega) au) ?_
 rintro _ w0 ⟨v3,I0,le0,rfl,S0⟩
 refine g10 ?_
 refine vl _ rfl (r_iface rfl U3 rfl) ?_
 refine g1 ?_
 refine vl _ rfl (r_iface rfl U33 rfl) ?_
 refine EL_lit1 (l:=[(0,.iface 3 (.int .i64 coll)),(1,.iface 33 v1)]) w0.heap.size [.iface 3 (.int .i64 coll),.iface 33 v1] el_122 rfl (by decide) rfl (Nat.le_refl _) (parts2 rfl rfl) (Eq.trans (show Instr.fill _ _ [(0,.iface 3 (.int .i64 coll)),(1,.iface 33 v1)]=_ from (fill_one rfl rfl (by kernel_rfl) (fill_one rfl rfl (by kernel_rfl) fill_end))) (by kernel_rfl)) ?_
 intro v4 w1 O0 B0 k0
 have S1:Sat _ _ (OwnX 20 anyR v4 [(Any.int coll),(Any.bytes b)]::_):=OwnX.cls (xss:=[[.iface 3 (.int .i64 coll)],[.iface 33 v1]]) (.cons ⟨rfl,(by first | assumption | omega)⟩ (.cons ⟨_,rfl,(row_one (Q1 _ (lT le0 S0.le))),(Q1.up le0)⟩ .nil)) (S0.newO B0 O0)
 have oH25:=(OwnX.one S1 0 rfl (by decide))
 obtain ⟨I1,le1,S2,H0⟩:=S1.fx0 (by decide)
 refine yR (Put_c _ _ _ _ _ S2 H0 (by simp)) ?_
 rintro _ w2 ⟨v5,rfl,S3⟩
 refine g12 ?_
 obtain ⟨I2,le2,S4,H1⟩:=S3.fb0
 refine EL_lit1 (l:=[(0,v5)]) w2.heap.size [v5] el_52 rfl (by decide) rfl (Nat.le_refl _) (parts1 rfl) (Eq.trans (show Instr.fill _ _ [(0,v5)]=_ from (fill_one rfl (row_cells (H1 _ S4.le)) (by kernel_rfl) fill_end)) (by kernel_rfl)) ?_
 intro v6 w3 O1 B1 k1
 have S5:Sat _ _ (OwnX 33 bytesR v6 [putB [(Any.int coll),(Any.bytes b)]]::_):=OwnX.cls (xss:=[[v5]]) (.cons ⟨_,rfl,(row_one (H1 _ S4.le)),H1⟩ .nil) (S4.newO B1 O1)
 obtain ⟨I3,le3,S6,H2⟩:=S5.fb1
 have oH46:=(OwnX.one S6 0 rfl (by decide))
 obtain ⟨I4,le4,S7,H3⟩:=S6.fx0 (by decide)
 refine yR (Code_c _ _ _ _ _ _ _ _ _ S7 (H2.up le4) H3 (Nat.le_trans (rightL_len _ _ _ _) (by omega)) (Nat.le_trans (rightB_len _ _ _ _) (by decide)) (by have:=putB_le [Any.int coll,Any.bytes b];simp at this ⊢;omega)) ?_
 rintro _ w4 ⟨v7,rfl,S8⟩
 have q0:signOf 77 (onceN (tCode (rightB L s uWriter who) [putB [(Any.int coll),(Any.bytes b)]].flatten) (rightL L s uWriter who))=markB L s coll who b:=by simp only [markB,markL,markT,List.flatten_cons,List.flatten_nil,List.append_nil]
 have S9:=S8.ab0 q0
 have q1:onceL (tCode (rightB L s uWriter who) [putB [(Any.int coll),(Any.bytes b)]].flatten) (rightL L s uWriter who)=markL L s coll who b:=by simp only [markB,markL,markT,List.flatten_cons,List.flatten_nil,List.append_nil]
 have S10:=Sat.ah1 (Suite p) S9 q1
 refine g4 ?_
 refine f1 Tryz.results136 ?_
 exact ⟨v7,I4,(lT (lT (lT (lT le0 le1) le2) le3) le4),rfl,S10⟩
end Go.Proofs.YthddplghlljdbaaGreat
