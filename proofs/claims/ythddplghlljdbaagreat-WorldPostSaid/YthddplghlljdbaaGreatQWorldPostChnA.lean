import Derived.Test.YthddplghlljdbaaGreatQWorldPostRngA
set_option linter.unusedVariables false
set_option linter.unusedSimpArgs false
set_option maxRecDepth 100000
set_option maxHeartbeats 4000000
namespace Go.Proofs.YthddplghlljdbaaGreat
open Go.RowKit Go.Ecal
def hedR:Rep HeadT:=⟨2,fun I cs a=>∃v1,cs=[.int .i64 a.index,v1]∧(-9223372036854775808≤a.index∧a.index≤9223372036854775807)∧(v1.oneCell'=true∧RoB I v1 a.sum),fun k h=>by obtain ⟨v1,rfl,h0,⟨o1,h1⟩⟩:=h;exact ⟨v1,rfl,h0,⟨o1,h1.up k⟩⟩,
 fun h=>by obtain ⟨v1,rfl,h0,⟨o1,h1⟩⟩:=h;rfl,fun h u hu=>by
  obtain ⟨v1,rfl,h0,⟨o1,h1⟩⟩:=h
  simp only [List.mem_cons,List.not_mem_nil,or_false] at hu
  rcases hu with rfl | rfl<;>first | rfl | assumption⟩
theorem CLen_c (q:Value) (p:Value) (c:Chn) (I:Gh) (R:List HP) (w:World) (S:Sat w I (ChainP q p c::R)):Ret Tryz.prog 53 [q] w fun v w'=>.int .i64 (c.links.length:Int)=v∧Sat w' I (ChainP q p c::R):=by
 obtain ⟨b,lv,mv,rfl,hsl,hl64,hs32,hlk,S0⟩:=ChainP.opn S
 refine ret_E Tryz.func53 rfl Tryz.ntmps53 (by simp) ?_
 refine g11 ?_
 refine vl _ rfl (r_lenX rfl (OwnX.row S0 1 rfl (by decide)).1 U52) ?_
 refine g4 ?_
 refine f1 Tryz.results53 ?_
 have S1:Sat w I (ChainP (ptr b) p c::R):=ChainP.cls (c:=c) hsl hl64 hs32 hlk S0
 exact ⟨rfl,S1⟩
theorem CNew_c (p:Value) (L:List Thing) (c:Int) (I:Gh) (R:List HP) (w:World) (S:Sat w I (Suite p L::R)) (hl:L.length≤900000) (hc:1≤c∧c≤1099511627776):Ret Tryz.prog 60 [p,.int .i64 c] w fun v w'=>∃q:Value,∃J:Gh,Gh.le I J∧.tuple #[q,.int .i64 0]=v∧Sat w' J (ChainP q p (chNew L c)::Suite p (onceL (chT c) L)::R):=by
 have hp1:=Suite.one S
 refine ret_E Tryz.func60 rfl Tryz.ntmps60 (by simp) ?_
 refine g9 ?_
 refine vl _ rfl (r_iface rfl U3 rfl) ?_
 refine EL_lit1 (l:=[(0,.iface 3 (.int .i64 c))]) w.heap.size [.iface 3 (.int .i64 c)] el_122 rfl (by decide) rfl (Nat.le_refl _) (parts1 rfl) (Eq.trans (show Instr.fill _ _ [(0,.iface 3 (.int .i64 c))]=_ from (fill_one rfl rfl (by kernel_rfl) fill_end)) (by kernel_rfl)) ?_
 intro v0 w0 O0 B0 k0
 have S0:Sat _ _ (OwnX 20 anyR v0 [(Any.int c)]::_):=OwnX.cls (xss:=[[.iface 3 (.int .i64 c)]]) (.cons ⟨rfl,(by first | assumption | omega)⟩ .nil) (S.newO B0 O0)
 have oH20:=(OwnX.one S0 0 rfl (by decide))
 obtain ⟨I0,le0,S1,H0⟩:=S0.fx0 (by decide)
 refine yR (Put_c _ _ _ _ _ S1 H0 (by simp)) ?_
 rintro _ w1 ⟨v1,rfl,S2⟩
 have q0:putB [(Any.int c)]=be6 c:=(put1 (by omega)).1
 have S3:=S2.ab0 q0
 refine g11 ?_
 refine vl _ rfl (dcF (r_neq rfl rfl) (by rw [(put1 (by omega)).2];decide)) ?_
 refine g2 ?_
 refine gl 17 rfl rfl rfl rfl _ rfl (dcF (r_lss rfl rfl) (by simp;omega)) ?_
 refine g10 ?_
 refine EL_lit w1.heap.size #[.int .u8 108,.int .u8 111,.int .u8 99,.int .u8 107,.int .u8 101,.int .u8 116] elB rfl (by decide) rfl (Nat.le_refl _) (by kernel_rfl) ?_
 intro v2 w2 O1 B1 k1 z0
 have S4:Sat _ _ (OwnB v2 [(108:UInt8),(111:UInt8),(99:UInt8),(107:UInt8),(101:UInt8),(116:UInt8)]::_):=S3.newO B1 (own_eq (l:=[(108:UInt8),(111:UInt8),(99:UInt8),(107:UInt8),(101:UInt8),(116:UInt8)]) O1 (by simp [bof_val,byt]))
 refine EL_mark (v:=v2) rfl rfl (S4.own 0 rfl) (by simp) U33 U5 ?_
 intro w3 R0 G0 z1
 obtain ⟨g42,q1⟩:∃g,v2.ownBlock=some g:=own_block (S4.own 0 rfl) (by simp)
 obtain ⟨I1,le1,S5,H1⟩:∃J:Gh,Gh.le I0 J∧Sat w3 J (OwnB v1 (be6 c)::Suite p L::R)∧Ro J v2 ([(108:UInt8),(111:UInt8),(99:UInt8),(107:UInt8),(101:UInt8),(116:UInt8)].map byt):=S4.frzTo 0 rfl G0 q1 R0
 refine g1 ?_
 obtain ⟨I2,le2,S6,H2⟩:=S5.fb0
 refine EL_lit1 (l:=[(0,v2),(1,v1)]) w3.heap.size [v2,v1] el_52 rfl (by decide) rfl (Nat.le_refl _) (parts2 rfl rfl) (Eq.trans (show Instr.fill _ _ [(0,v2),(1,v1)]=_ from (fill_one rfl (row_cells (H1 _ (lT le2 S6.le))) (by kernel_rfl) (fill_one rfl (row_cells (H2 _ S6.le)) (by kernel_rfl) fill_end))) (by kernel_rfl)) ?_
 intro v3 w4 O2 B2 k2
 have S7:Sat _ _ (OwnX 33 bytesR v3 [[(108:UInt8),(111:UInt8),(99:UInt8),(107:UInt8),(101:UInt8),(116:UInt8)],be6 c]::_):=OwnX.cls (xss:=[[v2],[v1]]) (.cons ⟨_,rfl,(row_one (H1 _ (lT le2 S6.le))),(H1.up le2)⟩ (.cons ⟨_,rfl,(row_one (H2 _ S6.le)),H2⟩ .nil)) (S6.newO B2 O2)
 have oH56:=(OwnX.one S7 0 rfl (by decide))
 obtain ⟨I3,le3,S8,H3⟩:=S7.fx0 (by decide)
 refine yR (Sum_c _ _ _ _ _ _ _ S8 H3 (by omega) (by simp [be6])) ?_
 rintro _ w5 ⟨v4,rfl,S9⟩
 have q2:signOf 72 (onceN (tSum [[(108:UInt8),(111:UInt8),(99:UInt8),(107:UInt8),(101:UInt8),(116:UInt8)],be6 c].flatten) L)=signOf 72 (onceN (chT c) L):=by simp [chT]
 have S10:=S9.ab0 q2
 have q3:onceL (tSum [[(108:UInt8),(111:UInt8),(99:UInt8),(107:UInt8),(101:UInt8),(116:UInt8)],be6 c].flatten) L=onceL (chT c) L:=by simp [chT]
 have S11:=Sat.ah1 (Suite p) S10 q3
 obtain ⟨I4,le4,S12,H4⟩:=S11.fb0
 refine EL_lit1 (l:=[(0,v4)]) w5.heap.size [v4] el_52 rfl (by decide) rfl (Nat.le_refl _) (parts1 rfl) (Eq.trans (show Instr.fill _ _ [(0,v4)]=_ from (fill_one rfl (row_cells (H4 _ S12.le)) (by kernel_rfl) fill_end)) (by kernel_rfl)) ?_
 intro v5 w6 O3 B3 k3
 have S13:Sat _ _ (OwnX 33 bytesR v5 [signOf 72 (onceN (chT c) L)]::_):=OwnX.cls (xss:=[[v4]]) (.cons ⟨_,rfl,(row_one (H4 _ S12.le)),H4⟩ .nil) (S12.newO B3 O3)
 refine vl _ rfl (gB [p,.slice none 0 0,v5] st_178 (parts2 rfl rfl) (fill_one rfl (one_cells hp1) rfl (fill_one rfl (one_cells (OwnX.one S13 0 rfl (by decide))) rfl fill_end))) ?_
 refine yB (cs:=[p,.slice none 0 0,v5]) S13 ?_
 intro b0 w7 S14
 refine g5 ?_
 refine f2 Tryz.results60 ?_
 have S15:Sat _ _ (OwnX 33 bytesR (.slice none 0 0) []::_):=OwnX.nil S14 33 bytesR
 have S16:Sat _ _ (ChainP (ptr b0) p (chNew L c)::_):=ChainP.cls (c:=chNew L c) rfl (Nat.zero_le _) (by simp [chNew,sign_len]) (by simp [chNew]) S15.fr2.fr1.fr2
 exact ⟨(ptr b0),I4,(lT (lT (lT (lT le0 le1) le2) le3) le4),rfl,S16⟩
theorem At_c (q:Value) (p:Value) (c:Chn) (i:Int) (I:Gh) (R:List HP) (w:World) (S:Sat w I (ChainP q p c::R)):Ret Tryz.prog 150 [q,.int .i64 i] w fun v w'=>∃cr:List Value,∃J:Gh,Gh.le I J∧.tuple #[.agg cr.toArray,.bool (atOk c i)]=v∧hedR.r J cr (atV c i)∧Sat w' J (ChainP q p c::R):=by
 obtain ⟨b,lv,mv,rfl,hsl,hl64,hs32,hlk,S0⟩:=ChainP.opn S
 refine ret_E Tryz.func150 rfl Tryz.ntmps150 (by simp) ?_
 refine g2 ?_
 refine yN [.int .i64 0,.slice none 0 0] S0 ?_
 intro b0 w0 S1
 refine g5 ?_
 rcases (by omega:(0≤i∧i<c.sums.length)∨i<0∨(0≤i∧c.sums.length≤i)) with hi | hi | hi
 refine g2 ?_
 refine vl _ rfl (dcF (r_lss rfl rfl) (by simp;omega)) ?_
 refine g6 ?_
 refine gl 8 rfl rfl rfl rfl _ rfl (r_lenX rfl (OwnX.row S1 3 rfl (by decide)).1 U52) (gl 8 rfl rfl rfl rfl _ rfl (dcF (r_geq rfl rfl) (by simp;omega)) ?_)
 refine g14 ?_
 refine vl (ptr (blkOf mv) (offOf mv+(i:Int).toNat*1)) rfl (r_indexX rfl (OwnX.row S1 3 rfl (by decide)).1 rfl (by omega) as' U52 (by kernel_rfl)) ?_
 obtain ⟨a0,ha0⟩:=get_some (l:=c.sums) (j:=(i:Int).toNat) as'
 obtain ⟨cs0,hc0,he0⟩:=(OwnX.row S1 3 rfl (by decide)).2 _ _ ha0
 obtain ⟨v0,rfl,o0,H0⟩:=hc0
 refine vl _ rfl (r_load0 rfl he0 U33 rfl) ?_
 refine yR (Clone_c _ _ _ _ _ S1 H0 (by have:=hs32 _ (List.mem_of_getElem? ha0);omega)) ?_
 rintro _ w1 ⟨v1,rfl,h0,S2⟩
 refine vl _ rfl (gB [.int .i64 i,v1] st_170 (parts2 rfl rfl) (fill_one rfl rfl rfl (fill_one rfl (one_cells (own_one (S2.own 0 rfl))) rfl fill_end))) ?_
 refine yW1 S2 ?_ (h1:=ones_cons rfl (ones_cons (own_one (S2.own 0 rfl)) ones_nil))
 intro w2 S3
 refine g4 ?_
 refine f2c Tryz.results150 ?_
 have S4:Sat _ _ (ChainP (ptr b) p c::_):=ChainP.cls (c:=c) hsl hl64 hs32 hlk S3.fr4.fr4.fr4
 obtain ⟨I0,le0,S5,H1⟩:=S4.fb1
 have q0:(atV c i)=(⟨i,a0⟩:HeadT):=by rw [atV_in hi (show c.sums[i.toNat]?=_ from ha0)]
 have S6:=S5.dr1
 exact ⟨[.int .i64 i,v1],I0,le0,(by rw [atOk_in hi]),(by rw [q0];exact ⟨v1,rfl,ad,⟨(row_one (H1 _ S6.le)),H1⟩⟩),S6⟩
 refine g2 ?_
 refine vl _ rfl (dcT (r_lss rfl rfl) (by simp;omega)) ?_
 refine g14 ?_
 refine vl _ rfl (gB [.int .i64 0,.slice none 0 0] st_170 rfl fill_end) ?_
 refine yW0 S1 ?_
 intro w3 S7
 refine g5 ?_
 refine f2c Tryz.results150 ?_
 have S8:Sat _ _ (ChainP (ptr b) p c::_):=ChainP.cls (c:=c) hsl hl64 hs32 hlk S7.fr3.fr3.fr3
 have q1:(atV c i)=(⟨0,[]⟩:HeadT):=by rw [atV_out (by omega)]
 exact ⟨[.int .i64 0,.slice none 0 0],I,(Gh.le_refl _),(by rw [atOk_out (by omega)]),(by rw [q1];exact ⟨(.slice none 0 0),rfl,(by dsimp only;omega),⟨rfl,Ro.nil⟩⟩),S8.dr1⟩
 refine g2 ?_
 refine vl _ rfl (dcF (r_lss rfl rfl) (by simp;omega)) ?_
 refine g6 ?_
 refine gl 8 rfl rfl rfl rfl _ rfl (r_lenX rfl (OwnX.row S1 3 rfl (by decide)).1 U52) (gl 8 rfl rfl rfl rfl _ rfl (dcT (r_geq rfl rfl) (by simp;omega)) ?_)
 refine g6 ?_
 refine vl _ rfl (gB [.int .i64 0,.slice none 0 0] st_170 rfl fill_end) ?_
 refine yW0 S1 ?_
 intro w4 S9
 refine g5 ?_
 refine f2c Tryz.results150 ?_
 have S10:Sat _ _ (ChainP (ptr b) p c::_):=ChainP.cls (c:=c) hsl hl64 hs32 hlk S9.fr3.fr3.fr3
 have q2:(atV c i)=(⟨0,[]⟩:HeadT):=by rw [atV_out (by omega)]
 exact ⟨[.int .i64 0,.slice none 0 0],I,(Gh.le_refl _),(by rw [atOk_out (by omega)]),(by rw [q2];exact ⟨(.slice none 0 0),rfl,(by dsimp only;omega),⟨rfl,Ro.nil⟩⟩),S10.dr1⟩
theorem Head_c (q:Value) (p:Value) (c:Chn) (I:Gh) (R:List HP) (w:World) (S:Sat w I (ChainP q p c::R)) (h64:c.links.length≤64):Ret Tryz.prog 112 [q] w fun v w'=>∃cr:List Value,∃J:Gh,Gh.le I J∧.agg cr.toArray=v∧hedR.r J cr (atV c (c.links.length:Int))∧Sat w' J (ChainP q p c::R):=by
 refine ret_E Tryz.func112 rfl Tryz.ntmps112 (by simp) ?_
 refine g2 ?_
 refine yN [.int .i64 0,.slice none 0 0] S ?_
 intro b0 w0 S0
 refine g6 ?_
 refine yR (CLen_c _ _ _ _ _ _ S0.fr1) ?_
 rintro _ w1 ⟨rfl,S1⟩
 refine yR (At_c _ _ _ (c.links.length:Int) _ _ _ S1) ?_
 rintro _ w2 ⟨cs0,I0,le0,rfl,h0,S2⟩
 obtain ⟨v0,rfl,r0,⟨o0,H0⟩⟩:=h0
 refine g3 ?_
 refine yN [.int .i64 0,.slice none 0 0] S2 ?_
 intro b1 w3 S3
 refine yW0 S3 ?_ (h1:=ones_cons rfl (ones_cons o0 ones_nil))
 intro w4 S4
 refine g6 ?_
 refine yW2 S4 ?_ (h1:=ones_cons rfl (ones_cons o0 ones_nil))
 intro w5 S5
 refine g3 ?_
 refine f1c Tryz.results112 ?_
 have q0:(atV c (c.links.length:Int))=(⟨(atV c (c.links.length:Int)).index,(atV c (c.links.length:Int)).sum⟩:HeadT):=rfl
 exact ⟨_,I0,le0,rfl,(by rw [q0];exact ⟨v0,rfl,ad,⟨o0,H0⟩⟩),S5.dr0.dr1⟩
theorem CApp_c (q:Value) (p:Value) (c:Chn) (L:List Thing) (v0:Value) (bb:List UInt8) (I:Gh) (R:List HP) (w:World) (S:Sat w I (ChainP q p c::Suite p L::R)) (Q0:RoB I v0 bb) (hl:L.length≤900000):Ret Tryz.prog 114 [q,v0] w fun v w'=>∃J:Gh,Gh.le I J∧.int .i64 (chE c bb)=v∧Sat w' J (ChainP q p (chApp L c bb)::Suite p (chL L c bb)::R):=by
 have lq0:=RoB.le Q0 S.le
 obtain ⟨b,lv,mv,rfl,hsl,hl64,hs32,hlk,S0⟩:=ChainP.opn S
 refine ret_E Tryz.func114 rfl Tryz.ntmps114 (by simp) ?_
 refine g10 ?_
 refine vl _ rfl (lenB (r_len rfl (Q0 _ S0.le) U33)) ?_
 refine g3 ?_
 refine EL_gite 9 rfl rfl rfl (.int .i64 (bb.length:Int)) rfl (fun g12=>lenB (r_len (cond_of g12 rfl) (Q0 _ S0.le) U33)) ?_
 refine g5 ?_
 refine EC_cond (t:=(decide ((bb.length:Int)<1))||(decide (4096<(bb.length:Int)))) rfl (fun h0=>?_) (fun h0=>?_)
 simp only [Bool.and_eq_true,Bool.or_eq_true,Bool.not_eq_true',Bool.not_eq_false',decide_eq_true_eq,decide_eq_false_iff_not,Bool.and_eq_false_iff,Bool.or_eq_false_iff,Bool.not_eq_true,Bool.not_eq_false,bne_iff_ne,beq_iff_eq,beq_eq_false_iff_ne] at h0
 refine g8 ?_
 refine f1 Tryz.results114 ?_
 have hE:chE c bb=11:=by rw [chE,if_pos (by omega)]
 have S1:Sat _ _ (ChainP (ptr b) p c::_):=ChainP.cls (c:=c) hsl hl64 hs32 hlk S0
 have q0:c=chApp L c bb:=by rw [chApp,if_neg (by rw [hE];decide)]
 have S2:=Sat.ah0 (ChainP (ptr b) p) S1 q0
 have q1:L=chL L c bb:=by rw [chL,if_neg (by rw [hE];decide)]
 have S3:=Sat.ah1 (Suite p) S2 q1
 exact ⟨I,(Gh.le_refl _),(by rw [hE]),S3⟩
 simp only [Bool.and_eq_true,Bool.or_eq_true,Bool.not_eq_true',Bool.not_eq_false',decide_eq_true_eq,decide_eq_false_iff_not,Bool.and_eq_false_iff,Bool.or_eq_false_iff,Bool.not_eq_true,Bool.not_eq_false,bne_iff_ne,beq_iff_eq,beq_eq_false_iff_ne] at h0
 refine g6 ?_
 refine vl _ rfl (r_lenX rfl (OwnX.row S0 1 rfl (by decide)).1 U52) ?_
 refine g4 ?_
 refine EC_if rfl (fun h1=>?_) (fun h1=>?_)
 refine g8 ?_
 refine f1 Tryz.results114 ?_
 have hE:chE c bb=33:=by rw [chE,if_neg (by omega),if_pos (by omega)]
 have S4:Sat _ _ (ChainP (ptr b) p c::_):=ChainP.cls (c:=c) hsl hl64 hs32 hlk S0
 have q2:c=chApp L c bb:=by rw [chApp,if_neg (by rw [hE];decide)]
 have S5:=Sat.ah0 (ChainP (ptr b) p) S4 q2
 have q3:L=chL L c bb:=by rw [chL,if_neg (by rw [hE];decide)]
 have S6:=Sat.ah1 (Suite p) S5 q3
 exact ⟨I,(Gh.le_refl _),(by rw [hE]),S6⟩
 refine g4 ?_
 have S7:=S0.fr2
 obtain ⟨xs0,hx0,S8⟩:=OwnY.of S7
 obtain ⟨a0,ha0⟩:=get_some (l:=c.sums) (j:=((c.links.length:Int):Int).toNat) as'
 obtain ⟨cs0,hj0,hc0⟩:=hx0.get ha0
 obtain ⟨v1,rfl,o0,H0⟩:=hc0
 skip
 refine yJ 24 (fun w'=>Arr w' b 178 [p,lv,mv]∧XRow w' lv 1 c.links.length∧XRow w' mv 1 c.sums.length∧ElAt w' mv bytesR.sz ((c.links.length:Int):Int).toNat [v1]) S8 ?_
 intro w0 S9
 refine yF 0 S9.le ⟨S9.a1,(OwnX.row S9 2 rfl (by decide)).1,(OwnY.row S9 0 rfl (by decide)),OwnY.at S9 0 rfl (by decide) hj0⟩ ?_
 refine yT 1 S9.le ⟨S9.a1,(OwnX.row S9 2 rfl (by decide)).1,(OwnY.row S9 0 rfl (by decide)),OwnY.at S9 0 rfl (by decide) hj0⟩ ?_
 refine yT 2 S9.le ⟨S9.a1,(OwnX.row S9 2 rfl (by decide)).1,(OwnY.row S9 0 rfl (by decide)),OwnY.at S9 0 rfl (by decide) hj0⟩ ?_
 refine yT 3 S9.le ⟨S9.a1,(OwnX.row S9 2 rfl (by decide)).1,(OwnY.row S9 0 rfl (by decide)),OwnY.at S9 0 rfl (by decide) hj0⟩ ?_
 refine yT 4 S9.le ⟨S9.a1,(OwnX.row S9 2 rfl (by decide)).1,(OwnY.row S9 0 rfl (by decide)),OwnY.at S9 0 rfl (by decide) hj0⟩ ?_
 refine yT 5 S9.le ⟨S9.a1,(OwnX.row S9 2 rfl (by decide)).1,(OwnY.row S9 0 rfl (by decide)),OwnY.at S9 0 rfl (by decide) hj0⟩ ?_
 refine yT 6 S9.le ⟨S9.a1,(OwnX.row S9 2 rfl (by decide)).1,(OwnY.row S9 0 rfl (by decide)),OwnY.at S9 0 rfl (by decide) hj0⟩ ?_
 refine yT 7 S9.le ⟨S9.a1,(OwnX.row S9 2 rfl (by decide)).1,(OwnY.row S9 0 rfl (by decide)),OwnY.at S9 0 rfl (by decide) hj0⟩ ?_
 refine yT 8 S9.le ⟨S9.a1,(OwnX.row S9 2 rfl (by decide)).1,(OwnY.row S9 0 rfl (by decide)),OwnY.at S9 0 rfl (by decide) hj0⟩ ?_
 refine yT 9 S9.le ⟨S9.a1,(OwnX.row S9 2 rfl (by decide)).1,(OwnY.row S9 0 rfl (by decide)),OwnY.at S9 0 rfl (by decide) hj0⟩ ?_
 refine yT 10 S9.le ⟨S9.a1,(OwnX.row S9 2 rfl (by decide)).1,(OwnY.row S9 0 rfl (by decide)),OwnY.at S9 0 rfl (by decide) hj0⟩ ?_
 refine yT 11 S9.le ⟨S9.a1,(OwnX.row S9 2 rfl (by decide)).1,(OwnY.row S9 0 rfl (by decide)),OwnY.at S9 0 rfl (by decide) hj0⟩ ?_
 refine yT 12 S9.le ⟨S9.a1,(OwnX.row S9 2 rfl (by decide)).1,(OwnY.row S9 0 rfl (by decide)),OwnY.at S9 0 rfl (by decide) hj0⟩ ?_
 refine yT 13 S9.le ⟨S9.a1,(OwnX.row S9 2 rfl (by decide)).1,(OwnY.row S9 0 rfl (by decide)),OwnY.at S9 0 rfl (by decide) hj0⟩ ?_
 refine yT 14 S9.le ⟨S9.a1,(OwnX.row S9 2 rfl (by decide)).1,(OwnY.row S9 0 rfl (by decide)),OwnY.at S9 0 rfl (by decide) hj0⟩ ?_
 refine yT 15 S9.le ⟨S9.a1,(OwnX.row S9 2 rfl (by decide)).1,(OwnY.row S9 0 rfl (by decide)),OwnY.at S9 0 rfl (by decide) hj0⟩ ?_
 refine yT 16 S9.le ⟨S9.a1,(OwnX.row S9 2 rfl (by decide)).1,(OwnY.row S9 0 rfl (by decide)),OwnY.at S9 0 rfl (by decide) hj0⟩ ?_
 refine jT 17 rfl (by kernel_rfl) (.int .i64 (c.links.length:Int)) rfl (fun _ hw ht=>r_lenX rfl ht.2.1 U52) ⟨S9.le,fun h=>⟨S9.a1,(OwnX.row S9 2 rfl (by decide)).1,(OwnY.row S9 0 rfl (by decide)),OwnY.at S9 0 rfl (by decide) hj0⟩⟩ ?_
 refine jT 18 rfl (by kernel_rfl) (ptr (blkOf mv) (offOf mv+((c.links.length:Int):Int).toNat*1)) rfl (fun _ hw ht=>r_indexX rfl ht.2.2.1 rfl (by omega) as' U52 (by kernel_rfl)) ⟨S9.le,fun h=>⟨S9.a1,(OwnX.row S9 2 rfl (by decide)).1,(OwnY.row S9 0 rfl (by decide)),OwnY.at S9 0 rfl (by decide) hj0⟩⟩ ?_
 refine jT 19 rfl (by kernel_rfl) v1 rfl (fun _ hw ht=>r_load0 rfl ht.2.2.2 U33 rfl) ⟨S9.le,fun h=>⟨S9.a1,(OwnX.row S9 2 rfl (by decide)).1,(OwnY.row S9 0 rfl (by decide)),OwnY.at S9 0 rfl (by decide) hj0⟩⟩ ?_
 refine yT 20 S9.le ⟨S9.a1,(OwnX.row S9 2 rfl (by decide)).1,(OwnY.row S9 0 rfl (by decide)),OwnY.at S9 0 rfl (by decide) hj0⟩ ?_
 refine y1 21 ?_
 refine EL_lit1 (l:=[(0,v1),(1,v0)]) w0.heap.size [v1,v0] el_52 rfl (by decide) rfl (Nat.le_refl _) (parts2 rfl rfl) (Eq.trans (show Instr.fill _ _ [(0,v1),(1,v0)]=_ from (fill_one rfl (one_cells o0) (by kernel_rfl) (fill_one rfl (row_cells (Q0 _ S9.le)) (by kernel_rfl) fill_end))) (by kernel_rfl)) ?_
 intro v2 w1 O0 B0 k0
 have S10:Sat _ _ (OwnX 33 bytesR v2 [a0,bb]::_):=OwnX.cls (xss:=[[v1],[v0]]) (.cons ⟨_,rfl,o0,H0⟩ (.cons ⟨_,rfl,(row_one (Q0 _ S9.le)),Q0⟩ .nil)) (S9.newO B0 O0)
 refine yn S10.le ⟨S10.a2,(OwnX.row S10 3 rfl (by decide)).1,(OwnY.row S10 1 rfl (by decide)),OwnY.at S10 1 rfl (by decide) hj0⟩ ?_
 refine y1 22 ?_
 have oH53:=(OwnX.one S10 0 rfl (by decide))
 obtain ⟨I0,le0,S11,H1⟩:=S10.fx0 (by decide)
 refine yR (Sum_c _ _ _ _ _ _ _ S11.fr3 H1 (by omega) (by have:=hs32 _ (List.mem_of_getElem? (show c.sums[c.links.length]?=_ from ha0));simp;omega)) ?_
 rintro _ w2 ⟨v3,rfl,S12⟩
 have q4:signOf 72 (onceN (tSum [a0,bb].flatten) L)=signOf 72 (onceN (chNext c bb) L):=by rw [chNext,Chn.head,List.getD,(show c.sums[c.links.length]?=_ from ha0)];simp
 have S13:=S12.ab0 q4
 have q5:onceL (tSum [a0,bb].flatten) L=onceL (chNext c bb) L:=by rw [chNext,Chn.head,List.getD,(show c.sums[c.links.length]?=_ from ha0)];simp
 have S14:=Sat.ah1 (Suite p) S13 q5
 refine yn (lT le0 S14.le) ⟨S14.a3,(OwnX.row S14 4 rfl (by decide)).1,(OwnY.row S14 2 rfl (by decide)),OwnY.at S14 2 rfl (by decide) hj0⟩ ?_
 refine yu le0 ?_
 refine y1 23 ?_
 obtain ⟨I1,le1,S15,H2⟩:=S14.fb0
 refine EL_lit1 (l:=[(0,v3)]) w2.heap.size [v3] el_52 rfl (by decide) rfl (Nat.le_refl _) (parts1 rfl) (Eq.trans (show Instr.fill _ _ [(0,v3)]=_ from (fill_one rfl (row_cells (H2 _ S15.le)) (by kernel_rfl) fill_end)) (by kernel_rfl)) ?_
 intro v4 w3 O1 B1 k1
 have S16:Sat _ _ (OwnX 33 bytesR v4 [signOf 72 (onceN (chNext c bb) L)]::_):=OwnX.cls (xss:=[[v3]]) (.cons ⟨_,rfl,(row_one (H2 _ S15.le)),H2⟩ .nil) (S15.newO B1 O1)
 refine yn (lT le1 S16.le) ⟨S16.a3,(OwnX.row S16 4 rfl (by decide)).1,(OwnY.row S16 2 rfl (by decide)),OwnY.at S16 2 rfl (by decide) hj0⟩ ?_
 refine yu le1 ?_
 refine y1 24 ?_
 have S17:Sat w3 I1 (OwnX 33 bytesR mv c.sums::OwnX 33 bytesR v4 [signOf 72 (onceN (chNext c bb) L)]::Suite p (onceL (chNext c bb) L)::Blk b 178 [p,lv,mv]::OwnX 33 bytesR lv c.links::R):=OwnY.to S16.fr2
 have oH80:=(OwnX.one S17 1 rfl (by decide))
 obtain ⟨I2,le2,S18,H3⟩:=S17.fx1 (by decide)
 refine EL_appX (z:=(.slice none 0 0)) (bytes:=24) rfl U52 (by kernel_rfl) rfl (by decide) rfl rfl S18 H3 ac ac ?_
 intro v5 w4 S19
 refine ym (lT le2 S19.le) ?_
 refine yu le2 ?_
 refine yf 25 S19.le ?_
 refine yf 26 S19.le ?_
 refine y1 27 ?_
 refine yS2 S19 ?_ (hu:=OwnX.one S19 0 rfl (by decide))
 intro w5 S20
 refine ym S20.le ?_
 refine yd ?_
 refine g2 ?_
 refine yJ 11 (fun w'=>Arr w' b 178 [p,lv,v5]) S20 ?_
 intro w6 S21
 refine yT 0 S21.le (S21.a2) ?_
 refine yT 1 S21.le (S21.a2) ?_
 refine yT 2 S21.le (S21.a2) ?_
 refine yT 3 S21.le (S21.a2) ?_
 refine yT 4 S21.le (S21.a2) ?_
 refine yT 5 S21.le (S21.a2) ?_
 refine y1 6 ?_
 refine yR (Clone_c _ _ _ _ _ S21 (Q0.up (lT (lT le0 le1) le2)) (by omega)) ?_
 rintro _ w7 ⟨v6,rfl,h2,S22⟩
 refine yn S22.le (S22.a3) ?_
 refine y1 7 ?_
 obtain ⟨I3,le3,S23,H4⟩:=S22.fb0
 refine EL_lit1 (l:=[(0,v6)]) w7.heap.size [v6] el_52 rfl (by decide) rfl (Nat.le_refl _) (parts1 rfl) (Eq.trans (show Instr.fill _ _ [(0,v6)]=_ from (fill_one rfl (row_cells (H4 _ S23.le)) (by kernel_rfl) fill_end)) (by kernel_rfl)) ?_
 intro v7 w8 O2 B2 k2
 have S24:Sat _ _ (OwnX 33 bytesR v7 [bb]::_):=OwnX.cls (xss:=[[v6]]) (.cons ⟨_,rfl,(row_one (H4 _ S23.le)),H4⟩ .nil) (S23.newO B2 O2)
 refine yn (lT le3 S24.le) (S24.a3) ?_
 refine yu le3 ?_
 refine y1 8 ?_
 have oH109:=(OwnX.one S24 0 rfl (by decide))
 obtain ⟨I4,le4,S25,H5⟩:=S24.fx0 (by decide)
 refine EL_appX (z:=(.slice none 0 0)) (bytes:=24) rfl U52 (by kernel_rfl) rfl (by decide) rfl rfl S25.fr3 H5 ac ac ?_
 intro v8 w9 S26
 refine yn (lT le4 S26.le) (S26.a3) ?_
 refine yu le4 ?_
 refine yT 9 S26.le (S26.a3) ?_
 refine yT 10 S26.le (S26.a3) ?_
 refine y1 11 ?_
 refine yS3 S26 ?_ (hu:=OwnX.one S26 0 rfl (by decide))
 intro w10 S27
 refine ym S27.le ?_
 refine yd ?_
 refine g7 ?_
 refine f1 Tryz.results114 ?_
 have hE:chE c bb=0:=by rw [chE,if_neg (by omega),if_neg (by omega)]
 have S28:=S27.fr1.fr1.fr3
 have S29:Sat _ _ (ChainP (ptr b) p ⟨c.links++[bb],c.sums++[signOf 72 (onceN (chNext c bb) L:Int)]⟩::_):=ChainP.cls (c:=⟨c.links++[bb],c.sums++[signOf 72 (onceN (chNext c bb) L:Int)]⟩) (by simp [hsl]) (by simp;omega) (by intro x hx;rcases List.mem_append.1 hx with h | h;exact hs32 x h;rw [List.mem_singleton.1 h];rfl) (by intro x hx;rcases List.mem_append.1 hx with h | h;exact hlk x h;rw [List.mem_singleton.1 h];omega) S28
 have q6:⟨c.links++[bb],c.sums++[signOf 72 (onceN (chNext c bb) L:Int)]⟩=chApp L c bb:=by rw [chApp,if_pos hE]
 have S30:=Sat.ah0 (ChainP (ptr b) p) S29 q6
 have q7:onceL (chNext c bb) L=chL L c bb:=by rw [chL,if_pos hE]
 have S31:=Sat.ah1 (Suite p) S30 q7
 exact ⟨I4,(lT (lT (lT (lT le0 le1) le2) le3) le4),(by rw [hE]),S31⟩
end Go.Proofs.YthddplghlljdbaaGreat
