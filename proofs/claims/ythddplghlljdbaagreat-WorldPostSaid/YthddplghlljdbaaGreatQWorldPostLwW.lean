import Derived.Test.YthddplghlljdbaaGreatQWorldPostWldG
import Derived.Test.YthddplghlljdbaaGreatQWorldPostWLaw
set_option linter.unusedVariables false
set_option linter.unusedSimpArgs false
set_option maxRecDepth 100000
set_option maxHeartbeats 4000000
namespace Go.Proofs.YthddplghlljdbaaGreat
open Go.RowKit Go.Ecal
theorem an_tally:csR (tls anW.2.seats)=1∧csI (tls anW.2.seats)=1:=⟨by kernel_rfl,by kernel_rfl⟩
theorem Small_c (ce:List Value) (e:Entry) (I:Gh) (R:List HP) (w:World) (S:Sat w I (R)) (he:entR.r I ce e):Ret Tryz.prog 21 [.agg ce.toArray] w fun v w'=>.bool (smallE e)=v∧Sat w' I (R):=by
 obtain ⟨v0,v1,v2,rfl,r0,r1,r2,⟨o0,H0⟩,⟨o1,H1⟩,r3,r4,r5,⟨o2,H2⟩⟩:=he
 refine ret_E Tryz.func21 rfl Tryz.ntmps21 (by simp) ?_
 refine g2 ?_
 refine yB (cs:=entRC e v0 v1 v2) S ?_
 intro b0 w0 S0
 refine g5 ?_
 have lqw:=XRow.le (H2.row S0.le)
 skip
 refine g3 ?_
 refine vl _ rfl (r_lenX rfl (H2.row S0.le) U34) ?_
 refine g4 ?_
 refine EC_loop (fun m' E' w'=>∃j:Nat,m'=e.wraps.length-j∧E' 8=.int .i64 (j:Int)∧E' 1=ptr b0∧E' 6=v2∧E' 7=.int .i64 (e.wraps.length:Int)∧(j≤e.wraps.length)∧(∀w∈e.wraps.take j,w.box.length≤100)∧Sat w' I (Blk b0 36 (entRC e v0 v1 v2)::R)) _ ⟨0,rfl,rfl,rfl,rfl,rfl,Nat.zero_le _,(by simp),S0⟩ ?_
 rintro _ E0 w1 ⟨j,rfl,e0,e1,e2,e3,hj,hsm,S1⟩
 refine g6 ?_
 refine EC_if rfl (fun h0=>?_) (fun h0=>?_)
 refine g6 ?_
 refine vl (ptr (blkOf v2) (offOf v2+((j:Int):Int).toNat*2)) rfl (r_indexX (by exact e2) (H2.row S1.le) (by exact e0) (by omega) as' U34 (by kernel_rfl)) ?_
 obtain ⟨a0,ha0⟩:=get_some (l:=e.wraps) (j:=((j:Int):Int).toNat) as'
 obtain ⟨cs0,hc0,he0⟩:=H2.el ha0
 obtain ⟨v3,rfl,r6,⟨o3,H3⟩⟩:=hc0
 refine vl (.agg ([.int .i64 a0.who,v3]).toArray) rfl (r_loadR (cs:=[.int .i64 a0.who,v3]) rfl (he0 _ S1.le) U113 rfl (by kernel_rfl)) ?_
 refine yN [.int .i64 0,.slice none 0 0] S1 ?_
 intro b1 w2 S2
 refine yW0 S2 ?_ (h1:=ones_cons rfl (ones_cons o3 ones_nil))
 intro w3 S3
 refine g6 ?_
 refine vl _ rfl (lenB (r_len rfl (H3 _ S3.le) U33)) ?_
 refine g3 ?_
 refine EC_if rfl (fun h2=>?_) (fun h2=>?_)
 refine g11 ?_
 refine f1 Tryz.results21 ?_
 exact ⟨(by rw [smallE_no (show e.wraps[j]?=_ from ha0) (by omega)]),S3.dr0.dr0⟩
 refine g4 ?_
 refine EL_int ((j:Int)+1) rfl (r_addi (by exact e0) rfl (by omega)) ?_
 intro x0 hx65
 refine g3 ?_
 refine ⟨_,?_,j+1,rfl,(Eq.trans (show _=Value.int .i64 x0 from rfl) (congrArg _ (by omega))),(by exact e1),(by exact e2),(by exact e3),by omega,(small_next hsm (show e.wraps[j]?=_ from ha0) (by omega)),S3.dr0⟩
 first | omega | (simp;omega)
 refine g9 ?_
 refine vl _ rfl (lenB (r_len rfl (H0 _ S1.le) U33)) ?_
 refine g4 ?_
 refine EL_gite 21 rfl rfl rfl (.int .i64 (e.value.length:Int)) rfl (fun g69=>lenB (r_len (cond_of g69 rfl) (H1 _ S1.le) U33)) ?_
 refine g5 ?_
 refine EL_gite 27 rfl rfl rfl (.int .i64 (e.wraps.length:Int)) rfl (fun g73=>r_lenX (cond_of g73 rfl) (H2.row S1.le) U34) ?_
 refine g6 ?_
 refine f1 Tryz.results21 ?_
 exact ⟨(congrArg Value.bool (smallE_is (by rwa [List.take_of_length_le (by omega)] at hsm)).symm),S1.dr0⟩
theorem WNewT_c (cx:List Value) (x:SetT) (y:World3) (I:Gh) (R:List HP) (w:World) (S:Sat w I (R)) (hx:setR.r I cx x) (hr:x.real=false) (hw:newW x.mems=some y):Ret Tryz.prog 10 [.agg cx.toArray] w fun v w'=>∃b:Nat,∃bs:List (Nat×Nat),∃p:Value,∃J:Gh,Gh.le I J∧.tuple #[ptr b,.int .i64 0]=v∧Sat w' J (WldO (ptr b) bs p y.2::Suite p y.1::R):=
 (WNew_c cx x I R w S hx hr).mono fun v w' h=>by
  obtain ⟨v1,J,le,h1,S⟩:=h
  rw [hw] at h1 S
  obtain ⟨p,S⟩:=Sat.unex S;obtain ⟨bs,S⟩:=Sat.unex S;have S:=Sat.split (m:=[_,_]) S
  obtain ⟨b,_,_,_,_,rfl,_⟩:=WldO.opn S
  exact ⟨b,bs,p,J,le,h1,S⟩
theorem WCli_c (q:Value) (bs:List (Nat×Nat)) (p:Value) (W:Wld) (i:Int) (I:Gh) (R:List HP) (w:World) (S:Sat w I (WldO q bs p W::R)) (hi:0≤i∧i<(W.seats.length:Int)):Ret Tryz.prog 17 [q,.int .i64 i] w fun v w'=>∃a:Nat,∃cb:Nat,ptr cb=v∧(bs[i.toNat]?=some (a,cb))∧Sat w' I (WldO q bs p W::R):=by
 obtain ⟨b,lv,sv,pv,ev,rfl,wok,hbl,Hl,S0⟩:=WldO.opn S
 have hsv:=SrvP.one S0.fr2
 have wp5:=wok.post
 have ws6:=wok.seats
 have hbm:(bs.map Prod.fst).length=W.seats.length:=by rw [List.length_map];exact hbl
 have hlv:=XRow.one (Hl.row S0.le)
 obtain ⟨y,hsn⟩:=Wld.seat_some hi
 have hy3:=Wld.seat_at hsn
 refine ret_E Tryz.func17 rfl Tryz.ntmps17 (by simp) ?_
 refine g7 ?_
 skip
 refine g3 ?_
 refine yR (WSeatT_c _ _ _ _ _ bs i _ _ _ S0 Hl (by rw [hbm];exact ⟨hy3.1,hy3.2.1⟩)) ?_
 rintro _ w0 ⟨a0,rfl,h0,S1⟩
 obtain ⟨cy,hby⟩:=seat_get h0
 refine g6 ?_
 refine vl (.bool true) rfl (r_neqptrnil rfl rfl U77) ?_
 refine g8 ?_
 refine vL (ptr cy) rfl rfl (SeatsQ.arr (k:=1) S1 rfl hby hy3.2.2) rfl U60 rfl ?_
 refine g5 ?_
 refine f1 Tryz.results17 ?_
 have S2:Sat w0 I (WldO (ptr b) bs p W::R):=WldO.cls (W:=W) wok hbl Hl S1
 exact ⟨a0,cy,rfl,hby,S2⟩
theorem small_c (cx:List Value) (x:SetT) (v1:Value) (l:List OpT) (n:Int) (I:Gh) (R:List HP) (w:World) (S:Sat w I (R)) (Q0:RoX I v1 opR l) (hx:setR.r I cx x):Ret Tryz.prog 8 [.agg cx.toArray,v1,.int .i64 n] w fun v w'=>∃r:Bool,.bool r=v∧(r=true→(l.length:Int)≤n∧x.mems.length≤10)∧Sat w' I (R):=by
 have lq0:=XRow.le (Q0.row S.le)
 obtain ⟨v0,rfl,⟨o0,H0⟩⟩:=hx
 refine ret_E Tryz.func8 rfl Tryz.ntmps8 (by simp) ?_
 refine g2 ?_
 refine yB (cs:=[.bool x.real,v0]) S ?_
 intro b0 w0 S0
 refine g7 ?_
 refine vl _ rfl (r_lenX rfl (Q0.row S0.le) U22) ?_
 refine g4 ?_
 refine EC_loop (fun m' E' w'=>∃j:Nat,m'=l.length-j∧E' 11=.int .i64 (j:Int)∧E' 1=v1∧E' 2=.int .i64 n∧E' 3=ptr b0∧E' 9=v1∧E' 10=.int .i64 (l.length:Int)∧(j≤l.length)∧Sat w' I (Blk b0 27 [.bool x.real,v0]::R)) _ ⟨0,rfl,rfl,rfl,rfl,rfl,rfl,rfl,Nat.zero_le _,S0⟩ ?_
 rintro _ E0 w1 ⟨j,rfl,e0,e1,e2,e3,e4,e5,hj,S1⟩
 refine g6 ?_
 refine EC_if rfl (fun h0=>?_) (fun h0=>?_)
 refine g6 ?_
 refine vl (ptr (blkOf v1) (offOf v1+((j:Int):Int).toNat*13)) rfl (r_indexX (by exact e4) (Q0.row S1.le) (by exact e0) (by omega) as' U22 (by kernel_rfl)) ?_
 obtain ⟨a0,ha0⟩:=get_some (l:=l) (j:=((j:Int):Int).toNat) as'
 obtain ⟨cs0,hc0,he0⟩:=Q0.el ha0
 obtain ⟨v2,v3,v4,v5,rfl,r0,r1,r2,r3,r4,r5,⟨o1,H1⟩,⟨o2,H2⟩,r6,r7,r8,⟨o3,H3⟩,⟨o4,H4⟩⟩:=hc0
 refine vl (.agg ((opRC a0 v2 v3 v4 v5)).toArray) rfl (r_loadR (cs:=(opRC a0 v2 v3 v4 v5)) rfl (he0 _ S1.le) U38 rfl (by kernel_rfl)) ?_
 refine yN opR0 S1 ?_
 intro b1 w2 S2
 refine yW0 S2 ?_ (h1:=ones_cons rfl (ones_cons rfl (ones_cons rfl (ones_cons rfl (ones_cons rfl (ones_cons rfl (ones_cons o1 (ones_cons o2 (ones_cons rfl (ones_cons rfl (ones_cons rfl (ones_cons o3 (ones_cons o4 ones_nil)))))))))))))
 intro w3 S3
 refine g5 ?_
 refine vl (.agg ((entRC a0.entry v2 v3 v4)).toArray) rfl (r_loadR (o:=3) (cs:=(entRC a0.entry v2 v3 v4)) rfl (range_cut0 (n:=9) 3 (Arr.range (S3.a0)) rfl) U36 rfl (by kernel_rfl)) ?_
 refine yR (Small_c (entRC a0.entry v2 v3 v4) a0.entry _ _ _ S3 ⟨v2,v3,v4,rfl,ad,ad,ad,⟨o1,H1⟩,⟨o2,H2⟩,ad,ad,ad,⟨o3,H3⟩⟩) ?_
 rintro _ w4 ⟨rfl,S4⟩
 refine g4 ?_
 refine EL_gite 19 rfl rfl rfl (.int .i64 (a0.data.length:Int)) rfl (fun g73=>lenB (r_len (cond_of g73 rfl) (H4 _ S4.le) U33)) ?_
 refine g4 ?_
 refine EC_cond (t:=(!(smallE a0.entry))||(decide (5000<(a0.data.length:Int)))) rfl (fun h2=>?_) (fun h2=>?_)
 simp only [Bool.and_eq_true,Bool.or_eq_true,Bool.not_eq_true',Bool.not_eq_false',decide_eq_true_eq,decide_eq_false_iff_not,Bool.and_eq_false_iff,Bool.or_eq_false_iff,Bool.not_eq_true,Bool.not_eq_false,bne_iff_ne,beq_iff_eq,beq_eq_false_iff_ne] at h2
 refine g11 ?_
 refine f1 Tryz.results8 ?_
 exact ⟨false,rfl,(fun q=>by cases q),S4.dr0.dr0⟩
 simp only [Bool.and_eq_true,Bool.or_eq_true,Bool.not_eq_true',Bool.not_eq_false',decide_eq_true_eq,decide_eq_false_iff_not,Bool.and_eq_false_iff,Bool.or_eq_false_iff,Bool.not_eq_true,Bool.not_eq_false,bne_iff_ne,beq_iff_eq,beq_eq_false_iff_ne] at h2
 refine g4 ?_
 refine EL_int ((j:Int)+1) rfl (r_addi (by exact e0) rfl (by omega)) ?_
 intro x0 hx78
 refine g3 ?_
 refine ⟨_,?_,j+1,rfl,(Eq.trans (show _=Value.int .i64 x0 from rfl) (congrArg _ (by omega))),(by exact e1),(by exact e2),(by exact e3),(by exact e4),(by exact e5),by omega,S4.dr0⟩
 first | omega | (simp;omega)
 refine g8 ?_
 refine vl _ rfl (r_lenX rfl (Q0.row S1.le) U22) ?_
 refine g5 ?_
 refine EL_gite 30 rfl rfl rfl (.int .i64 (x.mems.length:Int)) rfl (fun g82=>r_lenX (cond_of g82 rfl) (H0.row S1.le) U25) ?_
 refine g6 ?_
 refine f1 Tryz.results8 ?_
 exact ⟨((decide ((l.length:Int)≤n))&&(decide ((x.mems.length:Int)≤10))),rfl,(fun q=>by simp at q;omega),S1.dr0⟩
theorem two_c (I:Gh) (R:List HP) (w:World) (S:Sat w I (R)):Ret Tryz.prog 9 [] w fun v w'=>∃cr:List Value,∃J:Gh,Gh.le I J∧.agg cr.toArray=v∧setR.r J cr twoS∧Sat w' J (R):=by
 refine ret_E Tryz.func9 rfl Tryz.ntmps9 (by simp) ?_
 refine g2 ?_
 refine yN [.bool false,.slice none 0 0] S ?_
 intro b0 w0 S0
 refine g4 ?_
 refine vl _ rfl (gB [.int .i64 1,.int .i64 1,.int .i64 1] st_67 (parts3 rfl rfl rfl) (fill_one rfl rfl rfl (fill_one rfl rfl rfl (fill_one rfl rfl rfl fill_end)))) (vl _ rfl (gB [.int .i64 1,.int .i64 1,.int .i64 2] st_67 (parts3 rfl rfl rfl) (fill_one rfl rfl rfl (fill_one rfl rfl rfl (fill_one rfl rfl rfl fill_end)))) ?_)
 refine EL_litW (z:=#[.int .i64 0,.int .i64 0,.int .i64 0]) (cs:=([.int .i64 1,.int .i64 1,.int .i64 1,.int .i64 1,.int .i64 1,.int .i64 2]).toArray) (sz:=3) (l:=[(0,.agg ([.int .i64 1,.int .i64 1,.int .i64 1]).toArray),(1,.agg ([.int .i64 1,.int .i64 1,.int .i64 2]).toArray)]) rfl U25 (by kernel_rfl) (parts2 rfl rfl) (by kernel_rfl) rfl (by decide) ?_
 intro v0 w1 O0 B0 k0
 have S1:Sat _ _ (OwnX 67 mbrR v0 [(⟨1,1,1⟩:MembT),(⟨1,1,2⟩:MembT)]::_):=OwnX.cls (xss:=[[.int .i64 1,.int .i64 1,.int .i64 1],[.int .i64 1,.int .i64 1,.int .i64 2]]) (.cons ⟨rfl,(by dsimp only;omega),(by dsimp only;omega),(by dsimp only;omega)⟩ (.cons ⟨rfl,(by dsimp only;omega),(by dsimp only;omega),(by dsimp only;omega)⟩ .nil)) (S0.newO B0 O0)
 refine vl _ rfl (gB [.bool false,v0] st_27 (parts1 rfl) (fill_one rfl (one_cells (OwnX.one S1 0 rfl (by decide))) rfl fill_end)) ?_
 refine yW1 S1 ?_ (h1:=ones_cons rfl (ones_cons (OwnX.one S1 0 rfl (by decide)) ones_nil))
 intro w2 S2
 refine g3 ?_
 refine f1c Tryz.results9 ?_
 have oH32:=(OwnX.one S2 0 rfl (by decide))
 obtain ⟨I0,le0,S3,H0⟩:=S2.fx0 (by decide)
 have q0:twoS=(⟨false,[(⟨1,1,1⟩:MembT),(⟨1,1,2⟩:MembT)]⟩:SetT):=rfl
 exact ⟨_,I0,le0,rfl,(by rw [q0];exact ⟨v0,rfl,⟨oH32,H0⟩⟩),S3.dr0⟩
theorem anchor_c (I:Gh) (R:List HP) (w:World) (S:Sat w I (R)):Ret Tryz.prog 7 [] w fun v w'=>∃J:Gh,Gh.le I J∧.bool true=v∧Sat w' J (R):=by
 refine ret_E Tryz.func7 rfl Tryz.ntmps7 (by simp) ?_
 refine g6 ?_
 skip
 refine g1 ?_
 refine yR (two_c _ _ _ S) ?_
 rintro _ w0 ⟨cs0,I0,le0,rfl,h0,S0⟩
 obtain ⟨v0,rfl,⟨o0,H0⟩⟩:=h0
 refine yR (WNewT_c [.bool twoS.real,v0] twoS anW0 _ _ _ S0 ⟨v0,rfl,⟨o0,H0⟩⟩ rfl an_new) ?_
 rintro _ w1 ⟨b0,bs0,p0,I1,le1,rfl,S1⟩
 refine g11 ?_
 refine vl (.bool false) rfl (r_dec (by decide) (r_neq rfl rfl)) ?_
 refine g2 ?_
 refine gl  14 rfl rfl rfl rfl (.bool false) rfl (r_eqptrnil rfl rfl U29) ?_
 refine g9 ?_
 refine EL_lit w1.heap.size #[.int .u8 97] elB rfl (by decide) rfl (Nat.le_refl _) (by kernel_rfl) ?_
 intro v1 w2 O0 B0 k0 z0
 have S2:Sat _ _ (OwnB v1 [(97:UInt8)]::_):=S1.newO B0 (own_eq (l:=[(97:UInt8)]) O0 (by simp [bof_val,byt]))
 refine EL_mark (v:=v1) rfl rfl (S2.own 0 rfl) (by simp) U33 U5 ?_
 intro w3 R0 G0 z1
 obtain ⟨g43,q0⟩:∃g,v1.ownBlock=some g:=own_block (S2.own 0 rfl) (by simp)
 obtain ⟨I2,le2,S3,H1⟩:∃J:Gh,Gh.le I1 J∧Sat w3 J (WldO (ptr b0) bs0 p0 anW0.2::Suite p0 anW0.1::R)∧Ro J v1 ([(97:UInt8)].map byt):=S2.frzTo 0 rfl G0 q0 R0
 refine EL_lit w3.heap.size #[.int .u8 98] elB rfl (by decide) rfl (Nat.le_refl _) (by kernel_rfl) ?_
 intro v2 w4 O1 B1 k1 z2
 have S4:Sat _ _ (OwnB v2 [(98:UInt8)]::_):=S3.newO B1 (own_eq (l:=[(98:UInt8)]) O1 (by simp [bof_val,byt]))
 refine EL_mark (v:=v2) rfl rfl (S4.own 0 rfl) (by simp) U33 U5 ?_
 intro w5 R1 G1 z3
 obtain ⟨g60,q1⟩:∃g,v2.ownBlock=some g:=own_block (S4.own 0 rfl) (by simp)
 obtain ⟨I3,le3,S5,H2⟩:∃J:Gh,Gh.le I2 J∧Sat w5 J (WldO (ptr b0) bs0 p0 anW0.2::Suite p0 anW0.1::R)∧Ro J v2 ([(98:UInt8)].map byt):=S4.frzTo 0 rfl G1 q1 R1
 refine vl _ rfl (gB [.int .i64 1,.int .i64 0,.int .i64 0,v1,v2,.int .i64 0,.int .i64 0,.int .i64 0,.slice none 0 0] st_36 (parts3 rfl rfl rfl) (fill_one rfl rfl rfl (fill_one rfl (row_cells (H1 _ (lT le3 S5.le))) rfl (fill_one rfl (row_cells (H2 _ S5.le)) rfl fill_end)))) (vl _ rfl (gB [.int .i64 1,.int .i64 0,.int .i64 0,.int .i64 1,.int .i64 0,.int .i64 0,v1,v2,.int .i64 0,.int .i64 0,.int .i64 0,.slice none 0 0,.slice none 0 0] st_38 (parts2 rfl rfl) (fill_one rfl rfl (by kernel_rfl) (fill_some (cs:=([.int .i64 1,.int .i64 0,.int .i64 0,v1,v2,.int .i64 0,.int .i64 0,.int .i64 0,.slice none 0 0]).toArray) rfl rfl rfl (Nat.le_of_ble_eq_true (by kernel_rfl)) fill_end))) (vl _ rfl (gB [.int .i64 3,.int .i64 0,.int .i64 0,.int .i64 0,.int .i64 0,.int .i64 0,.slice none 0 0,.slice none 0 0,.int .i64 0,.int .i64 0,.int .i64 0,.slice none 0 0,.slice none 0 0] st_38 (parts1 rfl) (fill_one rfl rfl rfl fill_end)) (vl _ rfl (gB [.int .i64 5,.int .i64 0,.int .i64 0,.int .i64 0,.int .i64 0,.int .i64 0,.slice none 0 0,.slice none 0 0,.int .i64 0,.int .i64 0,.int .i64 0,.slice none 0 0,.slice none 0 0] st_38 (parts1 rfl) (fill_one rfl rfl rfl fill_end)) (vl _ rfl (gB [.int .i64 4,.int .i64 1,.int .i64 0,.int .i64 0,.int .i64 0,.int .i64 0,.slice none 0 0,.slice none 0 0,.int .i64 0,.int .i64 0,.int .i64 0,.slice none 0 0,.slice none 0 0] st_38 (parts2 rfl rfl) (fill_one rfl rfl rfl (fill_one rfl rfl rfl fill_end))) (vl _ rfl (gB [.int .i64 5,.int .i64 0,.int .i64 0,.int .i64 0,.int .i64 0,.int .i64 0,.slice none 0 0,.slice none 0 0,.int .i64 0,.int .i64 0,.int .i64 0,.slice none 0 0,.slice none 0 0] st_38 (parts1 rfl) (fill_one rfl rfl rfl fill_end)) ?_)))))
 refine vl _ rfl (gB [.int .i64 5,.int .i64 0,.int .i64 0,.int .i64 0,.int .i64 0,.int .i64 0,.slice none 0 0,.slice none 0 0,.int .i64 0,.int .i64 0,.int .i64 0,.slice none 0 0,.slice none 0 0] st_38 (parts1 rfl) (fill_one rfl rfl rfl fill_end)) ?_
 refine EL_litW (z:=#[.int .i64 0,.int .i64 0,.int .i64 0,.int .i64 0,.int .i64 0,.int .i64 0,.slice none 0 0,.slice none 0 0,.int .i64 0,.int .i64 0,.int .i64 0,.slice none 0 0,.slice none 0 0]) (cs:=([.int .i64 1,.int .i64 0,.int .i64 0,.int .i64 1,.int .i64 0,.int .i64 0,v1,v2,.int .i64 0,.int .i64 0,.int .i64 0,.slice none 0 0,.slice none 0 0,.int .i64 3,.int .i64 0,.int .i64 0,.int .i64 0,.int .i64 0,.int .i64 0,.slice none 0 0,.slice none 0 0,.int .i64 0,.int .i64 0,.int .i64 0,.slice none 0 0,.slice none 0 0,.int .i64 5,.int .i64 0,.int .i64 0,.int .i64 0,.int .i64 0,.int .i64 0,.slice none 0 0,.slice none 0 0,.int .i64 0,.int .i64 0,.int .i64 0,.slice none 0 0,.slice none 0 0,.int .i64 4,.int .i64 1,.int .i64 0,.int .i64 0,.int .i64 0,.int .i64 0,.slice none 0 0,.slice none 0 0,.int .i64 0,.int .i64 0,.int .i64 0,.slice none 0 0,.slice none 0 0,.int .i64 5,.int .i64 0,.int .i64 0,.int .i64 0,.int .i64 0,.int .i64 0,.slice none 0 0,.slice none 0 0,.int .i64 0,.int .i64 0,.int .i64 0,.slice none 0 0,.slice none 0 0,.int .i64 5,.int .i64 0,.int .i64 0,.int .i64 0,.int .i64 0,.int .i64 0,.slice none 0 0,.slice none 0 0,.int .i64 0,.int .i64 0,.int .i64 0,.slice none 0 0,.slice none 0 0]).toArray) (sz:=13) (l:=[(0,.agg ([.int .i64 1,.int .i64 0,.int .i64 0,.int .i64 1,.int .i64 0,.int .i64 0,v1,v2,.int .i64 0,.int .i64 0,.int .i64 0,.slice none 0 0,.slice none 0 0]).toArray),(1,.agg ([.int .i64 3,.int .i64 0,.int .i64 0,.int .i64 0,.int .i64 0,.int .i64 0,.slice none 0 0,.slice none 0 0,.int .i64 0,.int .i64 0,.int .i64 0,.slice none 0 0,.slice none 0 0]).toArray),(2,.agg ([.int .i64 5,.int .i64 0,.int .i64 0,.int .i64 0,.int .i64 0,.int .i64 0,.slice none 0 0,.slice none 0 0,.int .i64 0,.int .i64 0,.int .i64 0,.slice none 0 0,.slice none 0 0]).toArray),(3,.agg ([.int .i64 4,.int .i64 1,.int .i64 0,.int .i64 0,.int .i64 0,.int .i64 0,.slice none 0 0,.slice none 0 0,.int .i64 0,.int .i64 0,.int .i64 0,.slice none 0 0,.slice none 0 0]).toArray),(4,.agg ([.int .i64 5,.int .i64 0,.int .i64 0,.int .i64 0,.int .i64 0,.int .i64 0,.slice none 0 0,.slice none 0 0,.int .i64 0,.int .i64 0,.int .i64 0,.slice none 0 0,.slice none 0 0]).toArray),(5,.agg ([.int .i64 5,.int .i64 0,.int .i64 0,.int .i64 0,.int .i64 0,.int .i64 0,.slice none 0 0,.slice none 0 0,.int .i64 0,.int .i64 0,.int .i64 0,.slice none 0 0,.slice none 0 0]).toArray)]) rfl U22 (by kernel_rfl) (parts6 rfl rfl rfl rfl rfl rfl) (by kernel_rfl) rfl (by decide) ?_
 intro v3 w6 O2 B2 k2
 have S6:Sat _ _ (OwnX 38 opR v3 [(⟨1,0,0,⟨1,0,0,[(97:UInt8)],[(98:UInt8)],0,0,0,[]⟩,[]⟩:OpT),(⟨3,0,0,⟨0,0,0,[],[],0,0,0,[]⟩,[]⟩:OpT),(⟨5,0,0,⟨0,0,0,[],[],0,0,0,[]⟩,[]⟩:OpT),(⟨4,1,0,⟨0,0,0,[],[],0,0,0,[]⟩,[]⟩:OpT),(⟨5,0,0,⟨0,0,0,[],[],0,0,0,[]⟩,[]⟩:OpT),(⟨5,0,0,⟨0,0,0,[],[],0,0,0,[]⟩,[]⟩:OpT)]::_):=OwnX.cls (xss:=[[.int .i64 1,.int .i64 0,.int .i64 0,.int .i64 1,.int .i64 0,.int .i64 0,v1,v2,.int .i64 0,.int .i64 0,.int .i64 0,.slice none 0 0,.slice none 0 0],[.int .i64 3,.int .i64 0,.int .i64 0,.int .i64 0,.int .i64 0,.int .i64 0,.slice none 0 0,.slice none 0 0,.int .i64 0,.int .i64 0,.int .i64 0,.slice none 0 0,.slice none 0 0],[.int .i64 5,.int .i64 0,.int .i64 0,.int .i64 0,.int .i64 0,.int .i64 0,.slice none 0 0,.slice none 0 0,.int .i64 0,.int .i64 0,.int .i64 0,.slice none 0 0,.slice none 0 0],[.int .i64 4,.int .i64 1,.int .i64 0,.int .i64 0,.int .i64 0,.int .i64 0,.slice none 0 0,.slice none 0 0,.int .i64 0,.int .i64 0,.int .i64 0,.slice none 0 0,.slice none 0 0],[.int .i64 5,.int .i64 0,.int .i64 0,.int .i64 0,.int .i64 0,.int .i64 0,.slice none 0 0,.slice none 0 0,.int .i64 0,.int .i64 0,.int .i64 0,.slice none 0 0,.slice none 0 0],[.int .i64 5,.int .i64 0,.int .i64 0,.int .i64 0,.int .i64 0,.int .i64 0,.slice none 0 0,.slice none 0 0,.int .i64 0,.int .i64 0,.int .i64 0,.slice none 0 0,.slice none 0 0]]) (.cons ⟨v1,v2,(.slice none 0 0),(.slice none 0 0),rfl,(by dsimp only;omega),(by dsimp only;omega),(by dsimp only;omega),(by dsimp only;omega),(by dsimp only;omega),(by dsimp only;omega),⟨(row_one (H1 _ (lT le3 S5.le))),(H1.up le3)⟩,⟨(row_one (H2 _ S5.le)),H2⟩,(by dsimp only;omega),(by dsimp only;omega),(by dsimp only;omega),⟨rfl,RoX.nil⟩,⟨rfl,Ro.nil⟩⟩ (.cons ⟨(.slice none 0 0),(.slice none 0 0),(.slice none 0 0),(.slice none 0 0),rfl,(by dsimp only;omega),(by dsimp only;omega),(by dsimp only;omega),(by dsimp only;omega),(by dsimp only;omega),(by dsimp only;omega),⟨rfl,Ro.nil⟩,⟨rfl,Ro.nil⟩,(by dsimp only;omega),(by dsimp only;omega),(by dsimp only;omega),⟨rfl,RoX.nil⟩,⟨rfl,Ro.nil⟩⟩ (.cons ⟨(.slice none 0 0),(.slice none 0 0),(.slice none 0 0),(.slice none 0 0),rfl,(by dsimp only;omega),(by dsimp only;omega),(by dsimp only;omega),(by dsimp only;omega),(by dsimp only;omega),(by dsimp only;omega),⟨rfl,Ro.nil⟩,⟨rfl,Ro.nil⟩,(by dsimp only;omega),(by dsimp only;omega),(by dsimp only;omega),⟨rfl,RoX.nil⟩,⟨rfl,Ro.nil⟩⟩ (.cons ⟨(.slice none 0 0),(.slice none 0 0),(.slice none 0 0),(.slice none 0 0),rfl,(by dsimp only;omega),(by dsimp only;omega),(by dsimp only;omega),(by dsimp only;omega),(by dsimp only;omega),(by dsimp only;omega),⟨rfl,Ro.nil⟩,⟨rfl,Ro.nil⟩,(by dsimp only;omega),(by dsimp only;omega),(by dsimp only;omega),⟨rfl,RoX.nil⟩,⟨rfl,Ro.nil⟩⟩ (.cons ⟨(.slice none 0 0),(.slice none 0 0),(.slice none 0 0),(.slice none 0 0),rfl,(by dsimp only;omega),(by dsimp only;omega),(by dsimp only;omega),(by dsimp only;omega),(by dsimp only;omega),(by dsimp only;omega),⟨rfl,Ro.nil⟩,⟨rfl,Ro.nil⟩,(by dsimp only;omega),(by dsimp only;omega),(by dsimp only;omega),⟨rfl,RoX.nil⟩,⟨rfl,Ro.nil⟩⟩ (.cons ⟨(.slice none 0 0),(.slice none 0 0),(.slice none 0 0),(.slice none 0 0),rfl,(by dsimp only;omega),(by dsimp only;omega),(by dsimp only;omega),(by dsimp only;omega),(by dsimp only;omega),(by dsimp only;omega),⟨rfl,Ro.nil⟩,⟨rfl,Ro.nil⟩,(by dsimp only;omega),(by dsimp only;omega),(by dsimp only;omega),⟨rfl,RoX.nil⟩,⟨rfl,Ro.nil⟩⟩ .nil)))))) (S5.newO B2 O2)
 have q2:[(⟨1,0,0,⟨1,0,0,[(97:UInt8)],[(98:UInt8)],0,0,0,[]⟩,[]⟩:OpT),(⟨3,0,0,⟨0,0,0,[],[],0,0,0,[]⟩,[]⟩:OpT),(⟨5,0,0,⟨0,0,0,[],[],0,0,0,[]⟩,[]⟩:OpT),(⟨4,1,0,⟨0,0,0,[],[],0,0,0,[]⟩,[]⟩:OpT),(⟨5,0,0,⟨0,0,0,[],[],0,0,0,[]⟩,[]⟩:OpT),(⟨5,0,0,⟨0,0,0,[],[],0,0,0,[]⟩,[]⟩:OpT)]=anOps:=rfl
 have S7:=S6.ax0 q2
 refine vl _ rfl (r_lenX rfl (OwnX.row S7 0 rfl (by decide)).1 U22) ?_
 refine g4 ?_
 have hal:anOps.length=6:=rfl
 refine EC_loop (fun m' E' w'=>∃j:Nat,∃L:List Thing,∃W:Wld,∃J:Gh,m'=6-j∧E' 31=.int .i64 (j:Int)∧E' 1=ptr b0∧E' 29=v3∧E' 30=.int .i64 (anOps.length:Int)∧(j≤6)∧(runW (anOps.take j) anW0=(L,W))∧Gh.le I3 J∧Sat w' J (WldO (ptr b0) bs0 p0 W::Suite p0 L::OwnX 38 opR v3 anOps::R)) _ ⟨0,anW0.1,anW0.2,I3,rfl,rfl,rfl,rfl,rfl,Nat.zero_le _,rfl,(Gh.le_refl _),S7.fr2.fr2⟩ ?_
 rintro _ E0 w7 ⟨j,L,W,I4,rfl,e0,e1,e2,e3,hj,hLW,le4,S8⟩
 refine g6 ?_
 refine EC_if rfl (fun h2=>?_) (fun h2=>?_)
 refine g6 ?_
 refine vl (ptr (blkOf v3) (offOf v3+((j:Int):Int).toNat*13)) rfl (r_indexX (by exact e2) (OwnX.row S8 2 rfl (by decide)).1 (by exact e0) (by omega) as' U22 (by kernel_rfl)) ?_
 obtain ⟨a0,ha0⟩:=get_some (l:=anOps) (j:=((j:Int):Int).toNat) as'
 have hok:=okW_at an_ok (show anOps[j]?=some a0 from ha0)
 rw [hLW] at hok
 dsimp only at hok
 have hstep:=runW_step (y:=anW0) (show anOps[j]?=some a0 from ha0)
 rw [hLW] at hstep
 obtain ⟨cs1,hc0,he0⟩:=(OwnX.row S8 2 rfl (by decide)).2 _ _ ha0
 obtain ⟨v4,v5,v6,v7,rfl,r0,r1,r2,r3,r4,r5,⟨o1,H3⟩,⟨o2,H4⟩,r6,r7,r8,⟨o3,H5⟩,⟨o4,H6⟩⟩:=hc0
 refine vl (.agg ((opRC a0 v4 v5 v6 v7)).toArray) rfl (r_loadR (cs:=(opRC a0 v4 v5 v6 v7)) rfl he0 U38 rfl (by kernel_rfl)) ?_
 refine yN opR0 S8 ?_
 intro b1 w8 S9
 refine yW0 S9 ?_ (h1:=ones_cons rfl (ones_cons rfl (ones_cons rfl (ones_cons rfl (ones_cons rfl (ones_cons rfl (ones_cons o1 (ones_cons o2 (ones_cons rfl (ones_cons rfl (ones_cons rfl (ones_cons o3 (ones_cons o4 ones_nil)))))))))))))
 intro w9 S10
 refine g6 ?_
 refine yR (WDo_c _ _ _ _ _ (opRC a0 v4 v5 v6 v7) a0 _ _ _ S10.fr2.fr2 ⟨v4,v5,v6,v7,rfl,ad,ad,ad,ad,ad,ad,⟨o1,H3⟩,⟨o2,H4⟩,ad,ad,ad,⟨o3,H5⟩,⟨o4,H6⟩⟩ (by have:=hok.2.2.2;omega) (by have:=hok.2.1;omega) hok.2.2.1) ?_
 rintro _ w10 ⟨v8,I5,le5,rfl,S11⟩
 refine vl (.int .i64 ((W.doA L a0).e)) rfl (r_field rfl U43 rfl U30 rfl rfl) ?_
 refine g3 ?_
 refine EC_cond_false (Eq.trans (show _=Value.bool (decide (((W.doA L a0).e)≠0)) from rfl) (congrArg Value.bool (show (decide (((W.doA L a0).e)≠0))=false from by rw [hok.1];decide))) ?_
 refine g4 ?_
 refine EL_int ((j:Int)+1) rfl (r_addi (by exact e0) rfl (by omega)) ?_
 intro x0 hx126
 refine g3 ?_
 refine ⟨_,?_,j+1,(W.doS L a0).1,(W.doS L a0).2,I5,rfl,(Eq.trans (show _=Value.int .i64 x0 from rfl) (congrArg _ (by omega))),(by exact e1),(by exact e2),(by exact e3),by omega,hstep,(lT le4 le5),S11.dr0.dr2⟩
 first | omega | (simp;omega)
 refine g6 ?_
 rw [List.take_of_length_le (show anOps.length≤j by show 6≤j;omega)] at hLW
 obtain ⟨y,hy⟩:∃y,W.seat 1=some y:=by rw [show W=anW.2 from by rw [anW,hLW]];exact Wld.seat_some (by rw [an_seats];decide)
 have hyd:=an_doc (x:=y) (by rw [anW,hLW];exact hy)
 have hpo:W.post=[]:=by have h:=an_post;rw [anW,hLW] at h;exact h
 have hse:W.sent.length=2:=by have h:=an_sent;rw [anW,hLW] at h;exact h
 have htl:csR (tls W.seats)=1∧csI (tls W.seats)=1:=by have h:=an_tally;rw [anW,hLW] at h;exact h
 skip
 refine g2 ?_
 refine yR (WCli_c _ _ _ _ 1 _ _ _ S8 ⟨by decide,(Wld.seat_at hy).2.1⟩) ?_
 rintro _ w11 ⟨a1,cb0,rfl,h3,S12⟩
 have S13:Sat w11 I4 (Blk a1 79 [ptr cb0,.int .i64 y.c.coll,.int .i64 y.c.founder,.int .i64 y.c.who,.int .i64 y.branch]::CliP (ptr cb0) p0 y.c::WldB (ptr b0) ((1:Int).toNat) bs0 p0 W::Suite p0 L::OwnX 38 opR v3 anOps::R):=WldO.at h3 (Wld.seat_at hy).2.2 S12
 have S14:=S13.fr1
 obtain ⟨bb136,wv136,rv136,pv136,hq136,cok136,hrv136,Hw136,So136⟩:=CliP.opn S14
 obtain rfl:cb0=bb136:=by injection hq136 with hq;injection hq with hq;injection hq
 have lwv136:=RoB.le Hw136 So136.le
 refine yR (LRep_c _ _ _ _ _ y.c _ _ _ So136) ?_
 rintro _ w12 ⟨rfl,S15⟩
 refine yR (RpDocs_c _ _ _ _ _ _ S15.fr1) ?_
 rintro _ w13 ⟨q3,rfl,S16⟩
 refine EL_lit w13.heap.size #[.int .u8 97] elB rfl (by decide) rfl (Nat.le_refl _) (by kernel_rfl) ?_
 intro v9 w14 O3 B3 k3 z4
 have S17:Sat _ _ (OwnB v9 [(97:UInt8)]::_):=S16.newO B3 (own_eq (l:=[(97:UInt8)]) O3 (by simp [bof_val,byt]))
 refine EL_mark (v:=v9) rfl rfl (S17.own 0 rfl) (by simp) U33 U5 ?_
 intro w15 R2 G2 z5
 obtain ⟨g159,q4⟩:∃g,v9.ownBlock=some g:=own_block (S17.own 0 rfl) (by simp)
 obtain ⟨I6,le6,S18,H7⟩:∃J:Gh,Gh.le I4 J∧Sat w15 J (DocsP q3 y.c.r.docs::RplP rv136 p0 y.c.r::Blk cb0 99 [p0,.int .i64 y.c.coll,.int .i64 y.c.founder,.int .i64 y.c.who,wv136,rv136,pv136,.int .i64 y.c.count,.int .i64 y.c.last,.bool y.c.alarm]::OwnX 166 waiR pv136 y.c.pend::Blk a1 79 [ptr cb0,.int .i64 y.c.coll,.int .i64 y.c.founder,.int .i64 y.c.who,.int .i64 y.branch]::WldB (ptr b0) ((1:Int).toNat) bs0 p0 W::Suite p0 L::OwnX 38 opR v3 anOps::R)∧Ro J v9 ([(97:UInt8)].map byt):=S17.frzTo 0 rfl G2 q4 R2
 refine yR (DGet_c _ _ _ _ _ _ _ S18 H7 (by decide) hyd.2) ?_
 rintro _ w16 ⟨v10,I7,le7,rfl,H8,S19⟩
 refine g12 ?_
 refine EL_gite 52 rfl rfl rfl (.string (str ((lkD y.c.r.docs [(97:UInt8)]).getD []))) rfl (fun g167=>r_str (cond_of g167 rfl) (H8 _ S19.le) U33 U5 U9) (EL_gite 52 rfl rfl rfl (.bool true) rfl (fun g168=>r_dec (show (decide (((lkD y.c.r.docs [(97:UInt8)]).getD [])=([98]:List UInt8)))=true from by rw [hyd.1];decide) (r_eqls (cond_of g168 rfl) rfl)) (vl _ rfl (dcT (r_and rfl rfl rfl) (by rw [hyd.1];rfl)) ?_))
 refine g2 ?_
 have S20:Sat _ _ (CliP (ptr cb0) p0 y.c::_):=CliP.cls (c:=y.c) (wv:=wv136) (rv:=rv136) (pv:=pv136) cok136 hrv136 (Hw136.up (lT le6 le7)) S19.fr3.fr2.fr3
 have S21:Sat w16 I7 (WldO (ptr b0) bs0 p0 W::DocsP q3 y.c.r.docs::Suite p0 L::OwnX 38 opR v3 anOps::R):=WldB.same h3 hy S20.fr3.fr1.fr3
 refine yG (WPost_c _ _ _ _ _ _ _ S21) ?_
 rintro _ w17 ⟨v11,I8,le8,rfl,S22⟩
 refine gl 57 rfl rfl rfl rfl _ rfl (r_lenX rfl (OwnX.row S22 0 rfl (by decide)).1 U39) (gl 57 rfl rfl rfl rfl _ rfl (dcT (r_eql rfl rfl) (by rw [hpo];rfl)) ?_)
 refine g3 ?_
 refine yG (WSent_c _ _ _ _ _ _ _ S22.fr1 (by omega)) ?_
 rintro _ w18 ⟨v12,I9,le9,rfl,S23⟩
 refine gl 63 rfl rfl rfl rfl _ rfl (r_lenX rfl (OwnX.row S23 0 rfl (by decide)).1 U52) (gl 63 rfl rfl rfl rfl _ rfl (dcT (r_eql rfl rfl) (by rw [hse];rfl)) ?_)
 refine g3 ?_
 refine yG (WTly_c _ _ _ _ _ _ _ S23.fr1) ?_
 rintro _ w19 ⟨x1,y192,I10,le10,rfl,h4,h5,h6,S24⟩
 refine gl 69 rfl rfl rfl rfl _ rfl (dcT (r_ceql rfl rfl (by assumption) (by assumption) (fw_const (x:=4607182418800017408) (n:=1) (by decide +kernel) (by decide)) (fw_const (x:=4607182418800017408) (n:=1) (by decide +kernel) (by decide))) (by rw [htl.1,htl.2];rfl)) ?_
 refine g5 ?_
 refine f1 Tryz.results7 ?_
 exact ⟨I10,(lT (lT (lT (lT (lT (lT (lT (lT (lT le0 le1) le2) le3) le4) le6) le7) le8) le9) le10),rfl,S24.dr0.dr0.dr0.dr0.dr0.dr0⟩
end Go.Proofs.YthddplghlljdbaaGreat
