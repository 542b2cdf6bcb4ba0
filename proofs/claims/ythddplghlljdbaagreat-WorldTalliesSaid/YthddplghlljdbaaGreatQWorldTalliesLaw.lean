/-
  How many records are committed in all never goes down; how many entries are pending goes up by one with each that is issued, and up by nothing else.
  Its conditions: none: whatever the input, in whatever memory.
-/
import Derived.Test.YthddplghlljdbaaGreatRows
import Derived.ProofKit
import Derived.OpenShut
import Derived.ShutString
import Derived.ChangeOld
import Derived.Test.YthddplghlljdbaaGreatQWorldTalliesLwW
import Derived.Test.YthddplghlljdbaaGreatQWorldTalliesW20
set_option linter.unusedVariables false
set_option linter.unusedSimpArgs false
namespace Go.Proofs.YthddplghlljdbaaGreat.worldTallies
open Go.ChangeShapes Go.WideShapes Go.ChangeAt Go.RowKit Go.Ecal
open Go.ChangeMaps (open_string shut_string)
set_option maxRecDepth 100000 in
theorem opn_113:Opn Tryz.prog 113 wrapR:=fun enc w sp hd fuel cs x h=>by
 obtain ⟨xs,n,_,_,hl,hxl,hf⟩:=DataW.trod_struct Tryz.underlying113 h
 have hlen:cs.length=2:=hl.trans (by kernel_rfl)
 obtain ⟨c0,t0,rfl,l0⟩:=cons_of_len hlen
 obtain ⟨c1,t1,rfl,l1⟩:=cons_of_len l0
 obtain rfl:=List.eq_nil_of_length_eq_zero l1
 have e0:DataW.trod enc Tryz.prog w 0 sp hd n 3 [c0]=xs[0]?:=Opn.part hf rfl rfl rfl (k:=1) (by kernel_rfl) rfl
 obtain ⟨a0,h0⟩:=Opn.field (Opn.int Tryz.underlying3) (by rw [hxl];decide) e0
 have e1:DataW.trod enc Tryz.prog w 0 sp hd n 33 [c1]=xs[1]?:=Opn.part hf rfl rfl rfl (k:=1) (by kernel_rfl) rfl
 obtain ⟨a1,h1⟩:=Opn.field (Opn.bytes Tryz.underlying33 Tryz.underlying5 (by kernel_rfl)) (by rw [hxl];decide) e1
 obtain ⟨q,rh0⟩:=h0;simp only [List.cons.injEq,and_true] at q;subst q
 obtain ⟨vh1,q,oh1,rh1⟩:=h1;simp only [List.cons.injEq,and_true] at q;subst q
 exact ⟨⟨a0,a1⟩,⟨_,rfl,rh0,⟨oh1,rh1⟩⟩⟩
set_option maxRecDepth 100000 in
theorem opn_36:Opn Tryz.prog 36 entR:=fun enc w sp hd fuel cs x h=>by
 obtain ⟨xs,n,_,_,hl,hxl,hf⟩:=DataW.trod_struct Tryz.underlying36 h
 have hlen:cs.length=9:=hl.trans (by kernel_rfl)
 obtain ⟨c0,t0,rfl,l0⟩:=cons_of_len hlen
 obtain ⟨c1,t1,rfl,l1⟩:=cons_of_len l0
 obtain ⟨c2,t2,rfl,l2⟩:=cons_of_len l1
 obtain ⟨c3,t3,rfl,l3⟩:=cons_of_len l2
 obtain ⟨c4,t4,rfl,l4⟩:=cons_of_len l3
 obtain ⟨c5,t5,rfl,l5⟩:=cons_of_len l4
 obtain ⟨c6,t6,rfl,l6⟩:=cons_of_len l5
 obtain ⟨c7,t7,rfl,l7⟩:=cons_of_len l6
 obtain ⟨c8,t8,rfl,l8⟩:=cons_of_len l7
 obtain rfl:=List.eq_nil_of_length_eq_zero l8
 have e0:DataW.trod enc Tryz.prog w 0 sp hd n 3 [c0]=xs[0]?:=Opn.part hf rfl rfl rfl (k:=1) (by kernel_rfl) rfl
 obtain ⟨a0,h0⟩:=Opn.field (Opn.int Tryz.underlying3) (by rw [hxl];decide) e0
 have e1:DataW.trod enc Tryz.prog w 0 sp hd n 3 [c1]=xs[1]?:=Opn.part hf rfl rfl rfl (k:=1) (by kernel_rfl) rfl
 obtain ⟨a1,h1⟩:=Opn.field (Opn.int Tryz.underlying3) (by rw [hxl];decide) e1
 have e2:DataW.trod enc Tryz.prog w 0 sp hd n 3 [c2]=xs[2]?:=Opn.part hf rfl rfl rfl (k:=1) (by kernel_rfl) rfl
 obtain ⟨a2,h2⟩:=Opn.field (Opn.int Tryz.underlying3) (by rw [hxl];decide) e2
 have e3:DataW.trod enc Tryz.prog w 0 sp hd n 33 [c3]=xs[3]?:=Opn.part hf rfl rfl rfl (k:=1) (by kernel_rfl) rfl
 obtain ⟨a3,h3⟩:=Opn.field (Opn.bytes Tryz.underlying33 Tryz.underlying5 (by kernel_rfl)) (by rw [hxl];decide) e3
 have e4:DataW.trod enc Tryz.prog w 0 sp hd n 33 [c4]=xs[4]?:=Opn.part hf rfl rfl rfl (k:=1) (by kernel_rfl) rfl
 obtain ⟨a4,h4⟩:=Opn.field (Opn.bytes Tryz.underlying33 Tryz.underlying5 (by kernel_rfl)) (by rw [hxl];decide) e4
 have e5:DataW.trod enc Tryz.prog w 0 sp hd n 3 [c5]=xs[5]?:=Opn.part hf rfl rfl rfl (k:=1) (by kernel_rfl) rfl
 obtain ⟨a5,h5⟩:=Opn.field (Opn.int Tryz.underlying3) (by rw [hxl];decide) e5
 have e6:DataW.trod enc Tryz.prog w 0 sp hd n 3 [c6]=xs[6]?:=Opn.part hf rfl rfl rfl (k:=1) (by kernel_rfl) rfl
 obtain ⟨a6,h6⟩:=Opn.field (Opn.int Tryz.underlying3) (by rw [hxl];decide) e6
 have e7:DataW.trod enc Tryz.prog w 0 sp hd n 3 [c7]=xs[7]?:=Opn.part hf rfl rfl rfl (k:=1) (by kernel_rfl) rfl
 obtain ⟨a7,h7⟩:=Opn.field (Opn.int Tryz.underlying3) (by rw [hxl];decide) e7
 have e8:DataW.trod enc Tryz.prog w 0 sp hd n 34 [c8]=xs[8]?:=Opn.part hf rfl rfl rfl (k:=1) (by kernel_rfl) rfl
 obtain ⟨a8,h8⟩:=Opn.field (Opn.list (τ:=wrapR) Tryz.underlying34 (by kernel_rfl) (by decide) opn_113) (by rw [hxl];decide) e8
 obtain ⟨q,rh0⟩:=h0;simp only [List.cons.injEq,and_true] at q;subst q
 obtain ⟨q,rh1⟩:=h1;simp only [List.cons.injEq,and_true] at q;subst q
 obtain ⟨q,rh2⟩:=h2;simp only [List.cons.injEq,and_true] at q;subst q
 obtain ⟨vh3,q,oh3,rh3⟩:=h3;simp only [List.cons.injEq,and_true] at q;subst q
 obtain ⟨vh4,q,oh4,rh4⟩:=h4;simp only [List.cons.injEq,and_true] at q;subst q
 obtain ⟨q,rh5⟩:=h5;simp only [List.cons.injEq,and_true] at q;subst q
 obtain ⟨q,rh6⟩:=h6;simp only [List.cons.injEq,and_true] at q;subst q
 obtain ⟨q,rh7⟩:=h7;simp only [List.cons.injEq,and_true] at q;subst q
 obtain ⟨vh8,q,oh8,rh8⟩:=h8;simp only [List.cons.injEq,and_true] at q;subst q
 exact ⟨⟨a0,a1,a2,a3,a4,a5,a6,a7,a8⟩,⟨_,_,_,rfl,rh0,rh1,rh2,⟨oh3,rh3⟩,⟨oh4,rh4⟩,rh5,rh6,rh7,⟨oh8,rh8⟩⟩⟩
set_option maxRecDepth 100000 in
theorem opn_38:Opn Tryz.prog 38 opR:=fun enc w sp hd fuel cs x h=>by
 obtain ⟨xs,n,_,_,hl,hxl,hf⟩:=DataW.trod_struct Tryz.underlying38 h
 have hlen:cs.length=13:=hl.trans (by kernel_rfl)
 obtain ⟨c0,t0,rfl,l0⟩:=cons_of_len hlen
 obtain ⟨c1,t1,rfl,l1⟩:=cons_of_len l0
 obtain ⟨c2,t2,rfl,l2⟩:=cons_of_len l1
 obtain ⟨c3,t3,rfl,l3⟩:=cons_of_len l2
 obtain ⟨c4,t4,rfl,l4⟩:=cons_of_len l3
 obtain ⟨c5,t5,rfl,l5⟩:=cons_of_len l4
 obtain ⟨c6,t6,rfl,l6⟩:=cons_of_len l5
 obtain ⟨c7,t7,rfl,l7⟩:=cons_of_len l6
 obtain ⟨c8,t8,rfl,l8⟩:=cons_of_len l7
 obtain ⟨c9,t9,rfl,l9⟩:=cons_of_len l8
 obtain ⟨c10,t10,rfl,l10⟩:=cons_of_len l9
 obtain ⟨c11,t11,rfl,l11⟩:=cons_of_len l10
 obtain ⟨c12,t12,rfl,l12⟩:=cons_of_len l11
 obtain rfl:=List.eq_nil_of_length_eq_zero l12
 have e0:DataW.trod enc Tryz.prog w 0 sp hd n 3 [c0]=xs[0]?:=Opn.part hf rfl rfl rfl (k:=1) (by kernel_rfl) rfl
 obtain ⟨a0,h0⟩:=Opn.field (Opn.int Tryz.underlying3) (by rw [hxl];decide) e0
 have e1:DataW.trod enc Tryz.prog w 0 sp hd n 3 [c1]=xs[1]?:=Opn.part hf rfl rfl rfl (k:=1) (by kernel_rfl) rfl
 obtain ⟨a1,h1⟩:=Opn.field (Opn.int Tryz.underlying3) (by rw [hxl];decide) e1
 have e2:DataW.trod enc Tryz.prog w 0 sp hd n 3 [c2]=xs[2]?:=Opn.part hf rfl rfl rfl (k:=1) (by kernel_rfl) rfl
 obtain ⟨a2,h2⟩:=Opn.field (Opn.int Tryz.underlying3) (by rw [hxl];decide) e2
 have e3:DataW.trod enc Tryz.prog w 0 sp hd n 36 [c3,c4,c5,c6,c7,c8,c9,c10,c11]=xs[3]?:=Opn.part hf rfl rfl rfl (k:=9) (by kernel_rfl) rfl
 obtain ⟨a3,h3⟩:=Opn.field opn_36 (by rw [hxl];decide) e3
 have e4:DataW.trod enc Tryz.prog w 0 sp hd n 33 [c12]=xs[4]?:=Opn.part hf rfl rfl rfl (k:=1) (by kernel_rfl) rfl
 obtain ⟨a4,h4⟩:=Opn.field (Opn.bytes Tryz.underlying33 Tryz.underlying5 (by kernel_rfl)) (by rw [hxl];decide) e4
 obtain ⟨q,rh0⟩:=h0;simp only [List.cons.injEq,and_true] at q;subst q
 obtain ⟨q,rh1⟩:=h1;simp only [List.cons.injEq,and_true] at q;subst q
 obtain ⟨q,rh2⟩:=h2;simp only [List.cons.injEq,and_true] at q;subst q
 obtain ⟨wh3_3,wh3_4,wh3_8,q,ph3_0,ph3_1,ph3_2,ph3_3,ph3_4,ph3_5,ph3_6,ph3_7,ph3_8⟩:=h3;simp only [List.cons.injEq,and_true] at q;obtain ⟨rfl,rfl,rfl,rfl,rfl,rfl,rfl,rfl,rfl⟩:=q
 obtain ⟨vh4,q,oh4,rh4⟩:=h4;simp only [List.cons.injEq,and_true] at q;subst q
 exact ⟨⟨a0,a1,a2,a3,a4⟩,⟨_,_,_,_,rfl,rh0,rh1,rh2,ph3_0,ph3_1,ph3_2,ph3_3,ph3_4,ph3_5,ph3_6,ph3_7,ph3_8,⟨oh4,rh4⟩⟩⟩
set_option maxRecDepth 100000 in
theorem opn_67:Opn Tryz.prog 67 mbrR:=fun enc w sp hd fuel cs x h=>by
 obtain ⟨xs,n,_,_,hl,hxl,hf⟩:=DataW.trod_struct Tryz.underlying67 h
 have hlen:cs.length=3:=hl.trans (by kernel_rfl)
 obtain ⟨c0,t0,rfl,l0⟩:=cons_of_len hlen
 obtain ⟨c1,t1,rfl,l1⟩:=cons_of_len l0
 obtain ⟨c2,t2,rfl,l2⟩:=cons_of_len l1
 obtain rfl:=List.eq_nil_of_length_eq_zero l2
 have e0:DataW.trod enc Tryz.prog w 0 sp hd n 3 [c0]=xs[0]?:=Opn.part hf rfl rfl rfl (k:=1) (by kernel_rfl) rfl
 obtain ⟨a0,h0⟩:=Opn.field (Opn.int Tryz.underlying3) (by rw [hxl];decide) e0
 have e1:DataW.trod enc Tryz.prog w 0 sp hd n 3 [c1]=xs[1]?:=Opn.part hf rfl rfl rfl (k:=1) (by kernel_rfl) rfl
 obtain ⟨a1,h1⟩:=Opn.field (Opn.int Tryz.underlying3) (by rw [hxl];decide) e1
 have e2:DataW.trod enc Tryz.prog w 0 sp hd n 3 [c2]=xs[2]?:=Opn.part hf rfl rfl rfl (k:=1) (by kernel_rfl) rfl
 obtain ⟨a2,h2⟩:=Opn.field (Opn.int Tryz.underlying3) (by rw [hxl];decide) e2
 obtain ⟨q,rh0⟩:=h0;simp only [List.cons.injEq,and_true] at q;subst q
 obtain ⟨q,rh1⟩:=h1;simp only [List.cons.injEq,and_true] at q;subst q
 obtain ⟨q,rh2⟩:=h2;simp only [List.cons.injEq,and_true] at q;subst q
 exact ⟨⟨a0,a1,a2⟩,⟨rfl,rh0,rh1,rh2⟩⟩
set_option maxRecDepth 100000 in
theorem opn_27:Opn Tryz.prog 27 setR:=fun enc w sp hd fuel cs x h=>by
 obtain ⟨xs,n,_,_,hl,hxl,hf⟩:=DataW.trod_struct Tryz.underlying27 h
 have hlen:cs.length=2:=hl.trans (by kernel_rfl)
 obtain ⟨c0,t0,rfl,l0⟩:=cons_of_len hlen
 obtain ⟨c1,t1,rfl,l1⟩:=cons_of_len l0
 obtain rfl:=List.eq_nil_of_length_eq_zero l1
 have e0:DataW.trod enc Tryz.prog w 0 sp hd n 4 [c0]=xs[0]?:=Opn.part hf rfl rfl rfl (k:=1) (by kernel_rfl) rfl
 obtain ⟨a0,h0⟩:=Opn.field (Opn.bool Tryz.underlying4) (by rw [hxl];decide) e0
 have e1:DataW.trod enc Tryz.prog w 0 sp hd n 25 [c1]=xs[1]?:=Opn.part hf rfl rfl rfl (k:=1) (by kernel_rfl) rfl
 obtain ⟨a1,h1⟩:=Opn.field (Opn.list (τ:=mbrR) Tryz.underlying25 (by kernel_rfl) (by decide) opn_67) (by rw [hxl];decide) e1
 have q:=h0;simp only [boolR,List.cons.injEq,and_true] at q;subst q
 obtain ⟨vh1,q,oh1,rh1⟩:=h1;simp only [List.cons.injEq,and_true] at q;subst q
 exact ⟨⟨a0,a1⟩,⟨_,rfl,⟨oh1,rh1⟩⟩⟩
theorem WorldTallies_w (c0:List Value) (x:SetT) (v1:Value) (l:(List OpT)) (I:Gh) (R:List HP) (w:World) (S:Sat w I (R)) (Q0:RoX I v1 opR l) (hx:setR.r I c0 x):Ret Tryz.prog 4 [.agg c0.toArray,v1] w fun v w'=>∃J:Gh,Gh.le I J∧.bool true=v∧Sat w' J (R):=by
 have lq0:=XRow.le (Q0.row S.le)
 obtain ⟨v0,rfl,⟨o0,H0⟩⟩:=hx
 refine ret_E Tryz.func4 rfl Tryz.ntmps4 (by simp) ?_
 refine g2 ?_
 refine yB (cs:=[.bool x.real,v0]) S ?_
 intro b0 w0 S0
 refine g6 ?_
 refine yR (anchor_c _ _ _ S0) ?_
 rintro _ w1 ⟨I0,le0,rfl,S1⟩
 refine vl _ rfl (dcF (r_not rfl) rfl) ?_
 refine g10 ?_
 refine yR (small_c [.bool x.real,v0] x _ _ 60 _ _ _ S1 (Q0.up le0) ⟨v0,rfl,⟨o0,(H0.up le0)⟩⟩) ?_
 rintro _ w2 ⟨r0,rfl,h0,S2⟩
 have hsm:=h0
 refine g3 ?_
 refine EC_cond (t:=!r0) rfl (fun h4=>?_) (fun h4=>?_)
 refine g7 ?_
 refine f1 Tryz.results4 ?_
 exact ⟨I0,le0,rfl,S2.dr0⟩
 have hsz:=hsm (by simpa using h4)
 refine g5 ?_
 refine yS0 S2 ?_
 intro w3 S3
 refine g3 ?_
 rcases hnw:newW x.mems with _ | y
 refine g2 ?_
 refine yR (WNewF_c ([.bool x.real,v0].set 0 (.bool false)) (⟨false,x.mems⟩:SetT) _ _ _ S3 ⟨v0,rfl,⟨o0,(H0.up le0)⟩⟩ rfl hnw) ?_
 rintro _ w4 ⟨I1,le1,rfl,S4⟩
 refine g11 ?_
 refine vl (.bool true) rfl (r_dec (by decide) (r_neq rfl rfl)) ?_
 refine g6 ?_
 refine vl (.bool true) rfl (r_eqnn rfl rfl U29) ?_
 refine g5 ?_
 refine f1 Tryz.results4 ?_
 exact ⟨I1,(lT le0 le1),rfl,S4.dr0⟩
 have hny:=newW_tt hnw
 refine g2 ?_
 refine yR (WNewT_c ([.bool x.real,v0].set 0 (.bool false)) (⟨false,x.mems⟩:SetT) y _ _ _ S3 ⟨v0,rfl,⟨o0,(H0.up le0)⟩⟩ rfl hnw) ?_
 rintro _ w5 ⟨b1,bs0,p0,I2,le2,rfl,S5⟩
 refine g11 ?_
 refine vl (.bool false) rfl (r_dec (by decide) (r_neq rfl rfl)) ?_
 refine g9 ?_
 refine vl _ rfl (r_lenX rfl (Q0.row (lT (lT le0 le2) S5.le)) U22) ?_
 refine g4 ?_
 refine EC_loop (fun m' E' w'=>∃i:Nat,∃L:List Thing,∃W:Wld,∃J:Gh,m'=l.length-i∧E' 31=.int .i64 (i:Int)∧E' 5=ptr b1∧E' 29=v1∧E' 30=.int .i64 (l.length:Int)∧(i≤l.length)∧(TT L)∧(L.length≤12+200*i)∧(W.sent.length≤i)∧Gh.le I2 J∧Sat w' J (WldO (ptr b1) bs0 p0 W::Suite p0 L::Blk b0 27 ([.bool x.real,v0].set 0 (.bool false))::R)) _ ⟨0,y.1,y.2,I2,rfl,rfl,rfl,rfl,rfl,Nat.zero_le _,hny.1,by have:=hny.2.1;omega,(by rw [hny.2.2.1];exact Nat.le_refl _),(Gh.le_refl _),S5⟩ ?_
 rintro _ E0 w6 ⟨i,L,W,I3,rfl,e0,e1,e2,e3,hi,hT,hlL,hsW,le3,S6⟩
 refine g6 ?_
 refine EC_if rfl (fun h5=>?_) (fun h5=>?_)
 refine g6 ?_
 refine vl (ptr (blkOf v1) (offOf v1+((i:Int):Int).toNat*13)) rfl (r_indexX (by exact e2) (Q0.row (lT (lT (lT le0 le2) le3) S6.le)) (by exact e0) (by omega) as' U22 (by kernel_rfl)) ?_
 obtain ⟨a0,ha0⟩:=get_some (l:=l) (j:=((i:Int):Int).toNat) as'
 have hck:=WldO.coks S6
 have hg:=do_grow (W:=W) (L:=L) (o:=a0) hT hck
 obtain ⟨cs0,hc0,he0⟩:=Q0.el ha0
 obtain ⟨v2,v3,v4,v5,rfl,r1,r2,r3,r4,r5,r6,⟨o1,H1⟩,⟨o2,H2⟩,r7,r8,r9,⟨o3,H3⟩,⟨o4,H4⟩⟩:=hc0
 refine vl (.agg ((opRC a0 v2 v3 v4 v5)).toArray) rfl (r_loadR (cs:=(opRC a0 v2 v3 v4 v5)) rfl (he0 _ (lT (lT (lT le0 le2) le3) S6.le)) U38 rfl (by kernel_rfl)) ?_
 refine yN opR0 S6 ?_
 intro b2 w7 S7
 refine yW0 S7 ?_ (h1:=ones_cons rfl (ones_cons rfl (ones_cons rfl (ones_cons rfl (ones_cons rfl (ones_cons rfl (ones_cons o1 (ones_cons o2 (ones_cons rfl (ones_cons rfl (ones_cons rfl (ones_cons o3 (ones_cons o4 ones_nil)))))))))))))
 intro w8 S8
 refine g5 ?_
 refine yR (WTly_c _ _ _ _ _ _ _ S8.fr1) ?_
 rintro _ w9 ⟨x0,y100,I4,le4,rfl,h6,h7,h8,S9⟩
 refine g7 ?_
 refine yR (WDo_c _ _ _ _ _ (opRC a0 v2 v3 v4 v5) a0 _ _ _ S9.fr2.fr1 ⟨v2,v3,v4,v5,rfl,ad,ad,ad,ad,ad,ad,⟨o1,(H1.up (lT (lT (lT le0 le2) le3) le4))⟩,⟨o2,(H2.up (lT (lT (lT le0 le2) le3) le4))⟩,ad,ad,ad,⟨o3,(H3.up (lT (lT (lT le0 le2) le3) le4))⟩,⟨o4,(H4.up (lT (lT (lT le0 le2) le3) le4))⟩⟩ (by omega) (by omega) hT) ?_
 rintro _ w10 ⟨v6,I5,le5,rfl,S10⟩
 have htd:=do_tly (L:=L) (W:=W) (o:=a0)
 refine yN [.int .i64 0,.slice none 0 0] S10 ?_
 intro b3 w11 S11
 refine yW0 S11 ?_ (h1:=ones_cons rfl (ones_cons (own_one (S11.own 1 rfl)) ones_nil))
 intro w12 S12
 refine g5 ?_
 refine yR (WTly_c _ _ _ _ _ _ _ S12.fr2) ?_
 rintro _ w13 ⟨x1,y129,I6,le6,rfl,h9,h10,h11,S13⟩
 refine g19 ?_
 refine EL_gite2 49 rfl rfl rfl (ptr b2 0) rfl (fun g139=>fP 0 rfl U38 (by kernel_rfl)) ?_
 refine EL_gite2 49 rfl rfl rfl (.int .i64 a0.kind) rfl (fun g140=>r_loadA (cond_of g140 rfl) (S13.a4) (u:=(.int .i64 a0.kind)) rfl U3 rfl) ?_
 refine EL_gite2 49 rfl rfl rfl (.bool (decide (a0.kind=2))) rfl (fun g141=>r_eql (cond_of g141 rfl) rfl) ?_
 refine EL_gite 45 rfl rfl rfl (.bool ((decide (a0.kind=1))||(decide (a0.kind=2)))) rfl (fun g142=>r_or (cond_of g142 rfl) rfl (cond_in g142 rfl)) ?_
 refine g3 ?_
 refine EC_cond (t:=(decide (((W.doA L a0).e)=0))&&((decide (a0.kind=1))||(decide (a0.kind=2)))) rfl (fun h12=>?_) (fun h12=>?_)
 have hup:upOf a0 (W.doA L a0)=1:=if_pos (by simpa using h12)
 refine g7 ?_
 refine vl (.float .f64 x1) rfl (r_real rfl) ?_
 refine g1 ?_
 refine vl (.float .f64 x0) rfl (r_real rfl) (vl _ rfl (dcF (r_flss rfl rfl (by assumption) (by assumption)) (by have h1:=htd.re;have h2:=htd.im;have h3:=htd.is;rw [hup] at h2 h3;simp only [decide_eq_false_iff_not];omega)) ?_)
 refine g2 ?_
 refine gl  60 rfl rfl rfl rfl (.float .f64 y129) rfl (r_imag rfl) ?_
 refine g1 ?_
 refine gl  60 rfl rfl rfl rfl (.float .f64 y100) rfl (r_imag rfl) ?_
 refine g1 ?_
 obtain ⟨z0,hz0,Fz0⟩:=fadd (show Fw y100 (csI (tls W.seats)) from (by assumption)) (show Fw 4607182418800017408 ((1:Int)) from (fw_const (x:=4607182418800017408) (n:=1) (by decide +kernel) (by decide))) (by omega)
 refine gl  60 rfl rfl rfl rfl (.float .f64 z0) rfl (r_fadd rfl rfl hz0) (gl 60 rfl rfl rfl rfl _ rfl (dcF (r_fgtr rfl rfl (by assumption) Fz0) (by have h1:=htd.re;have h2:=htd.im;have h3:=htd.is;rw [hup] at h2 h3;simp only [decide_eq_false_iff_not];omega)) ?_)
 refine g3 ?_
 refine gl 69 rfl rfl rfl rfl _ rfl (dcT (r_fgtr rfl rfl (fw_const (x:=4607182418800017408) (n:=1) (by decide +kernel) (by decide)) (fw_const (x:=0) (n:=0) (by decide +kernel) (by decide))) (by decide)) ?_
 refine g2 ?_
 refine gl  72 rfl rfl rfl rfl (.float .f64 y129) rfl (r_imag rfl) ?_
 refine g1 ?_
 refine gl  72 rfl rfl rfl rfl (.float .f64 y100) rfl (r_imag rfl) ?_
 refine g1 ?_
 obtain ⟨z1,hz1,Fz1⟩:=fadd (show Fw y100 (csI (tls W.seats)) from (by assumption)) (show Fw 4607182418800017408 ((1:Int)) from (fw_const (x:=4607182418800017408) (n:=1) (by decide +kernel) (by decide))) (by omega)
 refine gl  72 rfl rfl rfl rfl (.float .f64 z1) rfl (r_fadd rfl rfl hz1) (gl 72 rfl rfl rfl rfl _ rfl (dcF (r_fneq rfl rfl (by assumption) Fz1) (by have h1:=htd.re;have h2:=htd.im;have h3:=htd.is;rw [hup] at h2 h3;simp only [decide_eq_false_iff_not];omega)) ?_)
 refine g2 ?_
 refine gl  80 rfl rfl rfl rfl (.float .f64 x1) rfl (r_real rfl) ?_
 refine g1 ?_
 refine gl  80 rfl rfl rfl rfl (.float .f64 x0) rfl (r_real rfl) (gl 80 rfl rfl rfl rfl _ rfl (dcF (r_fneq rfl rfl (by assumption) (by assumption)) (by have h1:=htd.re;have h2:=htd.im;have h3:=htd.is;rw [hup] at h2 h3;simp only [decide_eq_false_iff_not];omega)) ?_)
 refine g10 ?_
 refine EL_int ((i:Int)+1) rfl (r_addi (by exact e0) rfl (by omega)) ?_
 intro x2 hx150
 refine g3 ?_
 refine ⟨_,?_,i+1,(W.doS L a0).1,((W.doS L a0).2),I6,rfl,(Eq.trans (show _=Value.int .i64 x2 from rfl) (congrArg _ (by omega))),(by exact e1),(by exact e2),(by exact e3),by omega,hg.tt,(by have:=hg.len;omega),(by have:=hg.sent;omega),(lT (lT (lT le3 le4) le5) le6),S13.dr1.dr1.dr2⟩
 first | omega | (simp;omega)
 have hup:upOf a0 (W.doA L a0)=0:=if_neg (fun q=>by have h2:=Bool.eq_false_iff.1 h12;exact h2 (by simpa using q))
 refine g5 ?_
 refine vl (.float .f64 x1) rfl (r_real rfl) ?_
 refine g1 ?_
 refine vl (.float .f64 x0) rfl (r_real rfl) (vl _ rfl (dcF (r_flss rfl rfl (by assumption) (by assumption)) (by have h1:=htd.re;have h2:=htd.im;have h3:=htd.is;rw [hup] at h2 h3;simp only [decide_eq_false_iff_not];omega)) ?_)
 refine g2 ?_
 refine gl  60 rfl rfl rfl rfl (.float .f64 y129) rfl (r_imag rfl) ?_
 refine g1 ?_
 refine gl  60 rfl rfl rfl rfl (.float .f64 y100) rfl (r_imag rfl) ?_
 refine g1 ?_
 obtain ⟨z2,hz2,Fz2⟩:=fadd (show Fw y100 (csI (tls W.seats)) from (by assumption)) (show Fw 0 ((0:Int)) from (fw_const (x:=0) (n:=0) (by decide +kernel) (by decide))) (by omega)
 refine gl  60 rfl rfl rfl rfl (.float .f64 z2) rfl (r_fadd rfl rfl hz2) (gl 60 rfl rfl rfl rfl _ rfl (dcF (r_fgtr rfl rfl (by assumption) Fz2) (by have h1:=htd.re;have h2:=htd.im;have h3:=htd.is;rw [hup] at h2 h3;simp only [decide_eq_false_iff_not];omega)) ?_)
 refine g3 ?_
 refine gl 69 rfl rfl rfl rfl _ rfl (dcF (r_fgtr rfl rfl (fw_const (x:=0) (n:=0) (by decide +kernel) (by decide)) (fw_const (x:=0) (n:=0) (by decide +kernel) (by decide))) (by decide)) ?_
 refine g24 ?_
 refine EL_int ((i:Int)+1) rfl (r_addi (by exact e0) rfl (by omega)) ?_
 intro x3 hx157
 refine g3 ?_
 refine ⟨_,?_,i+1,(W.doS L a0).1,((W.doS L a0).2),I6,rfl,(Eq.trans (show _=Value.int .i64 x3 from rfl) (congrArg _ (by omega))),(by exact e1),(by exact e2),(by exact e3),by omega,hg.tt,(by have:=hg.len;omega),(by have:=hg.sent;omega),(lT (lT (lT le3 le4) le5) le6),S13.dr1.dr1.dr2⟩
 first | omega | (simp;omega)
 refine g11 ?_
 refine f1 Tryz.results4 ?_
 exact ⟨I3,(lT (lT le0 le2) le3),rfl,S6.dr0.dr0.dr0⟩
theorem WorldTallies_c (c0:List Value) (x:SetT) (v1:Value) (l:(List OpT)) (w:World) (H0:setR.r (gh w) c0 x) (H1:RoX (gh w) v1 opR l):Ret Tryz.prog 4 [.agg c0.toArray,v1] w fun v w'=>v=.bool true∧Below w.heap.size w w':=
 (WorldTallies_w c0 x v1 l (gh w) [] w (Sat.start w) H1 H0).mono fun v w' h=>by obtain ⟨J,le,e,S⟩:=h;exact ⟨e.symm,S.fin le⟩
theorem own:ownKnob Tryz.prog.godebug=none:=by kernel_rfl
theorem laidOut:laidOutB Tryz.prog=true:=by kernel_rfl
set_option maxRecDepth 100000 in
theorem lifted (os : Os) (started : os.Started) (H : Type) (enc : TypeId × Value → H) :
    ReturnsInHanded {} Tryz.checked os 4 .any (Rows.worldTalliesSpec.pre6 enc Tryz.prog Tryz.f4 Rows.worldTalliesRow.domain false) (Rows.worldTalliesSpec.post enc Tryz.prog Tryz.f4 false true false false) := by
  refine returnsInHanded_of_change (C := Tryz.checked) own started (by kernel_rfl) Tryz.func4
    (ChangeSpec.witness6 (enc := enc) (C := Tryz.checked) false ⟨#[], #[.agg #[.bool false, .slice none 0 0], .slice none 0 0], []⟩ 8 (by kernel_rfl) (by kernel_rfl) (by kernel_rfl) (by kernel_rfl)) ?_
  intro W base args ds gs before hval0 hW hcnd _
  have hval : ∀ (j : Nat) t v, Tryz.f4.params[j]? = some t → args[j]? = some v → Value.okWide Tryz.prog W .any base t v := hval0
  have hW' := hW
  obtain ⟨p, q, hA0, hV, rfl, hfz, hnd⟩ := hW
  have hA : DataW.TrodAll enc Tryz.prog W 0 (fun _ => true) true Tryz.f4.params.toList args.toList ds p := hA0
  rw [Tryz.params4] at hA hval
  obtain ⟨v0, vs0, d0, ds0, p0, q0, hargs, rfl, rfl, h0, r0⟩ := trodAll_cons hA
  obtain ⟨v1, vs1, d1, ds1, p1, q1, rfl, rfl, rfl, h1, r1⟩ := trodAll_cons r0
  obtain ⟨rfl, rfl, rfl⟩ := trodAll_nil r1
  obtain rfl : args = #[v0, v1] := by cases args; simp_all
  obtain ⟨rfl, rfl⟩ := trodVars_none hV
  have k0 := h0
  have lt0 : ∀ x ∈ p0, x.block < W.heap.size := by obtain ⟨m, hm⟩ := k0; exact DataW.trod_lt m _ _ _ hm
  obtain ⟨a0, rfl, _⟩ := okWide_struct Tryz.underlying27 (hval 0 27 v0 rfl rfl)
  obtain ⟨c0, rfl⟩ : ∃ c : List Value, a0 = c.toArray := ⟨a0.toList, by simp⟩
  obtain ⟨b0, H0⟩ : ∃ b, (setR).r (gh W) c0 b := by obtain ⟨fuel, hf⟩ := h0; exact opn_27 _ W _ _ _ _ _ hf
  have k1 := h1
  have lt1 : ∀ x ∈ p1, x.block < W.heap.size := by obtain ⟨m, hm⟩ := k1; exact DataW.trod_lt m _ _ _ hm
  obtain ⟨a1, len1, cap1, rfl⟩ := okWide_slice Tryz.underlying22 (hval 1 22 v1 rfl rfl)
  obtain ⟨b1, H1⟩ : ∃ l, RoX (gh W) (.slice a1 len1 cap1) opR l := by
    obtain ⟨fuel, hf⟩ := h1
    obtain ⟨l, v, hv, _, H⟩ := (Opn.list (τ := opR) Tryz.underlying22 (by kernel_rfl) (by decide) opn_38) _ W _ _ _ _ _ hf
    simp [Value.cells] at hv
    subst hv
    exact ⟨l, H⟩
  clear hA0 hval0
  refine Calls.mono (WorldTallies_c c0 b0 (.slice a1 len1 cap1) b1 W H0 H1) fun e W' ⟨v', he, hv, bel⟩ => ?_
  subst he
  subst hv
  exact ⟨_, rfl, _, _, _, [], _, [], hW', trodAll_mk1 (shut_bool Tryz.underlying4 _), (trodAll_cons_mk (Below.trod laidOut (by kernel_rfl) (of_decide_eq_true (by kernel_rfl)) k0 bel lt0) (trodAll_cons_mk (Below.trod laidOut (by kernel_rfl) (of_decide_eq_true (by kernel_rfl)) k1 bel lt1) trodAll_mk0)), rfl, bel.frame _, fun h => by cases h⟩
theorem over:Rows.worldTalliesRow.holds Tryz.pinned (OpenSpec.ofChange Rows.worldTalliesSpec):=
 OpenClaim.holds_of_wide 4 Tryz.f4 rfl rfl rfl rfl rfl rfl rfl ⟨rfl,rfl,rfl,rfl,rfl⟩ rfl rfl rfl rfl rfl (by kernel_rfl) Tryz.func4 (by kernel_rfl)
  (of_decide_eq_true (by kernel_rfl)) (by unfold Func.isWrapper;first | (rw [if_pos (by decide +kernel)];kernel_rfl) | (rw [if_neg (by decide +kernel)];exact ⟨rfl,rfl⟩))
  (fun os started H enc _=>lifted os started H enc)
end Go.Proofs.YthddplghlljdbaaGreat.worldTallies
namespace Go.Proofs.YthddplghlljdbaaGreat
theorem WorldTallies_holds:Rows.WorldTalliesSaid:=worldTallies.over
end Go.Proofs.YthddplghlljdbaaGreat
