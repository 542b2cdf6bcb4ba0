/-
  What is sent is only ever added to, one by one, by a step that pushes and that goes well.
  Its conditions: none: whatever the input, in whatever memory.
-/
import Derived.Test.YthddplghlljdbaaGreatRows
import Derived.ProofKit
import Derived.OpenShut
import Derived.ShutString
import Derived.ChangeOld
import Derived.Test.YthddplghlljdbaaGreatQWorldSentLwX
set_option linter.unusedVariables false
set_option linter.unusedSimpArgs false
namespace Go.Proofs.YthddplghlljdbaaGreat.worldSent
open Go.ChangeShapes Go.WideShapes Go.ChangeAt Go.RowKit Go.Ecal
open Go.ChangeMaps (open_string shut_string)
set_option maxRecDepth 100000 in
theorem opn_113:Opn Tryz.prog 113 wrapR:=fun enc w sp hd fuel cs x h=>by
 obtain ⟨xs,n,_,_,hl,hxl,hf⟩:=DataW.trod_struct Tryz.underlying113 h
 have hlen:cs.length=2:=hl.trans (by kernel_rfl)
 obtain ⟨c0,t0,rfl,l0⟩:=cons_of_len hlen
 obtain ⟨c1,t1,rfl,l1⟩:=cons_of_len l0
 obtain rfl:=List.eq_nil_of_length_eq_zero l1
 have e0:DataW.trod enc Tryz.prog w 0 sp hd n 3 [c0]=xs[0]?:=Opn.part hf rfl rfl rfl (k:=1) (by kernel_rfl) rfl
 obtain ⟨a0,h0⟩:=Opn.field (Opn.int Tryz.underlying3) (by rw [hxl];decide) e0
 have e1:DataW.trod enc Tryz.prog w 0 sp hd n 33 [c1]=xs[1]?:=Opn.part hf rfl rfl rfl (k:=1) (by kernel_rfl) rfl
 obtain ⟨a1,h1⟩:=Opn.field (Opn.bytes Tryz.underlying33 Tryz.underlying5 (by kernel_rfl)) (by rw [hxl];decide) e1
 obtain ⟨q,rh0⟩:=h0;simp only [List.cons.injEq,and_true] at q;subst q
 obtain ⟨vh1,q,oh1,rh1⟩:=h1;simp only [List.cons.injEq,and_true] at q;subst q
 exact ⟨⟨a0,a1⟩,⟨_,rfl,rh0,⟨oh1,rh1⟩⟩⟩
set_option maxRecDepth 100000 in
theorem opn_36:Opn Tryz.prog 36 entR:=fun enc w sp hd fuel cs x h=>by
 obtain ⟨xs,n,_,_,hl,hxl,hf⟩:=DataW.trod_struct Tryz.underlying36 h
 have hlen:cs.length=9:=hl.trans (by kernel_rfl)
 obtain ⟨c0,t0,rfl,l0⟩:=cons_of_len hlen
 obtain ⟨c1,t1,rfl,l1⟩:=cons_of_len l0
 obtain ⟨c2,t2,rfl,l2⟩:=cons_of_len l1
 obtain ⟨c3,t3,rfl,l3⟩:=cons_of_len l2
 obtain ⟨c4,t4,rfl,l4⟩:=cons_of_len l3
 obtain ⟨c5,t5,rfl,l5⟩:=cons_of_len l4
 obtain ⟨c6,t6,rfl,l6⟩:=cons_of_len l5
 obtain ⟨c7,t7,rfl,l7⟩:=cons_of_len l6
 obtain ⟨c8,t8,rfl,l8⟩:=cons_of_len l7
 obtain rfl:=List.eq_nil_of_length_eq_zero l8
 have e0:DataW.trod enc Tryz.prog w 0 sp hd n 3 [c0]=xs[0]?:=Opn.part hf rfl rfl rfl (k:=1) (by kernel_rfl) rfl
 obtain ⟨a0,h0⟩:=Opn.field (Opn.int Tryz.underlying3) (by rw [hxl];decide) e0
 have e1:DataW.trod enc Tryz.prog w 0 sp hd n 3 [c1]=xs[1]?:=Opn.part hf rfl rfl rfl (k:=1) (by kernel_rfl) rfl
 obtain ⟨a1,h1⟩:=Opn.field (Opn.int Tryz.underlying3) (by rw [hxl];decide) e1
 have e2:DataW.trod enc Tryz.prog w 0 sp hd n 3 [c2]=xs[2]?:=Opn.part hf rfl rfl rfl (k:=1) (by kernel_rfl) rfl
 obtain ⟨a2,h2⟩:=Opn.field (Opn.int Tryz.underlying3) (by rw [hxl];decide) e2
 have e3:DataW.trod enc Tryz.prog w 0 sp hd n 33 [c3]=xs[3]?:=Opn.part hf rfl rfl rfl (k:=1) (by kernel_rfl) rfl
 obtain ⟨a3,h3⟩:=Opn.field (Opn.bytes Tryz.underlying33 Tryz.underlying5 (by kernel_rfl)) (by rw [hxl];decide) e3
 have e4:DataW.trod enc Tryz.prog w 0 sp hd n 33 [c4]=xs[4]?:=Opn.part hf rfl rfl rfl (k:=1) (by kernel_rfl) rfl
 obtain ⟨a4,h4⟩:=Opn.field (Opn.bytes Tryz.underlying33 Tryz.underlying5 (by kernel_rfl)) (by rw [hxl];decide) e4
 have e5:DataW.trod enc Tryz.prog w 0 sp hd n 3 [c5]=xs[5]?:=Opn.part hf rfl rfl rfl (k:=1) (by kernel_rfl) rfl
 obtain ⟨a5,h5⟩:=Opn.field (Opn.int Tryz.underlying3) (by rw [hxl];decide) e5
 have e6:DataW.trod enc Tryz.prog w 0 sp hd n 3 [c6]=xs[6]?:=Opn.part hf rfl rfl rfl (k:=1) (by kernel_rfl) rfl
 obtain ⟨a6,h6⟩:=Opn.field (Opn.int Tryz.underlying3) (by rw [hxl];decide) e6
 have e7:DataW.trod enc Tryz.prog w 0 sp hd n 3 [c7]=xs[7]?:=Opn.part hf rfl rfl rfl (k:=1) (by kernel_rfl) rfl
 obtain ⟨a7,h7⟩:=Opn.field (Opn.int Tryz.underlying3) (by rw [hxl];decide) e7
 have e8:DataW.trod enc Tryz.prog w 0 sp hd n 34 [c8]=xs[8]?:=Opn.part hf rfl rfl rfl (k:=1) (by kernel_rfl) rfl
 obtain ⟨a8,h8⟩:=Opn.field (Opn.list (τ:=wrapR) Tryz.underlying34 (by kernel_rfl) (by decide) opn_113) (by rw [hxl];decide) e8
 obtain ⟨q,rh0⟩:=h0;simp only [List.cons.injEq,and_true] at q;subst q
 obtain ⟨q,rh1⟩:=h1;simp only [List.cons.injEq,and_true] at q;subst q
 obtain ⟨q,rh2⟩:=h2;simp only [List.cons.injEq,and_true] at q;subst q
 obtain ⟨vh3,q,oh3,rh3⟩:=h3;simp only [List.cons.injEq,and_true] at q;subst q
 obtain ⟨vh4,q,oh4,rh4⟩:=h4;simp only [List.cons.injEq,and_true] at q;subst q
 obtain ⟨q,rh5⟩:=h5;simp only [List.cons.injEq,and_true] at q;subst q
 obtain ⟨q,rh6⟩:=h6;simp only [List.cons.injEq,and_true] at q;subst q
 obtain ⟨q,rh7⟩:=h7;simp only [List.cons.injEq,and_true] at q;subst q
 obtain ⟨vh8,q,oh8,rh8⟩:=h8;simp only [List.cons.injEq,and_true] at q;subst q
 exact ⟨⟨a0,a1,a2,a3,a4,a5,a6,a7,a8⟩,⟨_,_,_,rfl,rh0,rh1,rh2,⟨oh3,rh3⟩,⟨oh4,rh4⟩,rh5,rh6,rh7,⟨oh8,rh8⟩⟩⟩
set_option maxRecDepth 100000 in
theorem opn_38:Opn Tryz.prog 38 opR:=fun enc w sp hd fuel cs x h=>by
 obtain ⟨xs,n,_,_,hl,hxl,hf⟩:=DataW.trod_struct Tryz.underlying38 h
 have hlen:cs.length=13:=hl.trans (by kernel_rfl)
 obtain ⟨c0,t0,rfl,l0⟩:=cons_of_len hlen
 obtain ⟨c1,t1,rfl,l1⟩:=cons_of_len l0
 obtain ⟨c2,t2,rfl,l2⟩:=cons_of_len l1
 obtain ⟨c3,t3,rfl,l3⟩:=cons_of_len l2
 obtain ⟨c4,t4,rfl,l4⟩:=cons_of_len l3
 obtain ⟨c5,t5,rfl,l5⟩:=cons_of_len l4
 obtain ⟨c6,t6,rfl,l6⟩:=cons_of_len l5
 obtain ⟨c7,t7,rfl,l7⟩:=cons_of_len l6
 obtain ⟨c8,t8,rfl,l8⟩:=cons_of_len l7
 obtain ⟨c9,t9,rfl,l9⟩:=cons_of_len l8
 obtain ⟨c10,t10,rfl,l10⟩:=cons_of_len l9
 obtain ⟨c11,t11,rfl,l11⟩:=cons_of_len l10
 obtain ⟨c12,t12,rfl,l12⟩:=cons_of_len l11
 obtain rfl:=List.eq_nil_of_length_eq_zero l12
 have e0:DataW.trod enc Tryz.prog w 0 sp hd n 3 [c0]=xs[0]?:=Opn.part hf rfl rfl rfl (k:=1) (by kernel_rfl) rfl
 obtain ⟨a0,h0⟩:=Opn.field (Opn.int Tryz.underlying3) (by rw [hxl];decide) e0
 have e1:DataW.trod enc Tryz.prog w 0 sp hd n 3 [c1]=xs[1]?:=Opn.part hf rfl rfl rfl (k:=1) (by kernel_rfl) rfl
 obtain ⟨a1,h1⟩:=Opn.field (Opn.int Tryz.underlying3) (by rw [hxl];decide) e1
 have e2:DataW.trod enc Tryz.prog w 0 sp hd n 3 [c2]=xs[2]?:=Opn.part hf rfl rfl rfl (k:=1) (by kernel_rfl) rfl
 obtain ⟨a2,h2⟩:=Opn.field (Opn.int Tryz.underlying3) (by rw [hxl];decide) e2
 have e3:DataW.trod enc Tryz.prog w 0 sp hd n 36 [c3,c4,c5,c6,c7,c8,c9,c10,c11]=xs[3]?:=Opn.part hf rfl rfl rfl (k:=9) (by kernel_rfl) rfl
 obtain ⟨a3,h3⟩:=Opn.field opn_36 (by rw [hxl];decide) e3
 have e4:DataW.trod enc Tryz.prog w 0 sp hd n 33 [c12]=xs[4]?:=Opn.part hf rfl rfl rfl (k:=1) (by kernel_rfl) rfl
 obtain ⟨a4,h4⟩:=Opn.field (Opn.bytes Tryz.underlying33 Tryz.underlying5 (by kernel_rfl)) (by rw [hxl];decide) e4
 obtain ⟨q,rh0⟩:=h0;simp only [List.cons.injEq,and_true] at q;subst q
 obtain ⟨q,rh1⟩:=h1;simp only [List.cons.injEq,and_true] at q;subst q
 obtain ⟨q,rh2⟩:=h2;simp only [List.cons.injEq,and_true] at q;subst q
 obtain ⟨wh3_3,wh3_4,wh3_8,q,ph3_0,ph3_1,ph3_2,ph3_3,ph3_4,ph3_5,ph3_6,ph3_7,ph3_8⟩:=h3;simp only [List.cons.injEq,and_true] at q;obtain ⟨rfl,rfl,rfl,rfl,rfl,rfl,rfl,rfl,rfl⟩:=q
 obtain ⟨vh4,q,oh4,rh4⟩:=h4;simp only [List.cons.injEq,and_true] at q;subst q
 exact ⟨⟨a0,a1,a2,a3,a4⟩,⟨_,_,_,_,rfl,rh0,rh1,rh2,ph3_0,ph3_1,ph3_2,ph3_3,ph3_4,ph3_5,ph3_6,ph3_7,ph3_8,⟨oh4,rh4⟩⟩⟩
set_option maxRecDepth 100000 in
theorem opn_67:Opn Tryz.prog 67 mbrR:=fun enc w sp hd fuel cs x h=>by
 obtain ⟨xs,n,_,_,hl,hxl,hf⟩:=DataW.trod_struct Tryz.underlying67 h
 have hlen:cs.length=3:=hl.trans (by kernel_rfl)
 obtain ⟨c0,t0,rfl,l0⟩:=cons_of_len hlen
 obtain ⟨c1,t1,rfl,l1⟩:=cons_of_len l0
 obtain ⟨c2,t2,rfl,l2⟩:=cons_of_len l1
 obtain rfl:=List.eq_nil_of_length_eq_zero l2
 have e0:DataW.trod enc Tryz.prog w 0 sp hd n 3 [c0]=xs[0]?:=Opn.part hf rfl rfl rfl (k:=1) (by kernel_rfl) rfl
 obtain ⟨a0,h0⟩:=Opn.field (Opn.int Tryz.underlying3) (by rw [hxl];decide) e0
 have e1:DataW.trod enc Tryz.prog w 0 sp hd n 3 [c1]=xs[1]?:=Opn.part hf rfl rfl rfl (k:=1) (by kernel_rfl) rfl
 obtain ⟨a1,h1⟩:=Opn.field (Opn.int Tryz.underlying3) (by rw [hxl];decide) e1
 have e2:DataW.trod enc Tryz.prog w 0 sp hd n 3 [c2]=xs[2]?:=Opn.part hf rfl rfl rfl (k:=1) (by kernel_rfl) rfl
 obtain ⟨a2,h2⟩:=Opn.field (Opn.int Tryz.underlying3) (by rw [hxl];decide) e2
 obtain ⟨q,rh0⟩:=h0;simp only [List.cons.injEq,and_true] at q;subst q
 obtain ⟨q,rh1⟩:=h1;simp only [List.cons.injEq,and_true] at q;subst q
 obtain ⟨q,rh2⟩:=h2;simp only [List.cons.injEq,and_true] at q;subst q
 exact ⟨⟨a0,a1,a2⟩,⟨rfl,rh0,rh1,rh2⟩⟩
set_option maxRecDepth 100000 in
theorem opn_27:Opn Tryz.prog 27 setR:=fun enc w sp hd fuel cs x h=>by
 obtain ⟨xs,n,_,_,hl,hxl,hf⟩:=DataW.trod_struct Tryz.underlying27 h
 have hlen:cs.length=2:=hl.trans (by kernel_rfl)
 obtain ⟨c0,t0,rfl,l0⟩:=cons_of_len hlen
 obtain ⟨c1,t1,rfl,l1⟩:=cons_of_len l0
 obtain rfl:=List.eq_nil_of_length_eq_zero l1
 have e0:DataW.trod enc Tryz.prog w 0 sp hd n 4 [c0]=xs[0]?:=Opn.part hf rfl rfl rfl (k:=1) (by kernel_rfl) rfl
 obtain ⟨a0,h0⟩:=Opn.field (Opn.bool Tryz.underlying4) (by rw [hxl];decide) e0
 have e1:DataW.trod enc Tryz.prog w 0 sp hd n 25 [c1]=xs[1]?:=Opn.part hf rfl rfl rfl (k:=1) (by kernel_rfl) rfl
 obtain ⟨a1,h1⟩:=Opn.field (Opn.list (τ:=mbrR) Tryz.underlying25 (by kernel_rfl) (by decide) opn_67) (by rw [hxl];decide) e1
 have q:=h0;simp only [boolR,List.cons.injEq,and_true] at q;subst q
 obtain ⟨vh1,q,oh1,rh1⟩:=h1;simp only [List.cons.injEq,and_true] at q;subst q
 exact ⟨⟨a0,a1⟩,⟨_,rfl,⟨oh1,rh1⟩⟩⟩
theorem WorldSent_w (c0:List Value) (x:SetT) (v1:Value) (l:(List OpT)) (I:Gh) (R:List HP) (w:World) (S:Sat w I (R)) (Q0:RoX I v1 opR l) (hx:setR.r I c0 x):Ret Tryz.prog 5 [.agg c0.toArray,v1] w fun v w'=>∃J:Gh,Gh.le I J∧.bool true=v∧Sat w' J (R):=by
 have lq0:=XRow.le (Q0.row S.le)
 obtain ⟨v0,rfl,⟨o0,H0⟩⟩:=hx
 refine ret_E Tryz.func5 rfl Tryz.ntmps5 (by simp) ?_
 refine g2 ?_
 refine yB (cs:=[.bool x.real,v0]) S ?_
 intro b0 w0 S0
 refine g6 ?_
 refine yR (anchor_c _ _ _ S0) ?_
 rintro _ w1 ⟨I0,le0,rfl,S1⟩
 refine vl _ rfl (dcF (r_not rfl) rfl) ?_
 refine g10 ?_
 refine yR (small_c [.bool x.real,v0] x _ _ 60 _ _ _ S1 (Q0.up le0) ⟨v0,rfl,⟨o0,(H0.up le0)⟩⟩) ?_
 rintro _ w2 ⟨r0,rfl,h0,S2⟩
 have hsm:=h0
 refine g3 ?_
 refine EC_cond (t:=!r0) rfl (fun h2=>?_) (fun h2=>?_)
 refine g7 ?_
 refine f1 Tryz.results5 ?_
 exact ⟨I0,le0,rfl,S2.dr0⟩
 have hsz:=hsm (by simpa using h2)
 refine g5 ?_
 refine yS0 S2 ?_
 intro w3 S3
 refine g3 ?_
 rcases hnw:newW x.mems with _ | y
 refine g2 ?_
 refine yR (WNewF_c ([.bool x.real,v0].set 0 (.bool false)) (⟨false,x.mems⟩:SetT) _ _ _ S3 ⟨v0,rfl,⟨o0,(H0.up le0)⟩⟩ rfl hnw) ?_
 rintro _ w4 ⟨I1,le1,rfl,S4⟩
 refine g11 ?_
 refine vl (.bool true) rfl (r_dec (by decide) (r_neq rfl rfl)) ?_
 refine g6 ?_
 refine vl (.bool true) rfl (r_eqnn rfl rfl U29) ?_
 refine g5 ?_
 refine f1 Tryz.results5 ?_
 exact ⟨I1,(lT le0 le1),rfl,S4.dr0⟩
 have hny:=newW_tt hnw
 refine g2 ?_
 refine yR (WNewT_c ([.bool x.real,v0].set 0 (.bool false)) (⟨false,x.mems⟩:SetT) y _ _ _ S3 ⟨v0,rfl,⟨o0,(H0.up le0)⟩⟩ rfl hnw) ?_
 rintro _ w5 ⟨b1,bs0,p0,I2,le2,rfl,S5⟩
 refine g11 ?_
 refine vl (.bool false) rfl (r_dec (by decide) (r_neq rfl rfl)) ?_
 refine g9 ?_
 refine vl _ rfl (r_lenX rfl (Q0.row (lT (lT le0 le2) S5.le)) U22) ?_
 refine g4 ?_
 refine EC_loop (fun m' E' w'=>∃i:Nat,∃L:List Thing,∃W:Wld,∃J:Gh,m'=l.length-i∧E' 31=.int .i64 (i:Int)∧E' 5=ptr b1∧E' 29=v1∧E' 30=.int .i64 (l.length:Int)∧(i≤l.length)∧(TT L)∧(L.length≤12+200*i)∧(W.sent.length≤i)∧Gh.le I2 J∧Sat w' J (WldO (ptr b1) bs0 p0 W::Suite p0 L::Blk b0 27 ([.bool x.real,v0].set 0 (.bool false))::R)) _ ⟨0,y.1,y.2,I2,rfl,rfl,rfl,rfl,rfl,Nat.zero_le _,hny.1,by have:=hny.2.1;omega,(by rw [hny.2.2.1];exact Nat.le_refl _),(Gh.le_refl _),S5⟩ ?_
 rintro _ E0 w6 ⟨i,L,W,I3,rfl,e0,e1,e2,e3,hi,hT,hlL,hsW,le3,S6⟩
 refine g6 ?_
 refine EC_if rfl (fun h3=>?_) (fun h3=>?_)
 refine g6 ?_
 refine vl (ptr (blkOf v1) (offOf v1+((i:Int):Int).toNat*13)) rfl (r_indexX (by exact e2) (Q0.row (lT (lT (lT le0 le2) le3) S6.le)) (by exact e0) (by omega) as' U22 (by kernel_rfl)) ?_
 obtain ⟨a0,ha0⟩:=get_some (l:=l) (j:=((i:Int):Int).toNat) as'
 have hck:=WldO.coks S6
 have hg:=do_grow (W:=W) (L:=L) (o:=a0) hT hck
 obtain ⟨cs0,hc0,he0⟩:=Q0.el ha0
 obtain ⟨v2,v3,v4,v5,rfl,r1,r2,r3,r4,r5,r6,⟨o1,H1⟩,⟨o2,H2⟩,r7,r8,r9,⟨o3,H3⟩,⟨o4,H4⟩⟩:=hc0
 refine vl (.agg ((opRC a0 v2 v3 v4 v5)).toArray) rfl (r_loadR (cs:=(opRC a0 v2 v3 v4 v5)) rfl (he0 _ (lT (lT (lT le0 le2) le3) S6.le)) U38 rfl (by kernel_rfl)) ?_
 refine yN opR0 S6 ?_
 intro b2 w7 S7
 refine yW0 S7 ?_ (h1:=ones_cons rfl (ones_cons rfl (ones_cons rfl (ones_cons rfl (ones_cons rfl (ones_cons rfl (ones_cons o1 (ones_cons o2 (ones_cons rfl (ones_cons rfl (ones_cons rfl (ones_cons o3 (ones_cons o4 ones_nil)))))))))))))
 intro w8 S8
 refine g5 ?_
 refine yR (WSent_c _ _ _ _ _ _ _ S8.fr1 (by omega)) ?_
 rintro _ w9 ⟨v6,I4,le4,rfl,S9⟩
 refine g7 ?_
 refine yR (WDo_c _ _ _ _ _ (opRC a0 v2 v3 v4 v5) a0 _ _ _ S9.fr3.fr2 ⟨v2,v3,v4,v5,rfl,ad,ad,ad,ad,ad,ad,⟨o1,(H1.up (lT (lT (lT le0 le2) le3) le4))⟩,⟨o2,(H2.up (lT (lT (lT le0 le2) le3) le4))⟩,ad,ad,ad,⟨o3,(H3.up (lT (lT (lT le0 le2) le3) le4))⟩,⟨o4,(H4.up (lT (lT (lT le0 le2) le3) le4))⟩⟩ (by omega) (by omega) hT) ?_
 rintro _ w10 ⟨v7,I5,le5,rfl,S10⟩
 obtain ⟨xs,hx1,hx2,hx3⟩:=sent_cases (do_sent (L:=L) (W:=W) (o:=a0))
 refine yN [.int .i64 0,.slice none 0 0] S10 ?_
 intro b3 w11 S11
 refine yW0 S11 ?_ (h1:=ones_cons rfl (ones_cons (own_one (S11.own 1 rfl)) ones_nil))
 intro w12 S12
 refine g5 ?_
 refine yR (WSent_c _ _ _ _ _ _ _ S12.fr2 (by omega)) ?_
 rintro _ w13 ⟨v8,I6,le6,rfl,S13⟩
 refine g6 ?_
 refine vl _ rfl (r_lenX rfl (OwnX.row S13 0 rfl (by decide)).1 U52) ?_
 refine g1 ?_
 refine vl _ rfl (r_lenX rfl (OwnX.row S13 5 rfl (by decide)).1 U52) ?_
 refine EL_int (((((W.doS L a0).2).sent).length:Int)-(W.sent.length:Int)) rfl (r_subi rfl rfl (by omega)) ?_
 intro x0 hx127
 refine g4 ?_
 rcases hx3 with hc | hc | hc
 refine g2 ?_
 refine vl _ rfl (dcF (r_lss rfl rfl) (by simp;omega)) ?_
 refine g2 ?_
 refine gl 49 rfl rfl rfl rfl _ rfl (dcF (r_gtr rfl rfl) (by simp;omega)) ?_
 refine g3 ?_
 refine gl 53 rfl rfl rfl rfl _ rfl (dcF (r_eql rfl rfl) (by simp;omega)) ?_
 refine g19 ?_
 refine gl 72 rfl rfl rfl rfl _ rfl (r_lenX rfl (OwnX.row S13 5 rfl (by decide)).1 U52) ?_
 have oH131:=(OwnX.one S13 0 rfl (by decide))
 obtain ⟨I7,le7,S14,H5⟩:=S13.fx0 (by decide)
 refine gl  72 rfl rfl rfl rfl (cutW v8 1 0 W.sent.length) rfl (r_sliceX rfl (H5.row S14.le) U52 (by kernel_rfl) 0 W.sent.length as' as' (.inl ⟨rfl,rfl⟩) (.inr ⟨_,_,rfl,rfl⟩)) ?_
 have H6:RoX I7 (cutW v8 1 0 W.sent.length) bytesR ((((W.doS L a0).2).sent).take W.sent.length):=rox_as (H5.cut 0 W.sent.length as' as') (by simp)
 refine g1 ?_
 have oH136:=(OwnX.one S14 4 rfl (by decide))
 obtain ⟨I8,le8,S15,H7⟩:=S14.fx4 (by decide)
 refine yG (LwSame_c _ _ _ _ _ _ _ S15 (H6.up le8) H7) ?_
 rintro _ w14 ⟨rfl,S16⟩
 refine gl 72 rfl rfl rfl rfl _ rfl (nF rfl (by rw [hx1];simp)) ?_
 refine g8 ?_
 refine EL_int ((i:Int)+1) rfl (r_addi (by exact e0) rfl (by omega)) ?_
 intro x1 hx139
 refine g3 ?_
 refine ⟨_,?_,i+1,(W.doS L a0).1,((W.doS L a0).2),I8,rfl,(Eq.trans (show _=Value.int .i64 x1 from rfl) (congrArg _ (by omega))),(by exact e1),(by exact e2),(by exact e3),by omega,hg.tt,(by have:=hg.len;omega),(by have:=hg.sent;omega),(lT (lT (lT (lT (lT le3 le4) le5) le6) le7) le8),S16.dr1.dr1.dr2⟩
 first | omega | (simp;omega)
 refine g2 ?_
 refine vl _ rfl (dcF (r_lss rfl rfl) (by simp;omega)) ?_
 refine g2 ?_
 refine gl 49 rfl rfl rfl rfl _ rfl (dcF (r_gtr rfl rfl) (by simp;omega)) ?_
 refine g3 ?_
 refine gl 53 rfl rfl rfl rfl _ rfl (dcT (r_eql rfl rfl) (by simp;omega)) ?_
 refine g3 ?_
 refine gl 56 rfl rfl rfl rfl _ rfl (dcF (r_neq rfl rfl) (by simp [hc.2.1])) ?_
 refine g3 ?_
 refine gl 60 rfl rfl rfl rfl _ rfl (dcF (r_neq rfl rfl) (by simp [hc.2.2])) ?_
 refine g11 ?_
 refine gl 72 rfl rfl rfl rfl _ rfl (r_lenX rfl (OwnX.row S13 5 rfl (by decide)).1 U52) ?_
 have oH146:=(OwnX.one S13 0 rfl (by decide))
 obtain ⟨I9,le9,S17,H8⟩:=S13.fx0 (by decide)
 refine gl  72 rfl rfl rfl rfl (cutW v8 1 0 W.sent.length) rfl (r_sliceX rfl (H8.row S17.le) U52 (by kernel_rfl) 0 W.sent.length as' as' (.inl ⟨rfl,rfl⟩) (.inr ⟨_,_,rfl,rfl⟩)) ?_
 have H9:RoX I9 (cutW v8 1 0 W.sent.length) bytesR ((((W.doS L a0).2).sent).take W.sent.length):=rox_as (H8.cut 0 W.sent.length as' as') (by simp)
 refine g1 ?_
 have oH151:=(OwnX.one S17 4 rfl (by decide))
 obtain ⟨I10,le10,S18,H10⟩:=S17.fx4 (by decide)
 refine yG (LwSame_c _ _ _ _ _ _ _ S18 (H9.up le10) H10) ?_
 rintro _ w15 ⟨rfl,S19⟩
 refine gl 72 rfl rfl rfl rfl _ rfl (nF rfl (by rw [hx1];simp)) ?_
 refine g8 ?_
 refine EL_int ((i:Int)+1) rfl (r_addi (by exact e0) rfl (by omega)) ?_
 intro x2 hx154
 refine g3 ?_
 refine ⟨_,?_,i+1,(W.doS L a0).1,((W.doS L a0).2),I10,rfl,(Eq.trans (show _=Value.int .i64 x2 from rfl) (congrArg _ (by omega))),(by exact e1),(by exact e2),(by exact e3),by omega,hg.tt,(by have:=hg.len;omega),(by have:=hg.sent;omega),(lT (lT (lT (lT (lT le3 le4) le5) le6) le9) le10),S19.dr1.dr1.dr2⟩
 first | omega | (simp;omega)
 refine g2 ?_
 refine vl _ rfl (dcF (r_lss rfl rfl) (by simp;omega)) ?_
 refine g2 ?_
 refine gl 49 rfl rfl rfl rfl _ rfl (dcF (r_gtr rfl rfl) (by simp;omega)) ?_
 refine g3 ?_
 refine gl 53 rfl rfl rfl rfl _ rfl (dcT (r_eql rfl rfl) (by simp;omega)) ?_
 refine g3 ?_
 refine gl 56 rfl rfl rfl rfl _ rfl (dcF (r_neq rfl rfl) (by simp [hc.2.1])) ?_
 refine g3 ?_
 refine gl 60 rfl rfl rfl rfl _ rfl (dcT (r_neq rfl rfl) (by simp [hc.2.2])) ?_
 refine g3 ?_
 refine gl 64 rfl rfl rfl rfl _ rfl (dcF (r_neq rfl rfl) (by simp [hc.2.2])) ?_
 refine g7 ?_
 refine gl 72 rfl rfl rfl rfl _ rfl (r_lenX rfl (OwnX.row S13 5 rfl (by decide)).1 U52) ?_
 have oH161:=(OwnX.one S13 0 rfl (by decide))
 obtain ⟨I11,le11,S20,H11⟩:=S13.fx0 (by decide)
 refine gl  72 rfl rfl rfl rfl (cutW v8 1 0 W.sent.length) rfl (r_sliceX rfl (H11.row S20.le) U52 (by kernel_rfl) 0 W.sent.length as' as' (.inl ⟨rfl,rfl⟩) (.inr ⟨_,_,rfl,rfl⟩)) ?_
 have H12:RoX I11 (cutW v8 1 0 W.sent.length) bytesR ((((W.doS L a0).2).sent).take W.sent.length):=rox_as (H11.cut 0 W.sent.length as' as') (by simp)
 refine g1 ?_
 have oH166:=(OwnX.one S20 4 rfl (by decide))
 obtain ⟨I12,le12,S21,H13⟩:=S20.fx4 (by decide)
 refine yG (LwSame_c _ _ _ _ _ _ _ S21 (H12.up le12) H13) ?_
 rintro _ w16 ⟨rfl,S22⟩
 refine gl 72 rfl rfl rfl rfl _ rfl (nF rfl (by rw [hx1];simp)) ?_
 refine g8 ?_
 refine EL_int ((i:Int)+1) rfl (r_addi (by exact e0) rfl (by omega)) ?_
 intro x3 hx169
 refine g3 ?_
 refine ⟨_,?_,i+1,(W.doS L a0).1,((W.doS L a0).2),I12,rfl,(Eq.trans (show _=Value.int .i64 x3 from rfl) (congrArg _ (by omega))),(by exact e1),(by exact e2),(by exact e3),by omega,hg.tt,(by have:=hg.len;omega),(by have:=hg.sent;omega),(lT (lT (lT (lT (lT le3 le4) le5) le6) le11) le12),S22.dr1.dr1.dr2⟩
 first | omega | (simp;omega)
 refine g11 ?_
 refine f1 Tryz.results5 ?_
 exact ⟨I3,(lT (lT le0 le2) le3),rfl,S6.dr0.dr0.dr0⟩
theorem WorldSent_c (c0:List Value) (x:SetT) (v1:Value) (l:(List OpT)) (w:World) (H0:setR.r (gh w) c0 x) (H1:RoX (gh w) v1 opR l):Ret Tryz.prog 5 [.agg c0.toArray,v1] w fun v w'=>v=.bool true∧Below w.heap.size w w':=
 (WorldSent_w c0 x v1 l (gh w) [] w (Sat.start w) H1 H0).mono fun v w' h=>by obtain ⟨J,le,e,S⟩:=h;exact ⟨e.symm,S.fin le⟩
theorem own:ownKnob Tryz.prog.godebug=none:=by kernel_rfl
theorem laidOut:laidOutB Tryz.prog=true:=by kernel_rfl
set_option maxRecDepth 100000 in
theorem lifted (os : Os) (started : os.Started) (H : Type) (enc : TypeId × Value → H) :
    ReturnsInHanded {} Tryz.checked os 5 .any (Rows.worldSentSpec.pre6 enc Tryz.prog Tryz.f5 Rows.worldSentRow.domain false) (Rows.worldSentSpec.post enc Tryz.prog Tryz.f5 false true false false) := by
  refine returnsInHanded_of_change (C := Tryz.checked) own started (by kernel_rfl) Tryz.func5
    (ChangeSpec.witness6 (enc := enc) (C := Tryz.checked) false ⟨#[], #[.agg #[.bool false, .slice none 0 0], .slice none 0 0], []⟩ 8 (by kernel_rfl) (by kernel_rfl) (by kernel_rfl) (by kernel_rfl)) ?_
  intro W base args ds gs before hval0 hW hcnd _
  have hval : ∀ (j : Nat) t v, Tryz.f5.params[j]? = some t → args[j]? = some v → Value.okWide Tryz.prog W .any base t v := hval0
  have hW' := hW
  obtain ⟨p, q, hA0, hV, rfl, hfz, hnd⟩ := hW
  have hA : DataW.TrodAll enc Tryz.prog W 0 (fun _ => true) true Tryz.f5.params.toList args.toList ds p := hA0
  rw [Tryz.params5] at hA hval
  obtain ⟨v0, vs0, d0, ds0, p0, q0, hargs, rfl, rfl, h0, r0⟩ := trodAll_cons hA
  obtain ⟨v1, vs1, d1, ds1, p1, q1, rfl, rfl, rfl, h1, r1⟩ := trodAll_cons r0
  obtain ⟨rfl, rfl, rfl⟩ := trodAll_nil r1
  obtain rfl : args = #[v0, v1] := by cases args; simp_all
  obtain ⟨rfl, rfl⟩ := trodVars_none hV
  have k0 := h0
  have lt0 : ∀ x ∈ p0, x.block < W.heap.size := by obtain ⟨m, hm⟩ := k0; exact DataW.trod_lt m _ _ _ hm
  obtain ⟨a0, rfl, _⟩ := okWide_struct Tryz.underlying27 (hval 0 27 v0 rfl rfl)
  obtain ⟨c0, rfl⟩ : ∃ c : List Value, a0 = c.toArray := ⟨a0.toList, by simp⟩
  obtain ⟨b0, H0⟩ : ∃ b, (setR).r (gh W) c0 b := by obtain ⟨fuel, hf⟩ := h0; exact opn_27 _ W _ _ _ _ _ hf
  have k1 := h1
  have lt1 : ∀ x ∈ p1, x.block < W.heap.size := by obtain ⟨m, hm⟩ := k1; exact DataW.trod_lt m _ _ _ hm
  obtain ⟨a1, len1, cap1, rfl⟩ := okWide_slice Tryz.underlying22 (hval 1 22 v1 rfl rfl)
  obtain ⟨b1, H1⟩ : ∃ l, RoX (gh W) (.slice a1 len1 cap1) opR l := by
    obtain ⟨fuel, hf⟩ := h1
    obtain ⟨l, v, hv, _, H⟩ := (Opn.list (τ := opR) Tryz.underlying22 (by kernel_rfl) (by decide) opn_38) _ W _ _ _ _ _ hf
    simp [Value.cells] at hv
    subst hv
    exact ⟨l, H⟩
  clear hA0 hval0
  refine Calls.mono (WorldSent_c c0 b0 (.slice a1 len1 cap1) b1 W H0 H1) fun e W' ⟨v', he, hv, bel⟩ => ?_
  subst he
  subst hv
  exact ⟨_, rfl, _, _, _, [], _, [], hW', trodAll_mk1 (shut_bool Tryz.underlying4 _), (trodAll_cons_mk (Below.trod laidOut (by kernel_rfl) (of_decide_eq_true (by kernel_rfl)) k0 bel lt0) (trodAll_cons_mk (Below.trod laidOut (by kernel_rfl) (of_decide_eq_true (by kernel_rfl)) k1 bel lt1) trodAll_mk0)), rfl, bel.frame _, fun h => by cases h⟩
theorem over:Rows.worldSentRow.holds Tryz.pinned (OpenSpec.ofChange Rows.worldSentSpec):=
 OpenClaim.holds_of_wide 5 Tryz.f5 rfl rfl rfl rfl rfl rfl rfl ⟨rfl,rfl,rfl,rfl,rfl⟩ rfl rfl rfl rfl rfl (by kernel_rfl) Tryz.func5 (by kernel_rfl)
  (of_decide_eq_true (by kernel_rfl)) (by unfold Func.isWrapper;first | (rw [if_pos (by decide +kernel)];kernel_rfl) | (rw [if_neg (by decide +kernel)];exact ⟨rfl,rfl⟩))
  (fun os started H enc _=>lifted os started H enc)
end Go.Proofs.YthddplghlljdbaaGreat.worldSent
namespace Go.Proofs.YthddplghlljdbaaGreat
theorem WorldSent_holds:Rows.WorldSentSaid:=worldSent.over
end Go.Proofs.YthddplghlljdbaaGreat
