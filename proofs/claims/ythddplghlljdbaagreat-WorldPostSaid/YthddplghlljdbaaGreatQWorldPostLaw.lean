/-
  What lies at the post is what lay there, but for what the step takes or doubles, and at most one more at the end.
  Its conditions: none: whatever the input, in whatever memory.
-/
import Derived.Test.YthddplghlljdbaaGreatRows
import Derived.ProofKit
import Derived.OpenShut
import Derived.ShutString
import Derived.ChangeOld
import Derived.Test.YthddplghlljdbaaGreatQWorldPostLwY
set_option linter.unusedVariables false
set_option linter.unusedSimpArgs false
set_option maxHeartbeats 1000000
namespace Go.Proofs.YthddplghlljdbaaGreat.worldPost
open Go.ChangeShapes Go.WideShapes Go.ChangeAt Go.RowKit Go.Ecal
open Go.ChangeMaps (open_string shut_string)
set_option maxRecDepth 100000 in
theorem opn_113:Opn Tryz.prog 113 wrapR:=fun enc w sp hd fuel cs x h=>by
 obtain ⟨xs,n,_,_,hl,hxl,hf⟩:=DataW.trod_struct Tryz.underlying113 h
 have hlen:cs.length=2:=hl.trans (by kernel_rfl)
 obtain ⟨c0,t0,rfl,l0⟩:=cons_of_len hlen
 obtain ⟨c1,t1,rfl,l1⟩:=cons_of_len l0
 obtain rfl:=List.eq_nil_of_length_eq_zero l1
 have e0:DataW.trod enc Tryz.prog w 0 sp hd n 3 [c0]=xs[0]?:=Opn.part hf rfl rfl rfl (k:=1) (by kernel_rfl) rfl
 obtain ⟨a0,h0⟩:=Opn.field (Opn.int Tryz.underlying3) (by rw [hxl];decide) e0
 have e1:DataW.trod enc Tryz.prog w 0 sp hd n 33 [c1]=xs[1]?:=Opn.part hf rfl rfl rfl (k:=1) (by kernel_rfl) rfl
 obtain ⟨a1,h1⟩:=Opn.field (Opn.bytes Tryz.underlying33 Tryz.underlying5 (by kernel_rfl)) (by rw [hxl];decide) e1
 obtain ⟨q,rh0⟩:=h0;simp only [List.cons.injEq,and_true] at q;subst q
 obtain ⟨vh1,q,oh1,rh1⟩:=h1;simp only [List.cons.injEq,and_true] at q;subst q
 exact ⟨⟨a0,a1⟩,⟨_,rfl,rh0,⟨oh1,rh1⟩⟩⟩
set_option maxRecDepth 100000 in
theorem opn_36:Opn Tryz.prog 36 entR:=fun enc w sp hd fuel cs x h=>by
 obtain ⟨xs,n,_,_,hl,hxl,hf⟩:=DataW.trod_struct Tryz.underlying36 h
 have hlen:cs.length=9:=hl.trans (by kernel_rfl)
 obtain ⟨c0,t0,rfl,l0⟩:=cons_of_len hlen
 obtain ⟨c1,t1,rfl,l1⟩:=cons_of_len l0
 obtain ⟨c2,t2,rfl,l2⟩:=cons_of_len l1
 obtain ⟨c3,t3,rfl,l3⟩:=cons_of_len l2
 obtain ⟨c4,t4,rfl,l4⟩:=cons_of_len l3
 obtain ⟨c5,t5,rfl,l5⟩:=cons_of_len l4
 obtain ⟨c6,t6,rfl,l6⟩:=cons_of_len l5
 obtain ⟨c7,t7,rfl,l7⟩:=cons_of_len l6
 obtain ⟨c8,t8,rfl,l8⟩:=cons_of_len l7
 obtain rfl:=List.eq_nil_of_length_eq_zero l8
 have e0:DataW.trod enc Tryz.prog w 0 sp hd n 3 [c0]=xs[0]?:=Opn.part hf rfl rfl rfl (k:=1) (by kernel_rfl) rfl
 obtain ⟨a0,h0⟩:=Opn.field (Opn.int Tryz.underlying3) (by rw [hxl];decide) e0
 have e1:DataW.trod enc Tryz.prog w 0 sp hd n 3 [c1]=xs[1]?:=Opn.part hf rfl rfl rfl (k:=1) (by kernel_rfl) rfl
 obtain ⟨a1,h1⟩:=Opn.field (Opn.int Tryz.underlying3) (by rw [hxl];decide) e1
 have e2:DataW.trod enc Tryz.prog w 0 sp hd n 3 [c2]=xs[2]?:=Opn.part hf rfl rfl rfl (k:=1) (by kernel_rfl) rfl
 obtain ⟨a2,h2⟩:=Opn.field (Opn.int Tryz.underlying3) (by rw [hxl];decide) e2
 have e3:DataW.trod enc Tryz.prog w 0 sp hd n 33 [c3]=xs[3]?:=Opn.part hf rfl rfl rfl (k:=1) (by kernel_rfl) rfl
 obtain ⟨a3,h3⟩:=Opn.field (Opn.bytes Tryz.underlying33 Tryz.underlying5 (by kernel_rfl)) (by rw [hxl];decide) e3
 have e4:DataW.trod enc Tryz.prog w 0 sp hd n 33 [c4]=xs[4]?:=Opn.part hf rfl rfl rfl (k:=1) (by kernel_rfl) rfl
 obtain ⟨a4,h4⟩:=Opn.field (Opn.bytes Tryz.underlying33 Tryz.underlying5 (by kernel_rfl)) (by rw [hxl];decide) e4
 have e5:DataW.trod enc Tryz.prog w 0 sp hd n 3 [c5]=xs[5]?:=Opn.part hf rfl rfl rfl (k:=1) (by kernel_rfl) rfl
 obtain ⟨a5,h5⟩:=Opn.field (Opn.int Tryz.underlying3) (by rw [hxl];decide) e5
 have e6:DataW.trod enc Tryz.prog w 0 sp hd n 3 [c6]=xs[6]?:=Opn.part hf rfl rfl rfl (k:=1) (by kernel_rfl) rfl
 obtain ⟨a6,h6⟩:=Opn.field (Opn.int Tryz.underlying3) (by rw [hxl];decide) e6
 have e7:DataW.trod enc Tryz.prog w 0 sp hd n 3 [c7]=xs[7]?:=Opn.part hf rfl rfl rfl (k:=1) (by kernel_rfl) rfl
 obtain ⟨a7,h7⟩:=Opn.field (Opn.int Tryz.underlying3) (by rw [hxl];decide) e7
 have e8:DataW.trod enc Tryz.prog w 0 sp hd n 34 [c8]=xs[8]?:=Opn.part hf rfl rfl rfl (k:=1) (by kernel_rfl) rfl
 obtain ⟨a8,h8⟩:=Opn.field (Opn.list (τ:=wrapR) Tryz.underlying34 (by kernel_rfl) (by decide) opn_113) (by rw [hxl];decide) e8
 obtain ⟨q,rh0⟩:=h0;simp only [List.cons.injEq,and_true] at q;subst q
 obtain ⟨q,rh1⟩:=h1;simp only [List.cons.injEq,and_true] at q;subst q
 obtain ⟨q,rh2⟩:=h2;simp only [List.cons.injEq,and_true] at q;subst q
 obtain ⟨vh3,q,oh3,rh3⟩:=h3;simp only [List.cons.injEq,and_true] at q;subst q
 obtain ⟨vh4,q,oh4,rh4⟩:=h4;simp only [List.cons.injEq,and_true] at q;subst q
 obtain ⟨q,rh5⟩:=h5;simp only [List.cons.injEq,and_true] at q;subst q
 obtain ⟨q,rh6⟩:=h6;simp only [List.cons.injEq,and_true] at q;subst q
 obtain ⟨q,rh7⟩:=h7;simp only [List.cons.injEq,and_true] at q;subst q
 obtain ⟨vh8,q,oh8,rh8⟩:=h8;simp only [List.cons.injEq,and_true] at q;subst q
 exact ⟨⟨a0,a1,a2,a3,a4,a5,a6,a7,a8⟩,⟨_,_,_,rfl,rh0,rh1,rh2,⟨oh3,rh3⟩,⟨oh4,rh4⟩,rh5,rh6,rh7,⟨oh8,rh8⟩⟩⟩
set_option maxRecDepth 100000 in
theorem opn_38:Opn Tryz.prog 38 opR:=fun enc w sp hd fuel cs x h=>by
 obtain ⟨xs,n,_,_,hl,hxl,hf⟩:=DataW.trod_struct Tryz.underlying38 h
 have hlen:cs.length=13:=hl.trans (by kernel_rfl)
 obtain ⟨c0,t0,rfl,l0⟩:=cons_of_len hlen
 obtain ⟨c1,t1,rfl,l1⟩:=cons_of_len l0
 obtain ⟨c2,t2,rfl,l2⟩:=cons_of_len l1
 obtain ⟨c3,t3,rfl,l3⟩:=cons_of_len l2
 obtain ⟨c4,t4,rfl,l4⟩:=cons_of_len l3
 obtain ⟨c5,t5,rfl,l5⟩:=cons_of_len l4
 obtain ⟨c6,t6,rfl,l6⟩:=cons_of_len l5
 obtain ⟨c7,t7,rfl,l7⟩:=cons_of_len l6
 obtain ⟨c8,t8,rfl,l8⟩:=cons_of_len l7
 obtain ⟨c9,t9,rfl,l9⟩:=cons_of_len l8
 obtain ⟨c10,t10,rfl,l10⟩:=cons_of_len l9
 obtain ⟨c11,t11,rfl,l11⟩:=cons_of_len l10
 obtain ⟨c12,t12,rfl,l12⟩:=cons_of_len l11
 obtain rfl:=List.eq_nil_of_length_eq_zero l12
 have e0:DataW.trod enc Tryz.prog w 0 sp hd n 3 [c0]=xs[0]?:=Opn.part hf rfl rfl rfl (k:=1) (by kernel_rfl) rfl
 obtain ⟨a0,h0⟩:=Opn.field (Opn.int Tryz.underlying3) (by rw [hxl];decide) e0
 have e1:DataW.trod enc Tryz.prog w 0 sp hd n 3 [c1]=xs[1]?:=Opn.part hf rfl rfl rfl (k:=1) (by kernel_rfl) rfl
 obtain ⟨a1,h1⟩:=Opn.field (Opn.int Tryz.underlying3) (by rw [hxl];decide) e1
 have e2:DataW.trod enc Tryz.prog w 0 sp hd n 3 [c2]=xs[2]?:=Opn.part hf rfl rfl rfl (k:=1) (by kernel_rfl) rfl
 obtain ⟨a2,h2⟩:=Opn.field (Opn.int Tryz.underlying3) (by rw [hxl];decide) e2
 have e3:DataW.trod enc Tryz.prog w 0 sp hd n 36 [c3,c4,c5,c6,c7,c8,c9,c10,c11]=xs[3]?:=Opn.part hf rfl rfl rfl (k:=9) (by kernel_rfl) rfl
 obtain ⟨a3,h3⟩:=Opn.field opn_36 (by rw [hxl];decide) e3
 have e4:DataW.trod enc Tryz.prog w 0 sp hd n 33 [c12]=xs[4]?:=Opn.part hf rfl rfl rfl (k:=1) (by kernel_rfl) rfl
 obtain ⟨a4,h4⟩:=Opn.field (Opn.bytes Tryz.underlying33 Tryz.underlying5 (by kernel_rfl)) (by rw [hxl];decide) e4
 obtain ⟨q,rh0⟩:=h0;simp only [List.cons.injEq,and_true] at q;subst q
 obtain ⟨q,rh1⟩:=h1;simp only [List.cons.injEq,and_true] at q;subst q
 obtain ⟨q,rh2⟩:=h2;simp only [List.cons.injEq,and_true] at q;subst q
 obtain ⟨wh3_3,wh3_4,wh3_8,q,ph3_0,ph3_1,ph3_2,ph3_3,ph3_4,ph3_5,ph3_6,ph3_7,ph3_8⟩:=h3;simp only [List.cons.injEq,and_true] at q;obtain ⟨rfl,rfl,rfl,rfl,rfl,rfl,rfl,rfl,rfl⟩:=q
 obtain ⟨vh4,q,oh4,rh4⟩:=h4;simp only [List.cons.injEq,and_true] at q;subst q
 exact ⟨⟨a0,a1,a2,a3,a4⟩,⟨_,_,_,_,rfl,rh0,rh1,rh2,ph3_0,ph3_1,ph3_2,ph3_3,ph3_4,ph3_5,ph3_6,ph3_7,ph3_8,⟨oh4,rh4⟩⟩⟩
theorem WorldPost_w (v0:Value) (l:(List OpT)) (I:Gh) (R:List HP) (w:World) (S:Sat w I (R)) (Q0:RoX I v0 opR l):Ret Tryz.prog 3 [v0] w fun v w'=>∃J:Gh,Gh.le I J∧.bool true=v∧Sat w' J (R):=by
 have lq0:=XRow.le (Q0.row S.le)
 refine ret_E Tryz.func3 rfl Tryz.ntmps3 (by simp) ?_
 refine g8 ?_
 refine yR (anchor_c _ _ _ S) ?_
 rintro _ w0 ⟨I0,le0,rfl,S0⟩
 refine vl _ rfl (dcF (r_not rfl) rfl) ?_
 refine g8 ?_
 refine yR (two_c _ _ _ S0) ?_
 rintro _ w1 ⟨cs0,I1,le1,rfl,h0,S1⟩
 obtain ⟨v1,rfl,⟨o0,H0⟩⟩:=h0
 refine g1 ?_
 refine yR (small_c [.bool twoS.real,v1] twoS _ _ 60 _ _ _ S1 (Q0.up (lT le0 le1)) ⟨v1,rfl,⟨o0,H0⟩⟩) ?_
 rintro _ w2 ⟨r0,rfl,h3,S2⟩
 have hsm:=h3
 refine g3 ?_
 refine EC_cond (t:=!r0) rfl (fun h4=>?_) (fun h4=>?_)
 refine g7 ?_
 refine f1 Tryz.results3 ?_
 exact ⟨I1,(lT le0 le1),rfl,S2⟩
 have hsz:=hsm (by simpa using h4)
 refine g3 ?_
 have hny:=newW_tt an_new
 skip
 refine g1 ?_
 refine yR (two_c _ _ _ S2) ?_
 rintro _ w3 ⟨cs1,I2,le2,rfl,h5,S3⟩
 obtain ⟨v2,rfl,⟨o1,H1⟩⟩:=h5
 refine yR (WNewT_c [.bool twoS.real,v2] twoS anW0 _ _ _ S3 ⟨v2,rfl,⟨o1,H1⟩⟩ rfl an_new) ?_
 rintro _ w4 ⟨b0,bs0,p0,I3,le3,rfl,S4⟩
 refine g11 ?_
 refine vl (.bool false) rfl (r_dec (by decide) (r_neq rfl rfl)) ?_
 refine g9 ?_
 refine vl _ rfl (r_lenX rfl (Q0.row (lT (lT (lT (lT le0 le1) le2) le3) S4.le)) U22) ?_
 refine g4 ?_
 refine EC_loop (fun m' E' w'=>∃i:Nat,∃L:List Thing,∃W:Wld,∃J:Gh,m'=l.length-i∧E' 28=.int .i64 (i:Int)∧E' 3=ptr b0∧E' 26=v0∧E' 27=.int .i64 (l.length:Int)∧(i≤l.length)∧(TT L)∧(L.length≤12+200*i)∧(W.sent.length≤i)∧Gh.le I3 J∧Sat w' J (WldO (ptr b0) bs0 p0 W::Suite p0 L::R)) _ ⟨0,anW0.1,anW0.2,I3,rfl,rfl,rfl,rfl,rfl,Nat.zero_le _,hny.1,by have:=hny.2.1;omega,(by rw [hny.2.2.1];exact Nat.le_refl _),(Gh.le_refl _),S4⟩ ?_
 rintro _ E0 w5 ⟨i,L,W,I4,rfl,e0,e1,e2,e3,hi,hT,hlL,hsW,le4,S5⟩
 refine g6 ?_
 refine EC_if rfl (fun h6=>?_) (fun h6=>?_)
 refine g6 ?_
 refine vl (ptr (blkOf v0) (offOf v0+((i:Int):Int).toNat*13)) rfl (r_indexX (by exact e2) (Q0.row (lT (lT (lT (lT (lT le0 le1) le2) le3) le4) S5.le)) (by exact e0) (by omega) as' U22 (by kernel_rfl)) ?_
 obtain ⟨a0,ha0⟩:=get_some (l:=l) (j:=((i:Int):Int).toNat) as'
 have hck:=WldO.coks S5
 have hg:=do_grow (W:=W) (L:=L) (o:=a0) hT hck
 have hp1:=(WldO.wok S5).post
 obtain ⟨cs2,hc0,he0⟩:=Q0.el ha0
 obtain ⟨v3,v4,v5,v6,rfl,r1,r2,r3,r4,r5,r6,⟨o2,H2⟩,⟨o3,H3⟩,r7,r8,r9,⟨o4,H4⟩,⟨o5,H5⟩⟩:=hc0
 refine vl (.agg ((opRC a0 v3 v4 v5 v6)).toArray) rfl (r_loadR (cs:=(opRC a0 v3 v4 v5 v6)) rfl (he0 _ (lT (lT (lT (lT (lT le0 le1) le2) le3) le4) S5.le)) U38 rfl (by kernel_rfl)) ?_
 refine yN opR0 S5 ?_
 intro b1 w6 S6
 refine yW0 S6 ?_ (h1:=ones_cons rfl (ones_cons rfl (ones_cons rfl (ones_cons rfl (ones_cons rfl (ones_cons rfl (ones_cons o2 (ones_cons o3 (ones_cons rfl (ones_cons rfl (ones_cons rfl (ones_cons o4 (ones_cons o5 ones_nil)))))))))))))
 intro w7 S7
 refine g5 ?_
 refine yR (WPost_c _ _ _ _ _ _ _ S7.fr1) ?_
 rintro _ w8 ⟨v7,I5,le5,rfl,S8⟩
 refine g7 ?_
 refine yR (WDo_c _ _ _ _ _ (opRC a0 v3 v4 v5 v6) a0 _ _ _ S8.fr3.fr2 ⟨v3,v4,v5,v6,rfl,ad,ad,ad,ad,ad,ad,⟨o2,(H2.up (lT (lT (lT (lT (lT le0 le1) le2) le3) le4) le5))⟩,⟨o3,(H3.up (lT (lT (lT (lT (lT le0 le1) le2) le3) le4) le5))⟩,ad,ad,ad,⟨o4,(H4.up (lT (lT (lT (lT (lT le0 le1) le2) le3) le4) le5))⟩,⟨o5,(H5.up (lT (lT (lT (lT (lT le0 le1) le2) le3) le4) le5))⟩⟩ (by omega) (by omega) hT) ?_
 rintro _ w9 ⟨v8,I6,le6,rfl,S9⟩
 have hp2:=(WldO.wok S9.fr1).post
 obtain ⟨pw,xs,_,hx1,hx2,hx3,hx4,hpc⟩:=post_cases (L:=L) (W:=W) (o:=a0)
 refine yN [.int .i64 0,.slice none 0 0] S9 ?_
 intro b2 w10 S10
 refine yW0 S10 ?_ (h1:=ones_cons rfl (ones_cons (own_one (S10.own 1 rfl)) ones_nil))
 intro w11 S11
 refine g5 ?_
 refine yR (WPost_c _ _ _ _ _ _ _ S11.fr2) ?_
 rintro _ w12 ⟨v9,I7,le7,rfl,S12⟩
 refine g11 ?_
 rcases hpc with hc | hc | hc
 obtain ⟨hA,hpw⟩:=hc
 refine g13 ?_
 refine EL_gite 48 rfl rfl rfl (.int .i64 (W.post.length:Int)) rfl (fun g130=>r_lenX (cond_of g130 rfl) (OwnX.row S12 5 rfl (by decide)).1 U39) ?_
 refine g7 ?_
 refine EL_gite2 59 rfl rfl rfl (ptr b1 0) rfl (fun g136=>fP 0 rfl U38 (by kernel_rfl)) ?_
 refine EL_gite2 59 rfl rfl rfl (.int .i64 a0.kind) rfl (fun g137=>r_loadA (cond_of g137 rfl) (S12.a6) (u:=(.int .i64 a0.kind)) rfl U3 rfl) ?_
 refine EL_gite2 59 rfl rfl rfl (.bool (decide (a0.kind=6))) rfl (fun g138=>r_eql (cond_of g138 rfl) rfl) ?_
 refine EL_gite 55 rfl rfl rfl (.bool ((decide (a0.kind=5))||(decide (a0.kind=6)))) rfl (fun g139=>r_or (cond_of g139 rfl) rfl (cond_in g139 rfl)) ?_
 refine g3 ?_
 refine EC_cond_true (Eq.trans (show _=Value.bool ((((decide (((W.doA L a0).e)≠60))&&(decide (0≤a0.n)))&&(decide (a0.n<(W.post.length:Int))))&&((decide (a0.kind=5))||(decide (a0.kind=6)))) from rfl) (congrArg Value.bool (show ((((decide (((W.doA L a0).e)≠60))&&(decide (0≤a0.n)))&&(decide (a0.n<(W.post.length:Int))))&&((decide (a0.kind=5))||(decide (a0.kind=6))))=true from by simp only [Bool.and_eq_true,Bool.or_eq_true,decide_eq_true_eq];omega))) ?_
 have oH143:=(OwnX.one S12 5 rfl (by decide))
 obtain ⟨I8,le8,S13,H6⟩:=S12.fx5 (by decide)
 skip
 refine yJ 11 (fun w'=>Arr w' b1 38 (opRC a0 v3 v4 v5 v6)) S13 ?_
 intro w13 S14
 refine yT 1 S14.le (S14.a5) ?_
 refine yT 2 S14.le (S14.a5) ?_
 refine yT 3 S14.le (S14.a5) ?_
 refine jT 4 rfl (by kernel_rfl) (cutW v7 3 0 ((a0.n:Int).toNat)) rfl (fun _ hw ht=>r_sliceX rfl (H6.row hw) U39 (by kernel_rfl) 0 ((a0.n:Int).toNat) as' as' (.inl ⟨rfl,rfl⟩) (.inr ⟨_,_,rfl,(show _=Value.int .i64 ((a0.n:Int).toNat:Int) from by rw [Int.toNat_of_nonneg (by omega)];exact rfl)⟩)) ⟨S14.le,fun h=>S14.a5⟩ ?_
 have H7:RoX I8 (cutW v7 3 0 ((a0.n:Int).toNat)) packR (W.post.take ((a0.n:Int).toNat)):=rox_as (H6.cut 0 ((a0.n:Int).toNat) as' as') (by simp)
 refine yT 6 S14.le (S14.a5) ?_
 refine yT 7 S14.le (S14.a5) ?_
 refine yT 8 S14.le (S14.a5) ?_
 obtain ⟨x0,hx148⟩:∃z:Int,z=a0.n+1:=⟨_,rfl⟩
 refine jT 9 rfl (by kernel_rfl) (.int .i64 x0) rfl (fun _ hw ht=>by rw [hx148];exact r_addi rfl rfl (by omega)) ⟨S14.le,fun h=>S14.a5⟩ ?_
 refine jT 10 rfl (by kernel_rfl) (cutW v7 3 ((x0:Int).toNat) W.post.length) rfl (fun _ hw ht=>r_sliceX rfl (H6.row hw) U39 (by kernel_rfl) ((x0:Int).toNat) W.post.length as' as' (.inr ⟨_,_,rfl,(show _=Value.int .i64 ((x0:Int).toNat:Int) from by rw [Int.toNat_of_nonneg (by omega)];exact rfl)⟩) (.inl ⟨rfl,rfl⟩)) ⟨S14.le,fun h=>S14.a5⟩ ?_
 have H8:RoX I8 (cutW v7 3 ((x0:Int).toNat) W.post.length) packR (W.post.drop ((x0:Int).toNat)):=rox_as (H6.cut ((x0:Int).toNat) W.post.length as' as') (by simp)
 refine y1 0 ?_
 refine EL_lit0X (τ:=packR) U39 (by kernel_rfl) S14 ?_
 intro v10 w14 S15
 refine yn S15.le (S15.a6) ?_
 refine y1 5 ?_
 refine EL_appX (z:=(.agg #[.int .i64 0,.bool false,.slice none 0 0])) (bytes:=40) rfl U39 (by kernel_rfl) rfl (by decide) rfl rfl S15 H7 ac ac ?_
 intro v11 w15 S16
 have S17:Sat w15 I8 (OwnX 46 packR v11 (W.post.take ((a0.n:Int).toNat))::OwnX 46 packR v9 (((W.doS L a0).2).post)::WldO (ptr b0) bs0 p0 ((W.doS L a0).2)::Blk b2 43 [.int .i64 ((W.doA L a0).e),v8]::Own 30 1 v8 ((W.doA L a0).outs).length (((W.doA L a0).outs).map (Value.int .i64))::Suite p0 ((W.doS L a0).1)::Blk b1 38 (opRC a0 v3 v4 v5 v6)::R):=S16
 refine yn S17.le (S17.a6) ?_
 refine y1 11 ?_
 refine EL_appX (z:=(.agg #[.int .i64 0,.bool false,.slice none 0 0])) (bytes:=40) rfl U39 (by kernel_rfl) rfl (by decide) rfl rfl S17 H8 ac ac ?_
 intro v12 w16 S18
 refine ym S18.le ?_
 refine yf 12 S18.le ?_
 refine yd ?_
 refine g14 ?_
 refine EC_cond_false (Eq.trans (show _=Value.bool ((decide (a0.kind=7))&&(decide (((W.doA L a0).e)=0))) from rfl) (congrArg Value.bool (show ((decide (a0.kind=7))&&(decide (((W.doA L a0).e)=0)))=false from by rw [Bool.eq_false_iff];intro q;simp only [Bool.and_eq_true,decide_eq_true_eq] at q;omega))) ?_
 refine g4 ?_
 have q0:(W.post.take ((a0.n:Int).toNat))++(W.post.drop ((x0:Int).toNat))=pw:=by rw [hpw,List.eraseIdx_eq_take_drop_succ];congr 2;omega
 have S19:=S18.ax0 q0
 have oH168:=(OwnX.one S19 0 rfl (by decide))
 obtain ⟨I9,le9,S20,H9⟩:=S19.fx0 (by decide)
 have oH172:=(OwnX.one S20 0 rfl (by decide))
 obtain ⟨I10,le10,S21,H10⟩:=S20.fx0 (by decide)
 skip
 refine g2 ?_
 refine vl _ rfl (r_lenX rfl (H10.row S21.le) U39) ?_
 refine g1 ?_
 refine vl _ rfl (r_lenX rfl (H9.row (lT le10 S21.le)) U39) (vl _ rfl (dcF (r_lss rfl rfl) (by simp;omega)) ?_)
 refine g2 ?_
 refine gl 100 rfl rfl rfl rfl _ rfl (r_lenX rfl (H10.row S21.le) U39) ?_
 refine g1 ?_
 refine gl 100 rfl rfl rfl rfl _ rfl (r_lenX rfl (H9.row (lT le10 S21.le)) U39) (gl  100 rfl rfl rfl rfl (.int .i64 ((pw.length:Int)+1)) rfl (r_addi rfl rfl (by omega)) (gl 100 rfl rfl rfl rfl _ rfl (dcF (r_gtr rfl rfl) (by simp;omega)) ?_))
 refine g7 ?_
 refine EL_gite 112 rfl rfl rfl (.int .i64 ((((W.doS L a0).2).post).length:Int)) rfl (fun g175=>r_lenX (cond_of g175 rfl) (H10.row S21.le) U39) ?_
 refine g1 ?_
 refine EL_gite 112 rfl rfl rfl (.int .i64 (pw.length:Int)) rfl (fun g177=>r_lenX (cond_of g177 rfl) (H9.row (lT le10 S21.le)) U39) ?_
 refine g5 ?_
 refine EC_cond_false (Eq.trans (show _=Value.bool ((decide (5<a0.kind))&&(decide (((((W.doS L a0).2).post).length:Int)≠(pw.length:Int)))) from rfl) (congrArg Value.bool (show ((decide (5<a0.kind))&&(decide (((((W.doS L a0).2).post).length:Int)≠(pw.length:Int))))=false from by rw [Bool.eq_false_iff];intro q;simp only [Bool.and_eq_true,Bool.or_eq_true,decide_eq_true_eq,Bool.false_eq_true,false_or] at q;have:=hx4 q.1;omega))) ?_
 refine g5 ?_
 refine vl _ rfl (r_lenX rfl (H9.row (lT le10 S21.le)) U39) ?_
 refine g4 ?_
 refine EC_loop (fun m' E' w'=>∃j:Nat,m'=pw.length-j∧E' 122=.int .i64 (j:Int)∧E' 3=ptr b0∧E' 9=v9∧E' 26=v0∧E' 27=.int .i64 (l.length:Int)∧E' 28=.int .i64 (i:Int)∧E' 120=v12∧E' 121=.int .i64 (pw.length:Int)∧(j≤pw.length)∧Sat w' I10 (WldO (ptr b0) bs0 p0 ((W.doS L a0).2)::Blk b2 43 [.int .i64 ((W.doA L a0).e),v8]::Own 30 1 v8 ((W.doA L a0).outs).length (((W.doA L a0).outs).map (Value.int .i64))::Suite p0 ((W.doS L a0).1)::Blk b1 38 (opRC a0 v3 v4 v5 v6)::R)) _ ⟨0,rfl,rfl,(by exact e1),rfl,(by exact e2),(by exact e3),(by exact e0),rfl,rfl,Nat.zero_le _,S21⟩ ?_
 rintro _ E1 w17 ⟨j,rfl,e4,e5,e6,e7,e8,e9,e10,e11,hj,S22⟩
 refine g6 ?_
 refine EC_if rfl (fun h7=>?_) (fun h7=>?_)
 refine g7 ?_
 refine vl (ptr (blkOf v12) (offOf v12+((j:Int):Int).toNat*3)) rfl (r_indexX (by exact e10) (H9.row (lT le10 S22.le)) (by exact e4) (by omega) as' U39 (by kernel_rfl)) ?_
 obtain ⟨a1,ha1⟩:=get_some (l:=pw) (j:=((j:Int):Int).toNat) as'
 obtain ⟨cs3,hc1,he1⟩:=H9.el ha1
 obtain ⟨v13,rfl,r10,⟨o6,H11⟩⟩:=hc1
 refine vl (.agg ((packRC a1 v13)).toArray) rfl (r_loadR (cs:=(packRC a1 v13)) rfl (he1 _ (lT le10 S22.le)) U46 rfl (by kernel_rfl)) ?_
 refine yN packR0 S22 ?_
 intro b3 w18 S23
 refine g1 ?_
 refine yW0 S23 ?_ (h1:=ones_cons rfl (ones_cons rfl (ones_cons o6 ones_nil)))
 intro w19 S24
 refine g3 ?_
 obtain ⟨a2,ha2⟩:=get_some (l:=((W.doS L a0).2).post) (j:=((j:Int):Int).toNat) as'
 obtain ⟨cs4,hc2,he2⟩:=H10.el ha2
 obtain ⟨v14,rfl,r11,⟨o7,H12⟩⟩:=hc2
 obtain ⟨cs5,hc3,he3⟩:=H9.el ha1
 obtain ⟨v15,rfl,r12,⟨o8,H13⟩⟩:=hc3
 have hxy:a2=a1:=by have h1:=ha2;have h2:=ha1;rw [hx1,List.getElem?_append_left (by omega)] at h1;exact Option.some.inj (h1.symm.trans h2)
 skip
 refine EC_quietB (by kernel_rfl) (by kernel_rfl) ?_
 refine g2 ?_
 refine EQ_val (ptr (blkOf v9) (offOf v9+((j:Int):Int).toNat*3)) rfl (fun _ hw=>r_indexX rfl (XRow.below (H10.row S24.le) (hp_below hw)) rfl (by omega) as' U39 (by kernel_rfl)) (EQ_val (ptr (blkOf v9) (offOf v9+((j:Int):Int).toNat*3+0)) rfl (fun _ hw=>r_fieldP (s:=1) rfl U46 rfl (by kernel_rfl) (by decide) rfl) ?_)
 obtain ⟨cs6,hc4,he4⟩:=H10.el ha2
 obtain ⟨v16,rfl,r13,⟨o9,H14⟩⟩:=hc4
 refine EQ_val (.int .i64 a2.c) rfl (fun _ hw=>r_loadF (k:=0) rfl (ElAt.below (he4 _ S24.le) (hp_below hw)) rfl U3 rfl) ?_
 refine g2 ?_
 refine EQ_val _ rfl (fun _ hw=>dcF (r_neq rfl rfl) (by simp [hxy])) ?_
 refine g3 ?_
 refine EQ_gval 135 rfl rfl rfl rfl (ptr (blkOf v9) (offOf v9+((j:Int):Int).toNat*3)) rfl (fun _ hw=>r_indexX rfl (XRow.below (H10.row S24.le) (hp_below hw)) rfl (by omega) as' U39 (by kernel_rfl)) (EQ_gval 135 rfl rfl rfl rfl (ptr (blkOf v9) (offOf v9+((j:Int):Int).toNat*3+1)) rfl (fun _ hw=>r_fieldP (s:=1) rfl U46 rfl (by kernel_rfl) (by decide) rfl) ?_)
 obtain ⟨cs7,hc5,he5⟩:=H10.el ha2
 obtain ⟨v17,rfl,r14,⟨o10,H15⟩⟩:=hc5
 refine EQ_gval 135 rfl rfl rfl rfl (.bool a2.up) rfl (fun _ hw=>r_loadF (k:=1) rfl (ElAt.below (he5 _ S24.le) (hp_below hw)) rfl U4 rfl) ?_
 refine g2 ?_
 refine EQ_gval 135 rfl rfl rfl rfl _ rfl (fun _ hw=>dcF (r_neqb rfl rfl U4) (by simp [hxy])) ?_
 refine g4 ?_
 refine EQ_gval 145 rfl rfl rfl rfl (ptr (blkOf v9) (offOf v9+((j:Int):Int).toNat*3)) rfl (fun _ hw=>r_indexX rfl (XRow.below (H10.row S24.le) (hp_below hw)) rfl (by omega) as' U39 (by kernel_rfl)) (EQ_gval 145 rfl rfl rfl rfl (ptr (blkOf v9) (offOf v9+((j:Int):Int).toNat*3+2)) rfl (fun _ hw=>r_fieldP (s:=1) rfl U46 rfl (by kernel_rfl) (by decide) rfl) ?_)
 obtain ⟨cs8,hc6,he6⟩:=H10.el ha2
 obtain ⟨v18,rfl,r15,⟨o11,H16⟩⟩:=hc6
 refine EQ_gval 145 rfl rfl rfl rfl v18 rfl (fun _ hw=>r_loadF (k:=2) rfl (ElAt.below (he6 _ S24.le) (hp_below hw)) rfl U33 rfl) (EQ_gval 145 rfl rfl rfl rfl (.string (str a2.data)) rfl (fun _ hw=>r_str rfl ((H16 _ S24.le).below hw) U33 U5 U9) ?_)
 refine g2 ?_
 refine EQ_gval 145 rfl rfl rfl rfl (.string (str a1.data)) rfl (fun _ hw=>r_str rfl ((H11 _ (lT le10 S24.le)).below hw) U33 U5 U9) (EQ_gval 145 rfl rfl rfl rfl _ rfl (fun _ hw=>dcF (r_neqs rfl rfl) (by simp [hxy])) ?_)
 refine g1 ?_
 refine yE S24 ?_
 intro w20 S25
 refine g6 ?_
 refine EL_int ((j:Int)+1) rfl (r_addi (by exact e4) rfl (by omega)) ?_
 intro x1 hx252
 refine g3 ?_
 refine ⟨_,?_,j+1,rfl,(Eq.trans (show _=Value.int .i64 x1 from rfl) (congrArg _ (by omega))),(by exact e5),(by exact e6),(by exact e7),(by exact e8),(by exact e9),(by exact e10),(by exact e11),by omega,S25.dr0⟩
 first | omega | (simp;omega)
 refine g7 ?_
 refine EL_int ((i:Int)+1) rfl (r_addi (by exact e9) rfl (by omega)) ?_
 intro x2 hx254
 refine g3 ?_
 refine ⟨_,?_,i+1,(W.doS L a0).1,((W.doS L a0).2),I10,rfl,(Eq.trans (show _=Value.int .i64 x2 from rfl) (congrArg _ (by omega))),(by exact e5),(by exact e7),(by exact e8),by omega,hg.tt,(by have:=hg.len;omega),(by have:=hg.sent;omega),(lT (lT (lT (lT (lT (lT le4 le5) le6) le7) le8) le9) le10),S22.dr1.dr1.dr2⟩
 first | omega | (simp;omega)
 obtain ⟨hA,hB,hn,hpw⟩:=hc
 have oH261:=(OwnX.one S12 5 rfl (by decide))
 obtain ⟨I11,le11,S26,H17⟩:=S12.fx5 (by decide)
 obtain ⟨a3,ha3⟩:=get_some (l:=W.post) (j:=(a0.n:Int).toNat) as'
 obtain ⟨cs9,hc7,he7⟩:=H17.el ha3
 obtain ⟨v19,rfl,r16,⟨o12,H18⟩⟩:=hc7
 refine g13 ?_
 refine EL_gite 48 rfl rfl rfl (.int .i64 (W.post.length:Int)) rfl (fun g277=>r_lenX (cond_of g277 rfl) (H17.row S26.le) U39) ?_
 refine g7 ?_
 refine EL_gite2 59 rfl rfl rfl (ptr b1 0) rfl (fun g283=>fP 0 rfl U38 (by kernel_rfl)) ?_
 refine EL_gite2 59 rfl rfl rfl (.int .i64 a0.kind) rfl (fun g284=>r_loadA (cond_of g284 rfl) (S26.a5) (u:=(.int .i64 a0.kind)) rfl U3 rfl) ?_
 refine EL_gite2 59 rfl rfl rfl (.bool (decide (a0.kind=6))) rfl (fun g285=>r_eql (cond_of g285 rfl) rfl) ?_
 refine EL_gite 55 rfl rfl rfl (.bool ((decide (a0.kind=5))||(decide (a0.kind=6)))) rfl (fun g286=>r_or (cond_of g286 rfl) rfl (cond_in g286 rfl)) ?_
 refine g3 ?_
 refine EC_cond_false (Eq.trans (show _=Value.bool ((((decide (((W.doA L a0).e)≠60))&&(decide (0≤a0.n)))&&(decide (a0.n<(W.post.length:Int))))&&((decide (a0.kind=5))||(decide (a0.kind=6)))) from rfl) (congrArg Value.bool (show ((((decide (((W.doA L a0).e)≠60))&&(decide (0≤a0.n)))&&(decide (a0.n<(W.post.length:Int))))&&((decide (a0.kind=5))||(decide (a0.kind=6))))=false from by rw [Bool.eq_false_iff];intro q;simp only [Bool.and_eq_true,Bool.or_eq_true,decide_eq_true_eq] at q;omega))) ?_
 refine g15 ?_
 refine EC_cond_true (Eq.trans (show _=Value.bool ((decide (a0.kind=7))&&(decide (((W.doA L a0).e)=0))) from rfl) (congrArg Value.bool (show ((decide (a0.kind=7))&&(decide (((W.doA L a0).e)=0)))=true from by simp only [Bool.and_eq_true,decide_eq_true_eq];omega))) ?_
 refine EC_post (fun E' w'=>∃v20:Value,∃v18o0_0:Value,∃v18o2_0:Value,∃v18o8_0:Value,∃v18o9_0:Value,∃J:Gh,E' 3=ptr b0∧E' 6=ptr b1∧E' 7=v7∧E' 8=ptr b2∧E' 9=v9∧E' 10=v18o9_0∧E' 26=v0∧E' 27=.int .i64 (l.length:Int)∧E' 28=.int .i64 (i:Int)∧E' 29=.bool (decide ((i:Int)<(l.length:Int)))∧E' 30=ptr (blkOf v0) (offOf v0+((i:Int):Int).toNat*13)∧E' 31=.agg ((opRC a0 v3 v4 v5 v6)).toArray∧E' 32=ptr b0∧E' 33=v7∧E' 34=ptr b0∧E' 35=.agg ((opRC a0 v3 v4 v5 v6)).toArray∧E' 36=.agg [.int .i64 ((W.doA L a0).e),v8].toArray∧E' 37=ptr b0∧E' 38=v9∧E' 39=v7∧E' 40=ptr b2 0∧E' 41=.int .i64 ((W.doA L a0).e)∧E' 42=.bool (decide (((W.doA L a0).e)≠60))∧E' 43=.bool (decide (((W.doA L a0).e)≠60))∧E' 47=.bool ((decide (((W.doA L a0).e)≠60))&&(decide (0≤a0.n)))∧E' 48=.bool ((decide (((W.doA L a0).e)≠60))&&(decide (0≤a0.n)))∧E' 54=.bool (((decide (((W.doA L a0).e)≠60))&&(decide (0≤a0.n)))&&(decide (a0.n<(W.post.length:Int))))∧E' 55=.bool (((decide (((W.doA L a0).e)≠60))&&(decide (0≤a0.n)))&&(decide (a0.n<(W.post.length:Int))))∧E' 64=.bool ((((decide (((W.doA L a0).e)≠60))&&(decide (0≤a0.n)))&&(decide (a0.n<(W.post.length:Int))))&&((decide (a0.kind=5))||(decide (a0.kind=6))))∧E' 77=ptr b1 0∧E' 78=.int .i64 a0.kind∧E' 79=.bool (decide (a0.kind=7))∧E' 80=.bool (decide (a0.kind=7))∧E' 84=.bool ((decide (a0.kind=7))&&(decide (((W.doA L a0).e)=0)))∧E' 85=v18o0_0∧E' 86=v7∧E' 87=v18o2_0∧E' 88=v7∧E' 89=ptr b1 2∧E' 90=.int .i64 a0.n∧E' 91=ptr (blkOf v7) (offOf v7+(a0.n:Int).toNat*3)∧E' 92=.agg ((packRC a3 v20)).toArray∧E' 93=v18o8_0∧E' 94=v18o9_0∧(-9223372036854775808≤a3.c∧a3.c≤9223372036854775807)∧Gh.le I11 J∧RoB J v20 a3.data∧RoX J v18o8_0 packR [a3]∧Sat w' J (OwnX 46 packR v18o9_0 (W.post++[a3])::OwnX 46 packR v9 (((W.doS L a0).2).post)::WldO (ptr b0) bs0 p0 ((W.doS L a0).2)::Blk b2 43 [.int .i64 ((W.doA L a0).e),v8]::Own 30 1 v8 ((W.doA L a0).outs).length (((W.doA L a0).outs).map (Value.int .i64))::Suite p0 ((W.doS L a0).1)::Blk b1 38 (opRC a0 v3 v4 v5 v6)::R)) ?_ ?_
 refine yJ 9 (fun w'=>Arr w' b1 38 (opRC a0 v3 v4 v5 v6)) S26 ?_
 intro w21 S27
 refine yT 1 S27.le (S27.a5) ?_
 refine yT 3 S27.le (S27.a5) ?_
 refine yT 4 S27.le (S27.a5) ?_
 refine yT 5 S27.le (S27.a5) ?_
 refine jT 6 rfl (by kernel_rfl) (ptr (blkOf v7) (offOf v7+(a0.n:Int).toNat*3)) rfl (fun _ hw ht=>r_indexX rfl (H17.row hw) rfl (by omega) as' U39 (by kernel_rfl)) ⟨S27.le,fun h=>S27.a5⟩ ?_
 obtain ⟨cs10,hc8,he8⟩:=H17.el ha3
 obtain ⟨v20,rfl,r17,⟨o13,H19⟩⟩:=hc8
 refine jT 7 rfl (by kernel_rfl) (.agg ((packRC a3 v20)).toArray) rfl (fun _ hw ht=>r_loadR (cs:=(packRC a3 v20)) rfl (he8 _ hw) U46 rfl (by kernel_rfl)) ⟨S27.le,fun h=>S27.a5⟩ ?_
 refine EJ_two 0 8 (by kernel_rfl) ⟨_,rfl,?_⟩ ⟨_,rfl,?_⟩
 refine EL_lit0X (τ:=packR) U39 (by kernel_rfl) S27 ?_
 intro v18o0_0 w22 S28
 refine yn S28.le (S28.a6) ?_
 refine EJ_two 2 8 (by kernel_rfl) ⟨_,rfl,?_⟩ ⟨_,rfl,?_⟩
 refine EL_appX (z:=(.agg #[.int .i64 0,.bool false,.slice none 0 0])) (bytes:=40) rfl U39 (by kernel_rfl) rfl (by decide) rfl rfl S28 H17 ac ac ?_
 intro v18o2_0 w23 S29
 have S30:Sat w23 I11 (OwnX 46 packR v18o2_0 W.post::OwnX 46 packR v9 (((W.doS L a0).2).post)::WldO (ptr b0) bs0 p0 ((W.doS L a0).2)::Blk b2 43 [.int .i64 ((W.doA L a0).e),v8]::Own 30 1 v8 ((W.doA L a0).outs).length (((W.doA L a0).outs).map (Value.int .i64))::Suite p0 ((W.doS L a0).1)::Blk b1 38 (opRC a0 v3 v4 v5 v6)::R):=S29
 refine yn S30.le (S30.a6) ?_
 refine y1 8 ?_
 refine EL_litW (z:=#[.int .i64 0,.bool false,.slice none 0 0]) (cs:=([.int .i64 a3.c,.bool a3.up,v20]).toArray) (sz:=3) (l:=[(0,.agg ((packRC a3 v20)).toArray)]) rfl U39 (by kernel_rfl) (parts1 rfl) (by kernel_rfl) rfl (by decide) ?_
 intro v18o8_0 w24 O0 B0 k0
 have S31:Sat _ _ (OwnX 46 packR v18o8_0 [a3]::_):=OwnX.cls (xss:=[(packRC a3 v20)]) (.cons ⟨v20,rfl,ad,⟨o13,H19⟩⟩ .nil) (S30.newO B0 O0)
 refine yn S31.le (S31.a7) ?_
 refine y1 9 ?_
 have oH315:=(OwnX.one S31 0 rfl (by decide))
 obtain ⟨I12,le12,S32,H20⟩:=S31.fx0 (by decide)
 refine EL_appX (z:=(.agg #[.int .i64 0,.bool false,.slice none 0 0])) (bytes:=40) rfl U39 (by kernel_rfl) rfl (by decide) rfl rfl S32 H20 ac ac ?_
 intro v18o9_0 w25 S33
 refine ym (lT le12 S33.le) ?_
 refine yu le12 ?_
 refine yf 10 S33.le ?_
 refine yd ?_
 refine g1 ?_
 exact ⟨v20,v18o0_0,v18o2_0,v18o8_0,v18o9_0,I12,(by exact e1),rfl,rfl,rfl,rfl,rfl,(by exact e2),(by exact e3),(by exact e0),rfl,rfl,rfl,rfl,rfl,rfl,rfl,rfl,rfl,rfl,rfl,rfl,rfl,rfl,rfl,rfl,rfl,rfl,rfl,rfl,rfl,rfl,rfl,rfl,rfl,rfl,rfl,rfl,rfl,rfl,rfl,rfl,rfl,rfl,rfl,r17,le12,(H19.up le12),H20,S33⟩
 refine EL_litW (z:=#[.int .i64 0,.bool false,.slice none 0 0]) (cs:=([.int .i64 a3.c,.bool a3.up,v20]).toArray) (sz:=3) (l:=[(0,.agg ((packRC a3 v20)).toArray)]) rfl U39 (by kernel_rfl) (parts1 rfl) (by kernel_rfl) rfl (by decide) ?_
 intro v18o8_0 w26 O1 B1 k1
 have S34:Sat _ _ (OwnX 46 packR v18o8_0 [a3]::_):=OwnX.cls (xss:=[(packRC a3 v20)]) (.cons ⟨v20,rfl,ad,⟨o13,H19⟩⟩ .nil) (S28.newO B1 O1)
 refine yn S34.le (S34.a7) ?_
 refine y1 2 ?_
 refine EL_appX (z:=(.agg #[.int .i64 0,.bool false,.slice none 0 0])) (bytes:=40) rfl U39 (by kernel_rfl) rfl (by decide) rfl rfl S34.fr1 H17 ac ac ?_
 intro v18o2_0 w27 S35
 have S36:Sat w27 I11 (OwnX 46 packR v18o2_0 W.post::OwnX 46 packR v18o8_0 [a3]::OwnX 46 packR v9 (((W.doS L a0).2).post)::WldO (ptr b0) bs0 p0 ((W.doS L a0).2)::Blk b2 43 [.int .i64 ((W.doA L a0).e),v8]::Own 30 1 v8 ((W.doA L a0).outs).length (((W.doA L a0).outs).map (Value.int .i64))::Suite p0 ((W.doS L a0).1)::Blk b1 38 (opRC a0 v3 v4 v5 v6)::R):=S35
 refine yn S36.le (S36.a7) ?_
 refine y1 9 ?_
 have oH330:=(OwnX.one S36 1 rfl (by decide))
 obtain ⟨I13,le13,S37,H21⟩:=S36.fx1 (by decide)
 refine EL_appX (z:=(.agg #[.int .i64 0,.bool false,.slice none 0 0])) (bytes:=40) rfl U39 (by kernel_rfl) rfl (by decide) rfl rfl S37 H21 ac ac ?_
 intro v18o9_0 w28 S38
 refine ym (lT le13 S38.le) ?_
 refine yu le13 ?_
 refine yf 10 S38.le ?_
 refine yd ?_
 refine g1 ?_
 exact ⟨v20,v18o0_0,v18o2_0,v18o8_0,v18o9_0,I13,(by exact e1),rfl,rfl,rfl,rfl,rfl,(by exact e2),(by exact e3),(by exact e0),rfl,rfl,rfl,rfl,rfl,rfl,rfl,rfl,rfl,rfl,rfl,rfl,rfl,rfl,rfl,rfl,rfl,rfl,rfl,rfl,rfl,rfl,rfl,rfl,rfl,rfl,rfl,rfl,rfl,rfl,rfl,rfl,rfl,rfl,rfl,r17,le13,(H19.up le13),H21,S38⟩
 refine EL_litW (z:=#[.int .i64 0,.bool false,.slice none 0 0]) (cs:=([.int .i64 a3.c,.bool a3.up,v20]).toArray) (sz:=3) (l:=[(0,.agg ((packRC a3 v20)).toArray)]) rfl U39 (by kernel_rfl) (parts1 rfl) (by kernel_rfl) rfl (by decide) ?_
 intro v18o8_0 w29 O2 B2 k2
 have S39:Sat _ _ (OwnX 46 packR v18o8_0 [a3]::_):=OwnX.cls (xss:=[(packRC a3 v20)]) (.cons ⟨v20,rfl,ad,⟨o13,H19⟩⟩ .nil) (S27.newO B2 O2)
 refine yn S39.le (S39.a6) ?_
 refine y1 0 ?_
 refine EL_lit0X (τ:=packR) U39 (by kernel_rfl) S39 ?_
 intro v18o0_0 w30 S40
 refine yn S40.le (S40.a7) ?_
 refine y1 2 ?_
 refine EL_appX (z:=(.agg #[.int .i64 0,.bool false,.slice none 0 0])) (bytes:=40) rfl U39 (by kernel_rfl) rfl (by decide) rfl rfl S40 H17 ac ac ?_
 intro v18o2_0 w31 S41
 have S42:Sat w31 I11 (OwnX 46 packR v18o2_0 W.post::OwnX 46 packR v18o8_0 [a3]::OwnX 46 packR v9 (((W.doS L a0).2).post)::WldO (ptr b0) bs0 p0 ((W.doS L a0).2)::Blk b2 43 [.int .i64 ((W.doA L a0).e),v8]::Own 30 1 v8 ((W.doA L a0).outs).length (((W.doA L a0).outs).map (Value.int .i64))::Suite p0 ((W.doS L a0).1)::Blk b1 38 (opRC a0 v3 v4 v5 v6)::R):=S41
 refine yn S42.le (S42.a7) ?_
 refine y1 9 ?_
 have oH346:=(OwnX.one S42 1 rfl (by decide))
 obtain ⟨I14,le14,S43,H22⟩:=S42.fx1 (by decide)
 refine EL_appX (z:=(.agg #[.int .i64 0,.bool false,.slice none 0 0])) (bytes:=40) rfl U39 (by kernel_rfl) rfl (by decide) rfl rfl S43 H22 ac ac ?_
 intro v18o9_0 w32 S44
 refine ym (lT le14 S44.le) ?_
 refine yu le14 ?_
 refine yf 10 S44.le ?_
 refine yd ?_
 refine g1 ?_
 exact ⟨v20,v18o0_0,v18o2_0,v18o8_0,v18o9_0,I14,(by exact e1),rfl,rfl,rfl,rfl,rfl,(by exact e2),(by exact e3),(by exact e0),rfl,rfl,rfl,rfl,rfl,rfl,rfl,rfl,rfl,rfl,rfl,rfl,rfl,rfl,rfl,rfl,rfl,rfl,rfl,rfl,rfl,rfl,rfl,rfl,rfl,rfl,rfl,rfl,rfl,rfl,rfl,rfl,rfl,rfl,rfl,r17,le14,(H19.up le14),H22,S44⟩
 rintro E2 w33 ⟨v20,v18o0_0,v18o2_0,v18o8_0,v18o9_0,I12,e12,e13,e14,e15,e16,e17,e18,e19,e20,e21,e22,e23,e24,e25,e26,e27,e28,e29,e30,e31,e32,e33,e34,e35,e36,e37,e38,e39,e40,e41,e42,e43,e44,e45,e46,e47,e48,e49,e50,e51,e52,e53,e54,e55,r17,le15,H23,H24,S45⟩
 refine g3 ?_
 have q1:W.post++[a3]=pw:=by rw [hpw,(show W.post[a0.n.toNat]?=_ from ha3)];rfl
 have S46:=S45.ax0 q1
 have oH402:=(OwnX.one S46 0 rfl (by decide))
 obtain ⟨I15,le16,S47,H25⟩:=S46.fx0 (by decide)
 have oH406:=(OwnX.one S47 0 rfl (by decide))
 obtain ⟨I16,le17,S48,H26⟩:=S47.fx0 (by decide)
 skip
 refine g2 ?_
 refine vl _ rfl (r_lenX rfl (H26.row S48.le) U39) ?_
 refine g1 ?_
 refine vl _ rfl (r_lenX rfl (H25.row (lT le17 S48.le)) U39) (vl _ rfl (dcF (r_lss rfl rfl) (by simp;omega)) ?_)
 refine g2 ?_
 refine gl 100 rfl rfl rfl rfl _ rfl (r_lenX rfl (H26.row S48.le) U39) ?_
 refine g1 ?_
 refine gl 100 rfl rfl rfl rfl _ rfl (r_lenX rfl (H25.row (lT le17 S48.le)) U39) (gl  100 rfl rfl rfl rfl (.int .i64 ((pw.length:Int)+1)) rfl (r_addi rfl rfl (by omega)) (gl 100 rfl rfl rfl rfl _ rfl (dcF (r_gtr rfl rfl) (by simp;omega)) ?_))
 refine g7 ?_
 refine EL_gite 112 rfl rfl rfl (.int .i64 ((((W.doS L a0).2).post).length:Int)) rfl (fun g409=>r_lenX (cond_of g409 rfl) (H26.row S48.le) U39) ?_
 refine g1 ?_
 refine EL_gite 112 rfl rfl rfl (.int .i64 (pw.length:Int)) rfl (fun g411=>r_lenX (cond_of g411 rfl) (H25.row (lT le17 S48.le)) U39) ?_
 refine g5 ?_
 refine EC_cond_false (Eq.trans (show _=Value.bool ((decide (5<a0.kind))&&(decide (((((W.doS L a0).2).post).length:Int)≠(pw.length:Int)))) from rfl) (congrArg Value.bool (show ((decide (5<a0.kind))&&(decide (((((W.doS L a0).2).post).length:Int)≠(pw.length:Int))))=false from by rw [Bool.eq_false_iff];intro q;simp only [Bool.and_eq_true,Bool.or_eq_true,decide_eq_true_eq,Bool.false_eq_true,false_or] at q;have:=hx4 q.1;omega))) ?_
 refine g5 ?_
 refine vl _ rfl (r_lenX rfl (H25.row (lT le17 S48.le)) U39) ?_
 refine g4 ?_
 refine EC_loop (fun m' E' w'=>∃j:Nat,m'=pw.length-j∧E' 122=.int .i64 (j:Int)∧E' 3=ptr b0∧E' 9=v9∧E' 26=v0∧E' 27=.int .i64 (l.length:Int)∧E' 28=.int .i64 (i:Int)∧E' 120=v18o9_0∧E' 121=.int .i64 (pw.length:Int)∧(j≤pw.length)∧Sat w' I16 (WldO (ptr b0) bs0 p0 ((W.doS L a0).2)::Blk b2 43 [.int .i64 ((W.doA L a0).e),v8]::Own 30 1 v8 ((W.doA L a0).outs).length (((W.doA L a0).outs).map (Value.int .i64))::Suite p0 ((W.doS L a0).1)::Blk b1 38 (opRC a0 v3 v4 v5 v6)::R)) _ ⟨0,rfl,rfl,(by exact e12),(by exact e16),(by exact e18),(by exact e19),(by exact e20),rfl,rfl,Nat.zero_le _,S48⟩ ?_
 rintro _ E3 w34 ⟨j,rfl,e56,e57,e58,e59,e60,e61,e62,e63,hj,S49⟩
 refine g6 ?_
 refine EC_if rfl (fun h8=>?_) (fun h8=>?_)
 refine g7 ?_
 refine vl (ptr (blkOf v18o9_0) (offOf v18o9_0+((j:Int):Int).toNat*3)) rfl (r_indexX (by exact e62) (H25.row (lT le17 S49.le)) (by exact e56) (by omega) as' U39 (by kernel_rfl)) ?_
 obtain ⟨a4,ha4⟩:=get_some (l:=pw) (j:=((j:Int):Int).toNat) as'
 obtain ⟨cs11,hc9,he9⟩:=H25.el ha4
 obtain ⟨v21,rfl,r18,⟨o14,H27⟩⟩:=hc9
 refine vl (.agg ((packRC a4 v21)).toArray) rfl (r_loadR (cs:=(packRC a4 v21)) rfl (he9 _ (lT le17 S49.le)) U46 rfl (by kernel_rfl)) ?_
 refine yN packR0 S49 ?_
 intro b4 w35 S50
 refine g1 ?_
 refine yW0 S50 ?_ (h1:=ones_cons rfl (ones_cons rfl (ones_cons o14 ones_nil)))
 intro w36 S51
 refine g3 ?_
 obtain ⟨a5,ha5⟩:=get_some (l:=((W.doS L a0).2).post) (j:=((j:Int):Int).toNat) as'
 obtain ⟨cs12,hc10,he10⟩:=H26.el ha5
 obtain ⟨v22,rfl,r19,⟨o15,H28⟩⟩:=hc10
 obtain ⟨cs13,hc11,he11⟩:=H25.el ha4
 obtain ⟨v23,rfl,r20,⟨o16,H29⟩⟩:=hc11
 have hxy:a5=a4:=by have h1:=ha5;have h2:=ha4;rw [hx1,List.getElem?_append_left (by omega)] at h1;exact Option.some.inj (h1.symm.trans h2)
 skip
 refine EC_quietB (by kernel_rfl) (by kernel_rfl) ?_
 refine g2 ?_
 refine EQ_val (ptr (blkOf v9) (offOf v9+((j:Int):Int).toNat*3)) rfl (fun _ hw=>r_indexX rfl (XRow.below (H26.row S51.le) (hp_below hw)) rfl (by omega) as' U39 (by kernel_rfl)) (EQ_val (ptr (blkOf v9) (offOf v9+((j:Int):Int).toNat*3+0)) rfl (fun _ hw=>r_fieldP (s:=1) rfl U46 rfl (by kernel_rfl) (by decide) rfl) ?_)
 obtain ⟨cs14,hc12,he12⟩:=H26.el ha5
 obtain ⟨v24,rfl,r21,⟨o17,H30⟩⟩:=hc12
 refine EQ_val (.int .i64 a5.c) rfl (fun _ hw=>r_loadF (k:=0) rfl (ElAt.below (he12 _ S51.le) (hp_below hw)) rfl U3 rfl) ?_
 refine g2 ?_
 refine EQ_val _ rfl (fun _ hw=>dcF (r_neq rfl rfl) (by simp [hxy])) ?_
 refine g3 ?_
 refine EQ_gval 135 rfl rfl rfl rfl (ptr (blkOf v9) (offOf v9+((j:Int):Int).toNat*3)) rfl (fun _ hw=>r_indexX rfl (XRow.below (H26.row S51.le) (hp_below hw)) rfl (by omega) as' U39 (by kernel_rfl)) (EQ_gval 135 rfl rfl rfl rfl (ptr (blkOf v9) (offOf v9+((j:Int):Int).toNat*3+1)) rfl (fun _ hw=>r_fieldP (s:=1) rfl U46 rfl (by kernel_rfl) (by decide) rfl) ?_)
 obtain ⟨cs15,hc13,he13⟩:=H26.el ha5
 obtain ⟨v25,rfl,r22,⟨o18,H31⟩⟩:=hc13
 refine EQ_gval 135 rfl rfl rfl rfl (.bool a5.up) rfl (fun _ hw=>r_loadF (k:=1) rfl (ElAt.below (he13 _ S51.le) (hp_below hw)) rfl U4 rfl) ?_
 refine g2 ?_
 refine EQ_gval 135 rfl rfl rfl rfl _ rfl (fun _ hw=>dcF (r_neqb rfl rfl U4) (by simp [hxy])) ?_
 refine g4 ?_
 refine EQ_gval 145 rfl rfl rfl rfl (ptr (blkOf v9) (offOf v9+((j:Int):Int).toNat*3)) rfl (fun _ hw=>r_indexX rfl (XRow.below (H26.row S51.le) (hp_below hw)) rfl (by omega) as' U39 (by kernel_rfl)) (EQ_gval 145 rfl rfl rfl rfl (ptr (blkOf v9) (offOf v9+((j:Int):Int).toNat*3+2)) rfl (fun _ hw=>r_fieldP (s:=1) rfl U46 rfl (by kernel_rfl) (by decide) rfl) ?_)
 obtain ⟨cs16,hc14,he14⟩:=H26.el ha5
 obtain ⟨v26,rfl,r23,⟨o19,H32⟩⟩:=hc14
 refine EQ_gval 145 rfl rfl rfl rfl v26 rfl (fun _ hw=>r_loadF (k:=2) rfl (ElAt.below (he14 _ S51.le) (hp_below hw)) rfl U33 rfl) (EQ_gval 145 rfl rfl rfl rfl (.string (str a5.data)) rfl (fun _ hw=>r_str rfl ((H32 _ S51.le).below hw) U33 U5 U9) ?_)
 refine g2 ?_
 refine EQ_gval 145 rfl rfl rfl rfl (.string (str a4.data)) rfl (fun _ hw=>r_str rfl ((H27 _ (lT le17 S51.le)).below hw) U33 U5 U9) (EQ_gval 145 rfl rfl rfl rfl _ rfl (fun _ hw=>dcF (r_neqs rfl rfl) (by simp [hxy])) ?_)
 refine g1 ?_
 refine yE S51 ?_
 intro w37 S52
 refine g6 ?_
 refine EL_int ((j:Int)+1) rfl (r_addi (by exact e56) rfl (by omega)) ?_
 intro x3 hx486
 refine g3 ?_
 refine ⟨_,?_,j+1,rfl,(Eq.trans (show _=Value.int .i64 x3 from rfl) (congrArg _ (by omega))),(by exact e57),(by exact e58),(by exact e59),(by exact e60),(by exact e61),(by exact e62),(by exact e63),by omega,S52.dr0⟩
 first | omega | (simp;omega)
 refine g7 ?_
 refine EL_int ((i:Int)+1) rfl (r_addi (by exact e61) rfl (by omega)) ?_
 intro x4 hx488
 refine g3 ?_
 refine ⟨_,?_,i+1,(W.doS L a0).1,((W.doS L a0).2),I16,rfl,(Eq.trans (show _=Value.int .i64 x4 from rfl) (congrArg _ (by omega))),(by exact e57),(by exact e59),(by exact e60),by omega,hg.tt,(by have:=hg.len;omega),(by have:=hg.sent;omega),(lT (lT (lT (lT (lT (lT (lT le4 le5) le6) le7) le11) le15) le16) le17),S49.dr1.dr1.dr2⟩
 first | omega | (simp;omega)
 obtain ⟨hA,hB,hpw⟩:=hc
 refine g13 ?_
 refine EL_gite 48 rfl rfl rfl (.int .i64 (W.post.length:Int)) rfl (fun g498=>r_lenX (cond_of g498 rfl) (OwnX.row S12 5 rfl (by decide)).1 U39) ?_
 refine g7 ?_
 refine EL_gite2 59 rfl rfl rfl (ptr b1 0) rfl (fun g504=>fP 0 rfl U38 (by kernel_rfl)) ?_
 refine EL_gite2 59 rfl rfl rfl (.int .i64 a0.kind) rfl (fun g505=>r_loadA (cond_of g505 rfl) (S12.a6) (u:=(.int .i64 a0.kind)) rfl U3 rfl) ?_
 refine EL_gite2 59 rfl rfl rfl (.bool (decide (a0.kind=6))) rfl (fun g506=>r_eql (cond_of g506 rfl) rfl) ?_
 refine EL_gite 55 rfl rfl rfl (.bool ((decide (a0.kind=5))||(decide (a0.kind=6)))) rfl (fun g507=>r_or (cond_of g507 rfl) rfl (cond_in g507 rfl)) ?_
 refine g3 ?_
 refine EC_cond_false (Eq.trans (show _=Value.bool ((((decide (((W.doA L a0).e)≠60))&&(decide (0≤a0.n)))&&(decide (a0.n<(W.post.length:Int))))&&((decide (a0.kind=5))||(decide (a0.kind=6)))) from rfl) (congrArg Value.bool (show ((((decide (((W.doA L a0).e)≠60))&&(decide (0≤a0.n)))&&(decide (a0.n<(W.post.length:Int))))&&((decide (a0.kind=5))||(decide (a0.kind=6))))=false from by rw [Bool.eq_false_iff];intro q;simp only [Bool.and_eq_true,Bool.or_eq_true,decide_eq_true_eq] at q;omega))) ?_
 refine g15 ?_
 refine EC_cond_false (Eq.trans (show _=Value.bool ((decide (a0.kind=7))&&(decide (((W.doA L a0).e)=0))) from rfl) (congrArg Value.bool (show ((decide (a0.kind=7))&&(decide (((W.doA L a0).e)=0)))=false from by rw [Bool.eq_false_iff];intro q;simp only [Bool.and_eq_true,decide_eq_true_eq] at q;omega))) ?_
 refine g4 ?_
 have q2:W.post=pw:=by rw [hpw]
 have S53:=S12.ax5 q2
 have oH516:=(OwnX.one S53 5 rfl (by decide))
 obtain ⟨I17,le18,S54,H33⟩:=S53.fx5 (by decide)
 have oH520:=(OwnX.one S54 0 rfl (by decide))
 obtain ⟨I18,le19,S55,H34⟩:=S54.fx0 (by decide)
 skip
 refine g2 ?_
 refine vl _ rfl (r_lenX rfl (H34.row S55.le) U39) ?_
 refine g1 ?_
 refine vl _ rfl (r_lenX rfl (H33.row (lT le19 S55.le)) U39) (vl _ rfl (dcF (r_lss rfl rfl) (by simp;omega)) ?_)
 refine g2 ?_
 refine gl 100 rfl rfl rfl rfl _ rfl (r_lenX rfl (H34.row S55.le) U39) ?_
 refine g1 ?_
 refine gl 100 rfl rfl rfl rfl _ rfl (r_lenX rfl (H33.row (lT le19 S55.le)) U39) (gl  100 rfl rfl rfl rfl (.int .i64 ((pw.length:Int)+1)) rfl (r_addi rfl rfl (by omega)) (gl 100 rfl rfl rfl rfl _ rfl (dcF (r_gtr rfl rfl) (by simp;omega)) ?_))
 refine g7 ?_
 refine EL_gite 112 rfl rfl rfl (.int .i64 ((((W.doS L a0).2).post).length:Int)) rfl (fun g523=>r_lenX (cond_of g523 rfl) (H34.row S55.le) U39) ?_
 refine g1 ?_
 refine EL_gite 112 rfl rfl rfl (.int .i64 (pw.length:Int)) rfl (fun g525=>r_lenX (cond_of g525 rfl) (H33.row (lT le19 S55.le)) U39) ?_
 refine g5 ?_
 refine EC_cond_false (Eq.trans (show _=Value.bool ((decide (5<a0.kind))&&(decide (((((W.doS L a0).2).post).length:Int)≠(pw.length:Int)))) from rfl) (congrArg Value.bool (show ((decide (5<a0.kind))&&(decide (((((W.doS L a0).2).post).length:Int)≠(pw.length:Int))))=false from by rw [Bool.eq_false_iff];intro q;simp only [Bool.and_eq_true,Bool.or_eq_true,decide_eq_true_eq,Bool.false_eq_true,false_or] at q;have:=hx4 q.1;omega))) ?_
 refine g5 ?_
 refine vl _ rfl (r_lenX rfl (H33.row (lT le19 S55.le)) U39) ?_
 refine g4 ?_
 refine EC_loop (fun m' E' w'=>∃j:Nat,m'=pw.length-j∧E' 122=.int .i64 (j:Int)∧E' 3=ptr b0∧E' 9=v9∧E' 26=v0∧E' 27=.int .i64 (l.length:Int)∧E' 28=.int .i64 (i:Int)∧E' 120=v7∧E' 121=.int .i64 (pw.length:Int)∧(j≤pw.length)∧Sat w' I18 (WldO (ptr b0) bs0 p0 ((W.doS L a0).2)::Blk b2 43 [.int .i64 ((W.doA L a0).e),v8]::Own 30 1 v8 ((W.doA L a0).outs).length (((W.doA L a0).outs).map (Value.int .i64))::Suite p0 ((W.doS L a0).1)::Blk b1 38 (opRC a0 v3 v4 v5 v6)::R)) _ ⟨0,rfl,rfl,(by exact e1),rfl,(by exact e2),(by exact e3),(by exact e0),rfl,rfl,Nat.zero_le _,S55⟩ ?_
 rintro _ E4 w38 ⟨j,rfl,e64,e65,e66,e67,e68,e69,e70,e71,hj,S56⟩
 refine g6 ?_
 refine EC_if rfl (fun h9=>?_) (fun h9=>?_)
 refine g7 ?_
 refine vl (ptr (blkOf v7) (offOf v7+((j:Int):Int).toNat*3)) rfl (r_indexX (by exact e70) (H33.row (lT le19 S56.le)) (by exact e64) (by omega) as' U39 (by kernel_rfl)) ?_
 obtain ⟨a6,ha6⟩:=get_some (l:=pw) (j:=((j:Int):Int).toNat) as'
 obtain ⟨cs17,hc15,he15⟩:=H33.el ha6
 obtain ⟨v27,rfl,r24,⟨o20,H35⟩⟩:=hc15
 refine vl (.agg ((packRC a6 v27)).toArray) rfl (r_loadR (cs:=(packRC a6 v27)) rfl (he15 _ (lT le19 S56.le)) U46 rfl (by kernel_rfl)) ?_
 refine yN packR0 S56 ?_
 intro b5 w39 S57
 refine g1 ?_
 refine yW0 S57 ?_ (h1:=ones_cons rfl (ones_cons rfl (ones_cons o20 ones_nil)))
 intro w40 S58
 refine g3 ?_
 obtain ⟨a7,ha7⟩:=get_some (l:=((W.doS L a0).2).post) (j:=((j:Int):Int).toNat) as'
 obtain ⟨cs18,hc16,he16⟩:=H34.el ha7
 obtain ⟨v28,rfl,r25,⟨o21,H36⟩⟩:=hc16
 obtain ⟨cs19,hc17,he17⟩:=H33.el ha6
 obtain ⟨v29,rfl,r26,⟨o22,H37⟩⟩:=hc17
 have hxy:a7=a6:=by have h1:=ha7;have h2:=ha6;rw [hx1,List.getElem?_append_left (by omega)] at h1;exact Option.some.inj (h1.symm.trans h2)
 skip
 refine EC_quietB (by kernel_rfl) (by kernel_rfl) ?_
 refine g2 ?_
 refine EQ_val (ptr (blkOf v9) (offOf v9+((j:Int):Int).toNat*3)) rfl (fun _ hw=>r_indexX rfl (XRow.below (H34.row S58.le) (hp_below hw)) rfl (by omega) as' U39 (by kernel_rfl)) (EQ_val (ptr (blkOf v9) (offOf v9+((j:Int):Int).toNat*3+0)) rfl (fun _ hw=>r_fieldP (s:=1) rfl U46 rfl (by kernel_rfl) (by decide) rfl) ?_)
 obtain ⟨cs20,hc18,he18⟩:=H34.el ha7
 obtain ⟨v30,rfl,r27,⟨o23,H38⟩⟩:=hc18
 refine EQ_val (.int .i64 a7.c) rfl (fun _ hw=>r_loadF (k:=0) rfl (ElAt.below (he18 _ S58.le) (hp_below hw)) rfl U3 rfl) ?_
 refine g2 ?_
 refine EQ_val _ rfl (fun _ hw=>dcF (r_neq rfl rfl) (by simp [hxy])) ?_
 refine g3 ?_
 refine EQ_gval 135 rfl rfl rfl rfl (ptr (blkOf v9) (offOf v9+((j:Int):Int).toNat*3)) rfl (fun _ hw=>r_indexX rfl (XRow.below (H34.row S58.le) (hp_below hw)) rfl (by omega) as' U39 (by kernel_rfl)) (EQ_gval 135 rfl rfl rfl rfl (ptr (blkOf v9) (offOf v9+((j:Int):Int).toNat*3+1)) rfl (fun _ hw=>r_fieldP (s:=1) rfl U46 rfl (by kernel_rfl) (by decide) rfl) ?_)
 obtain ⟨cs21,hc19,he19⟩:=H34.el ha7
 obtain ⟨v31,rfl,r28,⟨o24,H39⟩⟩:=hc19
 refine EQ_gval 135 rfl rfl rfl rfl (.bool a7.up) rfl (fun _ hw=>r_loadF (k:=1) rfl (ElAt.below (he19 _ S58.le) (hp_below hw)) rfl U4 rfl) ?_
 refine g2 ?_
 refine EQ_gval 135 rfl rfl rfl rfl _ rfl (fun _ hw=>dcF (r_neqb rfl rfl U4) (by simp [hxy])) ?_
 refine g4 ?_
 refine EQ_gval 145 rfl rfl rfl rfl (ptr (blkOf v9) (offOf v9+((j:Int):Int).toNat*3)) rfl (fun _ hw=>r_indexX rfl (XRow.below (H34.row S58.le) (hp_below hw)) rfl (by omega) as' U39 (by kernel_rfl)) (EQ_gval 145 rfl rfl rfl rfl (ptr (blkOf v9) (offOf v9+((j:Int):Int).toNat*3+2)) rfl (fun _ hw=>r_fieldP (s:=1) rfl U46 rfl (by kernel_rfl) (by decide) rfl) ?_)
 obtain ⟨cs22,hc20,he20⟩:=H34.el ha7
 obtain ⟨v32,rfl,r29,⟨o25,H40⟩⟩:=hc20
 refine EQ_gval 145 rfl rfl rfl rfl v32 rfl (fun _ hw=>r_loadF (k:=2) rfl (ElAt.below (he20 _ S58.le) (hp_below hw)) rfl U33 rfl) (EQ_gval 145 rfl rfl rfl rfl (.string (str a7.data)) rfl (fun _ hw=>r_str rfl ((H40 _ S58.le).below hw) U33 U5 U9) ?_)
 refine g2 ?_
 refine EQ_gval 145 rfl rfl rfl rfl (.string (str a6.data)) rfl (fun _ hw=>r_str rfl ((H35 _ (lT le19 S58.le)).below hw) U33 U5 U9) (EQ_gval 145 rfl rfl rfl rfl _ rfl (fun _ hw=>dcF (r_neqs rfl rfl) (by simp [hxy])) ?_)
 refine g1 ?_
 refine yE S58 ?_
 intro w41 S59
 refine g6 ?_
 refine EL_int ((j:Int)+1) rfl (r_addi (by exact e64) rfl (by omega)) ?_
 intro x5 hx600
 refine g3 ?_
 refine ⟨_,?_,j+1,rfl,(Eq.trans (show _=Value.int .i64 x5 from rfl) (congrArg _ (by omega))),(by exact e65),(by exact e66),(by exact e67),(by exact e68),(by exact e69),(by exact e70),(by exact e71),by omega,S59.dr0⟩
 first | omega | (simp;omega)
 refine g7 ?_
 refine EL_int ((i:Int)+1) rfl (r_addi (by exact e69) rfl (by omega)) ?_
 intro x6 hx602
 refine g3 ?_
 refine ⟨_,?_,i+1,(W.doS L a0).1,((W.doS L a0).2),I18,rfl,(Eq.trans (show _=Value.int .i64 x6 from rfl) (congrArg _ (by omega))),(by exact e65),(by exact e67),(by exact e68),by omega,hg.tt,(by have:=hg.len;omega),(by have:=hg.sent;omega),(lT (lT (lT (lT (lT le4 le5) le6) le7) le18) le19),S56.dr1.dr1.dr2⟩
 first | omega | (simp;omega)
 refine g11 ?_
 refine f1 Tryz.results3 ?_
 exact ⟨I4,(lT (lT (lT (lT le0 le1) le2) le3) le4),rfl,S5.dr0.dr0⟩
theorem WorldPost_c (v0:Value) (l:(List OpT)) (w:World) (H0:RoX (gh w) v0 opR l):Ret Tryz.prog 3 [v0] w fun v w'=>v=.bool true∧Below w.heap.size w w':=
 (WorldPost_w v0 l (gh w) [] w (Sat.start w) H0).mono fun v w' h=>by obtain ⟨J,le,e,S⟩:=h;exact ⟨e.symm,S.fin le⟩
theorem own:ownKnob Tryz.prog.godebug=none:=by kernel_rfl
theorem laidOut:laidOutB Tryz.prog=true:=by kernel_rfl
set_option maxRecDepth 100000 in
theorem lifted (os : Os) (started : os.Started) (H : Type) (enc : TypeId × Value → H) :
    ReturnsInHanded {} Tryz.checked os 3 .any (Rows.worldPostSpec.pre6 enc Tryz.prog Tryz.f3 Rows.worldPostRow.domain false) (Rows.worldPostSpec.post enc Tryz.prog Tryz.f3 false true false false) := by
  refine returnsInHanded_of_change (C := Tryz.checked) own started (by kernel_rfl) Tryz.func3
    (ChangeSpec.witness6 (enc := enc) (C := Tryz.checked) false ⟨#[], #[.slice none 0 0], []⟩ 8 (by kernel_rfl) (by kernel_rfl) (by kernel_rfl) (by kernel_rfl)) ?_
  intro W base args ds gs before hval0 hW hcnd _
  have hval : ∀ (j : Nat) t v, Tryz.f3.params[j]? = some t → args[j]? = some v → Value.okWide Tryz.prog W .any base t v := hval0
  have hW' := hW
  obtain ⟨p, q, hA0, hV, rfl, hfz, hnd⟩ := hW
  have hA : DataW.TrodAll enc Tryz.prog W 0 (fun _ => true) true Tryz.f3.params.toList args.toList ds p := hA0
  rw [Tryz.params3] at hA hval
  obtain ⟨v0, vs0, d0, ds0, p0, q0, hargs, rfl, rfl, h0, r0⟩ := trodAll_cons hA
  obtain ⟨rfl, rfl, rfl⟩ := trodAll_nil r0
  obtain rfl : args = #[v0] := by cases args; simp_all
  obtain ⟨rfl, rfl⟩ := trodVars_none hV
  have k0 := h0
  have lt0 : ∀ x ∈ p0, x.block < W.heap.size := by obtain ⟨m, hm⟩ := k0; exact DataW.trod_lt m _ _ _ hm
  obtain ⟨a0, len0, cap0, rfl⟩ := okWide_slice Tryz.underlying22 (hval 0 22 v0 rfl rfl)
  obtain ⟨b0, H0⟩ : ∃ l, RoX (gh W) (.slice a0 len0 cap0) opR l := by
    obtain ⟨fuel, hf⟩ := h0
    obtain ⟨l, v, hv, _, H⟩ := (Opn.list (τ := opR) Tryz.underlying22 (by kernel_rfl) (by decide) opn_38) _ W _ _ _ _ _ hf
    simp [Value.cells] at hv
    subst hv
    exact ⟨l, H⟩
  clear hA0 hval0
  refine Calls.mono (WorldPost_c (.slice a0 len0 cap0) b0 W H0) fun e W' ⟨v', he, hv, bel⟩ => ?_
  subst he
  subst hv
  exact ⟨_, rfl, _, _, _, [], _, [], hW', trodAll_mk1 (shut_bool Tryz.underlying4 _), (trodAll_cons_mk (Below.trod laidOut (by kernel_rfl) (of_decide_eq_true (by kernel_rfl)) k0 bel lt0) trodAll_mk0), rfl, bel.frame _, fun h => by cases h⟩
theorem over:Rows.worldPostRow.holds Tryz.pinned (OpenSpec.ofChange Rows.worldPostSpec):=
 OpenClaim.holds_of_wide 3 Tryz.f3 rfl rfl rfl rfl rfl rfl rfl ⟨rfl,rfl,rfl,rfl,rfl⟩ rfl rfl rfl rfl rfl (by kernel_rfl) Tryz.func3 (by kernel_rfl)
  (of_decide_eq_true (by kernel_rfl)) (by unfold Func.isWrapper;first | (rw [if_pos (by decide +kernel)];kernel_rfl) | (rw [if_neg (by decide +kernel)];exact ⟨rfl,rfl⟩))
  (fun os started H enc _=>lifted os started H enc)
end Go.Proofs.YthddplghlljdbaaGreat.worldPost
namespace Go.Proofs.YthddplghlljdbaaGreat
theorem WorldPost_holds:Rows.WorldPostSaid:=worldPost.over
end Go.Proofs.YthddplghlljdbaaGreat
