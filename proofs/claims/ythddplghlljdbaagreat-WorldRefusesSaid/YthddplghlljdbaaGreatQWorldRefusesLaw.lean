/-
  Steps of no kind, of clients and packets that are not there, are refused, and change nothing.
  Its conditions: none: whatever the input, in whatever memory.
-/
import Derived.Test.YthddplghlljdbaaGreatRows
import Derived.ProofKit
import Derived.OpenShut
import Derived.ShutString
import Derived.ChangeOld
import Derived.Test.YthddplghlljdbaaGreatQWorldRefusesLwW
import Derived.Test.YthddplghlljdbaaGreatQWorldRefusesSized
set_option linter.unusedVariables false
set_option linter.unusedSimpArgs false
namespace Go.Proofs.YthddplghlljdbaaGreat.worldRefuses
open Go.ChangeShapes Go.WideShapes Go.ChangeAt Go.RowKit Go.Ecal
open Go.ChangeMaps (open_string shut_string)
set_option maxRecDepth 100000 in
theorem opn_113:Opn Tryz.prog 113 wrapR:=fun enc w sp hd fuel cs x h=>by
 obtain ⟨xs,n,_,_,hl,hxl,hf⟩:=DataW.trod_struct Tryz.underlying113 h
 have hlen:cs.length=2:=hl.trans (by kernel_rfl)
 obtain ⟨c0,t0,rfl,l0⟩:=cons_of_len hlen
 obtain ⟨c1,t1,rfl,l1⟩:=cons_of_len l0
 obtain rfl:=List.eq_nil_of_length_eq_zero l1
 have e0:DataW.trod enc Tryz.prog w 0 sp hd n 3 [c0]=xs[0]?:=Opn.part hf rfl rfl rfl (k:=1) (by kernel_rfl) rfl
 obtain ⟨a0,h0⟩:=Opn.field (Opn.int Tryz.underlying3) (by rw [hxl];decide) e0
 have e1:DataW.trod enc Tryz.prog w 0 sp hd n 33 [c1]=xs[1]?:=Opn.part hf rfl rfl rfl (k:=1) (by kernel_rfl) rfl
 obtain ⟨a1,h1⟩:=Opn.field (Opn.bytes Tryz.underlying33 Tryz.underlying5 (by kernel_rfl)) (by rw [hxl];decide) e1
 obtain ⟨q,rh0⟩:=h0;simp only [List.cons.injEq,and_true] at q;subst q
 obtain ⟨vh1,q,oh1,rh1⟩:=h1;simp only [List.cons.injEq,and_true] at q;subst q
 exact ⟨⟨a0,a1⟩,⟨_,rfl,rh0,⟨oh1,rh1⟩⟩⟩
set_option maxRecDepth 100000 in
theorem opn_36:Opn Tryz.prog 36 entR:=fun enc w sp hd fuel cs x h=>by
 obtain ⟨xs,n,_,_,hl,hxl,hf⟩:=DataW.trod_struct Tryz.underlying36 h
 have hlen:cs.length=9:=hl.trans (by kernel_rfl)
 obtain ⟨c0,t0,rfl,l0⟩:=cons_of_len hlen
 obtain ⟨c1,t1,rfl,l1⟩:=cons_of_len l0
 obtain ⟨c2,t2,rfl,l2⟩:=cons_of_len l1
 obtain ⟨c3,t3,rfl,l3⟩:=cons_of_len l2
 obtain ⟨c4,t4,rfl,l4⟩:=cons_of_len l3
 obtain ⟨c5,t5,rfl,l5⟩:=cons_of_len l4
 obtain ⟨c6,t6,rfl,l6⟩:=cons_of_len l5
 obtain ⟨c7,t7,rfl,l7⟩:=cons_of_len l6
 obtain ⟨c8,t8,rfl,l8⟩:=cons_of_len l7
 obtain rfl:=List.eq_nil_of_length_eq_zero l8
 have e0:DataW.trod enc Tryz.prog w 0 sp hd n 3 [c0]=xs[0]?:=Opn.part hf rfl rfl rfl (k:=1) (by kernel_rfl) rfl
 obtain ⟨a0,h0⟩:=Opn.field (Opn.int Tryz.underlying3) (by rw [hxl];decide) e0
 have e1:DataW.trod enc Tryz.prog w 0 sp hd n 3 [c1]=xs[1]?:=Opn.part hf rfl rfl rfl (k:=1) (by kernel_rfl) rfl
 obtain ⟨a1,h1⟩:=Opn.field (Opn.int Tryz.underlying3) (by rw [hxl];decide) e1
 have e2:DataW.trod enc Tryz.prog w 0 sp hd n 3 [c2]=xs[2]?:=Opn.part hf rfl rfl rfl (k:=1) (by kernel_rfl) rfl
 obtain ⟨a2,h2⟩:=Opn.field (Opn.int Tryz.underlying3) (by rw [hxl];decide) e2
 have e3:DataW.trod enc Tryz.prog w 0 sp hd n 33 [c3]=xs[3]?:=Opn.part hf rfl rfl rfl (k:=1) (by kernel_rfl) rfl
 obtain ⟨a3,h3⟩:=Opn.field (Opn.bytes Tryz.underlying33 Tryz.underlying5 (by kernel_rfl)) (by rw [hxl];decide) e3
 have e4:DataW.trod enc Tryz.prog w 0 sp hd n 33 [c4]=xs[4]?:=Opn.part hf rfl rfl rfl (k:=1) (by kernel_rfl) rfl
 obtain ⟨a4,h4⟩:=Opn.field (Opn.bytes Tryz.underlying33 Tryz.underlying5 (by kernel_rfl)) (by rw [hxl];decide) e4
 have e5:DataW.trod enc Tryz.prog w 0 sp hd n 3 [c5]=xs[5]?:=Opn.part hf rfl rfl rfl (k:=1) (by kernel_rfl) rfl
 obtain ⟨a5,h5⟩:=Opn.field (Opn.int Tryz.underlying3) (by rw [hxl];decide) e5
 have e6:DataW.trod enc Tryz.prog w 0 sp hd n 3 [c6]=xs[6]?:=Opn.part hf rfl rfl rfl (k:=1) (by kernel_rfl) rfl
 obtain ⟨a6,h6⟩:=Opn.field (Opn.int Tryz.underlying3) (by rw [hxl];decide) e6
 have e7:DataW.trod enc Tryz.prog w 0 sp hd n 3 [c7]=xs[7]?:=Opn.part hf rfl rfl rfl (k:=1) (by kernel_rfl) rfl
 obtain ⟨a7,h7⟩:=Opn.field (Opn.int Tryz.underlying3) (by rw [hxl];decide) e7
 have e8:DataW.trod enc Tryz.prog w 0 sp hd n 34 [c8]=xs[8]?:=Opn.part hf rfl rfl rfl (k:=1) (by kernel_rfl) rfl
 obtain ⟨a8,h8⟩:=Opn.field (Opn.list (τ:=wrapR) Tryz.underlying34 (by kernel_rfl) (by decide) opn_113) (by rw [hxl];decide) e8
 obtain ⟨q,rh0⟩:=h0;simp only [List.cons.injEq,and_true] at q;subst q
 obtain ⟨q,rh1⟩:=h1;simp only [List.cons.injEq,and_true] at q;subst q
 obtain ⟨q,rh2⟩:=h2;simp only [List.cons.injEq,and_true] at q;subst q
 obtain ⟨vh3,q,oh3,rh3⟩:=h3;simp only [List.cons.injEq,and_true] at q;subst q
 obtain ⟨vh4,q,oh4,rh4⟩:=h4;simp only [List.cons.injEq,and_true] at q;subst q
 obtain ⟨q,rh5⟩:=h5;simp only [List.cons.injEq,and_true] at q;subst q
 obtain ⟨q,rh6⟩:=h6;simp only [List.cons.injEq,and_true] at q;subst q
 obtain ⟨q,rh7⟩:=h7;simp only [List.cons.injEq,and_true] at q;subst q
 obtain ⟨vh8,q,oh8,rh8⟩:=h8;simp only [List.cons.injEq,and_true] at q;subst q
 exact ⟨⟨a0,a1,a2,a3,a4,a5,a6,a7,a8⟩,⟨_,_,_,rfl,rh0,rh1,rh2,⟨oh3,rh3⟩,⟨oh4,rh4⟩,rh5,rh6,rh7,⟨oh8,rh8⟩⟩⟩
set_option maxRecDepth 100000 in
theorem opn_38:Opn Tryz.prog 38 opR:=fun enc w sp hd fuel cs x h=>by
 obtain ⟨xs,n,_,_,hl,hxl,hf⟩:=DataW.trod_struct Tryz.underlying38 h
 have hlen:cs.length=13:=hl.trans (by kernel_rfl)
 obtain ⟨c0,t0,rfl,l0⟩:=cons_of_len hlen
 obtain ⟨c1,t1,rfl,l1⟩:=cons_of_len l0
 obtain ⟨c2,t2,rfl,l2⟩:=cons_of_len l1
 obtain ⟨c3,t3,rfl,l3⟩:=cons_of_len l2
 obtain ⟨c4,t4,rfl,l4⟩:=cons_of_len l3
 obtain ⟨c5,t5,rfl,l5⟩:=cons_of_len l4
 obtain ⟨c6,t6,rfl,l6⟩:=cons_of_len l5
 obtain ⟨c7,t7,rfl,l7⟩:=cons_of_len l6
 obtain ⟨c8,t8,rfl,l8⟩:=cons_of_len l7
 obtain ⟨c9,t9,rfl,l9⟩:=cons_of_len l8
 obtain ⟨c10,t10,rfl,l10⟩:=cons_of_len l9
 obtain ⟨c11,t11,rfl,l11⟩:=cons_of_len l10
 obtain ⟨c12,t12,rfl,l12⟩:=cons_of_len l11
 obtain rfl:=List.eq_nil_of_length_eq_zero l12
 have e0:DataW.trod enc Tryz.prog w 0 sp hd n 3 [c0]=xs[0]?:=Opn.part hf rfl rfl rfl (k:=1) (by kernel_rfl) rfl
 obtain ⟨a0,h0⟩:=Opn.field (Opn.int Tryz.underlying3) (by rw [hxl];decide) e0
 have e1:DataW.trod enc Tryz.prog w 0 sp hd n 3 [c1]=xs[1]?:=Opn.part hf rfl rfl rfl (k:=1) (by kernel_rfl) rfl
 obtain ⟨a1,h1⟩:=Opn.field (Opn.int Tryz.underlying3) (by rw [hxl];decide) e1
 have e2:DataW.trod enc Tryz.prog w 0 sp hd n 3 [c2]=xs[2]?:=Opn.part hf rfl rfl rfl (k:=1) (by kernel_rfl) rfl
 obtain ⟨a2,h2⟩:=Opn.field (Opn.int Tryz.underlying3) (by rw [hxl];decide) e2
 have e3:DataW.trod enc Tryz.prog w 0 sp hd n 36 [c3,c4,c5,c6,c7,c8,c9,c10,c11]=xs[3]?:=Opn.part hf rfl rfl rfl (k:=9) (by kernel_rfl) rfl
 obtain ⟨a3,h3⟩:=Opn.field opn_36 (by rw [hxl];decide) e3
 have e4:DataW.trod enc Tryz.prog w 0 sp hd n 33 [c12]=xs[4]?:=Opn.part hf rfl rfl rfl (k:=1) (by kernel_rfl) rfl
 obtain ⟨a4,h4⟩:=Opn.field (Opn.bytes Tryz.underlying33 Tryz.underlying5 (by kernel_rfl)) (by rw [hxl];decide) e4
 obtain ⟨q,rh0⟩:=h0;simp only [List.cons.injEq,and_true] at q;subst q
 obtain ⟨q,rh1⟩:=h1;simp only [List.cons.injEq,and_true] at q;subst q
 obtain ⟨q,rh2⟩:=h2;simp only [List.cons.injEq,and_true] at q;subst q
 obtain ⟨wh3_3,wh3_4,wh3_8,q,ph3_0,ph3_1,ph3_2,ph3_3,ph3_4,ph3_5,ph3_6,ph3_7,ph3_8⟩:=h3;simp only [List.cons.injEq,and_true] at q;obtain ⟨rfl,rfl,rfl,rfl,rfl,rfl,rfl,rfl,rfl⟩:=q
 obtain ⟨vh4,q,oh4,rh4⟩:=h4;simp only [List.cons.injEq,and_true] at q;subst q
 exact ⟨⟨a0,a1,a2,a3,a4⟩,⟨_,_,_,_,rfl,rh0,rh1,rh2,ph3_0,ph3_1,ph3_2,ph3_3,ph3_4,ph3_5,ph3_6,ph3_7,ph3_8,⟨oh4,rh4⟩⟩⟩
set_option maxRecDepth 100000 in
theorem opn_67:Opn Tryz.prog 67 mbrR:=fun enc w sp hd fuel cs x h=>by
 obtain ⟨xs,n,_,_,hl,hxl,hf⟩:=DataW.trod_struct Tryz.underlying67 h
 have hlen:cs.length=3:=hl.trans (by kernel_rfl)
 obtain ⟨c0,t0,rfl,l0⟩:=cons_of_len hlen
 obtain ⟨c1,t1,rfl,l1⟩:=cons_of_len l0
 obtain ⟨c2,t2,rfl,l2⟩:=cons_of_len l1
 obtain rfl:=List.eq_nil_of_length_eq_zero l2
 have e0:DataW.trod enc Tryz.prog w 0 sp hd n 3 [c0]=xs[0]?:=Opn.part hf rfl rfl rfl (k:=1) (by kernel_rfl) rfl
 obtain ⟨a0,h0⟩:=Opn.field (Opn.int Tryz.underlying3) (by rw [hxl];decide) e0
 have e1:DataW.trod enc Tryz.prog w 0 sp hd n 3 [c1]=xs[1]?:=Opn.part hf rfl rfl rfl (k:=1) (by kernel_rfl) rfl
 obtain ⟨a1,h1⟩:=Opn.field (Opn.int Tryz.underlying3) (by rw [hxl];decide) e1
 have e2:DataW.trod enc Tryz.prog w 0 sp hd n 3 [c2]=xs[2]?:=Opn.part hf rfl rfl rfl (k:=1) (by kernel_rfl) rfl
 obtain ⟨a2,h2⟩:=Opn.field (Opn.int Tryz.underlying3) (by rw [hxl];decide) e2
 obtain ⟨q,rh0⟩:=h0;simp only [List.cons.injEq,and_true] at q;subst q
 obtain ⟨q,rh1⟩:=h1;simp only [List.cons.injEq,and_true] at q;subst q
 obtain ⟨q,rh2⟩:=h2;simp only [List.cons.injEq,and_true] at q;subst q
 exact ⟨⟨a0,a1,a2⟩,⟨rfl,rh0,rh1,rh2⟩⟩
set_option maxRecDepth 100000 in
theorem opn_27:Opn Tryz.prog 27 setR:=fun enc w sp hd fuel cs x h=>by
 obtain ⟨xs,n,_,_,hl,hxl,hf⟩:=DataW.trod_struct Tryz.underlying27 h
 have hlen:cs.length=2:=hl.trans (by kernel_rfl)
 obtain ⟨c0,t0,rfl,l0⟩:=cons_of_len hlen
 obtain ⟨c1,t1,rfl,l1⟩:=cons_of_len l0
 obtain rfl:=List.eq_nil_of_length_eq_zero l1
 have e0:DataW.trod enc Tryz.prog w 0 sp hd n 4 [c0]=xs[0]?:=Opn.part hf rfl rfl rfl (k:=1) (by kernel_rfl) rfl
 obtain ⟨a0,h0⟩:=Opn.field (Opn.bool Tryz.underlying4) (by rw [hxl];decide) e0
 have e1:DataW.trod enc Tryz.prog w 0 sp hd n 25 [c1]=xs[1]?:=Opn.part hf rfl rfl rfl (k:=1) (by kernel_rfl) rfl
 obtain ⟨a1,h1⟩:=Opn.field (Opn.list (τ:=mbrR) Tryz.underlying25 (by kernel_rfl) (by decide) opn_67) (by rw [hxl];decide) e1
 have q:=h0;simp only [boolR,List.cons.injEq,and_true] at q;subst q
 obtain ⟨vh1,q,oh1,rh1⟩:=h1;simp only [List.cons.injEq,and_true] at q;subst q
 exact ⟨⟨a0,a1⟩,⟨_,rfl,⟨oh1,rh1⟩⟩⟩
theorem WorldRefuses_w (c0:List Value) (x:SetT) (v1:Value) (l:(List OpT)) (c2:List Value) (o:OpT) (I:Gh) (R:List HP) (w:World) (S:Sat w I (R)) (Q0:RoX I v1 opR l) (hx:setR.r I c0 x) (ho:opR.r I c2 o) (zl:l.length*168≤140737488351232):Ret Tryz.prog 6 [.agg c0.toArray,v1,.agg c2.toArray] w fun v w'=>∃J:Gh,Gh.le I J∧.bool true=v∧Sat w' J (R):=by
 have lq0:=XRow.le (Q0.row S.le)
 obtain ⟨v0,rfl,⟨o0,H0⟩⟩:=hx
 obtain ⟨v2,v3,v4,v5,rfl,r0,r1,r2,r3,r4,r5,⟨o1,H1⟩,⟨o2,H2⟩,r6,r7,r8,⟨o3,H3⟩,⟨o4,H4⟩⟩:=ho
 refine ret_E Tryz.func6 rfl Tryz.ntmps6 (by simp) ?_
 refine g2 ?_
 refine yB (cs:=[.bool x.real,v0]) S ?_
 intro b0 w0 S0
 refine yB (cs:=opRC o v2 v3 v4 v5) S0 ?_
 intro b1 w1 S1
 refine g6 ?_
 refine yR (anchor_c _ _ _ S1) ?_
 rintro _ w2 ⟨I0,le0,rfl,S2⟩
 refine vl _ rfl (dcF (r_not rfl) rfl) ?_
 refine g7 ?_
 refine yJ 5 (fun w'=>Arr w' b0 27 [.bool x.real,v0]∧Arr w' b1 38 (opRC o v2 v3 v4 v5)) S2 ?_
 intro w3 S3
 refine yT 0 S3.le ⟨S3.a1,S3.a0⟩ ?_
 refine yT 1 S3.le ⟨S3.a1,S3.a0⟩ ?_
 refine yT 3 S3.le ⟨S3.a1,S3.a0⟩ ?_
 refine y1 2 ?_
 refine EL_litW (z:=#[.int .i64 0,.int .i64 0,.int .i64 0,.int .i64 0,.int .i64 0,.int .i64 0,.slice none 0 0,.slice none 0 0,.int .i64 0,.int .i64 0,.int .i64 0,.slice none 0 0,.slice none 0 0]) (cs:=([.int .i64 o.kind,.int .i64 o.c,.int .i64 o.n,.int .i64 o.entry.kind,.int .i64 o.entry.writer,.int .i64 o.entry.seq,v2,v3,.int .i64 o.entry.who,.int .i64 o.entry.rights,.int .i64 o.entry.epoch,v4,v5]).toArray) (sz:=13) (l:=[(0,.agg ((opRC o v2 v3 v4 v5)).toArray)]) rfl U22 (by kernel_rfl) (parts1 rfl) (by kernel_rfl) rfl (by decide) ?_
 intro v6 w4 O0 B0 k0
 have S4:Sat _ _ (OwnX 38 opR v6 [o]::_):=OwnX.cls (xss:=[(opRC o v2 v3 v4 v5)]) (.cons ⟨v2,v3,v4,v5,rfl,ad,ad,ad,ad,ad,ad,⟨o1,(H1.up le0)⟩,⟨o2,(H2.up le0)⟩,ad,ad,ad,⟨o3,(H3.up le0)⟩,⟨o4,(H4.up le0)⟩⟩ .nil) (S3.newO B0 O0)
 refine yn S4.le ⟨S4.a2,S4.a1⟩ ?_
 refine y1 4 ?_
 refine EL_appX (z:=(.agg #[.int .i64 0,.int .i64 0,.int .i64 0,.int .i64 0,.int .i64 0,.int .i64 0,.slice none 0 0,.slice none 0 0,.int .i64 0,.int .i64 0,.int .i64 0,.slice none 0 0,.slice none 0 0])) (bytes:=168) rfl U22 (by kernel_rfl) rfl (by decide) rfl rfl S4 (Q0.up le0) ac ac ?_
 intro v7 w5 S5
 refine yn S5.le ⟨S5.a2,S5.a1⟩ ?_
 refine y1 5 ?_
 have oH68:=(OwnX.one S5 0 rfl (by decide))
 obtain ⟨I1,le1,S6,H5⟩:=S5.fx0 (by decide)
 refine yR (small_c [.bool x.real,v0] x _ _ 40 _ _ _ S6 H5 ⟨v0,rfl,⟨o0,(H0.up (lT le0 le1))⟩⟩) ?_
 rintro _ w6 ⟨r9,rfl,h0,S7⟩
 have hsm:=h0
 refine ym (lT le1 S7.le) ?_
 refine yu le1 ?_
 refine yf 6 S7.le ?_
 refine yd ?_
 refine g1 ?_
 refine EC_cond (t:=!r9) rfl (fun h2=>?_) (fun h2=>?_)
 refine g7 ?_
 refine f1 Tryz.results6 ?_
 exact ⟨I1,(lT le0 le1),rfl,S7.dr0.dr0⟩
 have hsz:=hsm (by simpa using h2)
 have hl39:l.length≤39:=by have h:=hsz.1;simp at h;omega
 refine g5 ?_
 refine yS1 S7 ?_
 intro w7 S8
 refine g3 ?_
 rcases hnw:newW x.mems with _ | y
 refine g2 ?_
 refine yR (WNewF_c ([.bool x.real,v0].set 0 (.bool false)) (⟨false,x.mems⟩:SetT) _ _ _ S8 ⟨v0,rfl,⟨o0,(H0.up (lT le0 le1))⟩⟩ rfl hnw) ?_
 rintro _ w8 ⟨I2,le2,rfl,S9⟩
 refine g11 ?_
 refine vl (.bool true) rfl (r_dec (by decide) (r_neq rfl rfl)) ?_
 refine g6 ?_
 refine vl (.bool true) rfl (r_eqnn rfl rfl U29) ?_
 refine g5 ?_
 refine f1 Tryz.results6 ?_
 exact ⟨I2,(lT (lT le0 le1) le2),rfl,S9.dr0.dr0⟩
 have hny:=newW_tt hnw
 refine g2 ?_
 refine yR (WNewT_c ([.bool x.real,v0].set 0 (.bool false)) (⟨false,x.mems⟩:SetT) y _ _ _ S8 ⟨v0,rfl,⟨o0,(H0.up (lT le0 le1))⟩⟩ rfl hnw) ?_
 rintro _ w9 ⟨b2,bs0,p0,I3,le3,rfl,S10⟩
 refine g11 ?_
 refine vl (.bool false) rfl (r_dec (by decide) (r_neq rfl rfl)) ?_
 refine g9 ?_
 refine vl _ rfl (r_lenX rfl (Q0.row (lT (lT (lT le0 le1) le3) S10.le)) U22) ?_
 refine g4 ?_
 refine EC_loop (fun m' E' w'=>∃i:Nat,∃L:List Thing,∃W:Wld,∃J:Gh,m'=l.length-i∧E' 38=.int .i64 (i:Int)∧E' 5=ptr b1∧E' 6=.bool false∧E' 7=ptr b2∧E' 36=v1∧E' 37=.int .i64 (l.length:Int)∧(i≤l.length)∧(TT L)∧(L.length≤12+200*i)∧(W.sent.length≤i)∧Gh.le I3 J∧Sat w' J (WldO (ptr b2) bs0 p0 W::Suite p0 L::Blk b1 38 (opRC o v2 v3 v4 v5)::Blk b0 27 ([.bool x.real,v0].set 0 (.bool false))::R)) _ ⟨0,y.1,y.2,I3,rfl,rfl,rfl,rfl,rfl,rfl,rfl,Nat.zero_le _,hny.1,by have:=hny.2.1;omega,(by rw [hny.2.2.1];exact Nat.le_refl _),(Gh.le_refl _),S10⟩ ?_
 rintro _ E0 w10 ⟨i,L,W,I4,rfl,e0,e1,e2,e3,e4,e5,hi,hT,hlL,hsW,le4,S11⟩
 refine g6 ?_
 refine EC_if rfl (fun h3=>?_) (fun h3=>?_)
 refine g6 ?_
 refine vl (ptr (blkOf v1) (offOf v1+((i:Int):Int).toNat*13)) rfl (r_indexX (by exact e4) (Q0.row (lT (lT (lT (lT le0 le1) le3) le4) S11.le)) (by exact e0) (by omega) as' U22 (by kernel_rfl)) ?_
 obtain ⟨a0,ha0⟩:=get_some (l:=l) (j:=((i:Int):Int).toNat) as'
 have hck:=WldO.coks S11
 have hg:=do_grow (W:=W) (L:=L) (o:=a0) hT hck
 obtain ⟨cs0,hc0,he0⟩:=Q0.el ha0
 obtain ⟨v8,v9,v10,v11,rfl,r10,r11,r12,r13,r14,r15,⟨o5,H6⟩,⟨o6,H7⟩,r16,r17,r18,⟨o7,H8⟩,⟨o8,H9⟩⟩:=hc0
 refine vl (.agg ((opRC a0 v8 v9 v10 v11)).toArray) rfl (r_loadR (cs:=(opRC a0 v8 v9 v10 v11)) rfl (he0 _ (lT (lT (lT (lT le0 le1) le3) le4) S11.le)) U38 rfl (by kernel_rfl)) ?_
 refine yN opR0 S11 ?_
 intro b3 w11 S12
 refine yW0 S12 ?_ (h1:=ones_cons rfl (ones_cons rfl (ones_cons rfl (ones_cons rfl (ones_cons rfl (ones_cons rfl (ones_cons o5 (ones_cons o6 (ones_cons rfl (ones_cons rfl (ones_cons rfl (ones_cons o7 (ones_cons o8 ones_nil)))))))))))))
 intro w12 S13
 refine g5 ?_
 refine yR (WDo_c _ _ _ _ _ (opRC a0 v8 v9 v10 v11) a0 _ _ _ S13.fr2.fr2 ⟨v8,v9,v10,v11,rfl,ad,ad,ad,ad,ad,ad,⟨o5,(H6.up (lT (lT (lT le0 le1) le3) le4))⟩,⟨o6,(H7.up (lT (lT (lT le0 le1) le3) le4))⟩,ad,ad,ad,⟨o7,(H8.up (lT (lT (lT le0 le1) le3) le4))⟩,⟨o8,(H9.up (lT (lT (lT le0 le1) le3) le4))⟩⟩ (by omega) (by omega) hT) ?_
 rintro _ w13 ⟨v12,I5,le5,rfl,S14⟩
 refine g4 ?_
 refine EL_int ((i:Int)+1) rfl (r_addi (by exact e0) rfl (by omega)) ?_
 intro x0 hx151
 refine g3 ?_
 refine ⟨_,?_,i+1,(W.doS L a0).1,(W.doS L a0).2,I5,rfl,(Eq.trans (show _=Value.int .i64 x0 from rfl) (congrArg _ (by omega))),(by exact e1),(by exact e2),(by exact e3),(by exact e4),(by exact e5),by omega,hg.tt,(by have:=hg.len;omega),(by have:=hg.sent;omega),(lT le4 le5),S14.dr0.dr2⟩
 first | omega | (simp;omega)
 refine g8 ?_
 refine yR (WPost_c _ _ _ _ _ _ _ S11) ?_
 rintro _ w14 ⟨v13,I6,le6,rfl,S15⟩
 refine vl _ rfl (r_lenX rfl (OwnX.row S15 0 rfl (by decide)).1 U39) ?_
 refine g1 ?_
 refine yR (WSent_c _ _ _ _ _ _ _ S15.fr1 (by first | omega | (rw [hdr.2];dsimp only;omega))) ?_
 rintro _ w15 ⟨v14,I7,le7,rfl,S16⟩
 refine vl _ rfl (r_lenX rfl (OwnX.row S16 0 rfl (by decide)).1 U52) ?_
 refine g1 ?_
 refine yR (WTly_c _ _ _ _ _ _ _ S16.fr1) ?_
 rintro _ w16 ⟨x1,y169,I8,le8,rfl,h4,h5,h6,S17⟩
 refine g6 ?_
 rcases Int.lt_or_le o.c 0 with hcz | hcz
 refine EC_quietB (by kernel_rfl) (by kernel_rfl) ?_
 refine g2 ?_
 refine EQ_val _ rfl (fun _ hw=>dcF (r_geq rfl rfl) (by simp;omega)) ?_
 refine g8 ?_
 refine yE S17 ?_
 intro w17 S18
 refine g21 ?_
 refine EC_cond (t:=(decide (o.kind<1))||(decide (11<o.kind))) rfl (fun h7=>?_) (fun h7=>?_)
 have hk0:o.kind<1∨11<o.kind:=by simpa using h7
 have hdr:=do_kind (W:=W) (L:=L) (o:=o) hk0
 skip
 refine g9 ?_
 refine yR (WDo_c _ _ _ _ _ (opRC o v2 v3 v4 v5) o _ _ _ S18.fr3.fr1 ⟨v2,v3,v4,v5,rfl,ad,ad,ad,ad,ad,ad,⟨o1,(H1.up (lT (lT (lT (lT (lT (lT le0 le1) le3) le4) le6) le7) le8))⟩,⟨o2,(H2.up (lT (lT (lT (lT (lT (lT le0 le1) le3) le4) le6) le7) le8))⟩,ad,ad,ad,⟨o3,(H3.up (lT (lT (lT (lT (lT (lT le0 le1) le3) le4) le6) le7) le8))⟩,⟨o4,(H4.up (lT (lT (lT (lT (lT (lT le0 le1) le3) le4) le6) le7) le8))⟩⟩ (by omega) (by omega) hT) ?_
 rintro _ w18 ⟨v15,I9,le9,rfl,S19⟩
 refine yN [.int .i64 0,.slice none 0 0] S19 ?_
 intro b4 w19 S20
 refine yW0 S20 ?_ (h1:=ones_cons rfl (ones_cons (own_one (S20.own 1 rfl)) ones_nil))
 intro w20 S21
 refine g7 ?_
 refine vl _ rfl (dcT (r_eql rfl rfl) (by rw [hdr.1];decide)) ?_
 refine g3 ?_
 refine gl  142 rfl rfl rfl rfl (.int .i64 (((W.doA L o).outs).length:Int)) rfl (lenF (r_len rfl (own_row (S21.own 1 rfl)) U41)) (gl 142 rfl rfl rfl rfl _ rfl (dcT (r_eql rfl rfl) (by rw [hdr.1];rfl)) ?_)
 refine g3 ?_
 refine yG (WPost_c _ _ _ _ _ _ _ S21.fr2) ?_
 rintro _ w21 ⟨v16,I10,le10,rfl,S22⟩
 refine gl 148 rfl rfl rfl rfl _ rfl (r_lenX rfl (OwnX.row S22 0 rfl (by decide)).1 U39) ?_
 refine g1 ?_
 refine gl 148 rfl rfl rfl rfl _ rfl (dcT (r_eql rfl rfl) (by rw [hdr.2];simp)) ?_
 refine g3 ?_
 refine yG (WSent_c _ _ _ _ _ _ _ S22.fr1 (by first | omega | (rw [hdr.2];dsimp only;omega))) ?_
 rintro _ w22 ⟨v17,I11,le11,rfl,S23⟩
 refine gl 155 rfl rfl rfl rfl _ rfl (r_lenX rfl (OwnX.row S23 0 rfl (by decide)).1 U52) ?_
 refine g1 ?_
 refine gl 155 rfl rfl rfl rfl _ rfl (dcT (r_eql rfl rfl) (by rw [hdr.2];simp)) ?_
 refine g3 ?_
 refine yG (WTly_c _ _ _ _ _ _ _ S23.fr1) ?_
 rintro _ w23 ⟨x2,y217,I12,le12,rfl,h8,h9,h10,S24⟩
 refine g1 ?_
 refine gl 162 rfl rfl rfl rfl _ rfl (dcT (r_ceql rfl rfl (by assumption) (by assumption) (by assumption) (by assumption)) (by rw [hdr.2];simp)) ?_
 refine g5 ?_
 refine f1 Tryz.results6 ?_
 exact ⟨I12,(lT (lT (lT (lT (lT (lT (lT (lT (lT (lT le0 le1) le3) le4) le6) le7) le8) le9) le10) le11) le12),rfl,S24.dr0.dr0.dr0.dr0.dr0.dr0.dr0.dr0.dr0.dr0⟩
 have hk0:¬(o.kind<1∨11<o.kind):=fun q=>Bool.eq_false_iff.1 h7 (by simpa using q)
 refine g15 ?_
 refine EL_gite2 86 rfl rfl rfl (ptr b1 2) rfl (fun g240=>fP 0 (by exact e1) U38 (by kernel_rfl)) ?_
 refine EL_gite2 86 rfl rfl rfl (.int .i64 o.n) rfl (fun g241=>r_loadA (cond_of g241 rfl) (S18.a4) (u:=(.int .i64 o.n)) rfl U3 rfl) ?_
 refine EL_gite2 86 rfl rfl rfl (.int .i64 (W.post.length:Int)) rfl (fun g242=>r_move rfl) ?_
 refine EL_gite2 86 rfl rfl rfl (.bool (decide ((W.post.length:Int)≤o.n))) rfl (fun g243=>r_geq (cond_of g243 rfl) (cond_of g243 rfl)) ?_
 refine EL_gite 82 rfl rfl rfl (.bool ((decide (o.n<0))||(decide ((W.post.length:Int)≤o.n)))) rfl (fun g244=>r_or (cond_of g244 rfl) rfl (cond_in g244 rfl)) ?_
 refine g4 ?_
 refine EC_cond (t:=((decide (5≤o.kind))&&(decide (o.kind≤7)))&&((decide (o.n<0))||(decide ((W.post.length:Int)≤o.n)))) rfl (fun h11=>?_) (fun h11=>?_)
 have hk4:(5≤o.kind∧o.kind≤7)∧(o.n<0∨(W.post.length:Int)≤o.n):=by simpa using h11
 have hk5:=hk4.1
 have hnb:=hk4.2
 have hdr:=do_pick (W:=W) (L:=L) (o:=o) hk5 hnb
 skip
 refine g9 ?_
 refine yR (WDo_c _ _ _ _ _ (opRC o v2 v3 v4 v5) o _ _ _ S18.fr3.fr1 ⟨v2,v3,v4,v5,rfl,ad,ad,ad,ad,ad,ad,⟨o1,(H1.up (lT (lT (lT (lT (lT (lT le0 le1) le3) le4) le6) le7) le8))⟩,⟨o2,(H2.up (lT (lT (lT (lT (lT (lT le0 le1) le3) le4) le6) le7) le8))⟩,ad,ad,ad,⟨o3,(H3.up (lT (lT (lT (lT (lT (lT le0 le1) le3) le4) le6) le7) le8))⟩,⟨o4,(H4.up (lT (lT (lT (lT (lT (lT le0 le1) le3) le4) le6) le7) le8))⟩⟩ (by omega) (by omega) hT) ?_
 rintro _ w24 ⟨v18,I13,le13,rfl,S25⟩
 refine yN [.int .i64 0,.slice none 0 0] S25 ?_
 intro b5 w25 S26
 refine yW0 S26 ?_ (h1:=ones_cons rfl (ones_cons (own_one (S26.own 1 rfl)) ones_nil))
 intro w26 S27
 refine g7 ?_
 refine vl _ rfl (dcT (r_eql rfl rfl) (by rw [hdr.1];decide)) ?_
 refine g3 ?_
 refine gl  142 rfl rfl rfl rfl (.int .i64 (((W.doA L o).outs).length:Int)) rfl (lenF (r_len rfl (own_row (S27.own 1 rfl)) U41)) (gl 142 rfl rfl rfl rfl _ rfl (dcT (r_eql rfl rfl) (by rw [hdr.1];rfl)) ?_)
 refine g3 ?_
 refine yG (WPost_c _ _ _ _ _ _ _ S27.fr2) ?_
 rintro _ w27 ⟨v19,I14,le14,rfl,S28⟩
 refine gl 148 rfl rfl rfl rfl _ rfl (r_lenX rfl (OwnX.row S28 0 rfl (by decide)).1 U39) ?_
 refine g1 ?_
 refine gl 148 rfl rfl rfl rfl _ rfl (dcT (r_eql rfl rfl) (by rw [hdr.2];simp)) ?_
 refine g3 ?_
 refine yG (WSent_c _ _ _ _ _ _ _ S28.fr1 (by first | omega | (rw [hdr.2];dsimp only;omega))) ?_
 rintro _ w28 ⟨v20,I15,le15,rfl,S29⟩
 refine gl 155 rfl rfl rfl rfl _ rfl (r_lenX rfl (OwnX.row S29 0 rfl (by decide)).1 U52) ?_
 refine g1 ?_
 refine gl 155 rfl rfl rfl rfl _ rfl (dcT (r_eql rfl rfl) (by rw [hdr.2];simp)) ?_
 refine g3 ?_
 refine yG (WTly_c _ _ _ _ _ _ _ S29.fr1) ?_
 rintro _ w29 ⟨x3,y281,I16,le16,rfl,h12,h13,h14,S30⟩
 refine g1 ?_
 refine gl 162 rfl rfl rfl rfl _ rfl (dcT (r_ceql rfl rfl (by assumption) (by assumption) (by assumption) (by assumption)) (by rw [hdr.2];simp)) ?_
 refine g5 ?_
 refine f1 Tryz.results6 ?_
 exact ⟨I16,(lT (lT (lT (lT (lT (lT (lT (lT (lT (lT le0 le1) le3) le4) le6) le7) le8) le13) le14) le15) le16),rfl,S30.dr0.dr0.dr0.dr0.dr0.dr0.dr0.dr0.dr0.dr0⟩
 have hk4:¬((5≤o.kind∧o.kind≤7)∧(o.n<0∨(W.post.length:Int)≤o.n)):=fun q=>Bool.eq_false_iff.1 h11 (by simpa using q)
 refine g10 ?_
 refine EL_gite2 101 rfl rfl rfl (ptr b1 0) rfl (fun g301=>fP 0 (by exact e1) U38 (by kernel_rfl)) ?_
 refine EL_gite2 101 rfl rfl rfl (.int .i64 o.kind) rfl (fun g302=>r_loadA (cond_of g302 rfl) (S18.a4) (u:=(.int .i64 o.kind)) rfl U3 rfl) ?_
 refine EL_gite2 101 rfl rfl rfl (.bool (decide (7<o.kind))) rfl (fun g303=>r_gtr (cond_of g303 rfl) rfl) ?_
 refine EL_gite 97 rfl rfl rfl (.bool ((decide (o.kind<5))||(decide (7<o.kind)))) rfl (fun g304=>r_or (cond_of g304 rfl) rfl (cond_in g304 rfl)) ?_
 refine g3 ?_
 refine EL_gite 107 rfl rfl rfl (.bool true) rfl (fun g306=>r_dec (show (!false)=true from rfl) (r_not (cond_of g306 rfl))) ?_
 refine g4 ?_
 refine EC_cond (t:=((decide (o.kind≠10))&&((decide (o.kind<5))||(decide (7<o.kind))))&&true) rfl (fun h15=>?_) (fun h15=>?_)
 have hk6:(o.kind≠10∧(o.kind<5∨7<o.kind))∧¬(0≤o.c∧o.c<(W.seats.length:Int)):=by have h:=h15;simp at h;omega
 have hk57:¬(5≤o.kind∧o.kind≤7):=by omega
 have hk10:=hk6.1.1
 have hcn:=hk6.2
 have hdr:=do_none (W:=W) (L:=L) (o:=o) hk0 hk57 hk10 hcn
 skip
 refine g9 ?_
 refine yR (WDo_c _ _ _ _ _ (opRC o v2 v3 v4 v5) o _ _ _ S18.fr3.fr1 ⟨v2,v3,v4,v5,rfl,ad,ad,ad,ad,ad,ad,⟨o1,(H1.up (lT (lT (lT (lT (lT (lT le0 le1) le3) le4) le6) le7) le8))⟩,⟨o2,(H2.up (lT (lT (lT (lT (lT (lT le0 le1) le3) le4) le6) le7) le8))⟩,ad,ad,ad,⟨o3,(H3.up (lT (lT (lT (lT (lT (lT le0 le1) le3) le4) le6) le7) le8))⟩,⟨o4,(H4.up (lT (lT (lT (lT (lT (lT le0 le1) le3) le4) le6) le7) le8))⟩⟩ (by omega) (by omega) hT) ?_
 rintro _ w30 ⟨v21,I17,le17,rfl,S31⟩
 refine yN [.int .i64 0,.slice none 0 0] S31 ?_
 intro b6 w31 S32
 refine yW0 S32 ?_ (h1:=ones_cons rfl (ones_cons (own_one (S32.own 1 rfl)) ones_nil))
 intro w32 S33
 refine g7 ?_
 refine vl _ rfl (dcT (r_eql rfl rfl) (by rw [hdr.1];decide)) ?_
 refine g3 ?_
 refine gl  142 rfl rfl rfl rfl (.int .i64 (((W.doA L o).outs).length:Int)) rfl (lenF (r_len rfl (own_row (S33.own 1 rfl)) U41)) (gl 142 rfl rfl rfl rfl _ rfl (dcT (r_eql rfl rfl) (by rw [hdr.1];rfl)) ?_)
 refine g3 ?_
 refine yG (WPost_c _ _ _ _ _ _ _ S33.fr2) ?_
 rintro _ w33 ⟨v22,I18,le18,rfl,S34⟩
 refine gl 148 rfl rfl rfl rfl _ rfl (r_lenX rfl (OwnX.row S34 0 rfl (by decide)).1 U39) ?_
 refine g1 ?_
 refine gl 148 rfl rfl rfl rfl _ rfl (dcT (r_eql rfl rfl) (by rw [hdr.2];simp)) ?_
 refine g3 ?_
 refine yG (WSent_c _ _ _ _ _ _ _ S34.fr1 (by first | omega | (rw [hdr.2];dsimp only;omega))) ?_
 rintro _ w34 ⟨v23,I19,le19,rfl,S35⟩
 refine gl 155 rfl rfl rfl rfl _ rfl (r_lenX rfl (OwnX.row S35 0 rfl (by decide)).1 U52) ?_
 refine g1 ?_
 refine gl 155 rfl rfl rfl rfl _ rfl (dcT (r_eql rfl rfl) (by rw [hdr.2];simp)) ?_
 refine g3 ?_
 refine yG (WTly_c _ _ _ _ _ _ _ S35.fr1) ?_
 rintro _ w35 ⟨x4,y343,I20,le20,rfl,h16,h17,h18,S36⟩
 refine g1 ?_
 refine gl 162 rfl rfl rfl rfl _ rfl (dcT (r_ceql rfl rfl (by assumption) (by assumption) (by assumption) (by assumption)) (by rw [hdr.2];simp)) ?_
 refine g5 ?_
 refine f1 Tryz.results6 ?_
 exact ⟨I20,(lT (lT (lT (lT (lT (lT (lT (lT (lT (lT le0 le1) le3) le4) le6) le7) le8) le17) le18) le19) le20),rfl,S36.dr0.dr0.dr0.dr0.dr0.dr0.dr0.dr0.dr0.dr0⟩
 have hk6:¬((o.kind≠10∧(o.kind<5∨7<o.kind))∧¬(0≤o.c∧o.c<(W.seats.length:Int))):=fun q=>Bool.eq_false_iff.1 h15 (by simp;omega)
 refine g15 ?_
 refine EL_gite2 124 rfl rfl rfl (ptr b1 2) rfl (fun g366=>fP 0 (by exact e1) U38 (by kernel_rfl)) ?_
 refine EL_gite2 124 rfl rfl rfl (.int .i64 o.n) rfl (fun g367=>r_loadA (cond_of g367 rfl) (S18.a4) (u:=(.int .i64 o.n)) rfl U3 rfl) ?_
 refine EL_gite2 124 rfl rfl rfl (.bool (decide (o.n<0))) rfl (fun g368=>r_lss (cond_of g368 rfl) rfl) ?_
 refine EL_gite2 124 rfl rfl rfl (.bool (decide (o.n<0))) rfl (fun g369=>r_move (cond_of g369 rfl)) ?_
 refine EL_gite2 128 rfl rfl rfl (ptr b1 2) rfl (fun g370=>fP 0 (by exact e1) U38 (by kernel_rfl)) ?_
 refine EL_gite2 128 rfl rfl rfl (.int .i64 o.n) rfl (fun g371=>r_loadA (cond_of g371 rfl) (S18.a4) (u:=(.int .i64 o.n)) rfl U3 rfl) ?_
 refine EL_gite2 128 rfl rfl rfl (.bool (decide (1<o.n))) rfl (fun g372=>r_gtr (cond_of g372 rfl) rfl) ?_
 refine EL_gite2 124 rfl rfl rfl (.bool ((decide (o.n<0))||(decide (1<o.n)))) rfl (fun g373=>r_or (cond_of g373 rfl) rfl (cond_in g373 rfl)) ?_
 refine EL_gite 120 rfl rfl rfl (.bool ((decide (o.kind=9))&&((decide (o.n<0))||(decide (1<o.n))))) rfl (fun g374=>r_and (cond_of g374 rfl) (cond_in g374 rfl) rfl) ?_
 refine g4 ?_
 refine EC_cond (t:=((decide (o.kind=10))&&(decide (o.n<0)))||((decide (o.kind=9))&&((decide (o.n<0))||(decide (1<o.n))))) rfl (fun h19=>?_) (fun h19=>?_)
 have hk9:(o.kind=10∧o.n<0)∨(o.kind=9∧(o.n<0∨1<o.n)):=by simpa using h19
 have hdr:=do_nine (W:=W) (L:=L) (o:=o) hk0 hk4 hk6 hk9
 skip
 refine g9 ?_
 refine yR (WDo_c _ _ _ _ _ (opRC o v2 v3 v4 v5) o _ _ _ S18.fr3.fr1 ⟨v2,v3,v4,v5,rfl,ad,ad,ad,ad,ad,ad,⟨o1,(H1.up (lT (lT (lT (lT (lT (lT le0 le1) le3) le4) le6) le7) le8))⟩,⟨o2,(H2.up (lT (lT (lT (lT (lT (lT le0 le1) le3) le4) le6) le7) le8))⟩,ad,ad,ad,⟨o3,(H3.up (lT (lT (lT (lT (lT (lT le0 le1) le3) le4) le6) le7) le8))⟩,⟨o4,(H4.up (lT (lT (lT (lT (lT (lT le0 le1) le3) le4) le6) le7) le8))⟩⟩ (by omega) (by omega) hT) ?_
 rintro _ w36 ⟨v24,I21,le21,rfl,S37⟩
 refine yN [.int .i64 0,.slice none 0 0] S37 ?_
 intro b7 w37 S38
 refine yW0 S38 ?_ (h1:=ones_cons rfl (ones_cons (own_one (S38.own 1 rfl)) ones_nil))
 intro w38 S39
 refine g7 ?_
 refine vl _ rfl (dcT (r_eql rfl rfl) (by rw [hdr.1];decide)) ?_
 refine g3 ?_
 refine gl  142 rfl rfl rfl rfl (.int .i64 (((W.doA L o).outs).length:Int)) rfl (lenF (r_len rfl (own_row (S39.own 1 rfl)) U41)) (gl 142 rfl rfl rfl rfl _ rfl (dcT (r_eql rfl rfl) (by rw [hdr.1];rfl)) ?_)
 refine g3 ?_
 refine yG (WPost_c _ _ _ _ _ _ _ S39.fr2) ?_
 rintro _ w39 ⟨v25,I22,le22,rfl,S40⟩
 refine gl 148 rfl rfl rfl rfl _ rfl (r_lenX rfl (OwnX.row S40 0 rfl (by decide)).1 U39) ?_
 refine g1 ?_
 refine gl 148 rfl rfl rfl rfl _ rfl (dcT (r_eql rfl rfl) (by rw [hdr.2];simp)) ?_
 refine g3 ?_
 refine yG (WSent_c _ _ _ _ _ _ _ S40.fr1 (by first | omega | (rw [hdr.2];dsimp only;omega))) ?_
 rintro _ w40 ⟨v26,I23,le23,rfl,S41⟩
 refine gl 155 rfl rfl rfl rfl _ rfl (r_lenX rfl (OwnX.row S41 0 rfl (by decide)).1 U52) ?_
 refine g1 ?_
 refine gl 155 rfl rfl rfl rfl _ rfl (dcT (r_eql rfl rfl) (by rw [hdr.2];simp)) ?_
 refine g3 ?_
 refine yG (WTly_c _ _ _ _ _ _ _ S41.fr1) ?_
 rintro _ w41 ⟨x5,y411,I24,le24,rfl,h20,h21,h22,S42⟩
 refine g1 ?_
 refine gl 162 rfl rfl rfl rfl _ rfl (dcT (r_ceql rfl rfl (by assumption) (by assumption) (by assumption) (by assumption)) (by rw [hdr.2];simp)) ?_
 refine g5 ?_
 refine f1 Tryz.results6 ?_
 exact ⟨I24,(lT (lT (lT (lT (lT (lT (lT (lT (lT (lT le0 le1) le3) le4) le6) le7) le8) le21) le22) le23) le24),rfl,S42.dr0.dr0.dr0.dr0.dr0.dr0.dr0.dr0.dr0.dr0⟩
 refine g8 ?_
 refine f1 Tryz.results6 ?_
 exact ⟨I8,(lT (lT (lT (lT (lT (lT le0 le1) le3) le4) le6) le7) le8),rfl,S18.dr0.dr0.dr0.dr0.dr0.dr0⟩
 refine yJ 7 (fun w'=>Arr w' b1 38 (opRC o v2 v3 v4 v5)) S17 ?_
 intro w42 S43
 refine yT 0 S43.le (S43.a4) ?_
 refine yT 1 S43.le (S43.a4) ?_
 refine jT 2 rfl (by kernel_rfl) (.bool true) rfl (fun _ hw ht=>r_dec (show (decide (0≤o.c))=true from by simp;omega) (r_geq rfl rfl)) ⟨S43.le,fun h=>S43.a4⟩ ?_
 refine yT 3 S43.le (S43.a4) ?_
 refine yh 4 (yt S43.le (S43.a4)) ?_
 obtain ⟨I25,le25,S44,H10⟩:=S43.fk4
 refine yu le25 ?_
 refine EJ_gfloat 5 rfl (by kernel_rfl) (by kernel_rfl) (by kernel_rfl) rfl 57 rfl rfl rfl rfl (.int .i64 o.c) rfl (fun _ hw=>r_loadA rfl (H10 _ hw) (u:=(.int .i64 o.c)) rfl U3 rfl) ⟨S44.le,fun h=>(H10 _ S44.le)⟩ ?_
 refine yg 6 (yt S44.le (H10 _ S44.le)) ?_
 refine y1 7 ?_
 refine yG (WLen_c _ _ _ _ _ _ _ S44) ?_
 rintro _ w43 ⟨rfl,S45⟩
 refine ym S45.le ?_
 refine yh 8 (ys S45.le) ?_
 refine yf 9 S45.le ?_
 refine yf 10 S45.le ?_
 refine yd ?_
 refine g11 ?_
 refine vL (.int .i64 o.kind) rfl rfl (H10 _ S45.le) rfl U3 rfl ?_
 refine g3 ?_
 refine EL_gite 68 rfl rfl rfl (.int .i64 o.kind) rfl (fun g443=>r_loadA (cond_of g443 rfl) (H10 _ S45.le) (u:=(.int .i64 o.kind)) rfl U3 rfl) ?_
 refine g5 ?_
 refine EC_cond (t:=(decide (o.kind<1))||(decide (11<o.kind))) rfl (fun h23=>?_) (fun h23=>?_)
 have hk0:o.kind<1∨11<o.kind:=by simpa using h23
 have hdr:=do_kind (W:=W) (L:=L) (o:=o) hk0
 skip
 refine g8 ?_
 refine vl (.agg ((opRC o v2 v3 v4 v5)).toArray) rfl (r_loadAll (by exact e1) (H10 _ S45.le) U38 rfl (by kernel_rfl)) ?_
 refine yR (WDo_c _ _ _ _ _ (opRC o v2 v3 v4 v5) o _ _ _ S45.fr3.fr1 ⟨v2,v3,v4,v5,rfl,ad,ad,ad,ad,ad,ad,⟨o1,(H1.up (lT (lT (lT (lT (lT (lT (lT le0 le1) le3) le4) le6) le7) le8) le25))⟩,⟨o2,(H2.up (lT (lT (lT (lT (lT (lT (lT le0 le1) le3) le4) le6) le7) le8) le25))⟩,ad,ad,ad,⟨o3,(H3.up (lT (lT (lT (lT (lT (lT (lT le0 le1) le3) le4) le6) le7) le8) le25))⟩,⟨o4,(H4.up (lT (lT (lT (lT (lT (lT (lT le0 le1) le3) le4) le6) le7) le8) le25))⟩⟩ (by omega) (by omega) hT) ?_
 rintro _ w44 ⟨v27,I26,le26,rfl,S46⟩
 refine yN [.int .i64 0,.slice none 0 0] S46 ?_
 intro b8 w45 S47
 refine yW0 S47 ?_ (h1:=ones_cons rfl (ones_cons (own_one (S47.own 1 rfl)) ones_nil))
 intro w46 S48
 refine g7 ?_
 refine vl _ rfl (dcT (r_eql rfl rfl) (by rw [hdr.1];decide)) ?_
 refine g3 ?_
 refine gl  142 rfl rfl rfl rfl (.int .i64 (((W.doA L o).outs).length:Int)) rfl (lenF (r_len rfl (own_row (S48.own 1 rfl)) U41)) (gl 142 rfl rfl rfl rfl _ rfl (dcT (r_eql rfl rfl) (by rw [hdr.1];rfl)) ?_)
 refine g3 ?_
 refine yG (WPost_c _ _ _ _ _ _ _ S48.fr2) ?_
 rintro _ w47 ⟨v28,I27,le27,rfl,S49⟩
 refine gl 148 rfl rfl rfl rfl _ rfl (r_lenX rfl (OwnX.row S49 0 rfl (by decide)).1 U39) ?_
 refine g1 ?_
 refine gl 148 rfl rfl rfl rfl _ rfl (dcT (r_eql rfl rfl) (by rw [hdr.2];simp)) ?_
 refine g3 ?_
 refine yG (WSent_c _ _ _ _ _ _ _ S49.fr1 (by first | omega | (rw [hdr.2];dsimp only;omega))) ?_
 rintro _ w48 ⟨v29,I28,le28,rfl,S50⟩
 refine gl 155 rfl rfl rfl rfl _ rfl (r_lenX rfl (OwnX.row S50 0 rfl (by decide)).1 U52) ?_
 refine g1 ?_
 refine gl 155 rfl rfl rfl rfl _ rfl (dcT (r_eql rfl rfl) (by rw [hdr.2];simp)) ?_
 refine g3 ?_
 refine yG (WTly_c _ _ _ _ _ _ _ S50.fr1) ?_
 rintro _ w49 ⟨x6,y481,I29,le29,rfl,h24,h25,h26,S51⟩
 refine g1 ?_
 refine gl 162 rfl rfl rfl rfl _ rfl (dcT (r_ceql rfl rfl (by assumption) (by assumption) (by assumption) (by assumption)) (by rw [hdr.2];simp)) ?_
 refine g5 ?_
 refine f1 Tryz.results6 ?_
 exact ⟨I29,(lT (lT (lT (lT (lT (lT (lT (lT (lT (lT (lT le0 le1) le3) le4) le6) le7) le8) le25) le26) le27) le28) le29),rfl,S51.dr0.dr0.dr0.dr0.dr0.dr0.dr0.dr0.dr0⟩
 have hk0:¬(o.kind<1∨11<o.kind):=fun q=>Bool.eq_false_iff.1 h23 (by simpa using q)
 refine g3 ?_
 refine vL (.int .i64 o.kind) rfl rfl (H10 _ S45.le) rfl U3 rfl ?_
 refine g3 ?_
 refine EL_gite 77 rfl rfl rfl (.int .i64 o.kind) rfl (fun g497=>r_loadA (cond_of g497 rfl) (H10 _ S45.le) (u:=(.int .i64 o.kind)) rfl U3 rfl) ?_
 refine g4 ?_
 refine EL_gite 82 rfl rfl rfl (.int .i64 o.n) rfl (fun g500=>r_loadA (cond_of g500 rfl) (H10 _ S45.le) (u:=(.int .i64 o.n)) rfl U3 rfl) ?_
 refine g2 ?_
 refine EL_gite2 86 rfl rfl rfl (ptr b1 2) rfl (fun g503=>fP 0 (by exact e1) U38 (by kernel_rfl)) ?_
 refine EL_gite2 86 rfl rfl rfl (.int .i64 o.n) rfl (fun g504=>r_loadA (cond_of g504 rfl) (H10 _ S45.le) (u:=(.int .i64 o.n)) rfl U3 rfl) ?_
 refine EL_gite2 86 rfl rfl rfl (.int .i64 (W.post.length:Int)) rfl (fun g505=>r_move rfl) ?_
 refine EL_gite2 86 rfl rfl rfl (.bool (decide ((W.post.length:Int)≤o.n))) rfl (fun g506=>r_geq (cond_of g506 rfl) (cond_of g506 rfl)) ?_
 refine EL_gite 82 rfl rfl rfl (.bool ((decide (o.n<0))||(decide ((W.post.length:Int)≤o.n)))) rfl (fun g507=>r_or (cond_of g507 rfl) rfl (cond_in g507 rfl)) ?_
 refine g4 ?_
 refine EC_cond (t:=((decide (5≤o.kind))&&(decide (o.kind≤7)))&&((decide (o.n<0))||(decide ((W.post.length:Int)≤o.n)))) rfl (fun h27=>?_) (fun h27=>?_)
 have hk4:(5≤o.kind∧o.kind≤7)∧(o.n<0∨(W.post.length:Int)≤o.n):=by simpa using h27
 have hk5:=hk4.1
 have hnb:=hk4.2
 have hdr:=do_pick (W:=W) (L:=L) (o:=o) hk5 hnb
 skip
 refine g8 ?_
 refine vl (.agg ((opRC o v2 v3 v4 v5)).toArray) rfl (r_loadAll (by exact e1) (H10 _ S45.le) U38 rfl (by kernel_rfl)) ?_
 refine yR (WDo_c _ _ _ _ _ (opRC o v2 v3 v4 v5) o _ _ _ S45.fr3.fr1 ⟨v2,v3,v4,v5,rfl,ad,ad,ad,ad,ad,ad,⟨o1,(H1.up (lT (lT (lT (lT (lT (lT (lT le0 le1) le3) le4) le6) le7) le8) le25))⟩,⟨o2,(H2.up (lT (lT (lT (lT (lT (lT (lT le0 le1) le3) le4) le6) le7) le8) le25))⟩,ad,ad,ad,⟨o3,(H3.up (lT (lT (lT (lT (lT (lT (lT le0 le1) le3) le4) le6) le7) le8) le25))⟩,⟨o4,(H4.up (lT (lT (lT (lT (lT (lT (lT le0 le1) le3) le4) le6) le7) le8) le25))⟩⟩ (by omega) (by omega) hT) ?_
 rintro _ w50 ⟨v30,I30,le30,rfl,S52⟩
 refine yN [.int .i64 0,.slice none 0 0] S52 ?_
 intro b9 w51 S53
 refine yW0 S53 ?_ (h1:=ones_cons rfl (ones_cons (own_one (S53.own 1 rfl)) ones_nil))
 intro w52 S54
 refine g7 ?_
 refine vl _ rfl (dcT (r_eql rfl rfl) (by rw [hdr.1];decide)) ?_
 refine g3 ?_
 refine gl  142 rfl rfl rfl rfl (.int .i64 (((W.doA L o).outs).length:Int)) rfl (lenF (r_len rfl (own_row (S54.own 1 rfl)) U41)) (gl 142 rfl rfl rfl rfl _ rfl (dcT (r_eql rfl rfl) (by rw [hdr.1];rfl)) ?_)
 refine g3 ?_
 refine yG (WPost_c _ _ _ _ _ _ _ S54.fr2) ?_
 rintro _ w53 ⟨v31,I31,le31,rfl,S55⟩
 refine gl 148 rfl rfl rfl rfl _ rfl (r_lenX rfl (OwnX.row S55 0 rfl (by decide)).1 U39) ?_
 refine g1 ?_
 refine gl 148 rfl rfl rfl rfl _ rfl (dcT (r_eql rfl rfl) (by rw [hdr.2];simp)) ?_
 refine g3 ?_
 refine yG (WSent_c _ _ _ _ _ _ _ S55.fr1 (by first | omega | (rw [hdr.2];dsimp only;omega))) ?_
 rintro _ w54 ⟨v32,I32,le32,rfl,S56⟩
 refine gl 155 rfl rfl rfl rfl _ rfl (r_lenX rfl (OwnX.row S56 0 rfl (by decide)).1 U52) ?_
 refine g1 ?_
 refine gl 155 rfl rfl rfl rfl _ rfl (dcT (r_eql rfl rfl) (by rw [hdr.2];simp)) ?_
 refine g3 ?_
 refine yG (WTly_c _ _ _ _ _ _ _ S56.fr1) ?_
 rintro _ w55 ⟨x7,y544,I33,le33,rfl,h28,h29,h30,S57⟩
 refine g1 ?_
 refine gl 162 rfl rfl rfl rfl _ rfl (dcT (r_ceql rfl rfl (by assumption) (by assumption) (by assumption) (by assumption)) (by rw [hdr.2];simp)) ?_
 refine g5 ?_
 refine f1 Tryz.results6 ?_
 exact ⟨I33,(lT (lT (lT (lT (lT (lT (lT (lT (lT (lT (lT le0 le1) le3) le4) le6) le7) le8) le25) le30) le31) le32) le33),rfl,S57.dr0.dr0.dr0.dr0.dr0.dr0.dr0.dr0.dr0⟩
 have hk4:¬((5≤o.kind∧o.kind≤7)∧(o.n<0∨(W.post.length:Int)≤o.n)):=fun q=>Bool.eq_false_iff.1 h27 (by simpa using q)
 refine g3 ?_
 refine vL (.int .i64 o.kind) rfl rfl (H10 _ S45.le) rfl U3 rfl ?_
 refine g3 ?_
 refine EL_gite 97 rfl rfl rfl (.int .i64 o.kind) rfl (fun g560=>r_loadA (cond_of g560 rfl) (H10 _ S45.le) (u:=(.int .i64 o.kind)) rfl U3 rfl) ?_
 refine g2 ?_
 refine EL_gite2 101 rfl rfl rfl (ptr b1 0) rfl (fun g563=>fP 0 (by exact e1) U38 (by kernel_rfl)) ?_
 refine EL_gite2 101 rfl rfl rfl (.int .i64 o.kind) rfl (fun g564=>r_loadA (cond_of g564 rfl) (H10 _ S45.le) (u:=(.int .i64 o.kind)) rfl U3 rfl) ?_
 refine EL_gite2 101 rfl rfl rfl (.bool (decide (7<o.kind))) rfl (fun g565=>r_gtr (cond_of g565 rfl) rfl) ?_
 refine EL_gite 97 rfl rfl rfl (.bool ((decide (o.kind<5))||(decide (7<o.kind)))) rfl (fun g566=>r_or (cond_of g566 rfl) rfl (cond_in g566 rfl)) ?_
 refine g8 ?_
 refine EC_cond (t:=((decide (o.kind≠10))&&((decide (o.kind<5))||(decide (7<o.kind))))&&(!(decide (o.c<(W.seats.length:Int))))) rfl (fun h31=>?_) (fun h31=>?_)
 have hk6:(o.kind≠10∧(o.kind<5∨7<o.kind))∧¬(0≤o.c∧o.c<(W.seats.length:Int)):=by have h:=h31;simp at h;omega
 have hk57:¬(5≤o.kind∧o.kind≤7):=by omega
 have hk10:=hk6.1.1
 have hcn:=hk6.2
 have hdr:=do_none (W:=W) (L:=L) (o:=o) hk0 hk57 hk10 hcn
 skip
 refine g8 ?_
 refine vl (.agg ((opRC o v2 v3 v4 v5)).toArray) rfl (r_loadAll (by exact e1) (H10 _ S45.le) U38 rfl (by kernel_rfl)) ?_
 refine yR (WDo_c _ _ _ _ _ (opRC o v2 v3 v4 v5) o _ _ _ S45.fr3.fr1 ⟨v2,v3,v4,v5,rfl,ad,ad,ad,ad,ad,ad,⟨o1,(H1.up (lT (lT (lT (lT (lT (lT (lT le0 le1) le3) le4) le6) le7) le8) le25))⟩,⟨o2,(H2.up (lT (lT (lT (lT (lT (lT (lT le0 le1) le3) le4) le6) le7) le8) le25))⟩,ad,ad,ad,⟨o3,(H3.up (lT (lT (lT (lT (lT (lT (lT le0 le1) le3) le4) le6) le7) le8) le25))⟩,⟨o4,(H4.up (lT (lT (lT (lT (lT (lT (lT le0 le1) le3) le4) le6) le7) le8) le25))⟩⟩ (by omega) (by omega) hT) ?_
 rintro _ w56 ⟨v33,I34,le34,rfl,S58⟩
 refine yN [.int .i64 0,.slice none 0 0] S58 ?_
 intro b10 w57 S59
 refine yW0 S59 ?_ (h1:=ones_cons rfl (ones_cons (own_one (S59.own 1 rfl)) ones_nil))
 intro w58 S60
 refine g7 ?_
 refine vl _ rfl (dcT (r_eql rfl rfl) (by rw [hdr.1];decide)) ?_
 refine g3 ?_
 refine gl  142 rfl rfl rfl rfl (.int .i64 (((W.doA L o).outs).length:Int)) rfl (lenF (r_len rfl (own_row (S60.own 1 rfl)) U41)) (gl 142 rfl rfl rfl rfl _ rfl (dcT (r_eql rfl rfl) (by rw [hdr.1];rfl)) ?_)
 refine g3 ?_
 refine yG (WPost_c _ _ _ _ _ _ _ S60.fr2) ?_
 rintro _ w59 ⟨v34,I35,le35,rfl,S61⟩
 refine gl 148 rfl rfl rfl rfl _ rfl (r_lenX rfl (OwnX.row S61 0 rfl (by decide)).1 U39) ?_
 refine g1 ?_
 refine gl 148 rfl rfl rfl rfl _ rfl (dcT (r_eql rfl rfl) (by rw [hdr.2];simp)) ?_
 refine g3 ?_
 refine yG (WSent_c _ _ _ _ _ _ _ S61.fr1 (by first | omega | (rw [hdr.2];dsimp only;omega))) ?_
 rintro _ w60 ⟨v35,I36,le36,rfl,S62⟩
 refine gl 155 rfl rfl rfl rfl _ rfl (r_lenX rfl (OwnX.row S62 0 rfl (by decide)).1 U52) ?_
 refine g1 ?_
 refine gl 155 rfl rfl rfl rfl _ rfl (dcT (r_eql rfl rfl) (by rw [hdr.2];simp)) ?_
 refine g3 ?_
 refine yG (WTly_c _ _ _ _ _ _ _ S62.fr1) ?_
 rintro _ w61 ⟨x8,y605,I37,le37,rfl,h32,h33,h34,S63⟩
 refine g1 ?_
 refine gl 162 rfl rfl rfl rfl _ rfl (dcT (r_ceql rfl rfl (by assumption) (by assumption) (by assumption) (by assumption)) (by rw [hdr.2];simp)) ?_
 refine g5 ?_
 refine f1 Tryz.results6 ?_
 exact ⟨I37,(lT (lT (lT (lT (lT (lT (lT (lT (lT (lT (lT le0 le1) le3) le4) le6) le7) le8) le25) le34) le35) le36) le37),rfl,S63.dr0.dr0.dr0.dr0.dr0.dr0.dr0.dr0.dr0⟩
 have hk6:¬((o.kind≠10∧(o.kind<5∨7<o.kind))∧¬(0≤o.c∧o.c<(W.seats.length:Int))):=fun q=>Bool.eq_false_iff.1 h31 (by simp;omega)
 refine g3 ?_
 refine vL (.int .i64 o.kind) rfl rfl (H10 _ S45.le) rfl U3 rfl ?_
 refine g3 ?_
 refine EL_gite 115 rfl rfl rfl (.int .i64 o.n) rfl (fun g621=>r_loadA (cond_of g621 rfl) (H10 _ S45.le) (u:=(.int .i64 o.n)) rfl U3 rfl) ?_
 refine g4 ?_
 refine EL_gite 120 rfl rfl rfl (.int .i64 o.kind) rfl (fun g624=>r_loadA (cond_of g624 rfl) (H10 _ S45.le) (u:=(.int .i64 o.kind)) rfl U3 rfl) ?_
 refine g2 ?_
 refine EL_gite2 124 rfl rfl rfl (ptr b1 2) rfl (fun g627=>fP 0 (by exact e1) U38 (by kernel_rfl)) ?_
 refine EL_gite2 124 rfl rfl rfl (.int .i64 o.n) rfl (fun g628=>r_loadA (cond_of g628 rfl) (H10 _ S45.le) (u:=(.int .i64 o.n)) rfl U3 rfl) ?_
 refine EL_gite2 124 rfl rfl rfl (.bool (decide (o.n<0))) rfl (fun g629=>r_lss (cond_of g629 rfl) rfl) ?_
 refine EL_gite2 124 rfl rfl rfl (.bool (decide (o.n<0))) rfl (fun g630=>r_move (cond_of g630 rfl)) ?_
 refine EL_gite2 128 rfl rfl rfl (ptr b1 2) rfl (fun g631=>fP 0 (by exact e1) U38 (by kernel_rfl)) ?_
 refine EL_gite2 128 rfl rfl rfl (.int .i64 o.n) rfl (fun g632=>r_loadA (cond_of g632 rfl) (H10 _ S45.le) (u:=(.int .i64 o.n)) rfl U3 rfl) ?_
 refine EL_gite2 128 rfl rfl rfl (.bool (decide (1<o.n))) rfl (fun g633=>r_gtr (cond_of g633 rfl) rfl) ?_
 refine EL_gite2 124 rfl rfl rfl (.bool ((decide (o.n<0))||(decide (1<o.n)))) rfl (fun g634=>r_or (cond_of g634 rfl) rfl (cond_in g634 rfl)) ?_
 refine EL_gite 120 rfl rfl rfl (.bool ((decide (o.kind=9))&&((decide (o.n<0))||(decide (1<o.n))))) rfl (fun g635=>r_and (cond_of g635 rfl) (cond_in g635 rfl) rfl) ?_
 refine g4 ?_
 refine EC_cond (t:=((decide (o.kind=10))&&(decide (o.n<0)))||((decide (o.kind=9))&&((decide (o.n<0))||(decide (1<o.n))))) rfl (fun h35=>?_) (fun h35=>?_)
 have hk9:(o.kind=10∧o.n<0)∨(o.kind=9∧(o.n<0∨1<o.n)):=by simpa using h35
 have hdr:=do_nine (W:=W) (L:=L) (o:=o) hk0 hk4 hk6 hk9
 skip
 refine g8 ?_
 refine vl (.agg ((opRC o v2 v3 v4 v5)).toArray) rfl (r_loadAll (by exact e1) (H10 _ S45.le) U38 rfl (by kernel_rfl)) ?_
 refine yR (WDo_c _ _ _ _ _ (opRC o v2 v3 v4 v5) o _ _ _ S45.fr3.fr1 ⟨v2,v3,v4,v5,rfl,ad,ad,ad,ad,ad,ad,⟨o1,(H1.up (lT (lT (lT (lT (lT (lT (lT le0 le1) le3) le4) le6) le7) le8) le25))⟩,⟨o2,(H2.up (lT (lT (lT (lT (lT (lT (lT le0 le1) le3) le4) le6) le7) le8) le25))⟩,ad,ad,ad,⟨o3,(H3.up (lT (lT (lT (lT (lT (lT (lT le0 le1) le3) le4) le6) le7) le8) le25))⟩,⟨o4,(H4.up (lT (lT (lT (lT (lT (lT (lT le0 le1) le3) le4) le6) le7) le8) le25))⟩⟩ (by omega) (by omega) hT) ?_
 rintro _ w62 ⟨v36,I38,le38,rfl,S64⟩
 refine yN [.int .i64 0,.slice none 0 0] S64 ?_
 intro b11 w63 S65
 refine yW0 S65 ?_ (h1:=ones_cons rfl (ones_cons (own_one (S65.own 1 rfl)) ones_nil))
 intro w64 S66
 refine g7 ?_
 refine vl _ rfl (dcT (r_eql rfl rfl) (by rw [hdr.1];decide)) ?_
 refine g3 ?_
 refine gl  142 rfl rfl rfl rfl (.int .i64 (((W.doA L o).outs).length:Int)) rfl (lenF (r_len rfl (own_row (S66.own 1 rfl)) U41)) (gl 142 rfl rfl rfl rfl _ rfl (dcT (r_eql rfl rfl) (by rw [hdr.1];rfl)) ?_)
 refine g3 ?_
 refine yG (WPost_c _ _ _ _ _ _ _ S66.fr2) ?_
 rintro _ w65 ⟨v37,I39,le39,rfl,S67⟩
 refine gl 148 rfl rfl rfl rfl _ rfl (r_lenX rfl (OwnX.row S67 0 rfl (by decide)).1 U39) ?_
 refine g1 ?_
 refine gl 148 rfl rfl rfl rfl _ rfl (dcT (r_eql rfl rfl) (by rw [hdr.2];simp)) ?_
 refine g3 ?_
 refine yG (WSent_c _ _ _ _ _ _ _ S67.fr1 (by first | omega | (rw [hdr.2];dsimp only;omega))) ?_
 rintro _ w66 ⟨v38,I40,le40,rfl,S68⟩
 refine gl 155 rfl rfl rfl rfl _ rfl (r_lenX rfl (OwnX.row S68 0 rfl (by decide)).1 U52) ?_
 refine g1 ?_
 refine gl 155 rfl rfl rfl rfl _ rfl (dcT (r_eql rfl rfl) (by rw [hdr.2];simp)) ?_
 refine g3 ?_
 refine yG (WTly_c _ _ _ _ _ _ _ S68.fr1) ?_
 rintro _ w67 ⟨x9,y672,I41,le41,rfl,h36,h37,h38,S69⟩
 refine g1 ?_
 refine gl 162 rfl rfl rfl rfl _ rfl (dcT (r_ceql rfl rfl (by assumption) (by assumption) (by assumption) (by assumption)) (by rw [hdr.2];simp)) ?_
 refine g5 ?_
 refine f1 Tryz.results6 ?_
 exact ⟨I41,(lT (lT (lT (lT (lT (lT (lT (lT (lT (lT (lT le0 le1) le3) le4) le6) le7) le8) le25) le38) le39) le40) le41),rfl,S69.dr0.dr0.dr0.dr0.dr0.dr0.dr0.dr0.dr0⟩
 refine g8 ?_
 refine f1 Tryz.results6 ?_
 exact ⟨I25,(lT (lT (lT (lT (lT (lT (lT le0 le1) le3) le4) le6) le7) le8) le25),rfl,S45.dr0.dr0.dr0.dr0.dr0⟩
theorem WorldRefuses_c (c0:List Value) (x:SetT) (v1:Value) (l:(List OpT)) (c2:List Value) (o:OpT) (w:World) (H0:setR.r (gh w) c0 x) (H1:RoX (gh w) v1 opR l) (zl:l.length*168≤140737488351232) (H2:opR.r (gh w) c2 o):Ret Tryz.prog 6 [.agg c0.toArray,v1,.agg c2.toArray] w fun v w'=>v=.bool true∧Below w.heap.size w w':=
 (WorldRefuses_w c0 x v1 l c2 o (gh w) [] w (Sat.start w) H1 H0 H2 zl).mono fun v w' h=>by obtain ⟨J,le,e,S⟩:=h;exact ⟨e.symm,S.fin le⟩
theorem own:ownKnob Tryz.prog.godebug=none:=by kernel_rfl
theorem laidOut:laidOutB Tryz.prog=true:=by kernel_rfl
set_option maxRecDepth 100000 in
theorem lifted (os : Os) (started : os.Started) (H : Type) (enc : TypeId × Value → H) :
    ReturnsInHanded {} Tryz.checked os 6 .any (Rows.worldRefusesSpec.pre6 enc Tryz.prog Tryz.f6 Rows.worldRefusesRow.domain false) (Rows.worldRefusesSpec.post enc Tryz.prog Tryz.f6 false true false false) := by
  refine returnsInHanded_of_change_sized (C := Tryz.checked) own started (by kernel_rfl) Tryz.func6
    (ChangeSpec.witness6 (enc := enc) (C := Tryz.checked) false ⟨#[], #[.agg #[.bool false, .slice none 0 0], .slice none 0 0, .agg #[.int .i64 0, .int .i64 0, .int .i64 0, .int .i64 0, .int .i64 0, .int .i64 0, .slice none 0 0, .slice none 0 0, .int .i64 0, .int .i64 0, .int .i64 0, .slice none 0 0, .slice none 0 0]], []⟩ 8 (by kernel_rfl) (by kernel_rfl) (by kernel_rfl) (by kernel_rfl)) ?_
  intro W base args ds gs before hval0 hW hcnd hz _
  have hval : ∀ (j : Nat) t v, Tryz.f6.params[j]? = some t → args[j]? = some v → Value.okWide Tryz.prog W .any base t v := hval0
  have hW' := hW
  obtain ⟨p, q, hA0, hV, rfl, hfz, hnd⟩ := hW
  have hA : DataW.TrodAll enc Tryz.prog W 0 (fun _ => true) true Tryz.f6.params.toList args.toList ds p := hA0
  rw [Tryz.params6] at hA hval
  obtain ⟨v0, vs0, d0, ds0, p0, q0, hargs, rfl, rfl, h0, r0⟩ := trodAll_cons hA
  obtain ⟨v1, vs1, d1, ds1, p1, q1, rfl, rfl, rfl, h1, r1⟩ := trodAll_cons r0
  obtain ⟨v2, vs2, d2, ds2, p2, q2, rfl, rfl, rfl, h2, r2⟩ := trodAll_cons r1
  obtain ⟨rfl, rfl, rfl⟩ := trodAll_nil r2
  obtain rfl : args = #[v0, v1, v2] := by cases args; simp_all
  obtain ⟨rfl, rfl⟩ := trodVars_none hV
  have k0 := h0
  have lt0 : ∀ x ∈ p0, x.block < W.heap.size := by obtain ⟨m, hm⟩ := k0; exact DataW.trod_lt m _ _ _ hm
  obtain ⟨a0, rfl, _⟩ := okWide_struct Tryz.underlying27 (hval 0 27 v0 rfl rfl)
  obtain ⟨c0, rfl⟩ : ∃ c : List Value, a0 = c.toArray := ⟨a0.toList, by simp⟩
  obtain ⟨b0, H0⟩ : ∃ b, (setR).r (gh W) c0 b := by obtain ⟨fuel, hf⟩ := h0; exact opn_27 _ W _ _ _ _ _ hf
  have k1 := h1
  have lt1 : ∀ x ∈ p1, x.block < W.heap.size := by obtain ⟨m, hm⟩ := k1; exact DataW.trod_lt m _ _ _ hm
  obtain ⟨a1, len1, cap1, rfl⟩ := okWide_slice Tryz.underlying22 (hval 1 22 v1 rfl rfl)
  obtain ⟨b1, H1⟩ : ∃ l, RoX (gh W) (.slice a1 len1 cap1) opR l := by
    obtain ⟨fuel, hf⟩ := h1
    obtain ⟨l, v, hv, _, H⟩ := (Opn.list (τ := opR) Tryz.underlying22 (by kernel_rfl) (by decide) opn_38) _ W _ _ _ _ _ hf
    simp [Value.cells] at hv
    subst hv
    exact ⟨l, H⟩
  have k2 := h2
  have lt2 : ∀ x ∈ p2, x.block < W.heap.size := by obtain ⟨m, hm⟩ := k2; exact DataW.trod_lt m _ _ _ hm
  obtain ⟨a2, rfl, _⟩ := okWide_struct Tryz.underlying38 (hval 2 38 v2 rfl rfl)
  obtain ⟨c2, rfl⟩ : ∃ c : List Value, a2 = c.toArray := ⟨a2.toList, by simp⟩
  obtain ⟨b2, H2⟩ : ∃ b, (opR).r (gh W) c2 b := by obtain ⟨fuel, hf⟩ := h2; exact opn_38 _ W _ _ _ _ _ hf
  clear hA0 hval0
  refine Calls.mono (WorldRefuses_c c0 b0 (.slice a1 len1 cap1) b1 c2 b2 W H0 H1 (lst_sized hz (j := 1) (by kernel_rfl) rfl Tryz.underlying22 (by kernel_rfl) k1 H1) H2) fun e W' ⟨v', he, hv, bel⟩ => ?_
  subst he
  subst hv
  exact ⟨_, rfl, _, _, _, [], _, [], hW', trodAll_mk1 (shut_bool Tryz.underlying4 _), (trodAll_cons_mk (Below.trod laidOut (by kernel_rfl) (of_decide_eq_true (by kernel_rfl)) k0 bel lt0) (trodAll_cons_mk (Below.trod laidOut (by kernel_rfl) (of_decide_eq_true (by kernel_rfl)) k1 bel lt1) (trodAll_cons_mk (Below.trod laidOut (by kernel_rfl) (of_decide_eq_true (by kernel_rfl)) k2 bel lt2) trodAll_mk0))), rfl, bel.frame _, fun h => by cases h⟩
theorem over:Rows.worldRefusesRow.holds Tryz.pinned (OpenSpec.ofChange Rows.worldRefusesSpec):=
 OpenClaim.holds_of_wide 6 Tryz.f6 rfl rfl rfl rfl rfl rfl rfl ⟨rfl,rfl,rfl,rfl,rfl⟩ rfl rfl rfl rfl rfl (by kernel_rfl) Tryz.func6 (by kernel_rfl)
  (of_decide_eq_true (by kernel_rfl)) (by unfold Func.isWrapper;first | (rw [if_pos (by decide +kernel)];kernel_rfl) | (rw [if_neg (by decide +kernel)];exact ⟨rfl,rfl⟩))
  (fun os started H enc _=>lifted os started H enc)
end Go.Proofs.YthddplghlljdbaaGreat.worldRefuses
namespace Go.Proofs.YthddplghlljdbaaGreat
theorem WorldRefuses_holds:Rows.WorldRefusesSaid:=worldRefuses.over
end Go.Proofs.YthddplghlljdbaaGreat
