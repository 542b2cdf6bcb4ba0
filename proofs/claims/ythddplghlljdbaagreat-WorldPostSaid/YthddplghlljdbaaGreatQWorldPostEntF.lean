import Derived.Test.YthddplghlljdbaaGreatQWorldPostEntD
set_option linter.unusedVariables false
set_option linter.unusedSimpArgs false
set_option maxRecDepth 100000
set_option maxHeartbeats 4000000
namespace Go.Proofs.YthddplghlljdbaaGreat
open Go.RowKit Go.Ecal
theorem Right_c (ce:List Value) (e:Entry) (I:Gh) (R:List HP) (w:World) (S:Sat w I (R)) (he:entR.r I ce e):Ret Tryz.prog 92 [.agg ce.toArray] w fun v w'=>∃J:Gh,Gh.le I J∧.bool e.right=v∧Sat w' J (R):=by
 obtain ⟨v0,v1,v2,rfl,r0,r1,r2,⟨o0,H0⟩,⟨o1,H1⟩,r3,r4,r5,⟨o2,H2⟩⟩:=he
 refine ret_E Tryz.func92 rfl Tryz.ntmps92 (by simp) ?_
 refine g2 ?_
 refine yB (cs:=entRC e v0 v1 v2) S ?_
 intro b0 w0 S0
 refine g5 ?_
 rcases first4 (within e.kind 1 5=true) (within e.writer 1 16=true) (within e.seq 1 1099511627776=true) (e=e.bare) with hc | hc | hc | hc | hc
 refine yJ 2 (fun w'=>Arr w' b0 36 (entRC e v0 v1 v2)) S0 ?_
 intro w1 S1
 refine yT 0 S1.le (S1.a0) ?_
 refine yT 1 S1.le (S1.a0) ?_
 refine y1 2 ?_
 refine yQ S1 (within_c e.kind 1 5 _) ?_
 intro w2 S2
 refine ym S2.le ?_
 refine jF 3 rfl (by kernel_rfl) (.bool true) rfl (fun _ hw=>r_dec (show (!false)=true from rfl) (r_not (Eq.trans (show _=Value.bool (within e.kind 1 5) from rfl) (congrArg Value.bool (show (within e.kind 1 5)=false from by simpa using hc))))) ⟨S2.le,fun h=>by cases h⟩ ?_
 refine yf 4 S2.le ?_
 refine yp 5 (ys S2.le) ?_
 refine yp 6 (ys S2.le) ?_
 refine yp 7 (ys S2.le) ?_
 refine yp 8 (ys S2.le) ?_
 refine yf 9 S2.le ?_
 refine yf 10 S2.le ?_
 refine yp 11 (ys S2.le) ?_
 refine yp 12 (ys S2.le) ?_
 refine yp 13 (ys S2.le) ?_
 refine yp 14 (ys S2.le) ?_
 refine yf 15 S2.le ?_
 refine yf 16 S2.le ?_
 obtain ⟨I0,le0,S3,H3⟩:=S2.fk0
 refine yu le0 ?_
 refine yp 17 (ys S3.le) ?_
 refine yp 18 (ys S3.le) ?_
 refine yp 19 (ys S3.le) ?_
 refine yp 20 (ys S3.le) ?_
 refine yp 21 (ys S3.le) ?_
 refine yf 22 S3.le ?_
 refine yd ?_
 refine g9 ?_
 refine f1 Tryz.results92 ?_
 exact ⟨I0,le0,(congrArg Value.bool (by rw [Entry.right,Entry.head];have hc0:=hc;simp [hc0])),S3⟩
 refine yJ 7 (fun w'=>Arr w' b0 36 (entRC e v0 v1 v2)) S0 ?_
 intro w3 S4
 refine yT 0 S4.le (S4.a0) ?_
 refine yT 1 S4.le (S4.a0) ?_
 refine y1 2 ?_
 refine yQ S4 (within_c e.kind 1 5 _) ?_
 intro w4 S5
 refine yn S5.le (S5.a0) ?_
 refine jT 3 rfl (by kernel_rfl) (.bool false) rfl (fun _ hw ht=>r_dec (show (!true)=false from rfl) (r_not (Eq.trans (show _=Value.bool (within e.kind 1 5) from rfl) (congrArg Value.bool (show (within e.kind 1 5)=true from hc.1))))) ⟨S5.le,fun h=>S5.a0⟩ ?_
 refine yT 4 S5.le (S5.a0) ?_
 refine yg 5 (yt S5.le (S5.a0)) ?_
 refine yg 6 (yt S5.le (S5.a0)) ?_
 refine y1 7 ?_
 refine yG (within_c e.writer 1 16 _) ?_
 rintro _ w5 ⟨rfl,B0⟩
 have S6:=S5.below B0
 refine ym S6.le ?_
 refine EJ_gfloat 8 rfl (by kernel_rfl) (by kernel_rfl) (by kernel_rfl) rfl 7 rfl rfl rfl rfl (.bool true) rfl (fun _ hw=>r_dec (show (!false)=true from rfl) (r_not (Eq.trans (show _=Value.bool (within e.writer 1 16) from rfl) (congrArg Value.bool (show (within e.writer 1 16)=false from by simpa using hc.2))))) ⟨S6.le,fun h=>by cases h⟩ ?_
 refine yf 9 S6.le ?_
 refine yf 10 S6.le ?_
 refine yp 11 (ys S6.le) ?_
 refine yp 12 (ys S6.le) ?_
 refine yp 13 (ys S6.le) ?_
 refine yp 14 (ys S6.le) ?_
 refine yf 15 S6.le ?_
 refine yf 16 S6.le ?_
 obtain ⟨I1,le1,S7,H4⟩:=S6.fk0
 refine yu le1 ?_
 refine yp 17 (ys S7.le) ?_
 refine yp 18 (ys S7.le) ?_
 refine yp 19 (ys S7.le) ?_
 refine yp 20 (ys S7.le) ?_
 refine yp 21 (ys S7.le) ?_
 refine yf 22 S7.le ?_
 refine yd ?_
 refine g9 ?_
 refine f1 Tryz.results92 ?_
 exact ⟨I1,le1,(congrArg Value.bool (by rw [Entry.right,Entry.head];have hc0:=hc.2;simp [hc0])),S7⟩
 refine yJ 13 (fun w'=>Arr w' b0 36 (entRC e v0 v1 v2)) S0 ?_
 intro w6 S8
 refine yT 0 S8.le (S8.a0) ?_
 refine yT 1 S8.le (S8.a0) ?_
 refine y1 2 ?_
 refine yQ S8 (within_c e.kind 1 5 _) ?_
 intro w7 S9
 refine yn S9.le (S9.a0) ?_
 refine jT 3 rfl (by kernel_rfl) (.bool false) rfl (fun _ hw ht=>r_dec (show (!true)=false from rfl) (r_not (Eq.trans (show _=Value.bool (within e.kind 1 5) from rfl) (congrArg Value.bool (show (within e.kind 1 5)=true from hc.1))))) ⟨S9.le,fun h=>S9.a0⟩ ?_
 refine yT 4 S9.le (S9.a0) ?_
 refine yg 5 (yt S9.le (S9.a0)) ?_
 refine yg 6 (yt S9.le (S9.a0)) ?_
 refine y1 7 ?_
 refine yG (within_c e.writer 1 16 _) ?_
 rintro _ w8 ⟨rfl,B1⟩
 have S10:=S9.below B1
 refine yn S10.le (S10.a0) ?_
 refine jG 8 rfl (by kernel_rfl) 7 rfl rfl rfl rfl (.bool false) rfl (fun _ hw ht=>r_dec (show (!true)=false from rfl) (r_not (Eq.trans (show _=Value.bool (within e.writer 1 16) from rfl) (congrArg Value.bool (show (within e.writer 1 16)=true from hc.2.1))))) ⟨S10.le,fun h=>S10.a0⟩ ?_
 refine yT 9 S10.le (S10.a0) ?_
 refine yT 10 S10.le (S10.a0) ?_
 refine yg 11 (yt S10.le (S10.a0)) ?_
 refine yg 12 (yt S10.le (S10.a0)) ?_
 refine y1 13 ?_
 refine yG (within_c e.seq 1 1099511627776 _) ?_
 rintro _ w9 ⟨rfl,B2⟩
 have S11:=S10.below B2
 refine ym S11.le ?_
 refine EJ_gfloat 14 rfl (by kernel_rfl) (by kernel_rfl) (by kernel_rfl) rfl 13 rfl rfl rfl rfl (.bool true) rfl (fun _ hw=>r_dec (show (!false)=true from rfl) (r_not (Eq.trans (show _=Value.bool (within e.seq 1 1099511627776) from rfl) (congrArg Value.bool (show (within e.seq 1 1099511627776)=false from by simpa using hc.2.2))))) ⟨S11.le,fun h=>by cases h⟩ ?_
 refine yf 15 S11.le ?_
 refine yf 16 S11.le ?_
 obtain ⟨I2,le2,S12,H5⟩:=S11.fk0
 refine yu le2 ?_
 refine yp 17 (ys S12.le) ?_
 refine yp 18 (ys S12.le) ?_
 refine yp 19 (ys S12.le) ?_
 refine yp 20 (ys S12.le) ?_
 refine yp 21 (ys S12.le) ?_
 refine yf 22 S12.le ?_
 refine yd ?_
 refine g9 ?_
 refine f1 Tryz.results92 ?_
 exact ⟨I2,le2,(congrArg Value.bool (by rw [Entry.right,Entry.head];have hc0:=hc.2.2;simp [hc0])),S12⟩
 refine yJ 20 (fun w'=>Arr w' b0 36 (entRC e v0 v1 v2)) S0 ?_
 intro w10 S13
 refine yT 0 S13.le (S13.a0) ?_
 refine yT 1 S13.le (S13.a0) ?_
 refine y1 2 ?_
 refine yQ S13 (within_c e.kind 1 5 _) ?_
 intro w11 S14
 refine yn S14.le (S14.a0) ?_
 refine jT 3 rfl (by kernel_rfl) (.bool false) rfl (fun _ hw ht=>r_dec (show (!true)=false from rfl) (r_not (Eq.trans (show _=Value.bool (within e.kind 1 5) from rfl) (congrArg Value.bool (show (within e.kind 1 5)=true from hc.1))))) ⟨S14.le,fun h=>S14.a0⟩ ?_
 refine yT 4 S14.le (S14.a0) ?_
 refine yg 5 (yt S14.le (S14.a0)) ?_
 refine yg 6 (yt S14.le (S14.a0)) ?_
 refine y1 7 ?_
 refine yG (within_c e.writer 1 16 _) ?_
 rintro _ w12 ⟨rfl,B3⟩
 have S15:=S14.below B3
 refine yn S15.le (S15.a0) ?_
 refine jG 8 rfl (by kernel_rfl) 7 rfl rfl rfl rfl (.bool false) rfl (fun _ hw ht=>r_dec (show (!true)=false from rfl) (r_not (Eq.trans (show _=Value.bool (within e.writer 1 16) from rfl) (congrArg Value.bool (show (within e.writer 1 16)=true from hc.2.1))))) ⟨S15.le,fun h=>S15.a0⟩ ?_
 refine yT 9 S15.le (S15.a0) ?_
 refine yT 10 S15.le (S15.a0) ?_
 refine yg 11 (yt S15.le (S15.a0)) ?_
 refine yg 12 (yt S15.le (S15.a0)) ?_
 refine y1 13 ?_
 refine yG (within_c e.seq 1 1099511627776 _) ?_
 rintro _ w13 ⟨rfl,B4⟩
 have S16:=S15.below B4
 refine yn S16.le (S16.a0) ?_
 refine jG 14 rfl (by kernel_rfl) 13 rfl rfl rfl rfl (.bool false) rfl (fun _ hw ht=>r_dec (show (!true)=false from rfl) (r_not (Eq.trans (show _=Value.bool (within e.seq 1 1099511627776) from rfl) (congrArg Value.bool (show (within e.seq 1 1099511627776)=true from hc.2.2.1))))) ⟨S16.le,fun h=>S16.a0⟩ ?_
 refine yT 15 S16.le (S16.a0) ?_
 refine yT 16 S16.le (S16.a0) ?_
 refine yg 17 (yt S16.le (S16.a0)) ?_
 refine yg 18 (yt S16.le (S16.a0)) ?_
 refine y1 19 ?_
 refine yG (bare_c (entRC e v0 v1 v2) e _ _ _ S16 ⟨v0,v1,v2,rfl,ad,ad,ad,⟨o0,H0⟩,⟨o1,H1⟩,ad,ad,ad,⟨o2,H2⟩⟩) ?_
 rintro _ w14 ⟨cs0,rfl,h0,S17⟩
 obtain ⟨v3,v4,v5,rfl,r6,r7,r8,⟨o3,H6⟩,⟨o4,H7⟩,r9,r10,r11,⟨o5,H8⟩⟩:=h0
 refine yn S17.le (S17.a0) ?_
 refine y1 20 ?_
 refine yG (Same_c (entRC e v0 v1 v2) (entRC e.bare v3 v4 v5) e e.bare _ _ _ S17 ⟨v0,v1,v2,rfl,ad,ad,ad,⟨o0,H0⟩,⟨o1,H1⟩,ad,ad,ad,⟨o2,H2⟩⟩ ⟨v3,v4,v5,rfl,ad,ad,ad,⟨o3,H6⟩,⟨o4,H7⟩,ad,ad,ad,⟨o5,H8⟩⟩) ?_
 rintro _ w15 ⟨rfl,S18⟩
 refine ym S18.le ?_
 refine EJ_gfloat 21 rfl (by kernel_rfl) (by kernel_rfl) (by kernel_rfl) rfl 19 rfl rfl rfl rfl (.bool true) rfl (fun _ hw=>r_dec (show (!false)=true from rfl) (r_not (Eq.trans (show _=Value.bool (decide (e=e.bare)) from rfl) (congrArg Value.bool (show (decide (e=e.bare))=false from by rw [decide_eq_false_iff_not];exact hc.2.2.2))))) ⟨S18.le,fun h=>by cases h⟩ ?_
 refine yf 22 S18.le ?_
 refine yd ?_
 refine g9 ?_
 refine f1 Tryz.results92 ?_
 exact ⟨I,(Gh.le_refl _),(congrArg Value.bool (by rw [Entry.right,Entry.head];have hc0:=hc.2.2.2;simp [hc0])),S18.dr0⟩
 refine yJ 20 (fun w'=>Arr w' b0 36 (entRC e v0 v1 v2)) S0 ?_
 intro w16 S19
 refine yT 0 S19.le (S19.a0) ?_
 refine yT 1 S19.le (S19.a0) ?_
 refine y1 2 ?_
 refine yQ S19 (within_c e.kind 1 5 _) ?_
 intro w17 S20
 refine yn S20.le (S20.a0) ?_
 refine jT 3 rfl (by kernel_rfl) (.bool false) rfl (fun _ hw ht=>r_dec (show (!true)=false from rfl) (r_not (Eq.trans (show _=Value.bool (within e.kind 1 5) from rfl) (congrArg Value.bool (show (within e.kind 1 5)=true from hc.1))))) ⟨S20.le,fun h=>S20.a0⟩ ?_
 refine yT 4 S20.le (S20.a0) ?_
 refine yg 5 (yt S20.le (S20.a0)) ?_
 refine yg 6 (yt S20.le (S20.a0)) ?_
 refine y1 7 ?_
 refine yG (within_c e.writer 1 16 _) ?_
 rintro _ w18 ⟨rfl,B5⟩
 have S21:=S20.below B5
 refine yn S21.le (S21.a0) ?_
 refine jG 8 rfl (by kernel_rfl) 7 rfl rfl rfl rfl (.bool false) rfl (fun _ hw ht=>r_dec (show (!true)=false from rfl) (r_not (Eq.trans (show _=Value.bool (within e.writer 1 16) from rfl) (congrArg Value.bool (show (within e.writer 1 16)=true from hc.2.1))))) ⟨S21.le,fun h=>S21.a0⟩ ?_
 refine yT 9 S21.le (S21.a0) ?_
 refine yT 10 S21.le (S21.a0) ?_
 refine yg 11 (yt S21.le (S21.a0)) ?_
 refine yg 12 (yt S21.le (S21.a0)) ?_
 refine y1 13 ?_
 refine yG (within_c e.seq 1 1099511627776 _) ?_
 rintro _ w19 ⟨rfl,B6⟩
 have S22:=S21.below B6
 refine yn S22.le (S22.a0) ?_
 refine jG 14 rfl (by kernel_rfl) 13 rfl rfl rfl rfl (.bool false) rfl (fun _ hw ht=>r_dec (show (!true)=false from rfl) (r_not (Eq.trans (show _=Value.bool (within e.seq 1 1099511627776) from rfl) (congrArg Value.bool (show (within e.seq 1 1099511627776)=true from hc.2.2.1))))) ⟨S22.le,fun h=>S22.a0⟩ ?_
 refine yT 15 S22.le (S22.a0) ?_
 refine yT 16 S22.le (S22.a0) ?_
 refine yg 17 (yt S22.le (S22.a0)) ?_
 refine yg 18 (yt S22.le (S22.a0)) ?_
 refine y1 19 ?_
 refine yG (bare_c (entRC e v0 v1 v2) e _ _ _ S22 ⟨v0,v1,v2,rfl,ad,ad,ad,⟨o0,H0⟩,⟨o1,H1⟩,ad,ad,ad,⟨o2,H2⟩⟩) ?_
 rintro _ w20 ⟨cs1,rfl,h1,S23⟩
 obtain ⟨v6,v7,v8,rfl,r12,r13,r14,⟨o6,H9⟩,⟨o7,H10⟩,r15,r16,r17,⟨o8,H11⟩⟩:=h1
 refine yn S23.le (S23.a0) ?_
 refine y1 20 ?_
 refine yG (Same_c (entRC e v0 v1 v2) (entRC e.bare v6 v7 v8) e e.bare _ _ _ S23 ⟨v0,v1,v2,rfl,ad,ad,ad,⟨o0,H0⟩,⟨o1,H1⟩,ad,ad,ad,⟨o2,H2⟩⟩ ⟨v6,v7,v8,rfl,ad,ad,ad,⟨o6,H9⟩,⟨o7,H10⟩,ad,ad,ad,⟨o8,H11⟩⟩) ?_
 rintro _ w21 ⟨rfl,S24⟩
 refine ym S24.le ?_
 refine EJ_gfloat 21 rfl (by kernel_rfl) (by kernel_rfl) (by kernel_rfl) rfl 19 rfl rfl rfl rfl (.bool false) rfl (fun _ hw=>r_dec (show (!true)=false from rfl) (r_not (Eq.trans (show _=Value.bool (decide (e=e.bare)) from rfl) (congrArg Value.bool (show (decide (e=e.bare))=true from by rw [decide_eq_true_eq];exact hc.2.2.2))))) ⟨S24.le,fun h=>by cases h⟩ ?_
 refine yf 22 S24.le ?_
 refine yd ?_
 refine g6 ?_
 rcases (by have:=within_iff.1 hc.1;omega:e.kind=1∨e.kind=2∨e.kind=3∨e.kind=4∨e.kind=5) with hk | hk | hk | hk | hk
 refine g9 ?_
 refine vl _ rfl (dT (r_eql rfl rfl)) ?_
 refine g11 ?_
 refine vl _ rfl (lenB (r_len rfl (H0 _ S24.le) U33)) ?_
 refine yQ S24 (within_c (e.name.length:Int) 1 64 _) ?_
 intro w22 S25
 refine g3 ?_
 refine EL_gite 35 rfl rfl rfl (.int .i64 (e.value.length:Int)) rfl (fun g144=>lenB (r_len (cond_of g144 rfl) (H1 _ S25.le) U33)) ?_
 refine g8 ?_
 refine f1 Tryz.results92 ?_
 exact ⟨I,(Gh.le_refl _),(congrArg Value.bool (by rw [Entry.right,Entry.head,hc.1,hc.2.1,hc.2.2.1,decide_eq_true hc.2.2.2,Entry.body,if_pos (.inl hk)]<;>rfl)),S25.dr0⟩
 refine g9 ?_
 refine vl _ rfl (dF (r_eql rfl rfl)) ?_
 refine g5 ?_
 refine vl _ rfl (dT (r_eql rfl rfl)) ?_
 refine g8 ?_
 refine vl _ rfl (lenB (r_len rfl (H0 _ S24.le) U33)) ?_
 refine yQ S24 (within_c (e.name.length:Int) 1 64 _) ?_
 intro w23 S26
 refine g3 ?_
 refine EL_gite 35 rfl rfl rfl (.int .i64 (e.value.length:Int)) rfl (fun g152=>lenB (r_len (cond_of g152 rfl) (H1 _ S26.le) U33)) ?_
 refine g8 ?_
 refine f1 Tryz.results92 ?_
 exact ⟨I,(Gh.le_refl _),(congrArg Value.bool (by rw [Entry.right,Entry.head,hc.1,hc.2.1,hc.2.2.1,decide_eq_true hc.2.2.2,Entry.body,if_pos (.inr hk)]<;>rfl)),S26.dr0⟩
 refine g9 ?_
 refine vl _ rfl (dF (r_eql rfl rfl)) ?_
 refine g5 ?_
 refine vl _ rfl (dF (r_eql rfl rfl)) ?_
 refine g6 ?_
 refine vl _ rfl (dT (r_eql rfl rfl)) ?_
 refine g5 ?_
 rcases (by cases within e.who 1 16<;>simp:within e.who 1 16=true∨within e.who 1 16=false) with hd | hd
 refine g3 ?_
 refine yQ S24 (within_c e.who 1 16 _) ?_
 intro w24 S27
 refine vl (.bool true) rfl (r_move (Eq.trans (show _=Value.bool (within e.who 1 16) from rfl) (congrArg Value.bool (show (within e.who 1 16)=true from hd)))) ?_
 refine g2 ?_
 refine yG (within_c e.rights 1 7 _) ?_
 rintro _ w25 ⟨rfl,B7⟩
 have S28:=S27.below B7
 refine g7 ?_
 refine f1 Tryz.results92 ?_
 exact ⟨I,(Gh.le_refl _),(congrArg Value.bool (by rw [Entry.right,Entry.head,hc.1,hc.2.1,hc.2.2.1,decide_eq_true hc.2.2.2,Entry.body,if_neg (by omega),if_pos hk,hd]<;>rfl)),S28.dr0⟩
 refine g3 ?_
 refine yQ S24 (within_c e.who 1 16 _) ?_
 intro w26 S29
 refine vl (.bool false) rfl (r_move (Eq.trans (show _=Value.bool (within e.who 1 16) from rfl) (congrArg Value.bool (show (within e.who 1 16)=false from hd)))) ?_
 refine g10 ?_
 refine f1 Tryz.results92 ?_
 exact ⟨I,(Gh.le_refl _),(congrArg Value.bool (by rw [Entry.right,Entry.head,hc.1,hc.2.1,hc.2.2.1,decide_eq_true hc.2.2.2,Entry.body,if_neg (by omega),if_pos hk,hd]<;>rfl)),S29.dr0⟩
 refine g9 ?_
 refine vl _ rfl (dF (r_eql rfl rfl)) ?_
 refine g5 ?_
 refine vl _ rfl (dF (r_eql rfl rfl)) ?_
 refine g6 ?_
 refine vl _ rfl (dF (r_eql rfl rfl)) ?_
 refine g6 ?_
 refine vl _ rfl (dT (r_eql rfl rfl)) ?_
 refine g8 ?_
 refine yQ S24 (within_c e.who 1 16 _) ?_
 intro w27 S30
 refine g6 ?_
 refine f1 Tryz.results92 ?_
 exact ⟨I,(Gh.le_refl _),(congrArg Value.bool (by rw [Entry.right,Entry.head,hc.1,hc.2.1,hc.2.2.1,decide_eq_true hc.2.2.2,Entry.body,if_neg (by omega),if_neg (by omega),if_pos hk]<;>rfl)),S30.dr0⟩
 refine g9 ?_
 refine vl _ rfl (dF (r_eql rfl rfl)) ?_
 refine g5 ?_
 refine vl _ rfl (dF (r_eql rfl rfl)) ?_
 refine g6 ?_
 refine vl _ rfl (dF (r_eql rfl rfl)) ?_
 refine g6 ?_
 refine vl _ rfl (dF (r_eql rfl rfl)) ?_
 refine g8 ?_
 rcases (by cases within e.epoch 1 16<;>simp:within e.epoch 1 16=true∨within e.epoch 1 16=false) with hd | hd
 refine g3 ?_
 refine yQ S24 (within_c e.epoch 1 16 _) ?_
 intro w28 S31
 refine vl (.bool true) rfl (r_move (Eq.trans (show _=Value.bool (within e.epoch 1 16) from rfl) (congrArg Value.bool (show (within e.epoch 1 16)=true from hd)))) ?_
 refine g2 ?_
 refine yG (wraps_c _ _ _ _ _ S31 H2) ?_
 rintro _ w29 ⟨rfl,S32⟩
 refine g5 ?_
 refine f1 Tryz.results92 ?_
 exact ⟨I,(Gh.le_refl _),(congrArg Value.bool (by rw [Entry.right,Entry.head,hc.1,hc.2.1,hc.2.2.1,decide_eq_true hc.2.2.2,Entry.body,if_neg (by omega),if_neg (by omega),if_neg (by omega),hd]<;>rfl)),S32.dr0⟩
 refine g3 ?_
 refine yQ S24 (within_c e.epoch 1 16 _) ?_
 intro w30 S33
 refine vl (.bool false) rfl (r_move (Eq.trans (show _=Value.bool (within e.epoch 1 16) from rfl) (congrArg Value.bool (show (within e.epoch 1 16)=false from hd)))) ?_
 refine g8 ?_
 refine f1 Tryz.results92 ?_
 exact ⟨I,(Gh.le_refl _),(congrArg Value.bool (by rw [Entry.right,Entry.head,hc.1,hc.2.1,hc.2.2.1,decide_eq_true hc.2.2.2,Entry.body,if_neg (by omega),if_neg (by omega),if_neg (by omega),hd]<;>rfl)),S33.dr0⟩
end Go.Proofs.YthddplghlljdbaaGreat

set_option maxRecDepth 100000
set_option maxHeartbeats 4000000
namespace Go.Proofs.YthddplghlljdbaaGreat
open Go.RowKit Go.Ecal
theorem Encode_c (ce:List Value) (e:Entry) (I:Gh) (R:List HP) (w:World) (S:Sat w I (R)) (he:entR.r I ce e):Ret Tryz.prog 67 [.agg ce.toArray] w fun v w'=>∃v1:Value,∃J:Gh,Gh.le I J∧.tuple #[v1,.int .i64 e.encE]=v∧Sat w' J (OwnB v1 e.encB::R):=by
 obtain ⟨v0,v2,v3,rfl,r0,r1,r2,⟨o0,H0⟩,⟨o1,H1⟩,r3,r4,r5,⟨o2,H2⟩⟩:=he
 refine ret_E Tryz.func67 rfl Tryz.ntmps67 (by simp) ?_
 refine g2 ?_
 refine yB (cs:=entRC e v0 v2 v3) S ?_
 intro b0 w0 S0
 refine g8 ?_
 refine yR (Right_c (entRC e v0 v2 v3) e _ _ _ S0 ⟨v0,v2,v3,rfl,ad,ad,ad,⟨o0,H0⟩,⟨o1,H1⟩,ad,ad,ad,⟨o2,H2⟩⟩) ?_
 rintro _ w1 ⟨I0,le0,rfl,S1⟩
 refine g3 ?_
 refine EC_cond (t:=!e.right) rfl (fun h0=>?_) (fun h0=>?_)
 have hr:e.right=false:=(Bool.not_eq_true' _).mp h0
 refine g8 ?_
 refine f2 Tryz.results67 ?_
 rw [show e.encB=[] from by rw [Entry.encB,hr];rfl]
 have S2:=S1.nilB
 exact ⟨(.slice none 0 0),I0,le0,(by rw [Entry.encE,hr];rfl),S2.dr1⟩
 have hr:e.right=true:=(Bool.not_eq_false' _).mp h0
 refine g6 ?_
 refine vl _ rfl (r_iface rfl U3 rfl) ?_
 refine g2 ?_
 refine vl _ rfl (r_iface rfl U3 rfl) ?_
 refine g2 ?_
 refine vl _ rfl (r_iface rfl U3 rfl) ?_
 refine EL_lit1 (l:=[(0,.iface 3 (.int .i64 e.kind)),(1,.iface 3 (.int .i64 e.writer)),(2,.iface 3 (.int .i64 e.seq))]) w1.heap.size [.iface 3 (.int .i64 e.kind),.iface 3 (.int .i64 e.writer),.iface 3 (.int .i64 e.seq)] el_122 rfl (by decide) rfl (Nat.le_refl _) (parts3 rfl rfl rfl) (Eq.trans (show Instr.fill _ _ [(0,.iface 3 (.int .i64 e.kind)),(1,.iface 3 (.int .i64 e.writer)),(2,.iface 3 (.int .i64 e.seq))]=_ from (fill_one rfl rfl (by kernel_rfl) (fill_one rfl rfl (by kernel_rfl) (fill_one rfl rfl (by kernel_rfl) fill_end)))) (by kernel_rfl)) ?_
 intro v4 w2 O0 B0 k0
 have S3:Sat _ _ (OwnX 20 anyR v4 [(Any.int e.kind),(Any.int e.writer),(Any.int e.seq)]::_):=OwnX.cls (xss:=[[.iface 3 (.int .i64 e.kind)],[.iface 3 (.int .i64 e.writer)],[.iface 3 (.int .i64 e.seq)]]) (.cons ⟨rfl,(by first | assumption | omega)⟩ (.cons ⟨rfl,(by first | assumption | omega)⟩ (.cons ⟨rfl,(by first | assumption | omega)⟩ .nil))) (S1.newO B0 O0)
 refine g5 ?_
 rcases (by have:=right_kind hr;omega:e.kind=1∨e.kind=2∨e.kind=3∨e.kind=4∨e.kind=5) with hk | hk | hk | hk | hk
 refine g8 ?_
 refine vl _ rfl (dT (r_eql rfl rfl)) ?_
 refine g8 ?_
 refine vl _ rfl (r_iface rfl U33 rfl) ?_
 refine g2 ?_
 refine vl _ rfl (r_iface rfl U33 rfl) ?_
 refine EL_lit1 (l:=[(0,.iface 33 v0),(1,.iface 33 v2)]) w2.heap.size [.iface 33 v0,.iface 33 v2] el_122 rfl (by decide) rfl (Nat.le_refl _) (parts2 rfl rfl) (Eq.trans (show Instr.fill _ _ [(0,.iface 33 v0),(1,.iface 33 v2)]=_ from (fill_one rfl rfl (by kernel_rfl) (fill_one rfl rfl (by kernel_rfl) fill_end))) (by kernel_rfl)) ?_
 intro v5 w3 O1 B1 k1
 have S4:Sat _ _ (OwnX 20 anyR v5 [(Any.bytes e.name),(Any.bytes e.value)]::_):=OwnX.cls (xss:=[[.iface 33 v0],[.iface 33 v2]]) (.cons ⟨_,rfl,o0,(H0.up le0)⟩ (.cons ⟨_,rfl,o1,(H1.up le0)⟩ .nil)) (S3.newO B1 O1)
 have oH59:=(OwnX.one S4 0 rfl (by decide))
 obtain ⟨I1,le1,S5,H3⟩:=S4.fx0 (by decide)
 refine EL_appX (z:=(.nilIface)) (bytes:=16) rfl U122 (by kernel_rfl) rfl (by decide) rfl rfl S5 H3 ac ac ?_
 intro v6 w4 S6
 refine g5 ?_
 have q0:[(Any.int e.kind),(Any.int e.writer),(Any.int e.seq)]++[(Any.bytes e.name),(Any.bytes e.value)]=e.parts:=by simp [Entry.parts,hk]
 have S7:=S6.ax0 q0
 have hpl:=parts_len hr
 skip
 refine g2 ?_
 have oH65:=(OwnX.one S7 0 rfl (by decide))
 obtain ⟨I2,le2,S8,H4⟩:=S7.fx0 (by decide)
 refine yR (Put_c _ _ _ _ _ S8 H4 au) ?_
 rintro _ w5 ⟨v7,rfl,S9⟩
 refine g7 ?_
 refine f2 Tryz.results67 ?_
 have q1:putB e.parts=e.encB:=by rw [Entry.encB,if_pos hr]
 have S10:=S9.ab0 q1
 exact ⟨v7,I2,(lT (lT le0 le1) le2),(by rw [Entry.encE,if_pos hr]),S10.dr1⟩
 refine g8 ?_
 refine vl _ rfl (dF (r_eql rfl rfl)) ?_
 refine g6 ?_
 refine vl _ rfl (dT (r_eql rfl rfl)) ?_
 refine g8 ?_
 refine vl _ rfl (r_iface rfl U33 rfl) ?_
 refine EL_lit1 (l:=[(0,.iface 33 v0)]) w2.heap.size [.iface 33 v0] el_122 rfl (by decide) rfl (Nat.le_refl _) (parts1 rfl) (Eq.trans (show Instr.fill _ _ [(0,.iface 33 v0)]=_ from (fill_one rfl rfl (by kernel_rfl) fill_end)) (by kernel_rfl)) ?_
 intro v8 w6 O2 B2 k2
 have S11:Sat _ _ (OwnX 20 anyR v8 [(Any.bytes e.name)]::_):=OwnX.cls (xss:=[[.iface 33 v0]]) (.cons ⟨_,rfl,o0,(H0.up le0)⟩ .nil) (S3.newO B2 O2)
 have oH84:=(OwnX.one S11 0 rfl (by decide))
 obtain ⟨I3,le3,S12,H5⟩:=S11.fx0 (by decide)
 refine EL_appX (z:=(.nilIface)) (bytes:=16) rfl U122 (by kernel_rfl) rfl (by decide) rfl rfl S12 H5 ac ac ?_
 intro v9 w7 S13
 refine g5 ?_
 have q2:[(Any.int e.kind),(Any.int e.writer),(Any.int e.seq)]++[(Any.bytes e.name)]=e.parts:=by simp [Entry.parts,hk]
 have S14:=S13.ax0 q2
 have hpl:=parts_len hr
 skip
 refine g2 ?_
 have oH90:=(OwnX.one S14 0 rfl (by decide))
 obtain ⟨I4,le4,S15,H6⟩:=S14.fx0 (by decide)
 refine yR (Put_c _ _ _ _ _ S15 H6 au) ?_
 rintro _ w8 ⟨v10,rfl,S16⟩
 refine g7 ?_
 refine f2 Tryz.results67 ?_
 have q3:putB e.parts=e.encB:=by rw [Entry.encB,if_pos hr]
 have S17:=S16.ab0 q3
 exact ⟨v10,I4,(lT (lT le0 le3) le4),(by rw [Entry.encE,if_pos hr]),S17.dr1⟩
 refine g8 ?_
 refine vl _ rfl (dF (r_eql rfl rfl)) ?_
 refine g6 ?_
 refine vl _ rfl (dF (r_eql rfl rfl)) ?_
 refine g6 ?_
 refine vl _ rfl (dT (r_eql rfl rfl)) ?_
 refine g8 ?_
 refine vl _ rfl (r_iface rfl U3 rfl) ?_
 refine g2 ?_
 refine vl _ rfl (r_iface rfl U3 rfl) ?_
 refine EL_lit1 (l:=[(0,.iface 3 (.int .i64 e.who)),(1,.iface 3 (.int .i64 e.rights))]) w2.heap.size [.iface 3 (.int .i64 e.who),.iface 3 (.int .i64 e.rights)] el_122 rfl (by decide) rfl (Nat.le_refl _) (parts2 rfl rfl) (Eq.trans (show Instr.fill _ _ [(0,.iface 3 (.int .i64 e.who)),(1,.iface 3 (.int .i64 e.rights))]=_ from (fill_one rfl rfl (by kernel_rfl) (fill_one rfl rfl (by kernel_rfl) fill_end))) (by kernel_rfl)) ?_
 intro v11 w9 O3 B3 k3
 have S18:Sat _ _ (OwnX 20 anyR v11 [(Any.int e.who),(Any.int e.rights)]::_):=OwnX.cls (xss:=[[.iface 3 (.int .i64 e.who)],[.iface 3 (.int .i64 e.rights)]]) (.cons ⟨rfl,(by first | assumption | omega)⟩ (.cons ⟨rfl,(by first | assumption | omega)⟩ .nil)) (S3.newO B3 O3)
 have oH109:=(OwnX.one S18 0 rfl (by decide))
 obtain ⟨I5,le5,S19,H7⟩:=S18.fx0 (by decide)
 refine EL_appX (z:=(.nilIface)) (bytes:=16) rfl U122 (by kernel_rfl) rfl (by decide) rfl rfl S19 H7 ac ac ?_
 intro v12 w10 S20
 refine g5 ?_
 have q4:[(Any.int e.kind),(Any.int e.writer),(Any.int e.seq)]++[(Any.int e.who),(Any.int e.rights)]=e.parts:=by simp [Entry.parts,hk]
 have S21:=S20.ax0 q4
 have hpl:=parts_len hr
 skip
 refine g2 ?_
 have oH115:=(OwnX.one S21 0 rfl (by decide))
 obtain ⟨I6,le6,S22,H8⟩:=S21.fx0 (by decide)
 refine yR (Put_c _ _ _ _ _ S22 H8 au) ?_
 rintro _ w11 ⟨v13,rfl,S23⟩
 refine g7 ?_
 refine f2 Tryz.results67 ?_
 have q5:putB e.parts=e.encB:=by rw [Entry.encB,if_pos hr]
 have S24:=S23.ab0 q5
 exact ⟨v13,I6,(lT (lT le0 le5) le6),(by rw [Entry.encE,if_pos hr]),S24.dr1⟩
 refine g8 ?_
 refine vl _ rfl (dF (r_eql rfl rfl)) ?_
 refine g6 ?_
 refine vl _ rfl (dF (r_eql rfl rfl)) ?_
 refine g6 ?_
 refine vl _ rfl (dF (r_eql rfl rfl)) ?_
 refine g6 ?_
 refine vl _ rfl (dT (r_eql rfl rfl)) ?_
 refine g8 ?_
 refine vl _ rfl (r_iface rfl U3 rfl) ?_
 refine EL_lit1 (l:=[(0,.iface 3 (.int .i64 e.who))]) w2.heap.size [.iface 3 (.int .i64 e.who)] el_122 rfl (by decide) rfl (Nat.le_refl _) (parts1 rfl) (Eq.trans (show Instr.fill _ _ [(0,.iface 3 (.int .i64 e.who))]=_ from (fill_one rfl rfl (by kernel_rfl) fill_end)) (by kernel_rfl)) ?_
 intro v14 w12 O4 B4 k4
 have S25:Sat _ _ (OwnX 20 anyR v14 [(Any.int e.who)]::_):=OwnX.cls (xss:=[[.iface 3 (.int .i64 e.who)]]) (.cons ⟨rfl,(by first | assumption | omega)⟩ .nil) (S3.newO B4 O4)
 have oH134:=(OwnX.one S25 0 rfl (by decide))
 obtain ⟨I7,le7,S26,H9⟩:=S25.fx0 (by decide)
 refine EL_appX (z:=(.nilIface)) (bytes:=16) rfl U122 (by kernel_rfl) rfl (by decide) rfl rfl S26 H9 ac ac ?_
 intro v15 w13 S27
 refine g5 ?_
 have q6:[(Any.int e.kind),(Any.int e.writer),(Any.int e.seq)]++[(Any.int e.who)]=e.parts:=by simp [Entry.parts,hk]
 have S28:=S27.ax0 q6
 have hpl:=parts_len hr
 skip
 refine g2 ?_
 have oH140:=(OwnX.one S28 0 rfl (by decide))
 obtain ⟨I8,le8,S29,H10⟩:=S28.fx0 (by decide)
 refine yR (Put_c _ _ _ _ _ S29 H10 au) ?_
 rintro _ w14 ⟨v16,rfl,S30⟩
 refine g7 ?_
 refine f2 Tryz.results67 ?_
 have q7:putB e.parts=e.encB:=by rw [Entry.encB,if_pos hr]
 have S31:=S30.ab0 q7
 exact ⟨v16,I8,(lT (lT le0 le7) le8),(by rw [Entry.encE,if_pos hr]),S31.dr1⟩
 have hw16:=right_wraps hr
 refine g8 ?_
 refine vl _ rfl (dF (r_eql rfl rfl)) ?_
 refine g6 ?_
 refine vl _ rfl (dF (r_eql rfl rfl)) ?_
 refine g6 ?_
 refine vl _ rfl (dF (r_eql rfl rfl)) ?_
 refine g6 ?_
 refine vl _ rfl (dF (r_eql rfl rfl)) ?_
 refine g6 ?_
 refine vl _ rfl (dT (r_eql rfl rfl)) ?_
 refine g9 ?_
 refine vl _ rfl (r_iface rfl U3 rfl) ?_
 refine g2 ?_
 refine vl _ rfl (r_lenX rfl (H2.row (lT le0 S3.le)) U34) (vl _ rfl (r_iface rfl U3 rfl) ?_)
 refine EL_lit1 (l:=[(0,.iface 3 (.int .i64 e.epoch)),(1,.iface 3 (.int .i64 (e.wraps.length:Int)))]) w2.heap.size [.iface 3 (.int .i64 e.epoch),.iface 3 (.int .i64 (e.wraps.length:Int))] el_122 rfl (by decide) rfl (Nat.le_refl _) (parts2 rfl rfl) (Eq.trans (show Instr.fill _ _ [(0,.iface 3 (.int .i64 e.epoch)),(1,.iface 3 (.int .i64 (e.wraps.length:Int)))]=_ from (fill_one rfl rfl (by kernel_rfl) (fill_one rfl rfl (by kernel_rfl) fill_end))) (by kernel_rfl)) ?_
 intro v17 w15 O5 B5 k5
 have S32:Sat _ _ (OwnX 20 anyR v17 [(Any.int e.epoch),(Any.int (e.wraps.length:Int))]::_):=OwnX.cls (xss:=[[.iface 3 (.int .i64 e.epoch)],[.iface 3 (.int .i64 (e.wraps.length:Int))]]) (.cons ⟨rfl,(by first | assumption | omega)⟩ (.cons ⟨rfl,(by first | assumption | omega)⟩ .nil)) (S3.newO B5 O5)
 have oH159:=(OwnX.one S32 0 rfl (by decide))
 obtain ⟨I9,le9,S33,H11⟩:=S32.fx0 (by decide)
 refine EL_appX (z:=(.nilIface)) (bytes:=16) rfl U122 (by kernel_rfl) rfl (by decide) rfl rfl S33 H11 ac ac ?_
 intro v18 w16 S34
 refine g7 ?_
 refine vl _ rfl (r_lenX rfl (H2.row (lT (lT le0 le9) S34.le)) U34) ?_
 refine g4 ?_
 have q8:[(Any.int e.kind),(Any.int e.writer),(Any.int e.seq)]++[(Any.int e.epoch),(Any.int (e.wraps.length:Int))]=baseW e++wrapParts (e.wraps.take 0):=by simp [wrapParts]
 have S35:=S34.ax0 q8
 refine EC_loop (fun m' E' w'=>∃j:Nat,∃qv:Value,∃J:Gh,m'=e.wraps.length-j∧E' 75=.int .i64 (j:Int)∧E' 4=qv∧E' 2=.slice none 0 0∧E' 3=.int .i64 0∧E' 73=v3∧E' 74=.int .i64 (e.wraps.length:Int)∧(j≤e.wraps.length)∧((baseW e++wrapParts (e.wraps.take j)).length≤40)∧Gh.le I9 J∧Sat w' J (OwnX 20 anyR qv (baseW e++wrapParts (e.wraps.take j))::Blk b0 36 (entRC e v0 v2 v3)::R)) _ ⟨0,v18,I9,rfl,rfl,rfl,rfl,rfl,rfl,rfl,Nat.zero_le _,(by simp [wrapParts]),(Gh.le_refl _),S35⟩ ?_
 rintro _ E0 w17 ⟨j,qv,I10,rfl,e0,e1,e2,e3,e4,e5,hj,hln,le10,S36⟩
 refine g6 ?_
 refine EC_if rfl (fun h2=>?_) (fun h2=>?_)
 refine g6 ?_
 refine vl (ptr (blkOf v3) (offOf v3+((j:Int):Int).toNat*2)) rfl (r_indexX (by exact e4) (H2.row (lT (lT (lT le0 le9) le10) S36.le)) (by exact e0) (by omega) as' U34 (by kernel_rfl)) ?_
 obtain ⟨a0,ha0⟩:=get_some (l:=e.wraps) (j:=((j:Int):Int).toNat) as'
 obtain ⟨cs0,hc0,he0⟩:=H2.el ha0
 obtain ⟨v19,rfl,r6,⟨o3,H12⟩⟩:=hc0
 refine vl (.agg ([.int .i64 a0.who,v19]).toArray) rfl (r_loadR (cs:=[.int .i64 a0.who,v19]) rfl (he0 _ (lT (lT (lT le0 le9) le10) S36.le)) U113 rfl (by kernel_rfl)) ?_
 refine yN [.int .i64 0,.slice none 0 0] S36 ?_
 intro b1 w18 S37
 refine yW0 S37 ?_ (h1:=ones_cons rfl (ones_cons o3 ones_nil))
 intro w19 S38
 refine g6 ?_
 refine vl _ rfl (r_iface rfl U3 rfl) ?_
 refine g2 ?_
 refine vl _ rfl (r_iface rfl U33 rfl) ?_
 refine EL_lit1 (l:=[(0,.iface 3 (.int .i64 a0.who)),(1,.iface 33 v19)]) w19.heap.size [.iface 3 (.int .i64 a0.who),.iface 33 v19] el_122 rfl (by decide) rfl (Nat.le_refl _) (parts2 rfl rfl) (Eq.trans (show Instr.fill _ _ [(0,.iface 3 (.int .i64 a0.who)),(1,.iface 33 v19)]=_ from (fill_one rfl rfl (by kernel_rfl) (fill_one rfl rfl (by kernel_rfl) fill_end))) (by kernel_rfl)) ?_
 intro v20 w20 O6 B6 k6
 have S39:Sat _ _ (OwnX 20 anyR v20 [(Any.int a0.who),(Any.bytes a0.box)]::_):=OwnX.cls (xss:=[[.iface 3 (.int .i64 a0.who)],[.iface 33 v19]]) (.cons ⟨rfl,(by first | assumption | omega)⟩ (.cons ⟨_,rfl,o3,(H12.up (lT (lT le0 le9) le10))⟩ .nil)) (S38.newO B6 O6)
 have oH207:=(OwnX.one S39 0 rfl (by decide))
 obtain ⟨I11,le11,S40,H13⟩:=S39.fx0 (by decide)
 refine EL_appX (z:=(.nilIface)) (bytes:=16) rfl U122 (by kernel_rfl) rfl (by decide) rfl rfl S40.fr1 H13 ac ac ?_
 intro v21 w21 S41
 refine g5 ?_
 refine EL_int ((j:Int)+1) rfl (r_addi (by exact e0) rfl (by omega)) ?_
 intro x0 hx209
 refine g3 ?_
 have q9:(baseW e++wrapParts (e.wraps.take j))++[(Any.int a0.who),(Any.bytes a0.box)]=baseW e++wrapParts (e.wraps.take (j+1)):=wp_step (show e.wraps[j]?=_ from ha0)
 have S42:=S41.ax0 q9
 refine ⟨_,?_,j+1,v21,I11,rfl,(Eq.trans (show _=Value.int .i64 x0 from rfl) (congrArg _ (by omega))),rfl,(by exact e2),(by exact e3),(by exact e4),(by exact e5),by omega,(by rw [List.length_append,wp_len,List.length_take];simp;omega),(lT le10 le11),S42.dr1⟩
 first | omega | (simp;omega)
 refine g7 ?_
 have q10:baseW e++wrapParts (e.wraps.take j)=e.parts:=by rw [List.take_of_length_le (by omega)];simp [Entry.parts,hk]
 have S43:=S36.ax0 q10
 have hpl:=parts_len hr
 skip
 refine g2 ?_
 have oH218:=(OwnX.one S43 0 rfl (by decide))
 obtain ⟨I12,le12,S44,H14⟩:=S43.fx0 (by decide)
 refine yR (Put_c _ _ _ _ _ S44 H14 au) ?_
 rintro _ w22 ⟨v22,rfl,S45⟩
 refine g7 ?_
 refine f2 Tryz.results67 ?_
 have q11:putB e.parts=e.encB:=by rw [Entry.encB,if_pos hr]
 have S46:=S45.ab0 q11
 exact ⟨v22,I12,(lT (lT (lT le0 le9) le10) le12),(by rw [Entry.encE,if_pos hr]),S46.dr1⟩
end Go.Proofs.YthddplghlljdbaaGreat
