import Derived.Test.YthddplghlljdbaaGreatQWorldPostSea
set_option linter.unusedVariables false
set_option linter.unusedSimpArgs false
set_option maxRecDepth 100000
set_option maxHeartbeats 4000000
namespace Go.Proofs.YthddplghlljdbaaGreat
open Go.RowKit Go.Ecal
theorem RSeal_c (p:Value) (L:List Thing) (v0:Value) (s:List UInt8) (v1:Value) (k:List UInt8) (cr:List Value) (r:Record) (ce:List Value) (e:Entry) (I:Gh) (R:List HP) (w:World) (S:Sat w I (Suite p L::R)) (Q0:RoB I v0 s) (Q1:RoB I v1 k) (hr:recR.r I cr r) (he:entR.r I ce e) (hl:L.length≤800000) (hs:s.length≤100000):Ret Tryz.prog 100 [p,v0,v1,.agg cr.toArray,.agg ce.toArray] w fun v w'=>∃cq:List Value,∃J:Gh,Gh.le I J∧.tuple #[.agg cq.toArray,.int .i64 (sealRE k r e)]=v∧recR.r J cq (sealRR L s k r e)∧Sat w' J (Suite p (sealRL L s k r e)::R):=by
 have lq0:=RoB.le Q0 S.le
 have lq1:=RoB.le Q1 S.le
 obtain ⟨v2,rfl,r0,r1,r2,r3,⟨o0,H0⟩⟩:=hr
 obtain ⟨v3,v4,v5,rfl,r4,r5,r6,⟨o1,H1⟩,⟨o2,H2⟩,r7,r8,r9,⟨o3,H3⟩⟩:=he
 refine ret_E Tryz.func100 rfl Tryz.ntmps100 (by simp) ?_
 refine g2 ?_
 refine yB (cs:=recRC r v2) S ?_
 intro b0 w0 S0
 refine yB (cs:=entRC e v3 v4 v5) S0 ?_
 intro b1 w1 S1
 refine yN recR0 S1 ?_
 intro b2 w2 S2
 refine g6 ?_
 refine yR (Encode_c (entRC e v3 v4 v5) e _ _ _ S2 ⟨v3,v4,v5,rfl,ad,ad,ad,⟨o1,H1⟩,⟨o2,H2⟩,ad,ad,ad,⟨o3,H3⟩⟩) ?_
 rintro _ w3 ⟨v6,I0,le0,rfl,S3⟩
 refine g10 ?_
 rcases first4 (e.right=true) (e.writer=r.writer) (k.length=32) (r.nums=true) with hc | hc | hc | hc | hc
 have hr0:e.right=false:=by simpa using hc
 have hE:sealRE k r e=10:=by rw [sealRE,if_pos (by rw [encE_wrong hr0];decide),encE_wrong hr0]
 refine g2 ?_
 refine vl _ rfl (dcT (r_neq rfl rfl) (by rw [encE_wrong hr0];rfl)) ?_
 refine g6 ?_
 refine vl _ rfl (gB recR0 st_199 rfl fill_end) ?_
 refine g1 ?_
 refine yW1 S3 ?_
 intro w4 S4
 refine g6 ?_
 refine f2c Tryz.results100 ?_
 rw [show sealRL L s k r e=L from if_neg (by rw [hE];decide)]
 have q0:(sealRR L s k r e)=(⟨0,0,0,0,[]⟩:Record):=by rw [sealRR,if_neg (by rw [hE];decide)];rfl
 exact ⟨recR0,I0,le0,(by rw [hE,encE_wrong hr0]),(by rw [q0];exact (recRz _)),S4.dr0.dr0.dr0.dr0⟩
 have hE:sealRE k r e=40:=by rw [sealRE,if_neg (by rw [encE_right hc.1];decide),if_pos hc.2]
 refine g2 ?_
 refine vl _ rfl (dcF (r_neq rfl rfl) (by rw [encE_right hc.1];rfl)) ?_
 refine g10 ?_
 refine vl _ rfl (dcT (r_neq rfl rfl) (by simpa using hc.2)) ?_
 refine g6 ?_
 refine vl _ rfl (gB recR0 st_199 rfl fill_end) ?_
 refine yW1 S3 ?_
 intro w5 S5
 refine g6 ?_
 refine f2c Tryz.results100 ?_
 rw [show sealRL L s k r e=L from if_neg (by rw [hE];decide)]
 have q1:(sealRR L s k r e)=(⟨0,0,0,0,[]⟩:Record):=by rw [sealRR,if_neg (by rw [hE];decide)];rfl
 exact ⟨recR0,I0,le0,(by rw [hE]),(by rw [q1];exact (recRz _)),S5.dr0.dr0.dr0.dr0⟩
 have hE:sealRE k r e=21:=by rw [sealRE,if_neg (by rw [encE_right hc.1];decide),if_neg (fun h=>h hc.2.1),if_pos hc.2.2]
 refine g2 ?_
 refine vl _ rfl (dcF (r_neq rfl rfl) (by rw [encE_right hc.1];rfl)) ?_
 refine g10 ?_
 refine vl _ rfl (dcF (r_neq rfl rfl) (by simp [hc.2.1])) ?_
 refine g7 ?_
 refine vl _ rfl (lenB (r_len rfl (Q1 _ (lT le0 S3.le)) U33)) (vl _ rfl (dcT (r_neq rfl rfl) (by have:=hc.2.2;simp;omega)) ?_)
 refine g6 ?_
 refine vl _ rfl (gB recR0 st_199 rfl fill_end) ?_
 refine yW1 S3 ?_
 intro w6 S6
 refine g6 ?_
 refine f2c Tryz.results100 ?_
 rw [show sealRL L s k r e=L from if_neg (by rw [hE];decide)]
 have q2:(sealRR L s k r e)=(⟨0,0,0,0,[]⟩:Record):=by rw [sealRR,if_neg (by rw [hE];decide)];rfl
 exact ⟨recR0,I0,le0,(by rw [hE]),(by rw [q2];exact (recRz _)),S6.dr0.dr0.dr0.dr0⟩
 have hn0:r.nums=false:=by simpa using hc.2.2.2
 have hE:sealRE k r e=12:=by rw [sealRE,if_neg (by rw [encE_right hc.1];decide),if_neg (fun h=>h hc.2.1),if_neg (fun h=>h hc.2.2.1),if_pos hn0]
 refine g2 ?_
 refine vl _ rfl (dcF (r_neq rfl rfl) (by rw [encE_right hc.1];rfl)) ?_
 refine g10 ?_
 refine vl _ rfl (dcF (r_neq rfl rfl) (by simp [hc.2.1])) ?_
 refine g7 ?_
 refine vl _ rfl (lenB (r_len rfl (Q1 _ (lT le0 S3.le)) U33)) (vl _ rfl (dcF (r_neq rfl rfl) (by have:=hc.2.2.1;simp;omega)) ?_)
 refine g7 ?_
 refine yR (nums_c (recRC r v2) r _ _ _ S3 ⟨v2,rfl,ad,ad,ad,ad,⟨o0,(H0.up le0)⟩⟩) ?_
 rintro _ w7 ⟨rfl,S7⟩
 refine vl _ rfl (nT rfl hn0) ?_
 refine g6 ?_
 refine vl _ rfl (gB recR0 st_199 rfl fill_end) ?_
 refine yW1 S7 ?_
 intro w8 S8
 refine g6 ?_
 refine f2c Tryz.results100 ?_
 rw [show sealRL L s k r e=L from if_neg (by rw [hE];decide)]
 have q3:(sealRR L s k r e)=(⟨0,0,0,0,[]⟩:Record):=by rw [sealRR,if_neg (by rw [hE];decide)];rfl
 exact ⟨recR0,I0,le0,(by rw [hE]),(by rw [q3];exact (recRz _)),S8.dr0.dr0.dr0.dr0⟩
 have hE:sealRE k r e=bsizeE ((tryB e).length:Int):=by rw [sealRE,if_neg (by rw [encE_right hc.1];decide),if_neg (fun h=>h hc.2.1),if_neg (fun h=>h hc.2.2.1),if_neg (by rw [hc.2.2.2];decide)]
 have hnu:=nums_iff.1 hc.2.2.2
 have htl:=putB_le [Any.bytes e.encB,Any.bytes (List.replicate 32 0)]
 refine g2 ?_
 refine vl _ rfl (dcF (r_neq rfl rfl) (by rw [encE_right hc.1];rfl)) ?_
 refine g10 ?_
 refine vl _ rfl (dcF (r_neq rfl rfl) (by simp [hc.2.1])) ?_
 refine g7 ?_
 refine vl _ rfl (lenB (r_len rfl (Q1 _ (lT le0 S3.le)) U33)) (vl _ rfl (dcF (r_neq rfl rfl) (by have:=hc.2.2.1;simp;omega)) ?_)
 refine g7 ?_
 refine yR (nums_c (recRC r v2) r _ _ _ S3 ⟨v2,rfl,ad,ad,ad,ad,⟨o0,(H0.up le0)⟩⟩) ?_
 rintro _ w9 ⟨rfl,S9⟩
 refine vl _ rfl (nF rfl hc.2.2.2) ?_
 refine g10 ?_
 refine vl _ rfl (r_iface rfl U33 rfl) ?_
 refine EL_make w9.heap.size elB rfl rfl rfl rfl (by omega) (by omega) (by omega) (by omega) (Nat.le_refl _) ?_
 intro v7 w10 O0 B0 k0 z0
 have S10:Sat _ _ (OwnB v7 (List.replicate 32 (0:UInt8))::_):=S9.newO B0 (own_rep O0)
 refine vl _ rfl (r_iface rfl U33 rfl) ?_
 obtain ⟨I1,le1,S11,H4⟩:=S10.fb1
 obtain ⟨I2,le2,S12,H5⟩:=S11.fb0
 refine EL_lit1 (l:=[(0,.iface 33 v6),(1,.iface 33 v7)]) w10.heap.size [.iface 33 v6,.iface 33 v7] el_122 rfl (by decide) rfl (Nat.le_refl _) (parts2 rfl rfl) (Eq.trans (show Instr.fill _ _ [(0,.iface 33 v6),(1,.iface 33 v7)]=_ from (fill_one rfl rfl (by kernel_rfl) (fill_one rfl rfl (by kernel_rfl) fill_end))) (by kernel_rfl)) ?_
 intro v8 w11 O1 B1 k1
 have S13:Sat _ _ (OwnX 20 anyR v8 [(Any.bytes e.encB),(Any.bytes (List.replicate 32 (0:UInt8)))]::_):=OwnX.cls (xss:=[[.iface 33 v6],[.iface 33 v7]]) (.cons ⟨_,rfl,(row_one (H4 _ (lT le2 S12.le))),(H4.up le2)⟩ (.cons ⟨_,rfl,(row_one (H5 _ S12.le)),H5⟩ .nil)) (S12.newO B1 O1)
 have oH127:=(OwnX.one S13 0 rfl (by decide))
 obtain ⟨I3,le3,S14,H6⟩:=S13.fx0 (by decide)
 refine yR (Put_c _ _ _ _ _ S14 H6 (by simp)) ?_
 rintro _ w12 ⟨v9,rfl,S15⟩
 have q4:putB [(Any.bytes e.encB),(Any.bytes (List.replicate 32 (0:UInt8)))]=tryB e:=rfl
 have S16:=S15.ab0 q4
 have htl2:(tryB e).length≤8196:=htl
 refine g11 ?_
 refine vl _ rfl (lenB (r_len rfl (own_row (S16.own 0 rfl)) U33)) ?_
 refine yR (Size_c ((tryB e).length:Int) _ _ _ S16 (by omega)) ?_
 rintro _ w13 ⟨rfl,S17⟩
 refine g7 ?_
 rcases Decidable.em (bsizeE ((tryB e).length:Int)=0) with hz0 | hz0
 refine g2 ?_
 refine vl _ rfl (dcF (r_neq rfl rfl) (by simp [hz0])) ?_
 refine g8 ?_
 refine vl _ rfl (r_iface rfl U33 rfl) ?_
 refine g7 ?_
 refine yR (mark_c _ _ _ _ r.coll r.writer _ _ _ _ _ S17.fr4 (Q0.up (lT (lT (lT le0 le1) le2) le3)) (H4.up (lT le2 le3)) (by omega) au au) ?_
 rintro _ w14 ⟨v10,I4,le4,rfl,S18⟩
 refine vl _ rfl (r_iface rfl U33 rfl) ?_
 obtain ⟨I5,le5,S19,H7⟩:=S18.fb0
 refine EL_lit1 (l:=[(0,.iface 33 v6),(1,.iface 33 v10)]) w14.heap.size [.iface 33 v6,.iface 33 v10] el_122 rfl (by decide) rfl (Nat.le_refl _) (parts2 rfl rfl) (Eq.trans (show Instr.fill _ _ [(0,.iface 33 v6),(1,.iface 33 v10)]=_ from (fill_one rfl rfl (by kernel_rfl) (fill_one rfl rfl (by kernel_rfl) fill_end))) (by kernel_rfl)) ?_
 intro v11 w15 O2 B2 k2
 have S20:Sat _ _ (OwnX 20 anyR v11 [(Any.bytes e.encB),(Any.bytes (markB L s r.coll r.writer e.encB))]::_):=OwnX.cls (xss:=[[.iface 33 v6],[.iface 33 v10]]) (.cons ⟨_,rfl,(row_one (H4 _ (lT (lT (lT (lT le2 le3) le4) le5) S19.le))),(H4.up (lT (lT (lT le2 le3) le4) le5))⟩ (.cons ⟨_,rfl,(row_one (H7 _ S19.le)),H7⟩ .nil)) (S19.newO B2 O2)
 have oH154:=(OwnX.one S20 0 rfl (by decide))
 obtain ⟨I6,le6,S21,H8⟩:=S20.fx0 (by decide)
 refine yR (Put_c _ _ _ _ _ S21 H8 (by simp)) ?_
 rintro _ w16 ⟨v12,rfl,S22⟩
 have q5:putB [(Any.bytes e.encB),(Any.bytes (markB L s r.coll r.writer e.encB))]=plainB L s r e:=rfl
 have S23:=S22.ab0 q5
 have hpl:=putB_le [Any.bytes e.encB,Any.bytes (markB L s r.coll r.writer e.encB)]
 refine g9 ?_
 obtain ⟨I7,le7,S24,H9⟩:=S23.fb0
 refine yR (Pad_c _ _ _ _ _ S24 H9) ?_
 rintro _ w17 ⟨v13,rfl,S25⟩
 refine g13 ?_
 refine yR (Nonce_c r.writer r.count _ _ _ S25) ?_
 rintro _ w18 ⟨v14,I8,le8,rfl,S26⟩
 refine g13 ?_
 refine yR (front_c (recRC r v2) r _ _ _ S26 ⟨v2,rfl,ad,ad,ad,ad,⟨o0,(H0.up (lT (lT (lT (lT (lT (lT (lT (lT le0 le1) le2) le3) le4) le5) le6) le7) le8))⟩⟩) ?_
 rintro _ w19 ⟨v15,I9,le9,rfl,S27⟩
 refine g1 ?_
 obtain ⟨I10,le10,S28,H10⟩:=S27.fb1
 obtain ⟨I11,le11,S29,H11⟩:=S28.fb0
 obtain ⟨I12,le12,S30,H12⟩:=S29.fb0
 refine yR (SealOk_c _ _ _ _ _ _ _ _ _ _ _ _ _ S30 (Q1.up (lT (lT (lT (lT (lT (lT (lT (lT (lT (lT (lT (lT le0 le1) le2) le3) le4) le5) le6) le7) le8) le9) le10) le11) le12)) (H10.up (lT le11 le12)) (H11.up le12) H12 (Nat.le_trans (markL_len _ _ _ _ _) (by omega)) (by omega) (by rw [nonceB,if_pos (nonceOk_iff.2 (by omega))];simp [be6]) (by have:=putB_le r.numParts;simp [Record.numParts] at this;simp [Record.front,Record.numParts];omega) (Nat.le_trans (padB_len _) (by decide)) (szOk_iff.2 ⟨hc.2.2.1,by rw [nonceB,if_pos (nonceOk_iff.2 (by omega))];rfl⟩)) ?_
 rintro _ w20 ⟨v16,rfl,S31⟩
 refine g4 ?_
 refine yS5 S31 ?_ (hu:=own_one (S31.own 0 rfl))
 intro w21 S32
 refine g7 ?_
 refine yW3 S32 ?_ (h1:=ones_cons rfl (ones_cons rfl (ones_cons rfl (ones_cons rfl (ones_cons (own_one (S32.own 0 rfl)) ones_nil)))))
 intro w22 S33
 refine g4 ?_
 refine f2c Tryz.results100 ?_
 have hE2:sealRE k r e=0:=hE.trans hz0
 have q6:(markL L s r.coll r.writer e.encB)++[tBox k (nonceB r.writer r.count) r.front (padB (plainB L s r e))]=sealRL L s k r e:=by rw [sealRL,if_pos hE2];rfl
 have S34:=Sat.ah1 (Suite p) S33 q6
 obtain ⟨I13,le13,S35,H13⟩:=S34.fb0
 have q7:(sealRR L s k r e)=(⟨r.coll,r.epoch,r.writer,r.count,boxOf (((markL L s r.coll r.writer e.encB).length:Int)+1) (padB (plainB L s r e)).length⟩:Record):=by rw [sealRR,if_pos hE2]
 have S36:=S35.dr1.dr1.dr1.dr1
 exact ⟨(recRC r v16),I13,(lT (lT (lT (lT (lT (lT (lT (lT (lT (lT (lT (lT (lT le0 le1) le2) le3) le4) le5) le6) le7) le8) le9) le10) le11) le12) le13),(by rw [hE2]),(by rw [q7];exact ⟨v16,rfl,ad,ad,ad,ad,⟨(row_one (H13 _ S36.le)),H13⟩⟩),S36⟩
 refine g2 ?_
 refine vl _ rfl (dcT (r_neq rfl rfl) (by simp [hz0])) ?_
 refine g5 ?_
 refine vl _ rfl (gB recR0 st_199 rfl fill_end) ?_
 refine g1 ?_
 refine yW1 S17 ?_
 intro w23 S37
 refine g5 ?_
 refine f2c Tryz.results100 ?_
 rw [show sealRL L s k r e=L from if_neg (by rw [hE];exact hz0)]
 have q8:(sealRR L s k r e)=(⟨0,0,0,0,[]⟩:Record):=by rw [sealRR,if_neg (by rw [hE];exact hz0)];rfl
 exact ⟨recR0,I3,(lT (lT (lT le0 le1) le2) le3),(by rw [hE]),(by rw [q8];exact (recRz _)),S37.dr0.dr0.dr0.dr0⟩
end Go.Proofs.YthddplghlljdbaaGreat

set_option maxRecDepth 100000
set_option maxHeartbeats 4000000
namespace Go.Proofs.YthddplghlljdbaaGreat
open Go.RowKit Go.Ecal
theorem ROpen_c (p:Value) (L:List Thing) (v0:Value) (s:List UInt8) (v1:Value) (k:List UInt8) (cr:List Value) (r:Record) (I:Gh) (R:List HP) (w:World) (S:Sat w I (Suite p L::R)) (Q0:RoB I v0 s) (Q1:RoB I v1 k) (hr:recR.r I cr r) (hl:L.length≤800000) (hs:s.length≤100000) (hT:∀t∈L,t.text.length≤800000000):Ret Tryz.prog 152 [p,v0,v1,.agg cr.toArray] w fun v w'=>∃cq:List Value,∃J:Gh,Gh.le I J∧.tuple #[.agg cq.toArray,.int .i64 (openRE L s k r)]=v∧entR.r J cq (openRV L s k r)∧Sat w' J (Suite p (openRL L s k r)::R):=by
 have lq0:=RoB.le Q0 S.le
 have lq1:=RoB.le Q1 S.le
 obtain ⟨v2,rfl,r0,r1,r2,r3,⟨o0,H0⟩⟩:=hr
 refine ret_E Tryz.func152 rfl Tryz.ntmps152 (by simp) ?_
 refine g2 ?_
 refine yB (cs:=recRC r v2) S ?_
 intro b0 w0 S0
 refine yN entR0 S0 ?_
 intro b1 w1 S1
 refine g6 ?_
 rcases opened_cases L k r with hc | hc | hc | hc
 have hE:openRE L s k r=10:=by rw [openRE,if_neg (by rw [hc];decide)]
 have hL0:openRL L s k r=L:=by rw [openRL,if_neg (by rw [hc];decide)]
 refine g2 ?_
 refine yR (RRight_c (recRC r v2) r _ _ _ S1 ⟨v2,rfl,ad,ad,ad,ad,⟨o0,H0⟩⟩) ?_
 rintro _ w2 ⟨rfl,S2⟩
 refine vl _ rfl (nT rfl hc) ?_
 refine g6 ?_
 refine vl _ rfl (gB entR0 st_36 rfl fill_end) ?_
 refine yW0 S2 ?_
 intro w3 S3
 refine g6 ?_
 refine f2c Tryz.results152 ?_
 have q0:L=openRL L s k r:=hL0.symm
 have S4:=Sat.ah2 (Suite p) S3 q0
 have q1:(openRV L s k r)=(⟨0,0,0,[],[],0,0,0,[]⟩:Entry):=by rw [openRV,if_neg (by rw [hE];decide)];rfl
 exact ⟨entR0,I,(Gh.le_refl _),(by rw [hE]),(by rw [q1];exact (entRz _)),S4.dr0.dr0⟩
 have hE:openRE L s k r=21:=by rw [openRE,if_pos hc.1,if_neg hc.2]
 have hL0:openRL L s k r=L:=by rw [openRL,if_pos hc.1,if_neg hc.2]
 refine g2 ?_
 refine yR (RRight_c (recRC r v2) r _ _ _ S1 ⟨v2,rfl,ad,ad,ad,ad,⟨o0,H0⟩⟩) ?_
 rintro _ w4 ⟨rfl,S5⟩
 refine vl _ rfl (nF rfl hc.1) ?_
 refine g7 ?_
 refine vl _ rfl (lenB (r_len rfl (Q1 _ S5.le) U33)) (vl _ rfl (dcT (r_neq rfl rfl) (by have:=hc.2;simp;omega)) ?_)
 refine g6 ?_
 refine vl _ rfl (gB entR0 st_36 rfl fill_end) ?_
 refine yW0 S5 ?_
 intro w5 S6
 refine g6 ?_
 refine f2c Tryz.results152 ?_
 have q2:L=openRL L s k r:=hL0.symm
 have S7:=Sat.ah2 (Suite p) S6 q2
 have q3:(openRV L s k r)=(⟨0,0,0,[],[],0,0,0,[]⟩:Entry):=by rw [openRV,if_neg (by rw [hE];decide)];rfl
 exact ⟨entR0,I,(Gh.le_refl _),(by rw [hE]),(by rw [q3];exact (entRz _)),S7.dr0.dr0⟩
 have hE:openRE L s k r=20:=by rw [openRE,if_pos hc.1,if_pos hc.2.1,hc.2.2]
 have hL0:openRL L s k r=L:=by rw [openRL,if_pos hc.1,if_pos hc.2.1,hc.2.2]
 have hnu:=nums_iff.1 (right_nums hc.1)
 have hbx:=right_box hc.1
 refine g2 ?_
 refine yR (RRight_c (recRC r v2) r _ _ _ S1 ⟨v2,rfl,ad,ad,ad,ad,⟨o0,H0⟩⟩) ?_
 rintro _ w6 ⟨rfl,S8⟩
 refine vl _ rfl (nF rfl hc.1) ?_
 refine g7 ?_
 refine vl _ rfl (lenB (r_len rfl (Q1 _ S8.le) U33)) (vl _ rfl (dcF (r_neq rfl rfl) (by have:=hc.2.1;simp;omega)) ?_)
 refine g13 ?_
 refine yR (Nonce_c r.writer r.count _ _ _ S8) ?_
 rintro _ w7 ⟨v3,I0,le0,rfl,S9⟩
 refine g8 ?_
 refine yJ 7 (fun w'=>Arr w' b0 199 (recRC r v2)) S9 ?_
 intro w8 S10
 refine yT 0 S10.le (S10.a2) ?_
 refine yT 1 S10.le (S10.a2) ?_
 refine yT 2 S10.le (S10.a2) ?_
 refine yT 3 S10.le (S10.a2) ?_
 refine yT 5 S10.le (S10.a2) ?_
 refine yT 6 S10.le (S10.a2) ?_
 refine y1 4 ?_
 refine yR (front_c (recRC r v2) r _ _ _ S10 ⟨v2,rfl,ad,ad,ad,ad,⟨o0,(H0.up le0)⟩⟩) ?_
 rintro _ w9 ⟨v4,I1,le1,rfl,S11⟩
 refine yn (lT le1 S11.le) (S11.a3) ?_
 refine yu le1 ?_
 refine y1 7 ?_
 obtain ⟨I2,le2,S12,H1⟩:=S11.fb1
 obtain ⟨I3,le3,S13,H2⟩:=S12.fb0
 refine yR (OpenNo_c _ _ _ _ _ _ _ _ _ _ _ _ _ S13.fr2 (Q1.up (lT (lT (lT le0 le1) le2) le3)) (H1.up le3) H2 (H0.up (lT (lT (lT le0 le1) le2) le3)) (by omega) (by omega) (by rw [nonceB,if_pos (nonceOk_iff.2 (by omega))];simp [be6]) (by have:=putB_le r.numParts;simp [Record.numParts] at this;simp [Record.front,Record.numParts];omega) (by omega) hT (szOk_iff.2 ⟨hc.2.1,by rw [nonceB,if_pos (nonceOk_iff.2 (by omega))];rfl⟩) hc.2.2) ?_
 rintro _ w10 ⟨v5,I4,le4,rfl,H3,S14⟩
 refine ym (lT (lT (lT le2 le3) le4) S14.le) ?_
 refine yu (lT (lT le2 le3) le4) ?_
 refine yf 8 S14.le ?_
 refine yf 9 S14.le ?_
 refine yf 10 S14.le ?_
 refine yf 11 S14.le ?_
 refine yf 12 S14.le ?_
 refine yd ?_
 refine g5 ?_
 refine vl (.bool true) rfl (r_dec (by decide) (r_neq rfl rfl)) ?_
 refine g5 ?_
 refine vl _ rfl (gB entR0 st_36 rfl fill_end) ?_
 refine yW1 S14 ?_
 intro w11 S15
 refine g5 ?_
 refine f2c Tryz.results152 ?_
 have q4:L=openRL L s k r:=hL0.symm
 have S16:=Sat.ah0 (Suite p) S15 q4
 have q5:(openRV L s k r)=(⟨0,0,0,[],[],0,0,0,[]⟩:Entry):=by rw [openRV,if_neg (by rw [hE];decide)];rfl
 exact ⟨entR0,I4,(lT (lT (lT (lT le0 le1) le2) le3) le4),(by rw [hE]),(by rw [q5];exact (entRz _)),S16.dr1.dr1⟩
 obtain ⟨hr0,hk0,y,hy⟩:=hc
 have hE1:openRE L s k r=openYE L s r y:=by rw [openRE,if_pos hr0,if_pos hk0,hy]
 have hL1:openRL L s k r=openYL L s r y:=by rw [openRL,if_pos hr0,if_pos hk0,hy]
 have hnu:=nums_iff.1 (right_nums hr0)
 have hbx:=right_box hr0
 have hyl:y.length≤800000000:=open_txt hT hy
 refine g2 ?_
 refine yR (RRight_c (recRC r v2) r _ _ _ S1 ⟨v2,rfl,ad,ad,ad,ad,⟨o0,H0⟩⟩) ?_
 rintro _ w12 ⟨rfl,S17⟩
 refine vl _ rfl (nF rfl hr0) ?_
 refine g7 ?_
 refine vl _ rfl (lenB (r_len rfl (Q1 _ S17.le) U33)) (vl _ rfl (dcF (r_neq rfl rfl) (by have:=hk0;simp;omega)) ?_)
 refine g13 ?_
 refine yR (Nonce_c r.writer r.count _ _ _ S17) ?_
 rintro _ w13 ⟨v6,I5,le5,rfl,S18⟩
 refine g8 ?_
 refine yJ 7 (fun w'=>Arr w' b0 199 (recRC r v2)) S18 ?_
 intro w14 S19
 refine yT 0 S19.le (S19.a2) ?_
 refine yT 1 S19.le (S19.a2) ?_
 refine yT 2 S19.le (S19.a2) ?_
 refine yT 3 S19.le (S19.a2) ?_
 refine yT 5 S19.le (S19.a2) ?_
 refine yT 6 S19.le (S19.a2) ?_
 refine y1 4 ?_
 refine yR (front_c (recRC r v2) r _ _ _ S19 ⟨v2,rfl,ad,ad,ad,ad,⟨o0,(H0.up le5)⟩⟩) ?_
 rintro _ w15 ⟨v7,I6,le6,rfl,S20⟩
 refine yn (lT le6 S20.le) (S20.a3) ?_
 refine yu le6 ?_
 refine y1 7 ?_
 obtain ⟨I7,le7,S21,H4⟩:=S20.fb1
 obtain ⟨I8,le8,S22,H5⟩:=S21.fb0
 refine yR (OpenOk_c _ _ _ _ _ _ _ _ _ _ y _ _ _ S22.fr2 (Q1.up (lT (lT (lT le5 le6) le7) le8)) (H4.up le8) H5 (H0.up (lT (lT (lT le5 le6) le7) le8)) (by omega) (by omega) (by rw [nonceB,if_pos (nonceOk_iff.2 (by omega))];simp [be6]) (by have:=putB_le r.numParts;simp [Record.numParts] at this;simp [Record.front,Record.numParts];omega) (by omega) hT (szOk_iff.2 ⟨hk0,by rw [nonceB,if_pos (nonceOk_iff.2 (by omega))];rfl⟩) hy) ?_
 rintro _ w16 ⟨v8,I9,le9,rfl,H6,S23⟩
 refine ym (lT (lT (lT le7 le8) le9) S23.le) ?_
 refine yu (lT (lT le7 le8) le9) ?_
 refine yf 8 S23.le ?_
 refine yf 9 S23.le ?_
 refine yf 10 S23.le ?_
 refine yf 11 S23.le ?_
 refine yf 12 S23.le ?_
 refine yd ?_
 refine g5 ?_
 refine vl (.bool false) rfl (r_dec (by decide) (r_neq rfl rfl)) ?_
 refine g8 ?_
 refine yR (Strip_c _ _ _ _ _ S23 H6 au) ?_
 rintro _ w17 ⟨v9,rfl,S24⟩
 refine g10 ?_
 obtain ⟨I10,le10,S25,H7⟩:=S24.fb0
 refine yR (Read_c _ _ _ _ _ S25 H7 (by have:=stripB_le y;omega)) ?_
 rintro _ w18 ⟨p0,I11,le11,rfl,S26⟩
 obtain ⟨q6,rfl⟩:=RdP.ptr S26
 refine g6 ?_
 refine yR (Text_c _ _ 0 4096 _ _ _ S26) ?_
 rintro _ w19 ⟨u0,I12,le12,rfl,H8,S27⟩
 refine g6 ?_
 refine yR (Text_c _ _ 0 4096 _ _ _ S27) ?_
 rintro _ w20 ⟨u1,I13,le13,rfl,H9,S28⟩
 refine g6 ?_
 refine yR (Decode_c _ _ _ _ _ S28 (H8.up le13) (Nat.le_trans (txt4096 _) (by decide))) ?_
 rintro _ w21 ⟨cs0,I14,le14,rfl,h0,S29⟩
 obtain ⟨v10,v11,v12,rfl,r4,r5,r6,⟨o1,H10⟩,⟨o2,H11⟩,r7,r8,r9,⟨o3,H12⟩⟩:=h0
 refine g3 ?_
 refine yN entR0 S29 ?_
 intro b2 w22 S30
 refine yW0 S30 ?_ (h1:=ones_cons rfl (ones_cons rfl (ones_cons rfl (ones_cons o1 (ones_cons o2 (ones_cons rfl (ones_cons rfl (ones_cons rfl (ones_cons o3 ones_nil)))))))))
 intro w23 S31
 refine g6 ?_
 rcases first3 (stripE y=0) (innerOk y=true) (decE (innerB y)=0) with hd | hd | hd | hd
 have hyo:yOk y=false:=yno (.inl hd)
 have hE:openRE L s k r=10:=by rw [hE1,openYE,if_neg (by rw [hyo];decide)]
 have hL0:openRL L s k r=L:=by rw [hL1,openYL,if_neg (by rw [hyo];rintro ⟨h,_⟩;cases h)]
 refine g2 ?_
 refine vl _ rfl (dcT (r_neq rfl rfl) (by simpa using hd)) ?_
 refine g15 ?_
 refine vl _ rfl (gB entR0 st_36 rfl fill_end) ?_
 refine yW3 S31 ?_
 intro w24 S32
 refine g6 ?_
 refine f2c Tryz.results152 ?_
 have q7:L=openRL L s k r:=hL0.symm
 have S33:=Sat.ah2 (Suite p) S32 q7
 have q8:(openRV L s k r)=(⟨0,0,0,[],[],0,0,0,[]⟩:Entry):=by rw [openRV,if_neg (by rw [hE];decide)];rfl
 exact ⟨entR0,I14,(lT (lT (lT (lT (lT (lT (lT (lT (lT le5 le6) le7) le8) le9) le10) le11) le12) le13) le14),(by rw [hE]),(by rw [q8];exact (entRz _)),S33.dr0.dr0.dr1.dr1⟩
 have hyo:yOk y=false:=yno (.inr (.inl hd.2))
 have hE:openRE L s k r=10:=by rw [hE1,openYE,if_neg (by rw [hyo];decide)]
 have hL0:openRL L s k r=L:=by rw [hL1,openYL,if_neg (by rw [hyo];rintro ⟨h,_⟩;cases h)]
 refine g2 ?_
 refine vl _ rfl (dcF (r_neq rfl rfl) (by simp [hd.1])) ?_
 refine g2 ?_
 refine yG (End_c _ _ _ _ _ S31.fr1) ?_
 rintro _ w25 ⟨rfl,S34⟩
 refine gl 71 rfl rfl rfl rfl _ rfl (nT rfl ((Bool.not_eq_true _).mp hd.2)) ?_
 refine g11 ?_
 refine vl _ rfl (gB entR0 st_36 rfl fill_end) ?_
 refine yW3 S34 ?_
 intro w26 S35
 refine g6 ?_
 refine f2c Tryz.results152 ?_
 have q9:L=openRL L s k r:=hL0.symm
 have S36:=Sat.ah2 (Suite p) S35 q9
 have q10:(openRV L s k r)=(⟨0,0,0,[],[],0,0,0,[]⟩:Entry):=by rw [openRV,if_neg (by rw [hE];decide)];rfl
 exact ⟨entR0,I14,(lT (lT (lT (lT (lT (lT (lT (lT (lT le5 le6) le7) le8) le9) le10) le11) le12) le13) le14),(by rw [hE]),(by rw [q10];exact (entRz _)),S36.dr0.dr0.dr1.dr1⟩
 have hyo:yOk y=false:=yno (.inr (.inr hd.2.2))
 have hE:openRE L s k r=10:=by rw [hE1,openYE,if_neg (by rw [hyo];decide)]
 have hL0:openRL L s k r=L:=by rw [hL1,openYL,if_neg (by rw [hyo];rintro ⟨h,_⟩;cases h)]
 refine g2 ?_
 refine vl _ rfl (dcF (r_neq rfl rfl) (by simp [hd.1])) ?_
 refine g2 ?_
 refine yG (End_c _ _ _ _ _ S31.fr1) ?_
 rintro _ w27 ⟨rfl,S37⟩
 refine gl 71 rfl rfl rfl rfl _ rfl (nF rfl (show _ from hd.2.1)) ?_
 refine g3 ?_
 refine gl 76 rfl rfl rfl rfl _ rfl (dT (r_neq rfl rfl) hd.2.2) ?_
 refine g7 ?_
 refine vl _ rfl (gB entR0 st_36 rfl fill_end) ?_
 refine yW3 S37 ?_
 intro w28 S38
 refine g6 ?_
 refine f2c Tryz.results152 ?_
 have q11:L=openRL L s k r:=hL0.symm
 have S39:=Sat.ah2 (Suite p) S38 q11
 have q12:(openRV L s k r)=(⟨0,0,0,[],[],0,0,0,[]⟩:Entry):=by rw [openRV,if_neg (by rw [hE];decide)];rfl
 exact ⟨entR0,I14,(lT (lT (lT (lT (lT (lT (lT (lT (lT le5 le6) le7) le8) le9) le10) le11) le12) le13) le14),(by rw [hE]),(by rw [q12];exact (entRz _)),S39.dr0.dr0.dr1.dr1⟩
 have hyo:yOk y=true:=yyes hd
 refine g2 ?_
 refine vl _ rfl (dcF (r_neq rfl rfl) (by simp [hd.1])) ?_
 refine g2 ?_
 refine yG (End_c _ _ _ _ _ S31.fr1) ?_
 rintro _ w29 ⟨rfl,S40⟩
 refine gl 71 rfl rfl rfl rfl _ rfl (nF rfl (show _ from hd.2.1)) ?_
 refine g3 ?_
 refine gl 76 rfl rfl rfl rfl _ rfl (dcF (r_neq rfl rfl) (by have:=hd.2.2;rw [decide_eq_false_iff_not];exact fun h=>h this)) ?_
 refine g6 ?_
 rcases Decidable.em ((decV (innerB y)).writer=r.writer) with hw0 | hw0
 have hL0:openRL L s k r=markL L s r.coll r.writer (innerB y):=by rw [hL1,openYL,if_pos ⟨hyo,hw0⟩]
 refine g5 ?_
 refine vl _ rfl (dF (r_neq rfl rfl) (fun h=>h hw0)) ?_
 refine g14 ?_
 refine yR (mark_c _ _ _ _ r.coll r.writer _ _ _ _ _ S40.fr2 (Q0.up (lT (lT (lT (lT (lT (lT (lT (lT (lT le5 le6) le7) le8) le9) le10) le11) le12) le13) le14)) (H8.up (lT le13 le14)) (by omega) au au) ?_
 rintro _ w30 ⟨v13,I15,le15,rfl,S41⟩
 obtain ⟨I16,le16,S42,H13⟩:=S41.fb0
 refine yR (MacEqual_c _ _ _ _ _ _ _ S42 (H9.up (lT (lT le14 le15) le16)) H13) ?_
 rintro _ w31 ⟨rfl,S43⟩
 refine g4 ?_
 refine EC_cond (t:=!(decide ((rdTxt (rdTxtS (Rd.mk (stripB y) false) 0 4096) 0 4096)=(markB L s r.coll r.writer (rdTxt (Rd.mk (stripB y) false) 0 4096))))) rfl (fun h2=>?_) (fun h2=>?_)
 have hm:¬innerT y=markB L s r.coll r.writer (innerB y):=by simpa [innerT,innerB] using h2
 have hE:openRE L s k r=22:=by rw [hE1,openYE,if_pos hyo,if_pos hw0,if_neg hm]
 refine g2 ?_
 refine vl _ rfl (gB entR0 st_36 rfl fill_end) ?_
 refine yW3 S43 ?_
 intro w32 S44
 refine g6 ?_
 refine f2c Tryz.results152 ?_
 have q13:markL L s r.coll r.writer (rdTxt (Rd.mk (stripB y) false) 0 4096)=openRL L s k r:=hL0.symm
 have S45:=Sat.ah0 (Suite p) S44 q13
 have q14:(openRV L s k r)=(⟨0,0,0,[],[],0,0,0,[]⟩:Entry):=by rw [openRV,if_neg (by rw [hE];decide)];rfl
 exact ⟨entR0,I16,(lT (lT (lT (lT (lT (lT (lT (lT (lT (lT (lT le5 le6) le7) le8) le9) le10) le11) le12) le13) le14) le15) le16),(by rw [hE]),(by rw [q14];exact (entRz _)),S45.dr1.dr1.dr1.dr1⟩
 have hm:innerT y=markB L s r.coll r.writer (innerB y):=by simpa [innerT,innerB] using h2
 have hE:openRE L s k r=0:=by rw [hE1,openYE,if_pos hyo,if_pos hw0,if_pos hm]
 refine g6 ?_
 refine yW3 S43 ?_ (h1:=ones_cons rfl (ones_cons rfl (ones_cons rfl (ones_cons o1 (ones_cons o2 (ones_cons rfl (ones_cons rfl (ones_cons rfl (ones_cons o3 ones_nil)))))))))
 intro w33 S46
 refine g4 ?_
 refine f2c Tryz.results152 ?_
 have q15:markL L s r.coll r.writer (rdTxt (Rd.mk (stripB y) false) 0 4096)=openRL L s k r:=hL0.symm
 have S47:=Sat.ah0 (Suite p) S46 q15
 have q16:(openRV L s k r)=(⟨(decV (rdTxt (Rd.mk (stripB y) false) 0 4096)).kind,(decV (rdTxt (Rd.mk (stripB y) false) 0 4096)).writer,(decV (rdTxt (Rd.mk (stripB y) false) 0 4096)).seq,(decV (rdTxt (Rd.mk (stripB y) false) 0 4096)).name,(decV (rdTxt (Rd.mk (stripB y) false) 0 4096)).value,(decV (rdTxt (Rd.mk (stripB y) false) 0 4096)).who,(decV (rdTxt (Rd.mk (stripB y) false) 0 4096)).rights,(decV (rdTxt (Rd.mk (stripB y) false) 0 4096)).epoch,(decV (rdTxt (Rd.mk (stripB y) false) 0 4096)).wraps⟩:Entry):=by rw [openRV,if_pos hE,hy];rfl
 exact ⟨(entRC (decV (rdTxt (Rd.mk (stripB y) false) 0 4096)) v10 v11 v12),I16,(lT (lT (lT (lT (lT (lT (lT (lT (lT (lT (lT le5 le6) le7) le8) le9) le10) le11) le12) le13) le14) le15) le16),(by rw [hE]),(by rw [q16];exact ⟨v10,v11,v12,rfl,ad,ad,ad,⟨o1,(H10.up (lT le15 le16))⟩,⟨o2,(H11.up (lT le15 le16))⟩,ad,ad,ad,⟨o3,(H12.up (lT le15 le16))⟩⟩),S47.dr1.dr1.dr1.dr1⟩
 have hE:openRE L s k r=40:=by rw [hE1,openYE,if_pos hyo,if_neg hw0]
 have hL0:openRL L s k r=L:=by rw [hL1,openYL,if_neg (fun h=>hw0 h.2)]
 refine g5 ?_
 refine vl _ rfl (dT (r_neq rfl rfl) hw0) ?_
 refine g6 ?_
 refine vl _ rfl (gB entR0 st_36 rfl fill_end) ?_
 refine yW3 S40 ?_
 intro w34 S48
 refine g6 ?_
 refine f2c Tryz.results152 ?_
 have q17:L=openRL L s k r:=hL0.symm
 have S49:=Sat.ah2 (Suite p) S48 q17
 have q18:(openRV L s k r)=(⟨0,0,0,[],[],0,0,0,[]⟩:Entry):=by rw [openRV,if_neg (by rw [hE];decide)];rfl
 exact ⟨entR0,I14,(lT (lT (lT (lT (lT (lT (lT (lT (lT le5 le6) le7) le8) le9) le10) le11) le12) le13) le14),(by rw [hE]),(by rw [q18];exact (entRz _)),S49.dr0.dr0.dr1.dr1⟩
end Go.Proofs.YthddplghlljdbaaGreat
