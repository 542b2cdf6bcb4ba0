import Derived.Test.YthddplghlljdbaaGreatQWorldPostWldE
set_option linter.unusedVariables false
set_option linter.unusedSimpArgs false
set_option maxRecDepth 100000
set_option maxHeartbeats 4000000
namespace Go.Proofs.YthddplghlljdbaaGreat
open Go.RowKit Go.Ecal
theorem WOwn_c (q:Value) (bs:List (Nat×Nat)) (p:Value) (W:Wld) (a:Nat) (cb:Nat) (x:Seat) (L:List Thing) (co:List Value) (o:OpT) (I:Gh) (R:List HP) (w:World) (S:Sat w I (WldO q bs p W::Suite p L::R)) (ho:opR.r I co o) (hb:bs[o.c.toNat]?=some (a,cb)) (hx:W.seat o.c=some x) (hsl:W.sent.length≤1000) (hl:L.length≤500000) (hT:TxtOk L):Ret Tryz.prog 33 [q,ptr a,.agg co.toArray] w fun v w'=>∃v1:Value,∃J:Gh,Gh.le I J∧.agg [.int .i64 ((W.ownA L x o).e),v1].toArray=v∧Sat w' J (Own 30 1 v1 ((W.ownA L x o).outs).length (((W.ownA L x o).outs).map (Value.int .i64))::WldO q bs p ((W.ownS L x o).2)::Suite p ((W.ownS L x o).1)::R):=by
 obtain ⟨b,lv,sv,pv,ev,rfl,wok,hbl,Hl,S0⟩:=WldO.opn S
 have hsv:=SrvP.one S0.fr2
 have wp5:=wok.post
 have ws6:=wok.seats
 have hbm:(bs.map Prod.fst).length=W.seats.length:=by rw [List.length_map];exact hbl
 have hlv:=XRow.one (Hl.row S0.le)
 have hxs:=(Wld.seat_at hx).2.2
 have hxc:=Wld.seat_at hx
 obtain ⟨v0,v2,v3,v4,rfl,r0,r1,r2,r3,r4,r5,⟨o0,H0⟩,⟨o1,H1⟩,r6,r7,r8,⟨o2,H2⟩,⟨o3,H3⟩⟩:=ho
 refine ret_E Tryz.func33 rfl Tryz.ntmps33 (by simp) ?_
 refine g2 ?_
 refine yB (cs:=opRC o v0 v2 v3 v4) S0 ?_
 intro b0 w0 S1
 refine yN [.int .i64 0,.slice none 0 0] S1 ?_
 intro b1 w1 S2
 refine g16 ?_
 refine EC_if rfl (fun h0=>?_) (fun h0=>?_)
 have hk1:o.kind=1:=h0
 refine g1 ?_
 have S3:Sat w1 I (Blk a 79 [ptr cb,.int .i64 x.c.coll,.int .i64 x.c.founder,.int .i64 x.c.who,.int .i64 x.branch]::CliP (ptr cb) p x.c::SeatsQ (bs.eraseIdx o.c.toNat) p (W.seats.eraseIdx o.c.toNat)::Blk b1 43 [.int .i64 0,.slice none 0 0]::Blk b0 38 (opRC o v0 v2 v3 v4)::Blk b 72 [lv,sv,pv,ev]::SrvP sv W.srv::OwnX 46 packR pv W.post::OwnX 33 bytesR ev W.sent::Suite p L::R):=SeatsQ.open hb hxs S2.fr3
 skip
 refine yJ 6 (fun w'=>Arr w' a 79 [ptr cb,.int .i64 x.c.coll,.int .i64 x.c.founder,.int .i64 x.c.who,.int .i64 x.branch]∧Arr w' b0 38 (opRC o v0 v2 v3 v4)) S3 ?_
 intro w2 S4
 refine yT 0 S4.le ⟨S4.a0,S4.a4⟩ ?_
 refine yT 1 S4.le ⟨S4.a0,S4.a4⟩ ?_
 refine yT 2 S4.le ⟨S4.a0,S4.a4⟩ ?_
 refine yT 3 S4.le ⟨S4.a0,S4.a4⟩ ?_
 refine yT 4 S4.le ⟨S4.a0,S4.a4⟩ ?_
 refine jT 5 rfl (by kernel_rfl) (.agg ((entRC o.entry v0 v2 v3)).toArray) rfl (fun _ hw ht=>r_loadR (o:=3) (cs:=(entRC o.entry v0 v2 v3)) rfl (range_cut0 (n:=9) 3 (Arr.range ht.2) rfl) U36 rfl (by kernel_rfl)) ⟨S4.le,fun h=>⟨S4.a0,S4.a4⟩⟩ ?_
 refine y1 6 ?_
 refine yR (LIssue_c _ _ _ (entRC o.entry v0 v2 v3) o.entry _ _ _ _ S4.fr9.fr2 ⟨v0,v2,v3,rfl,ad,ad,ad,⟨o0,H0⟩,⟨o1,H1⟩,ad,ad,ad,⟨o2,H2⟩⟩ au) ?_
 rintro _ w3 ⟨I0,le0,rfl,S5⟩
 refine ym (lT le0 S5.le) ?_
 refine yu le0 ?_
 refine jF 7 rfl (by kernel_rfl) (.agg ([.int .i64 (x.c.issueE o.entry),.slice none 0 0]).toArray) rfl (fun _ hw=>r_buildS (l:=[(0,.int .i64 (x.c.issueE o.entry))]) st_43 (parts1 rfl) (Eq.trans (show Instr.fill _ _ [(0,.int .i64 (x.c.issueE o.entry))]=_ from (fill_one rfl rfl rfl fill_end)) (by kernel_rfl))) ⟨S5.le,fun h=>by cases h⟩ ?_
 refine y1 8 ?_
 refine yW4 S5 ?_
 intro w4 S6
 refine ym S6.le ?_
 refine yd ?_
 refine g4 ?_
 refine f1c Tryz.results33 ?_
 have S7:Sat w4 I0 (SeatsQ bs p (W.seats.set o.c.toNat ({ x with c:=x.c.issueS L o.entry }))::Suite p (x.c.issueL L o.entry)::Blk b1 43 [.int .i64 (x.c.issueE o.entry),.slice none 0 0]::Blk b0 38 (opRC o v0 v2 v3 v4)::Blk b 72 [lv,sv,pv,ev]::SrvP sv W.srv::OwnX 46 packR pv W.post::OwnX 33 bytesR ev W.sent::R):=SeatsQ.shutC hb hxs issue_id S6.fr3.fr1.fr3
 have S8:Sat _ _ (Own 30 1 (.slice none 0 0) (([]:List Int)).length ((([]:List Int)).map (Value.int .i64))::_):=S7.nil 30 1
 have hE:(W.ownA L x o).e=(x.c.issueE o.entry):=by rw [Wld.ownA,if_pos hk1]
 have q0:([]:List Int)=(W.ownA L x o).outs:=by rw [Wld.ownA,if_pos hk1]
 have S9:Sat w4 I0 (Own 30 1 (.slice none 0 0) ((W.ownA L x o).outs).length (((W.ownA L x o).outs).map (Value.int .i64))::SeatsQ bs p (W.seats.set o.c.toNat ({ x with c:=x.c.issueS L o.entry }))::Suite p (x.c.issueL L o.entry)::Blk b1 43 [.int .i64 (x.c.issueE o.entry),.slice none 0 0]::Blk b0 38 (opRC o v0 v2 v3 v4)::Blk b 72 [lv,sv,pv,ev]::SrvP sv W.srv::OwnX 46 packR pv W.post::OwnX 33 bytesR ev W.sent::R):=S8.as 0 rfl (congrArg (fun zz=>Own 30 1 (.slice none 0 0) (zz).length ((zz).map (Value.int .i64))) q0)
 have S10:Sat _ _ (WldO (ptr b) bs p (W.set o.c { x with c:=x.c.issueS L o.entry })::_):=WldO.cls (W:=(W.set o.c { x with c:=x.c.issueS L o.entry })) (wok.set (Wld.seat_br (x:=x) wok hx)) (by simpa [Wld.set] using hbl) (Hl.up le0) S9.fr8.fr8.fr8.fr4.fr8
 have q1:(W.set o.c { x with c:=x.c.issueS L o.entry })=(W.ownS L x o).2:=by rw [Wld.ownS,if_pos hk1]
 have S11:=Sat.ah0 (WldO (ptr b) bs p) S10 q1
 have q2:x.c.issueL L o.entry=(W.ownS L x o).1:=by rw [Wld.ownS,if_pos hk1]
 have S12:=Sat.ah2 (Suite p) S11 q2
 exact ⟨(.slice none 0 0),I0,le0,(by rw [hE]),S12.dr3.dr3.fr2.fr1.fr2⟩
 have hk1:¬o.kind=1:=h0
 refine g6 ?_
 refine EC_if rfl (fun h2=>?_) (fun h2=>?_)
 have hk2:o.kind=2:=h2
 refine g1 ?_
 have S13:Sat w1 I (Blk a 79 [ptr cb,.int .i64 x.c.coll,.int .i64 x.c.founder,.int .i64 x.c.who,.int .i64 x.branch]::CliP (ptr cb) p x.c::SeatsQ (bs.eraseIdx o.c.toNat) p (W.seats.eraseIdx o.c.toNat)::Blk b1 43 [.int .i64 0,.slice none 0 0]::Blk b0 38 (opRC o v0 v2 v3 v4)::Blk b 72 [lv,sv,pv,ev]::SrvP sv W.srv::OwnX 46 packR pv W.post::OwnX 33 bytesR ev W.sent::Suite p L::R):=SeatsQ.open hb hxs S2.fr3
 skip
 refine g5 ?_
 refine yR (LRot_c _ _ _ _ _ _ _ S13.fr9.fr2 au) ?_
 rintro _ w5 ⟨I1,le1,rfl,S14⟩
 refine vl _ rfl (gB [.int .i64 (x.c.rotE L),.slice none 0 0] st_43 (parts1 rfl) (fill_one rfl rfl rfl fill_end)) ?_
 refine yW4 S14 ?_
 intro w6 S15
 refine g5 ?_
 refine f1c Tryz.results33 ?_
 have S16:Sat w6 I1 (SeatsQ bs p (W.seats.set o.c.toNat ({ x with c:=x.c.rotS L }))::Suite p (x.c.rotL L)::Blk b1 43 [.int .i64 (x.c.rotE L),.slice none 0 0]::Blk b0 38 (opRC o v0 v2 v3 v4)::Blk b 72 [lv,sv,pv,ev]::SrvP sv W.srv::OwnX 46 packR pv W.post::OwnX 33 bytesR ev W.sent::R):=SeatsQ.shutC hb hxs rot_id S15.fr3.fr1.fr3
 have S17:Sat _ _ (Own 30 1 (.slice none 0 0) (([]:List Int)).length ((([]:List Int)).map (Value.int .i64))::_):=S16.nil 30 1
 have hE:(W.ownA L x o).e=(x.c.rotE L):=by rw [Wld.ownA,if_neg hk1,if_pos hk2]
 have q3:([]:List Int)=(W.ownA L x o).outs:=by rw [Wld.ownA,if_neg hk1,if_pos hk2]
 have S18:Sat w6 I1 (Own 30 1 (.slice none 0 0) ((W.ownA L x o).outs).length (((W.ownA L x o).outs).map (Value.int .i64))::SeatsQ bs p (W.seats.set o.c.toNat ({ x with c:=x.c.rotS L }))::Suite p (x.c.rotL L)::Blk b1 43 [.int .i64 (x.c.rotE L),.slice none 0 0]::Blk b0 38 (opRC o v0 v2 v3 v4)::Blk b 72 [lv,sv,pv,ev]::SrvP sv W.srv::OwnX 46 packR pv W.post::OwnX 33 bytesR ev W.sent::R):=S17.as 0 rfl (congrArg (fun zz=>Own 30 1 (.slice none 0 0) (zz).length ((zz).map (Value.int .i64))) q3)
 have S19:Sat _ _ (WldO (ptr b) bs p (W.set o.c { x with c:=x.c.rotS L })::_):=WldO.cls (W:=(W.set o.c { x with c:=x.c.rotS L })) (wok.set (Wld.seat_br (x:=x) wok hx)) (by simpa [Wld.set] using hbl) (Hl.up le1) S18.fr8.fr8.fr8.fr4.fr8
 have q4:(W.set o.c { x with c:=x.c.rotS L })=(W.ownS L x o).2:=by rw [Wld.ownS,if_neg hk1,if_pos hk2]
 have S20:=Sat.ah0 (WldO (ptr b) bs p) S19 q4
 have q5:x.c.rotL L=(W.ownS L x o).1:=by rw [Wld.ownS,if_neg hk1,if_pos hk2]
 have S21:=Sat.ah2 (Suite p) S20 q5
 exact ⟨(.slice none 0 0),I1,le1,(by rw [hE]),S21.dr3.dr3.fr2.fr1.fr2⟩
 have hk2:¬o.kind=2:=h2
 refine g6 ?_
 refine EC_if rfl (fun h3=>?_) (fun h3=>?_)
 have hk3:o.kind=3:=h3
 refine g1 ?_
 have S22:Sat w1 I (Blk a 79 [ptr cb,.int .i64 x.c.coll,.int .i64 x.c.founder,.int .i64 x.c.who,.int .i64 x.branch]::CliP (ptr cb) p x.c::SeatsQ (bs.eraseIdx o.c.toNat) p (W.seats.eraseIdx o.c.toNat)::Blk b1 43 [.int .i64 0,.slice none 0 0]::Blk b0 38 (opRC o v0 v2 v3 v4)::Blk b 72 [lv,sv,pv,ev]::SrvP sv W.srv::OwnX 46 packR pv W.post::OwnX 33 bytesR ev W.sent::Suite p L::R):=SeatsQ.open hb hxs S2.fr3
 skip
 refine g5 ?_
 refine yR (LPush_c _ _ _ _ _ _ S22.fr1) ?_
 rintro _ w7 ⟨v5,I2,le2,rfl,S23⟩
 refine g8 ?_
 have S24:Sat w7 I2 (SeatsQ bs p W.seats::OwnX 33 bytesR v5 x.c.pushR::Blk b1 43 [.int .i64 0,.slice none 0 0]::Blk b0 38 (opRC o v0 v2 v3 v4)::Blk b 72 [lv,sv,pv,ev]::SrvP sv W.srv::OwnX 46 packR pv W.post::OwnX 33 bytesR ev W.sent::Suite p L::R):=SeatsQ.same hb hxs S23.fr3.fr2.fr3
 have S25:Sat _ _ (WldO (ptr b) bs p W::_):=WldO.cls (W:=W) wok hbl (Hl.up le2) S24.fr7.fr7.fr7.fr3.fr7
 skip
 refine g6 ?_
 have oH143:=(OwnX.one S25 1 rfl (by decide))
 obtain ⟨I3,le3,S26,H4⟩:=S25.fx1 (by decide)
 refine yR (WUp_c _ _ _ _ o.c x.c.pushE _ _ _ _ _ S26 H4 ⟨hxc.1,hxc.2.1⟩ (by have:=(push_len (c:=x.c)).1;omega) push_len.2 au) ?_
 rintro _ w8 ⟨I4,le4,rfl,S27⟩
 refine vl _ rfl (gB [.int .i64 (W.upE x.c.pushE x.c.pushR),.slice none 0 0] st_43 (parts1 rfl) (fill_one rfl rfl rfl fill_end)) ?_
 refine yW1 S27 ?_
 intro w9 S28
 refine g5 ?_
 refine f1c Tryz.results33 ?_
 have S29:Sat _ _ (Own 30 1 (.slice none 0 0) (([]:List Int)).length ((([]:List Int)).map (Value.int .i64))::_):=S28.nil 30 1
 have hE:(W.ownA L x o).e=(W.upE x.c.pushE x.c.pushR):=by rw [Wld.ownA,if_neg hk1,if_neg hk2,if_pos hk3]
 have q6:([]:List Int)=(W.ownA L x o).outs:=by rw [Wld.ownA,if_neg hk1,if_neg hk2,if_pos hk3]
 have S30:Sat w9 I4 (Own 30 1 (.slice none 0 0) ((W.ownA L x o).outs).length (((W.ownA L x o).outs).map (Value.int .i64))::WldO (ptr b) bs p (W.upS o.c x.c.pushE x.c.pushR)::Blk b1 43 [.int .i64 (W.upE x.c.pushE x.c.pushR),.slice none 0 0]::Blk b0 38 (opRC o v0 v2 v3 v4)::Suite p L::R):=S29.as 0 rfl (congrArg (fun zz=>Own 30 1 (.slice none 0 0) (zz).length ((zz).map (Value.int .i64))) q6)
 have q7:W.upS o.c x.c.pushE x.c.pushR=(W.ownS L x o).2:=by rw [Wld.ownS,if_neg hk1,if_neg hk2,if_pos hk3]
 have S31:=Sat.ah1 (WldO (ptr b) bs p) S30 q7
 have q8:L=(W.ownS L x o).1:=by rw [Wld.ownS,if_neg hk1,if_neg hk2,if_pos hk3]
 have S32:=Sat.ah4 (Suite p) S31 q8
 exact ⟨(.slice none 0 0),I4,(lT (lT le2 le3) le4),(by rw [hE]),S32.dr2.dr2⟩
 have hk3:¬o.kind=3:=h3
 refine g6 ?_
 refine EC_if rfl (fun h4=>?_) (fun h4=>?_)
 have hk4:o.kind=4:=h4
 refine g1 ?_
 have S33:Sat w1 I (Blk a 79 [ptr cb,.int .i64 x.c.coll,.int .i64 x.c.founder,.int .i64 x.c.who,.int .i64 x.branch]::CliP (ptr cb) p x.c::SeatsQ (bs.eraseIdx o.c.toNat) p (W.seats.eraseIdx o.c.toNat)::Blk b1 43 [.int .i64 0,.slice none 0 0]::Blk b0 38 (opRC o v0 v2 v3 v4)::Blk b 72 [lv,sv,pv,ev]::SrvP sv W.srv::OwnX 46 packR pv W.post::OwnX 33 bytesR ev W.sent::Suite p L::R):=SeatsQ.open hb hxs S2.fr3
 skip
 refine g5 ?_
 refine yR (LPull_c _ _ _ _ _ _ S33.fr1) ?_
 rintro _ w10 ⟨v6,I5,le5,rfl,S34⟩
 refine g8 ?_
 have S35:Sat w10 I5 (SeatsQ bs p W.seats::OwnB v6 x.c.pullB::Blk b1 43 [.int .i64 0,.slice none 0 0]::Blk b0 38 (opRC o v0 v2 v3 v4)::Blk b 72 [lv,sv,pv,ev]::SrvP sv W.srv::OwnX 46 packR pv W.post::OwnX 33 bytesR ev W.sent::Suite p L::R):=SeatsQ.same hb hxs S34.fr3.fr2.fr3
 have S36:Sat _ _ (WldO (ptr b) bs p W::_):=WldO.cls (W:=W) wok hbl (Hl.up le5) S35.fr7.fr7.fr7.fr3.fr7
 skip
 refine g6 ?_
 obtain ⟨I6,le6,S37,H5⟩:=S36.fb1
 refine EL_lit1 (l:=[(0,v6)]) w10.heap.size [v6] el_52 rfl (by decide) rfl (Nat.le_refl _) (parts1 rfl) (Eq.trans (show Instr.fill _ _ [(0,v6)]=_ from (fill_one rfl (row_cells (H5 _ S37.le)) (by kernel_rfl) fill_end)) (by kernel_rfl)) ?_
 intro v7 w11 O0 B0 k0
 have S38:Sat _ _ (OwnX 33 bytesR v7 [x.c.pullB]::_):=OwnX.cls (xss:=[[v6]]) (.cons ⟨_,rfl,(row_one (H5 _ S37.le)),H5⟩ .nil) (S37.newO B0 O0)
 have oH194:=(OwnX.one S38 0 rfl (by decide))
 obtain ⟨I7,le7,S39,H6⟩:=S38.fx0 (by decide)
 refine yR (WUp_c _ _ _ _ o.c x.c.pullE _ _ _ _ _ S39 H6 ⟨hxc.1,hxc.2.1⟩ (by simp) (fun b hb=>by rw [List.mem_singleton.1 hb];exact pull_len) au) ?_
 rintro _ w12 ⟨I8,le8,rfl,S40⟩
 refine vl _ rfl (gB [.int .i64 (W.upE x.c.pullE [x.c.pullB]),.slice none 0 0] st_43 (parts1 rfl) (fill_one rfl rfl rfl fill_end)) ?_
 refine yW1 S40 ?_
 intro w13 S41
 refine g5 ?_
 refine f1c Tryz.results33 ?_
 have S42:Sat _ _ (Own 30 1 (.slice none 0 0) (([]:List Int)).length ((([]:List Int)).map (Value.int .i64))::_):=S41.nil 30 1
 have hE:(W.ownA L x o).e=(W.upE x.c.pullE [x.c.pullB]):=by rw [Wld.ownA,if_neg hk1,if_neg hk2,if_neg hk3,if_pos hk4]
 have q9:([]:List Int)=(W.ownA L x o).outs:=by rw [Wld.ownA,if_neg hk1,if_neg hk2,if_neg hk3,if_pos hk4]
 have S43:Sat w13 I8 (Own 30 1 (.slice none 0 0) ((W.ownA L x o).outs).length (((W.ownA L x o).outs).map (Value.int .i64))::WldO (ptr b) bs p (W.upS o.c x.c.pullE [x.c.pullB])::Blk b1 43 [.int .i64 (W.upE x.c.pullE [x.c.pullB]),.slice none 0 0]::Blk b0 38 (opRC o v0 v2 v3 v4)::Suite p L::R):=S42.as 0 rfl (congrArg (fun zz=>Own 30 1 (.slice none 0 0) (zz).length ((zz).map (Value.int .i64))) q9)
 have q10:W.upS o.c x.c.pullE [x.c.pullB]=(W.ownS L x o).2:=by rw [Wld.ownS,if_neg hk1,if_neg hk2,if_neg hk3,if_pos hk4]
 have S44:=Sat.ah1 (WldO (ptr b) bs p) S43 q10
 have q11:L=(W.ownS L x o).1:=by rw [Wld.ownS,if_neg hk1,if_neg hk2,if_neg hk3,if_pos hk4]
 have S45:=Sat.ah4 (Suite p) S44 q11
 exact ⟨(.slice none 0 0),I8,(lT (lT (lT le5 le6) le7) le8),(by rw [hE]),S45.dr2.dr2⟩
 have hk4:¬o.kind=4:=h4
 refine g6 ?_
 refine EC_if rfl (fun h5=>?_) (fun h5=>?_)
 have hk8:o.kind=8:=h5
 refine g1 ?_
 have S46:Sat _ _ (WldO (ptr b) bs p W::_):=WldO.cls (W:=W) wok hbl Hl S2.fr6.fr6.fr6.fr6.fr6
 skip
 refine g5 ?_
 refine yR (WCmp_c _ _ _ _ a cb o.c x o.n _ _ _ S46 hb hx) ?_
 rintro _ w14 ⟨I9,le9,rfl,S47⟩
 refine vl _ rfl (gB [.int .i64 (W.cmpA x o.n),.slice none 0 0] st_43 (parts1 rfl) (fill_one rfl rfl rfl fill_end)) ?_
 refine yW1 S47 ?_
 intro w15 S48
 refine g5 ?_
 refine f1c Tryz.results33 ?_
 have S49:Sat _ _ (Own 30 1 (.slice none 0 0) (([]:List Int)).length ((([]:List Int)).map (Value.int .i64))::_):=S48.nil 30 1
 have hE:(W.ownA L x o).e=(W.cmpA x o.n):=by rw [Wld.ownA,if_neg hk1,if_neg hk2,if_neg hk3,if_neg hk4,if_pos hk8]
 have q12:([]:List Int)=(W.ownA L x o).outs:=by rw [Wld.ownA,if_neg hk1,if_neg hk2,if_neg hk3,if_neg hk4,if_pos hk8]
 have S50:Sat w15 I9 (Own 30 1 (.slice none 0 0) ((W.ownA L x o).outs).length (((W.ownA L x o).outs).map (Value.int .i64))::WldO (ptr b) bs p (W.cmpS o.c x o.n)::Blk b1 43 [.int .i64 (W.cmpA x o.n),.slice none 0 0]::Blk b0 38 (opRC o v0 v2 v3 v4)::Suite p L::R):=S49.as 0 rfl (congrArg (fun zz=>Own 30 1 (.slice none 0 0) (zz).length ((zz).map (Value.int .i64))) q12)
 have q13:W.cmpS o.c x o.n=(W.ownS L x o).2:=by rw [Wld.ownS,if_neg hk1,if_neg hk2,if_neg hk3,if_neg hk4,if_pos hk8]
 have S51:=Sat.ah1 (WldO (ptr b) bs p) S50 q13
 have q14:L=(W.ownS L x o).1:=by rw [Wld.ownS,if_neg hk1,if_neg hk2,if_neg hk3,if_neg hk4,if_pos hk8]
 have S52:=Sat.ah4 (Suite p) S51 q14
 exact ⟨(.slice none 0 0),I9,le9,(by rw [hE]),S52.dr2.dr2⟩
 have hk8:¬o.kind=8:=h5
 refine g6 ?_
 refine EC_if rfl (fun h6=>?_) (fun h6=>?_)
 have hk9:o.kind=9:=h6
 refine g13 ?_
 refine EC_cond (t:=(decide (o.n<0))||(decide (2≤o.n))) rfl (fun h7=>?_) (fun h7=>?_)
 have h247:o.n<0∨2≤o.n:=by simpa using h7
 refine g2 ?_
 refine vl _ rfl (gB [.int .i64 12,.slice none 0 0] st_43 (parts1 rfl) (fill_one rfl rfl rfl fill_end)) ?_
 refine yW0 S2 ?_
 intro w16 S53
 refine g6 ?_
 refine f1c Tryz.results33 ?_
 have S54:Sat _ _ (Own 30 1 (.slice none 0 0) (([]:List Int)).length ((([]:List Int)).map (Value.int .i64))::_):=S53.nil 30 1
 have hE:(W.ownA L x o).e=12:=by rw [Wld.ownA,if_neg hk1,if_neg hk2,if_neg hk3,if_neg hk4,if_neg hk8,if_pos hk9,if_pos h247]
 have q15:([]:List Int)=(W.ownA L x o).outs:=by rw [Wld.ownA,if_neg hk1,if_neg hk2,if_neg hk3,if_neg hk4,if_neg hk8,if_pos hk9,if_pos h247]
 have S55:Sat w16 I (Own 30 1 (.slice none 0 0) ((W.ownA L x o).outs).length (((W.ownA L x o).outs).map (Value.int .i64))::Blk b1 43 [.int .i64 12,.slice none 0 0]::Blk b0 38 (opRC o v0 v2 v3 v4)::Blk b 72 [lv,sv,pv,ev]::SeatsQ bs p W.seats::SrvP sv W.srv::OwnX 46 packR pv W.post::OwnX 33 bytesR ev W.sent::Suite p L::R):=S54.as 0 rfl (congrArg (fun zz=>Own 30 1 (.slice none 0 0) (zz).length ((zz).map (Value.int .i64))) q15)
 have S56:Sat _ _ (WldO (ptr b) bs p W::_):=WldO.cls (W:=W) wok hbl Hl S55.fr7.fr7.fr7.fr7.fr7
 have q16:W=(W.ownS L x o).2:=by rw [Wld.ownS,if_neg hk1,if_neg hk2,if_neg hk3,if_neg hk4,if_neg hk8,if_pos hk9,if_pos h247]
 have S57:=Sat.ah0 (WldO (ptr b) bs p) S56 q16
 have q17:L=(W.ownS L x o).1:=by rw [Wld.ownS,if_neg hk1,if_neg hk2,if_neg hk3,if_neg hk4,if_neg hk8,if_pos hk9,if_pos h247]
 have S58:=Sat.ah4 (Suite p) S57 q17
 exact ⟨(.slice none 0 0),I,(Gh.le_refl _),(by rw [hE]),S58.dr2.dr2.fr2.fr1.fr2⟩
 have h247:¬(o.n<0∨2≤o.n):=by have h:=h7;simp at h;omega
 refine g3 ?_
 have S59:Sat w1 I (Blk a 79 [ptr cb,.int .i64 x.c.coll,.int .i64 x.c.founder,.int .i64 x.c.who,.int .i64 x.branch]::CliP (ptr cb) p x.c::SeatsQ (bs.eraseIdx o.c.toNat) p (W.seats.eraseIdx o.c.toNat)::Blk b1 43 [.int .i64 0,.slice none 0 0]::Blk b0 38 (opRC o v0 v2 v3 v4)::Blk b 72 [lv,sv,pv,ev]::SrvP sv W.srv::OwnX 46 packR pv W.post::OwnX 33 bytesR ev W.sent::Suite p L::R):=SeatsQ.open hb hxs S2.fr3
 skip
 refine g6 ?_
 refine yS0 S59 ?_
 intro w17 S60
 refine g4 ?_
 refine vl _ rfl (gB [.int .i64 0,.slice none 0 0] st_43 rfl fill_end) ?_
 refine yW3 S60 ?_
 intro w18 S61
 refine g5 ?_
 refine f1c Tryz.results33 ?_
 have S62:Sat w18 I (SeatsQ bs p (W.seats.set o.c.toNat ({ x with branch:=o.n }))::Blk b1 43 [.int .i64 0,.slice none 0 0]::Blk b0 38 (opRC o v0 v2 v3 v4)::Blk b 72 [lv,sv,pv,ev]::SrvP sv W.srv::OwnX 46 packR pv W.post::OwnX 33 bytesR ev W.sent::Suite p L::R):=SeatsQ.shut (x:={ x with branch:=o.n }) hb hxs S61
 have S63:Sat _ _ (Own 30 1 (.slice none 0 0) (([]:List Int)).length ((([]:List Int)).map (Value.int .i64))::_):=S62.nil 30 1
 have hE:(W.ownA L x o).e=0:=by rw [Wld.ownA,if_neg hk1,if_neg hk2,if_neg hk3,if_neg hk4,if_neg hk8,if_pos hk9,if_neg h247]
 have q18:([]:List Int)=(W.ownA L x o).outs:=by rw [Wld.ownA,if_neg hk1,if_neg hk2,if_neg hk3,if_neg hk4,if_neg hk8,if_pos hk9,if_neg h247]
 have S64:Sat w18 I (Own 30 1 (.slice none 0 0) ((W.ownA L x o).outs).length (((W.ownA L x o).outs).map (Value.int .i64))::SeatsQ bs p (W.seats.set o.c.toNat ({ x with branch:=o.n }))::Blk b1 43 [.int .i64 0,.slice none 0 0]::Blk b0 38 (opRC o v0 v2 v3 v4)::Blk b 72 [lv,sv,pv,ev]::SrvP sv W.srv::OwnX 46 packR pv W.post::OwnX 33 bytesR ev W.sent::Suite p L::R):=S63.as 0 rfl (congrArg (fun zz=>Own 30 1 (.slice none 0 0) (zz).length ((zz).map (Value.int .i64))) q18)
 have S65:Sat _ _ (WldO (ptr b) bs p (W.set o.c { x with branch:=o.n })::_):=WldO.cls (W:=(W.set o.c { x with branch:=o.n })) (wok.set (x:={ x with branch:=o.n }) ⟨by dsimp only;omega,by dsimp only;omega⟩) (by simpa [Wld.set] using hbl) Hl S64.fr7.fr7.fr7.fr4.fr7
 have q19:(W.set o.c { x with branch:=o.n })=(W.ownS L x o).2:=by rw [Wld.ownS,if_neg hk1,if_neg hk2,if_neg hk3,if_neg hk4,if_neg hk8,if_pos hk9,if_neg h247]
 have S66:=Sat.ah0 (WldO (ptr b) bs p) S65 q19
 have q20:L=(W.ownS L x o).1:=by rw [Wld.ownS,if_neg hk1,if_neg hk2,if_neg hk3,if_neg hk4,if_neg hk8,if_pos hk9,if_neg h247]
 have S67:=Sat.ah4 (Suite p) S66 q20
 exact ⟨(.slice none 0 0),I,(Gh.le_refl _),(by rw [hE]),S67.dr2.dr2.fr2.fr1.fr2⟩
 have hk9:¬o.kind=9:=h6
 refine g4 ?_
 have S68:Sat w1 I (Blk a 79 [ptr cb,.int .i64 x.c.coll,.int .i64 x.c.founder,.int .i64 x.c.who,.int .i64 x.branch]::CliP (ptr cb) p x.c::SeatsQ (bs.eraseIdx o.c.toNat) p (W.seats.eraseIdx o.c.toNat)::Blk b1 43 [.int .i64 0,.slice none 0 0]::Blk b0 38 (opRC o v0 v2 v3 v4)::Blk b 72 [lv,sv,pv,ev]::SrvP sv W.srv::OwnX 46 packR pv W.post::OwnX 33 bytesR ev W.sent::Suite p L::R):=SeatsQ.open hb hxs S2.fr3
 skip
 refine yJ 6 (fun w'=>Arr w' a 79 [ptr cb,.int .i64 x.c.coll,.int .i64 x.c.founder,.int .i64 x.c.who,.int .i64 x.branch]∧Arr w' b0 38 (opRC o v0 v2 v3 v4)) S68 ?_
 intro w19 S69
 refine yT 0 S69.le ⟨S69.a0,S69.a4⟩ ?_
 refine yT 1 S69.le ⟨S69.a0,S69.a4⟩ ?_
 refine yT 2 S69.le ⟨S69.a0,S69.a4⟩ ?_
 refine yT 3 S69.le ⟨S69.a0,S69.a4⟩ ?_
 refine yT 4 S69.le ⟨S69.a0,S69.a4⟩ ?_
 refine yT 5 S69.le ⟨S69.a0,S69.a4⟩ ?_
 refine y1 6 ?_
 refine yR (LTake_c _ _ _ _ _ _ _ _ _ S69.fr9.fr2 H3 au au) ?_
 rintro _ w20 ⟨v8,I10,le10,rfl,S70⟩
 refine ym (lT le10 S70.le) ?_
 refine yu le10 ?_
 refine yf 7 S70.le ?_
 refine yf 8 S70.le ?_
 refine yf 9 S70.le ?_
 refine yf 10 S70.le ?_
 refine yf 11 S70.le ?_
 refine yd ?_
 refine g5 ?_
 refine vl _ rfl (gB [.int .i64 (x.c.takeE o.data),v8] st_43 (parts2 rfl rfl) (fill_one rfl rfl rfl (fill_one rfl (one_cells (own_one (S70.own 0 rfl))) rfl fill_end))) ?_
 refine yW5 S70 ?_ (h1:=ones_cons rfl (ones_cons (own_one (S70.own 0 rfl)) ones_nil))
 intro w21 S71
 refine g3 ?_
 refine f1c Tryz.results33 ?_
 have S72:Sat w21 I10 (SeatsQ bs p (W.seats.set o.c.toNat ({ x with c:=(x.c.takeS L o.data).2 }))::Own 30 1 v8 (x.c.takeO L o.data).length ((x.c.takeO L o.data).map (Value.int .i64))::Suite p ((x.c.takeS L o.data).1)::Blk b1 43 [.int .i64 (x.c.takeE o.data),v8]::Blk b0 38 (opRC o v0 v2 v3 v4)::Blk b 72 [lv,sv,pv,ev]::SrvP sv W.srv::OwnX 46 packR pv W.post::OwnX 33 bytesR ev W.sent::R):=SeatsQ.shutC hb hxs take_id S71.fr4.fr2.fr4
 have hE:(W.ownA L x o).e=(x.c.takeE o.data):=by rw [Wld.ownA,if_neg hk1,if_neg hk2,if_neg hk3,if_neg hk4,if_neg hk8,if_neg hk9]
 have q21:x.c.takeO L o.data=(W.ownA L x o).outs:=by rw [Wld.ownA,if_neg hk1,if_neg hk2,if_neg hk3,if_neg hk4,if_neg hk8,if_neg hk9]
 have S73:Sat w21 I10 (SeatsQ bs p (W.seats.set o.c.toNat ({ x with c:=(x.c.takeS L o.data).2 }))::Own 30 1 v8 ((W.ownA L x o).outs).length (((W.ownA L x o).outs).map (Value.int .i64))::Suite p ((x.c.takeS L o.data).1)::Blk b1 43 [.int .i64 (x.c.takeE o.data),v8]::Blk b0 38 (opRC o v0 v2 v3 v4)::Blk b 72 [lv,sv,pv,ev]::SrvP sv W.srv::OwnX 46 packR pv W.post::OwnX 33 bytesR ev W.sent::R):=S72.as 1 rfl (congrArg (fun zz=>Own 30 1 v8 (zz).length ((zz).map (Value.int .i64))) q21)
 have S74:Sat _ _ (WldO (ptr b) bs p (W.set o.c { x with c:=(x.c.takeS L o.data).2 })::_):=WldO.cls (W:=(W.set o.c { x with c:=(x.c.takeS L o.data).2 })) (wok.set (Wld.seat_br (x:=x) wok hx)) (by simpa [Wld.set] using hbl) (Hl.up le10) S73.fr8.fr8.fr8.fr3.fr8
 have q22:(W.set o.c { x with c:=(x.c.takeS L o.data).2 })=(W.ownS L x o).2:=by rw [Wld.ownS,if_neg hk1,if_neg hk2,if_neg hk3,if_neg hk4,if_neg hk8,if_neg hk9]
 have S75:=Sat.ah0 (WldO (ptr b) bs p) S74 q22
 have q23:(x.c.takeS L o.data).1=(W.ownS L x o).1:=by rw [Wld.ownS,if_neg hk1,if_neg hk2,if_neg hk3,if_neg hk4,if_neg hk8,if_neg hk9]
 have S76:=Sat.ah2 (Suite p) S75 q23
 exact ⟨v8,I10,le10,(by rw [hE]),S76.dr3.dr3.fr2.fr1.fr2⟩
theorem WDo_c (q:Value) (bs:List (Nat×Nat)) (p:Value) (W:Wld) (L:List Thing) (co:List Value) (o:OpT) (I:Gh) (R:List HP) (w:World) (S:Sat w I (WldO q bs p W::Suite p L::R)) (ho:opR.r I co o) (hsl:W.sent.length≤1000) (hl:L.length≤500000) (hT:TxtOk L):Ret Tryz.prog 12 [q,.agg co.toArray] w fun v w'=>∃v1:Value,∃J:Gh,Gh.le I J∧.agg [.int .i64 ((W.doA L o).e),v1].toArray=v∧Sat w' J (Own 30 1 v1 ((W.doA L o).outs).length (((W.doA L o).outs).map (Value.int .i64))::WldO q bs p ((W.doS L o).2)::Suite p ((W.doS L o).1)::R):=by
 obtain ⟨b,lv,sv,pv,ev,rfl,wok,hbl,Hl,S0⟩:=WldO.opn S
 have hsv:=SrvP.one S0.fr2
 have wp5:=wok.post
 have ws6:=wok.seats
 have hbm:(bs.map Prod.fst).length=W.seats.length:=by rw [List.length_map];exact hbl
 have hlv:=XRow.one (Hl.row S0.le)
 obtain ⟨v0,v2,v3,v4,rfl,r0,r1,r2,r3,r4,r5,⟨o0,H0⟩,⟨o1,H1⟩,r6,r7,r8,⟨o2,H2⟩,⟨o3,H3⟩⟩:=ho
 refine ret_E Tryz.func12 rfl Tryz.ntmps12 (by simp) ?_
 refine g2 ?_
 refine yB (cs:=opRC o v0 v2 v3 v4) S0 ?_
 intro b0 w0 S1
 refine yN [.int .i64 0,.slice none 0 0] S1 ?_
 intro b1 w1 S2
 refine g17 ?_
 refine EC_cond (t:=(decide (o.kind<1))||(decide (11<o.kind))) rfl (fun h0=>?_) (fun h0=>?_)
 have hk0:o.kind<1∨11<o.kind:=by simpa using h0
 refine g2 ?_
 refine vl _ rfl (gB [.int .i64 13,.slice none 0 0] st_43 (parts1 rfl) (fill_one rfl rfl rfl fill_end)) ?_
 refine yW0 S2 ?_
 intro w2 S3
 refine g5 ?_
 refine f1c Tryz.results12 ?_
 have S4:Sat _ _ (Own 30 1 (.slice none 0 0) (([]:List Int)).length ((([]:List Int)).map (Value.int .i64))::_):=S3.nil 30 1
 have hE:(W.doA L o).e=13:=by rw [Wld.doA,if_pos hk0]
 have q0:([]:List Int)=(W.doA L o).outs:=by rw [Wld.doA,if_pos hk0]
 have S5:Sat w2 I (Own 30 1 (.slice none 0 0) ((W.doA L o).outs).length (((W.doA L o).outs).map (Value.int .i64))::Blk b1 43 [.int .i64 13,.slice none 0 0]::Blk b0 38 (opRC o v0 v2 v3 v4)::Blk b 72 [lv,sv,pv,ev]::SeatsQ bs p W.seats::SrvP sv W.srv::OwnX 46 packR pv W.post::OwnX 33 bytesR ev W.sent::Suite p L::R):=S4.as 0 rfl (congrArg (fun zz=>Own 30 1 (.slice none 0 0) (zz).length ((zz).map (Value.int .i64))) q0)
 have S6:Sat _ _ (WldO (ptr b) bs p W::_):=WldO.cls (W:=W) wok hbl Hl S5.fr7.fr7.fr7.fr7.fr7
 have q1:W=(W.doS L o).2:=by rw [Wld.doS,if_pos hk0]
 have S7:=Sat.ah0 (WldO (ptr b) bs p) S6 q1
 have q2:L=(W.doS L o).1:=by rw [Wld.doS,if_pos hk0]
 have S8:=Sat.ah4 (Suite p) S7 q2
 exact ⟨(.slice none 0 0),I,(Gh.le_refl _),(by rw [hE]),S8.dr2.dr2.fr2.fr1.fr2⟩
 have hk0:¬(o.kind<1∨11<o.kind):=by have h:=h0;simp at h;omega
 refine g13 ?_
 refine EC_cond (t:=(decide (5≤o.kind))&&(decide (o.kind≤7))) rfl (fun h2=>?_) (fun h2=>?_)
 have hk5:5≤o.kind∧o.kind≤7:=by simpa using h2
 refine g1 ?_
 have S9:Sat _ _ (WldO (ptr b) bs p W::_):=WldO.cls (W:=W) wok hbl Hl S2.fr6.fr6.fr6.fr6.fr6
 skip
 refine g3 ?_
 refine yR (WPosted_c _ _ _ _ _ (opRC o v0 v2 v3 v4) o _ _ _ S9.fr3.fr1 ⟨v0,v2,v3,v4,rfl,ad,ad,ad,ad,ad,ad,⟨o0,H0⟩,⟨o1,H1⟩,ad,ad,ad,⟨o2,H2⟩,⟨o3,H3⟩⟩ au au au) ?_
 rintro _ w3 ⟨v5,I0,le0,rfl,S10⟩
 refine yW3 S10 ?_ (h1:=ones_cons rfl (ones_cons (own_one (S10.own 0 rfl)) ones_nil))
 intro w4 S11
 refine g5 ?_
 refine f1c Tryz.results12 ?_
 have hE:(W.doA L o).e=((W.postA L o).e):=by rw [Wld.doA,if_neg hk0,if_pos hk5]
 have q3:(W.postA L o).outs=(W.doA L o).outs:=by rw [Wld.doA,if_neg hk0,if_pos hk5]
 have S12:Sat w4 I0 (Own 30 1 v5 ((W.doA L o).outs).length (((W.doA L o).outs).map (Value.int .i64))::WldO (ptr b) bs p ((W.postS L o).2)::Suite p ((W.postS L o).1)::Blk b1 43 [.int .i64 ((W.postA L o).e),v5]::Blk b0 38 (opRC o v0 v2 v3 v4)::R):=S11.as 0 rfl (congrArg (fun zz=>Own 30 1 v5 (zz).length ((zz).map (Value.int .i64))) q3)
 have q4:(W.postS L o).2=(W.doS L o).2:=by rw [Wld.doS,if_neg hk0,if_pos hk5]
 have S13:=Sat.ah1 (WldO (ptr b) bs p) S12 q4
 have q5:(W.postS L o).1=(W.doS L o).1:=by rw [Wld.doS,if_neg hk0,if_pos hk5]
 have S14:=Sat.ah2 (Suite p) S13 q5
 exact ⟨v5,I0,le0,(by rw [hE]),S14.dr3.dr3⟩
 have hk5:¬(5≤o.kind∧o.kind≤7):=by have h:=h2;simp at h;omega
 refine g8 ?_
 refine EC_if rfl (fun h3=>?_) (fun h3=>?_)
 have hk10:o.kind=10:=h3
 refine g1 ?_
 refine yJ 6 (fun w'=>Arr w' b 72 [lv,sv,pv,ev]∧Arr w' b0 38 (opRC o v0 v2 v3 v4)) S2 ?_
 intro w5 S15
 refine yT 0 S15.le ⟨S15.a2,S15.a1⟩ ?_
 refine yT 1 S15.le ⟨S15.a2,S15.a1⟩ ?_
 refine yT 2 S15.le ⟨S15.a2,S15.a1⟩ ?_
 refine yT 3 S15.le ⟨S15.a2,S15.a1⟩ ?_
 refine yT 4 S15.le ⟨S15.a2,S15.a1⟩ ?_
 refine yT 5 S15.le ⟨S15.a2,S15.a1⟩ ?_
 refine y1 6 ?_
 refine yR (SFork_c _ _ o.n _ _ _ S15.fr4) ?_
 rintro _ w6 ⟨I1,le1,rfl,S16⟩
 refine ym (lT le1 S16.le) ?_
 refine yu le1 ?_
 refine jF 7 rfl (by kernel_rfl) (.agg ([.int .i64 (Srv.forkE o.n),.slice none 0 0]).toArray) rfl (fun _ hw=>r_buildS (l:=[(0,.int .i64 (Srv.forkE o.n))]) st_43 (parts1 rfl) (Eq.trans (show Instr.fill _ _ [(0,.int .i64 (Srv.forkE o.n))]=_ from (fill_one rfl rfl rfl fill_end)) (by kernel_rfl))) ⟨S16.le,fun h=>by cases h⟩ ?_
 refine y1 8 ?_
 refine yW1 S16 ?_
 intro w7 S17
 refine ym S17.le ?_
 refine yd ?_
 refine g4 ?_
 refine f1c Tryz.results12 ?_
 have S18:Sat _ _ (Own 30 1 (.slice none 0 0) (([]:List Int)).length ((([]:List Int)).map (Value.int .i64))::_):=S17.nil 30 1
 have hE:(W.doA L o).e=(Srv.forkE o.n):=by rw [Wld.doA,if_neg hk0,if_neg hk5,if_pos hk10]
 have q6:([]:List Int)=(W.doA L o).outs:=by rw [Wld.doA,if_neg hk0,if_neg hk5,if_pos hk10]
 have S19:Sat w7 I1 (Own 30 1 (.slice none 0 0) ((W.doA L o).outs).length (((W.doA L o).outs).map (Value.int .i64))::SrvP sv (W.srv.forkS o.n)::Blk b1 43 [.int .i64 (Srv.forkE o.n),.slice none 0 0]::Blk b0 38 (opRC o v0 v2 v3 v4)::Blk b 72 [lv,sv,pv,ev]::SeatsQ bs p W.seats::OwnX 46 packR pv W.post::OwnX 33 bytesR ev W.sent::Suite p L::R):=S18.as 0 rfl (congrArg (fun zz=>Own 30 1 (.slice none 0 0) (zz).length ((zz).map (Value.int .i64))) q6)
 have S20:Sat _ _ (WldO (ptr b) bs p ({ W with srv:=W.srv.forkS o.n }:Wld)::_):=WldO.cls (W:=({ W with srv:=W.srv.forkS o.n }:Wld)) (wok.handed wp5 wok.pk) hbl (Hl.up le1) S19.fr7.fr7.fr3.fr7.fr7
 have q7:({ W with srv:=W.srv.forkS o.n }:Wld)=(W.doS L o).2:=by rw [Wld.doS,if_neg hk0,if_neg hk5,if_pos hk10]
 have S21:=Sat.ah0 (WldO (ptr b) bs p) S20 q7
 have q8:L=(W.doS L o).1:=by rw [Wld.doS,if_neg hk0,if_neg hk5,if_pos hk10]
 have S22:=Sat.ah4 (Suite p) S21 q8
 exact ⟨(.slice none 0 0),I1,le1,(by rw [hE]),S22.dr2.dr2.fr2.fr1.fr2⟩
 have hk10:¬o.kind=10:=h3
 refine g4 ?_
 rcases hsn:W.seat o.c with _ | y
 have hni:=Wld.seat_none hsn
 refine g4 ?_
 refine yR (WSeatF_c _ _ _ _ _ bs o.c _ _ _ S2.fr2 Hl (by rw [hbm];exact hni)) ?_
 rintro _ w8 ⟨rfl,S23⟩
 refine g7 ?_
 refine vl (.bool true) rfl (r_eqnn rfl rfl U77) ?_
 refine g5 ?_
 refine vl _ rfl (gB [.int .i64 32,.slice none 0 0] st_43 (parts1 rfl) (fill_one rfl rfl rfl fill_end)) ?_
 refine yW1 S23 ?_
 intro w9 S24
 refine g4 ?_
 refine f1c Tryz.results12 ?_
 have S25:Sat _ _ (Own 30 1 (.slice none 0 0) (([]:List Int)).length ((([]:List Int)).map (Value.int .i64))::_):=S24.nil 30 1
 have hE:(W.doA L o).e=32:=by rw [Wld.doA,if_neg hk0,if_neg hk5,if_neg hk10,hsn]
 have q9:([]:List Int)=(W.doA L o).outs:=by rw [Wld.doA,if_neg hk0,if_neg hk5,if_neg hk10,hsn]
 have S26:Sat w9 I (Own 30 1 (.slice none 0 0) ((W.doA L o).outs).length (((W.doA L o).outs).map (Value.int .i64))::Blk b 72 [lv,sv,pv,ev]::Blk b1 43 [.int .i64 32,.slice none 0 0]::Blk b0 38 (opRC o v0 v2 v3 v4)::SeatsQ bs p W.seats::SrvP sv W.srv::OwnX 46 packR pv W.post::OwnX 33 bytesR ev W.sent::Suite p L::R):=S25.as 0 rfl (congrArg (fun zz=>Own 30 1 (.slice none 0 0) (zz).length ((zz).map (Value.int .i64))) q9)
 have S27:Sat _ _ (WldO (ptr b) bs p W::_):=WldO.cls (W:=W) wok hbl Hl S26.fr7.fr7.fr7.fr7.fr5
 have q10:W=(W.doS L o).2:=by rw [Wld.doS,if_neg hk0,if_neg hk5,if_neg hk10,hsn]
 have S28:=Sat.ah0 (WldO (ptr b) bs p) S27 q10
 have q11:L=(W.doS L o).1:=by rw [Wld.doS,if_neg hk0,if_neg hk5,if_neg hk10,hsn]
 have S29:=Sat.ah4 (Suite p) S28 q11
 exact ⟨(.slice none 0 0),I,(Gh.le_refl _),(by rw [hE]),S29.dr2.dr2.fr2.fr1.fr2⟩
 have hy3:=Wld.seat_at hsn
 refine g4 ?_
 refine yR (WSeatT_c _ _ _ _ _ bs o.c _ _ _ S2.fr2 Hl (by rw [hbm];exact ⟨hy3.1,hy3.2.1⟩)) ?_
 rintro _ w10 ⟨a0,rfl,h4,S30⟩
 obtain ⟨cy,hby⟩:=seat_get h4
 refine g7 ?_
 refine vl (.bool false) rfl (r_eqptrnil rfl rfl U77) ?_
 refine g6 ?_
 have S31:Sat _ _ (WldO (ptr b) bs p W::_):=WldO.cls (W:=W) wok hbl Hl S30.fr6.fr6.fr6.fr6.fr4
 skip
 refine g4 ?_
 refine yR (WOwn_c _ _ _ _ a0 cy y _ (opRC o v0 v2 v3 v4) o _ _ _ S31.fr3.fr1 ⟨v0,v2,v3,v4,rfl,ad,ad,ad,ad,ad,ad,⟨o0,H0⟩,⟨o1,H1⟩,ad,ad,ad,⟨o2,H2⟩,⟨o3,H3⟩⟩ hby hsn au au au) ?_
 rintro _ w11 ⟨v6,I2,le2,rfl,S32⟩
 refine yW3 S32 ?_ (h1:=ones_cons rfl (ones_cons (own_one (S32.own 0 rfl)) ones_nil))
 intro w12 S33
 refine g3 ?_
 refine f1c Tryz.results12 ?_
 have hE:(W.doA L o).e=((W.ownA L y o).e):=by rw [Wld.doA,if_neg hk0,if_neg hk5,if_neg hk10,hsn]
 have q12:(W.ownA L y o).outs=(W.doA L o).outs:=by rw [Wld.doA,if_neg hk0,if_neg hk5,if_neg hk10,hsn]
 have S34:Sat w12 I2 (Own 30 1 v6 ((W.doA L o).outs).length (((W.doA L o).outs).map (Value.int .i64))::WldO (ptr b) bs p ((W.ownS L y o).2)::Suite p ((W.ownS L y o).1)::Blk b1 43 [.int .i64 ((W.ownA L y o).e),v6]::Blk b0 38 (opRC o v0 v2 v3 v4)::R):=S33.as 0 rfl (congrArg (fun zz=>Own 30 1 v6 (zz).length ((zz).map (Value.int .i64))) q12)
 have q13:(W.ownS L y o).2=(W.doS L o).2:=by rw [Wld.doS,if_neg hk0,if_neg hk5,if_neg hk10,hsn]
 have S35:=Sat.ah1 (WldO (ptr b) bs p) S34 q13
 have q14:(W.ownS L y o).1=(W.doS L o).1:=by rw [Wld.doS,if_neg hk0,if_neg hk5,if_neg hk10,hsn]
 have S36:=Sat.ah2 (Suite p) S35 q14
 exact ⟨v6,I2,le2,(by rw [hE]),S36.dr3.dr3⟩
end Go.Proofs.YthddplghlljdbaaGreat
