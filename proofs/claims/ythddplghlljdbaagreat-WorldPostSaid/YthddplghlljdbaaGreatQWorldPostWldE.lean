import Derived.Test.YthddplghlljdbaaGreatQWorldPostWldC
set_option linter.unusedVariables false
set_option linter.unusedSimpArgs false
set_option maxRecDepth 100000
set_option maxHeartbeats 4000000
namespace Go.Proofs.YthddplghlljdbaaGreat
open Go.RowKit Go.Ecal
def opR:Rep OpT:=⟨13,fun I cs a=>∃v6 v7 v11 v12,cs=[.int .i64 a.kind,.int .i64 a.c,.int .i64 a.n,.int .i64 a.entry.kind,.int .i64 a.entry.writer,.int .i64 a.entry.seq,v6,v7,.int .i64 a.entry.who,.int .i64 a.entry.rights,.int .i64 a.entry.epoch,v11,v12]∧(-9223372036854775808≤a.kind∧a.kind≤9223372036854775807)∧(-9223372036854775808≤a.c∧a.c≤9223372036854775807)∧(-9223372036854775808≤a.n∧a.n≤9223372036854775807)∧(-9223372036854775808≤a.entry.kind∧a.entry.kind≤9223372036854775807)∧(-9223372036854775808≤a.entry.writer∧a.entry.writer≤9223372036854775807)∧(-9223372036854775808≤a.entry.seq∧a.entry.seq≤9223372036854775807)∧(v6.oneCell'=true∧RoB I v6 a.entry.name)∧(v7.oneCell'=true∧RoB I v7 a.entry.value)∧(-9223372036854775808≤a.entry.who∧a.entry.who≤9223372036854775807)∧(-9223372036854775808≤a.entry.rights∧a.entry.rights≤9223372036854775807)∧(-9223372036854775808≤a.entry.epoch∧a.entry.epoch≤9223372036854775807)∧(v11.oneCell'=true∧RoX I v11 wrapR a.entry.wraps)∧(v12.oneCell'=true∧RoB I v12 a.data),fun k h=>by obtain ⟨v6,v7,v11,v12,rfl,h0,h1,h2,h3,h4,h5,⟨o6,h6⟩,⟨o7,h7⟩,h8,h9,h10,⟨o11,h11⟩,⟨o12,h12⟩⟩:=h;exact ⟨v6,v7,v11,v12,rfl,h0,h1,h2,h3,h4,h5,⟨o6,h6.up k⟩,⟨o7,h7.up k⟩,h8,h9,h10,⟨o11,h11.up k⟩,⟨o12,h12.up k⟩⟩,
 fun h=>by obtain ⟨v6,v7,v11,v12,rfl,h0,h1,h2,h3,h4,h5,⟨o6,h6⟩,⟨o7,h7⟩,h8,h9,h10,⟨o11,h11⟩,⟨o12,h12⟩⟩:=h;rfl,fun h u hu=>by
  obtain ⟨v6,v7,v11,v12,rfl,h0,h1,h2,h3,h4,h5,⟨o6,h6⟩,⟨o7,h7⟩,h8,h9,h10,⟨o11,h11⟩,⟨o12,h12⟩⟩:=h
  simp only [List.mem_cons,List.not_mem_nil,or_false] at hu
  rcases hu with rfl | rfl | rfl | rfl | rfl | rfl | rfl | rfl | rfl | rfl | rfl | rfl | rfl<;>first | rfl | assumption⟩
abbrev opRC (a:OpT) (v6 v7 v11 v12:Value):List Value:=[.int .i64 a.kind,.int .i64 a.c,.int .i64 a.n,.int .i64 a.entry.kind,.int .i64 a.entry.writer,.int .i64 a.entry.seq,v6,v7,.int .i64 a.entry.who,.int .i64 a.entry.rights,.int .i64 a.entry.epoch,v11,v12]
abbrev opR0:List Value:=[.int .i64 0,.int .i64 0,.int .i64 0,.int .i64 0,.int .i64 0,.int .i64 0,.slice none 0 0,.slice none 0 0,.int .i64 0,.int .i64 0,.int .i64 0,.slice none 0 0,.slice none 0 0]
theorem PkDelI_c (v:Value) (l:List PackT) (i:Int) (k:Int) (I:Gh) (R:List HP) (w:World) (S:Sat w I (OwnX 46 packR v l::R)) (hi:0≤i∧i<(l.length:Int)) (hl:l.length≤100000) (hk:k=i+1):Ret Tryz.prog 41 [v,.int .i64 i,.int .i64 k] w fun v' w'=>∃v1:Value,v1=v'∧Sat w' I (OwnX 46 packR v1 (l.eraseIdx i.toNat)::R):=by
 obtain ⟨m,rfl⟩:∃m:Nat,i=(m:Int):=⟨i.toNat,by omega⟩
 exact PkDel_c v l m k I R w S (by omega) hl hk
theorem WPosted_c (q:Value) (bs:List (Nat×Nat)) (p:Value) (W:Wld) (L:List Thing) (co:List Value) (o:OpT) (I:Gh) (R:List HP) (w:World) (S:Sat w I (WldO q bs p W::Suite p L::R)) (ho:opR.r I co o) (hsl:W.sent.length≤1000) (hl:L.length≤500000) (hT:TxtOk L):Ret Tryz.prog 30 [q,.agg co.toArray] w fun v w'=>∃v1:Value,∃J:Gh,Gh.le I J∧.agg [.int .i64 ((W.postA L o).e),v1].toArray=v∧Sat w' J (Own 30 1 v1 ((W.postA L o).outs).length (((W.postA L o).outs).map (Value.int .i64))::WldO q bs p ((W.postS L o).2)::Suite p ((W.postS L o).1)::R):=by
 obtain ⟨b,lv,sv,pv,ev,rfl,wok,hbl,Hl,S0⟩:=WldO.opn S
 have hsv:=SrvP.one S0.fr2
 have wp5:=wok.post
 have ws6:=wok.seats
 have hbm:(bs.map Prod.fst).length=W.seats.length:=by rw [List.length_map];exact hbl
 have hlv:=XRow.one (Hl.row S0.le)
 obtain ⟨v0,v2,v3,v4,rfl,r0,r1,r2,r3,r4,r5,⟨o0,H0⟩,⟨o1,H1⟩,r6,r7,r8,⟨o2,H2⟩,⟨o3,H3⟩⟩:=ho
 refine ret_E Tryz.func30 rfl Tryz.ntmps30 (by simp) ?_
 refine g2 ?_
 refine yB (cs:=[.int .i64 o.kind,.int .i64 o.c,.int .i64 o.n,.int .i64 o.entry.kind,.int .i64 o.entry.writer,.int .i64 o.entry.seq,v0,v2,.int .i64 o.entry.who,.int .i64 o.entry.rights,.int .i64 o.entry.epoch,v3,v4]) S0 ?_
 intro b0 w0 S1
 refine yN [.int .i64 0,.slice none 0 0] S1 ?_
 intro b1 w1 S2
 refine g4 ?_
 refine EC_quietB (by kernel_rfl) (by kernel_rfl) ?_
 refine g10 ?_
 refine EQ_gite 9 rfl rfl rfl (.int .i64 (W.post.length:Int)) rfl (fun g52 _ hw=>r_lenX (cond_of g52 rfl) (XRow.below (OwnX.row S2 5 rfl (by decide)).1 (hp_below hw)) U39) ?_
 refine g2 ?_
 refine yE S2 ?_
 intro w2 S3
 refine g1 ?_
 refine EC_cond (t:=(decide (o.n<0))||(decide ((W.post.length:Int)≤o.n))) rfl (fun h0=>?_) (fun h0=>?_)
 have hbad:o.n<0∨(W.post.length:Int)≤o.n:=by simpa using h0
 have hpo:=post_bad (L:=L) hbad
 refine g2 ?_
 refine vl _ rfl (gB [.int .i64 60,.slice none 0 0] st_43 (parts1 rfl) (fill_one rfl rfl rfl fill_end)) ?_
 refine yW0 S3 ?_
 intro w3 S4
 refine g4 ?_
 refine f1c Tryz.results30 ?_
 have S5:Sat _ _ (Own 30 1 (.slice none 0 0) (([]:List Int)).length ((([]:List Int)).map (Value.int .i64))::_):=S4.nil 30 1
 have hE:(W.postA L o).e=60:=by rw [hpo.1]
 have q0:([]:List Int)=(W.postA L o).outs:=by rw [hpo.1]
 have S6:Sat w3 I (Own 30 1 (.slice none 0 0) ((W.postA L o).outs).length (((W.postA L o).outs).map (Value.int .i64))::Blk b1 43 [.int .i64 60,.slice none 0 0]::Blk b0 38 [.int .i64 o.kind,.int .i64 o.c,.int .i64 o.n,.int .i64 o.entry.kind,.int .i64 o.entry.writer,.int .i64 o.entry.seq,v0,v2,.int .i64 o.entry.who,.int .i64 o.entry.rights,.int .i64 o.entry.epoch,v3,v4]::Blk b 72 [lv,sv,pv,ev]::SeatsQ bs p W.seats::SrvP sv W.srv::OwnX 46 packR pv W.post::OwnX 33 bytesR ev W.sent::Suite p L::R):=S5.as 0 rfl (congrArg (fun zz=>Own 30 1 (.slice none 0 0) (zz).length ((zz).map (Value.int .i64))) q0)
 have S7:Sat _ _ (WldO (ptr b) bs p W::_):=WldO.cls (W:=W) wok hbl Hl S6.fr7.fr7.fr7.fr7.fr7
 have q1:W=(W.postS L o).2:=by rw [hpo.2]
 have S8:=Sat.ah0 (WldO (ptr b) bs p) S7 q1
 have q2:L=(W.postS L o).1:=by rw [hpo.2]
 have S9:=Sat.ah4 (Suite p) S8 q2
 exact ⟨(.slice none 0 0),I,(Gh.le_refl _),(by rw [hE]),S9.dr2.dr2.fr2.fr1.fr2⟩
 have hbad:¬(o.n<0∨(W.post.length:Int)≤o.n):=by have h:=h0;simp at h;omega
 refine g3 ?_
 have S10:=S3.fr5
 obtain ⟨xs0,hx0,S11⟩:=OwnY.of S10
 obtain ⟨a0,ha0⟩:=get_some (l:=W.post) (j:=(o.n:Int).toNat) as'
 obtain ⟨cs0,hj0,hc0⟩:=hx0.get ha0
 obtain ⟨v5,rfl,r9,⟨o4,H4⟩⟩:=hc0
 skip
 refine yJ 9 (fun w'=>Arr w' b 72 [lv,sv,pv,ev]∧Arr w' b0 38 [.int .i64 o.kind,.int .i64 o.c,.int .i64 o.n,.int .i64 o.entry.kind,.int .i64 o.entry.writer,.int .i64 o.entry.seq,v0,v2,.int .i64 o.entry.who,.int .i64 o.entry.rights,.int .i64 o.entry.epoch,v3,v4]∧XRow w' pv 3 W.post.length∧ElAt w' pv packR.sz (o.n:Int).toNat (packRC a0 v5)) S11 ?_
 intro w4 S12
 refine yT 0 S12.le ⟨S12.a3,S12.a2,(OwnY.row S12 0 rfl (by decide)),OwnY.at S12 0 rfl (by decide) hj0⟩ ?_
 refine yT 1 S12.le ⟨S12.a3,S12.a2,(OwnY.row S12 0 rfl (by decide)),OwnY.at S12 0 rfl (by decide) hj0⟩ ?_
 refine yT 2 S12.le ⟨S12.a3,S12.a2,(OwnY.row S12 0 rfl (by decide)),OwnY.at S12 0 rfl (by decide) hj0⟩ ?_
 refine yT 3 S12.le ⟨S12.a3,S12.a2,(OwnY.row S12 0 rfl (by decide)),OwnY.at S12 0 rfl (by decide) hj0⟩ ?_
 refine yT 4 S12.le ⟨S12.a3,S12.a2,(OwnY.row S12 0 rfl (by decide)),OwnY.at S12 0 rfl (by decide) hj0⟩ ?_
 refine yT 5 S12.le ⟨S12.a3,S12.a2,(OwnY.row S12 0 rfl (by decide)),OwnY.at S12 0 rfl (by decide) hj0⟩ ?_
 refine jT 6 rfl (by kernel_rfl) (ptr (blkOf pv) (offOf pv+(o.n:Int).toNat*3)) rfl (fun _ hw ht=>r_indexX rfl ht.2.2.1 rfl (by omega) as' U39 (by kernel_rfl)) ⟨S12.le,fun h=>⟨S12.a3,S12.a2,(OwnY.row S12 0 rfl (by decide)),OwnY.at S12 0 rfl (by decide) hj0⟩⟩ ?_
 refine jT 7 rfl (by kernel_rfl) (.agg ((packRC a0 v5)).toArray) rfl (fun _ hw ht=>r_loadR (cs:=(packRC a0 v5)) rfl ht.2.2.2 U46 rfl (by kernel_rfl)) ⟨S12.le,fun h=>⟨S12.a3,S12.a2,(OwnY.row S12 0 rfl (by decide)),OwnY.at S12 0 rfl (by decide) hj0⟩⟩ ?_
 refine y1 8 ?_
 refine yN packR0 S12 ?_
 intro b2 w5 S13
 refine yn S13.le ⟨S13.a4,S13.a3,(OwnY.row S13 1 rfl (by decide)),OwnY.at S13 1 rfl (by decide) hj0⟩ ?_
 refine y1 9 ?_
 refine yW0 S13 ?_ (h1:=ones_cons rfl (ones_cons rfl (ones_cons o4 ones_nil)))
 intro w6 S14
 refine ym S14.le ?_
 refine yd ?_
 refine g3 ?_
 have S15:Sat w6 I (OwnX 46 packR pv W.post::Blk b2 46 (packRC a0 v5)::Blk b1 43 [.int .i64 0,.slice none 0 0]::Blk b0 38 [.int .i64 o.kind,.int .i64 o.c,.int .i64 o.n,.int .i64 o.entry.kind,.int .i64 o.entry.writer,.int .i64 o.entry.seq,v0,v2,.int .i64 o.entry.who,.int .i64 o.entry.rights,.int .i64 o.entry.epoch,v3,v4]::Blk b 72 [lv,sv,pv,ev]::SeatsQ bs p W.seats::SrvP sv W.srv::OwnX 33 bytesR ev W.sent::Suite p L::R):=OwnY.to S14.fr1
 have hpo:=post_at (L:=L) hbad ha0
 have hpm:=List.mem_of_getElem? ha0
 have hpk:=wok.pk a0 hpm
 skip
 refine g6 ?_
 refine EC_if rfl (fun h2=>?_) (fun h2=>?_)
 have hk7:o.kind=7:=h2
 refine g7 ?_
 refine vl _ rfl (r_lenX rfl (OwnX.row S15 0 rfl (by decide)).1 U39) ?_
 refine g3 ?_
 refine EC_if rfl (fun h3=>?_) (fun h3=>?_)
 have h512:W.post.length=512:=by have h:=h3;omega
 refine g2 ?_
 refine vl _ rfl (gB [.int .i64 33,.slice none 0 0] st_43 (parts1 rfl) (fill_one rfl rfl rfl fill_end)) ?_
 refine yW2 S15 ?_
 intro w7 S16
 refine g5 ?_
 refine f1c Tryz.results30 ?_
 have S17:Sat _ _ (Own 30 1 (.slice none 0 0) (([]:List Int)).length ((([]:List Int)).map (Value.int .i64))::_):=S16.nil 30 1
 have hE:(W.postA L o).e=33:=by rw [hpo.1,if_pos hk7,if_pos h512]
 have q3:([]:List Int)=(W.postA L o).outs:=by rw [hpo.1,if_pos hk7,if_pos h512]
 have S18:Sat w7 I (Own 30 1 (.slice none 0 0) ((W.postA L o).outs).length (((W.postA L o).outs).map (Value.int .i64))::OwnX 46 packR pv W.post::Blk b2 46 (packRC a0 v5)::Blk b1 43 [.int .i64 33,.slice none 0 0]::Blk b0 38 [.int .i64 o.kind,.int .i64 o.c,.int .i64 o.n,.int .i64 o.entry.kind,.int .i64 o.entry.writer,.int .i64 o.entry.seq,v0,v2,.int .i64 o.entry.who,.int .i64 o.entry.rights,.int .i64 o.entry.epoch,v3,v4]::Blk b 72 [lv,sv,pv,ev]::SeatsQ bs p W.seats::SrvP sv W.srv::OwnX 33 bytesR ev W.sent::Suite p L::R):=S17.as 0 rfl (congrArg (fun zz=>Own 30 1 (.slice none 0 0) (zz).length ((zz).map (Value.int .i64))) q3)
 have S19:Sat _ _ (WldO (ptr b) bs p W::_):=WldO.cls (W:=W) wok hbl Hl S18.fr8.fr2.fr8.fr8.fr8
 have q4:W=(W.postS L o).2:=by rw [hpo.2,if_pos hk7,if_pos h512]
 have S20:=Sat.ah0 (WldO (ptr b) bs p) S19 q4
 have q5:L=(W.postS L o).1:=by rw [hpo.2,if_pos hk7,if_pos h512]
 have S21:=Sat.ah5 (Suite p) S20 q5
 exact ⟨(.slice none 0 0),I,(Gh.le_refl _),(by rw [hE]),S21.dr2.dr2.dr2.fr2.fr1.fr2⟩
 have h512:¬W.post.length=512:=by have h:=h3;omega
 refine g3 ?_
 refine yJ 10 (fun w'=>Arr w' b 72 [lv,sv,pv,ev]∧Arr w' b2 46 (packRC a0 v5)) S15 ?_
 intro w8 S22
 refine yT 0 S22.le ⟨S22.a4,S22.a1⟩ ?_
 refine yT 1 S22.le ⟨S22.a4,S22.a1⟩ ?_
 refine yT 2 S22.le ⟨S22.a4,S22.a1⟩ ?_
 refine yT 3 S22.le ⟨S22.a4,S22.a1⟩ ?_
 refine yT 4 S22.le ⟨S22.a4,S22.a1⟩ ?_
 refine yT 5 S22.le ⟨S22.a4,S22.a1⟩ ?_
 refine y1 6 ?_
 refine EL_litW (z:=#[.int .i64 0,.bool false,.slice none 0 0]) (cs:=([.int .i64 a0.c,.bool a0.up,v5]).toArray) (sz:=3) (l:=[(0,.agg ((packRC a0 v5)).toArray)]) rfl U39 (by kernel_rfl) (parts1 rfl) (by kernel_rfl) rfl (by decide) ?_
 intro v6 w9 O0 B0 k0
 have S23:Sat _ _ (OwnX 46 packR v6 [a0]::_):=OwnX.cls (xss:=[(packRC a0 v5)]) (.cons ⟨v5,rfl,ad,⟨o4,H4⟩⟩ .nil) (S22.newO B0 O0)
 refine yn S23.le ⟨S23.a5,S23.a2⟩ ?_
 refine y1 7 ?_
 have oH155:=(OwnX.one S23 0 rfl (by decide))
 obtain ⟨I0,le0,S24,H5⟩:=S23.fx0 (by decide)
 refine EL_appX (z:=(.agg #[.int .i64 0,.bool false,.slice none 0 0])) (bytes:=40) rfl U39 (by kernel_rfl) rfl (by decide) rfl rfl S24 H5 ac ac ?_
 intro v7 w10 S25
 refine yn (lT le0 S25.le) ⟨S25.a4,S25.a1⟩ ?_
 refine yu le0 ?_
 refine yT 8 S25.le ⟨S25.a4,S25.a1⟩ ?_
 refine yT 9 S25.le ⟨S25.a4,S25.a1⟩ ?_
 refine y1 10 ?_
 refine yS4 S25 ?_ (hu:=OwnX.one S25 0 rfl (by decide))
 intro w11 S26
 refine ym S26.le ?_
 refine yd ?_
 refine g3 ?_
 refine vl _ rfl (gB [.int .i64 0,.slice none 0 0] st_43 rfl fill_end) ?_
 refine yW2 S26 ?_
 intro w12 S27
 refine g4 ?_
 refine f1c Tryz.results30 ?_
 have S28:Sat _ _ (Own 30 1 (.slice none 0 0) (([]:List Int)).length ((([]:List Int)).map (Value.int .i64))::_):=S27.nil 30 1
 have hE:(W.postA L o).e=0:=by rw [hpo.1,if_pos hk7,if_neg h512]
 have q6:([]:List Int)=(W.postA L o).outs:=by rw [hpo.1,if_pos hk7,if_neg h512]
 have S29:Sat w12 I0 (Own 30 1 (.slice none 0 0) ((W.postA L o).outs).length (((W.postA L o).outs).map (Value.int .i64))::OwnX 46 packR v7 (W.post++[a0])::Blk b2 46 (packRC a0 v5)::Blk b1 43 [.int .i64 0,.slice none 0 0]::Blk b0 38 [.int .i64 o.kind,.int .i64 o.c,.int .i64 o.n,.int .i64 o.entry.kind,.int .i64 o.entry.writer,.int .i64 o.entry.seq,v0,v2,.int .i64 o.entry.who,.int .i64 o.entry.rights,.int .i64 o.entry.epoch,v3,v4]::Blk b 72 [lv,sv,v7,ev]::SeatsQ bs p W.seats::SrvP sv W.srv::OwnX 33 bytesR ev W.sent::Suite p L::R):=S28.as 0 rfl (congrArg (fun zz=>Own 30 1 (.slice none 0 0) (zz).length ((zz).map (Value.int .i64))) q6)
 have S30:Sat _ _ (WldO (ptr b) bs p ({ W with post:=W.post++[a0] }:Wld)::_):=WldO.cls (W:=({ W with post:=W.post++[a0] }:Wld)) (wok.twice (by omega) hpm) hbl (Hl.up le0) S29.fr8.fr2.fr8.fr8.fr8
 have q7:({ W with post:=W.post++[a0] }:Wld)=(W.postS L o).2:=by rw [hpo.2,if_pos hk7,if_neg h512]
 have S31:=Sat.ah0 (WldO (ptr b) bs p) S30 q7
 have q8:L=(W.postS L o).1:=by rw [hpo.2,if_pos hk7,if_neg h512]
 have S32:=Sat.ah5 (Suite p) S31 q8
 exact ⟨(.slice none 0 0),I0,le0,(by rw [hE]),S32.dr2.dr2.dr2.fr2.fr1.fr2⟩
 have hk7:¬o.kind=7:=h2
 refine g3 ?_
 refine yJ 13 (fun w'=>Arr w' b 72 [lv,sv,pv,ev]∧Arr w' b0 38 [.int .i64 o.kind,.int .i64 o.c,.int .i64 o.n,.int .i64 o.entry.kind,.int .i64 o.entry.writer,.int .i64 o.entry.seq,v0,v2,.int .i64 o.entry.who,.int .i64 o.entry.rights,.int .i64 o.entry.epoch,v3,v4]) S15 ?_
 intro w13 S33
 refine yT 0 S33.le ⟨S33.a4,S33.a3⟩ ?_
 refine yT 1 S33.le ⟨S33.a4,S33.a3⟩ ?_
 refine yT 2 S33.le ⟨S33.a4,S33.a3⟩ ?_
 refine yT 3 S33.le ⟨S33.a4,S33.a3⟩ ?_
 refine yT 4 S33.le ⟨S33.a4,S33.a3⟩ ?_
 refine yT 5 S33.le ⟨S33.a4,S33.a3⟩ ?_
 refine yT 6 S33.le ⟨S33.a4,S33.a3⟩ ?_
 refine yT 7 S33.le ⟨S33.a4,S33.a3⟩ ?_
 refine yT 8 S33.le ⟨S33.a4,S33.a3⟩ ?_
 obtain ⟨x0,hx188⟩:∃z:Int,z=o.n+1:=⟨_,rfl⟩
 refine jT 9 rfl (by kernel_rfl) (.int .i64 x0) rfl (fun _ hw ht=>by rw [hx188];exact r_addi rfl rfl (by omega)) ⟨S33.le,fun h=>⟨S33.a4,S33.a3⟩⟩ ?_
 refine y1 10 ?_
 refine yR (PkDelI_c _ _ o.n x0 _ _ _ S33 (by omega) au (by assumption)) ?_
 rintro _ w14 ⟨v8,rfl,S34⟩
 refine yn S34.le ⟨S34.a4,S34.a3⟩ ?_
 refine yT 11 S34.le ⟨S34.a4,S34.a3⟩ ?_
 refine yT 12 S34.le ⟨S34.a4,S34.a3⟩ ?_
 refine y1 13 ?_
 refine yS4 S34 ?_ (hu:=OwnX.one S34 0 rfl (by decide))
 intro w15 S35
 refine ym S35.le ?_
 refine yd ?_
 refine g9 ?_
 refine EC_if rfl (fun h4=>?_) (fun h4=>?_)
 have hk6:o.kind=6:=h4
 refine g2 ?_
 refine vl _ rfl (gB [.int .i64 0,.slice none 0 0] st_43 rfl fill_end) ?_
 refine yW2 S35 ?_
 intro w16 S36
 refine g4 ?_
 refine f1c Tryz.results30 ?_
 have S37:Sat _ _ (Own 30 1 (.slice none 0 0) (([]:List Int)).length ((([]:List Int)).map (Value.int .i64))::_):=S36.nil 30 1
 have hE:(W.postA L o).e=0:=by rw [hpo.1,if_neg hk7,if_pos hk6]
 have q9:([]:List Int)=(W.postA L o).outs:=by rw [hpo.1,if_neg hk7,if_pos hk6]
 have S38:Sat w16 I (Own 30 1 (.slice none 0 0) ((W.postA L o).outs).length (((W.postA L o).outs).map (Value.int .i64))::OwnX 46 packR v8 (W.post.eraseIdx o.n.toNat)::Blk b2 46 (packRC a0 v5)::Blk b1 43 [.int .i64 0,.slice none 0 0]::Blk b0 38 [.int .i64 o.kind,.int .i64 o.c,.int .i64 o.n,.int .i64 o.entry.kind,.int .i64 o.entry.writer,.int .i64 o.entry.seq,v0,v2,.int .i64 o.entry.who,.int .i64 o.entry.rights,.int .i64 o.entry.epoch,v3,v4]::Blk b 72 [lv,sv,v8,ev]::SeatsQ bs p W.seats::SrvP sv W.srv::OwnX 33 bytesR ev W.sent::Suite p L::R):=S37.as 0 rfl (congrArg (fun zz=>Own 30 1 (.slice none 0 0) (zz).length ((zz).map (Value.int .i64))) q9)
 have S39:Sat _ _ (WldO (ptr b) bs p ({ W with post:=W.post.eraseIdx o.n.toNat }:Wld)::_):=WldO.cls (W:=({ W with post:=W.post.eraseIdx o.n.toNat }:Wld)) wok.less hbl Hl S38.fr8.fr2.fr8.fr8.fr8
 have q10:({ W with post:=W.post.eraseIdx o.n.toNat }:Wld)=(W.postS L o).2:=by rw [hpo.2,if_neg hk7,if_pos hk6]
 have S40:=Sat.ah0 (WldO (ptr b) bs p) S39 q10
 have q11:L=(W.postS L o).1:=by rw [hpo.2,if_neg hk7,if_pos hk6]
 have S41:=Sat.ah5 (Suite p) S40 q11
 exact ⟨(.slice none 0 0),I,(Gh.le_refl _),(by rw [hE]),S41.dr2.dr2.dr2.fr2.fr1.fr2⟩
 have hk6:¬o.kind=6:=h4
 refine g3 ?_
 have S42:Sat _ _ (WldO (ptr b) bs p ({ W with post:=W.post.eraseIdx o.n.toNat }:Wld)::_):=WldO.cls (W:=({ W with post:=W.post.eraseIdx o.n.toNat }:Wld)) wok.less hbl Hl S35.fr7.fr1.fr7.fr7.fr7
 skip
 refine g3 ?_
 refine yR (WArr_c _ _ _ _ _ (packRC a0 v5) a0 _ _ _ S42.fr4.fr1 ⟨v5,rfl,ad,⟨o4,H4⟩⟩ hpk.1 au au au) ?_
 rintro _ w17 ⟨v9,I1,le1,rfl,S43⟩
 refine yW4 S43 ?_ (h1:=ones_cons rfl (ones_cons (own_one (S43.own 0 rfl)) ones_nil))
 intro w18 S44
 refine g3 ?_
 refine f1c Tryz.results30 ?_
 have hE:(W.postA L o).e=((({ W with post:=W.post.eraseIdx o.n.toNat }:Wld).arrA L a0).e):=by rw [hpo.1,if_neg hk7,if_neg hk6]
 have q12:(({ W with post:=W.post.eraseIdx o.n.toNat }:Wld).arrA L a0).outs=(W.postA L o).outs:=by rw [hpo.1,if_neg hk7,if_neg hk6]
 have S45:Sat w18 I1 (Own 30 1 v9 ((W.postA L o).outs).length (((W.postA L o).outs).map (Value.int .i64))::WldO (ptr b) bs p ((({ W with post:=W.post.eraseIdx o.n.toNat }:Wld).arrS L a0).2)::Suite p ((({ W with post:=W.post.eraseIdx o.n.toNat }:Wld).arrS L a0).1)::Blk b2 46 (packRC a0 v5)::Blk b1 43 [.int .i64 ((({ W with post:=W.post.eraseIdx o.n.toNat }:Wld).arrA L a0).e),v9]::Blk b0 38 [.int .i64 o.kind,.int .i64 o.c,.int .i64 o.n,.int .i64 o.entry.kind,.int .i64 o.entry.writer,.int .i64 o.entry.seq,v0,v2,.int .i64 o.entry.who,.int .i64 o.entry.rights,.int .i64 o.entry.epoch,v3,v4]::R):=S44.as 0 rfl (congrArg (fun zz=>Own 30 1 v9 (zz).length ((zz).map (Value.int .i64))) q12)
 have q13:(({ W with post:=W.post.eraseIdx o.n.toNat }:Wld).arrS L a0).2=(W.postS L o).2:=by rw [hpo.2,if_neg hk7,if_neg hk6]
 have S46:=Sat.ah1 (WldO (ptr b) bs p) S45 q13
 have q14:(({ W with post:=W.post.eraseIdx o.n.toNat }:Wld).arrS L a0).1=(W.postS L o).1:=by rw [hpo.2,if_neg hk7,if_neg hk6]
 have S47:=Sat.ah2 (Suite p) S46 q14
 exact ⟨v9,I1,le1,(by rw [hE]),S47.dr3.dr3.dr3⟩
end Go.Proofs.YthddplghlljdbaaGreat

set_option maxRecDepth 100000
set_option maxHeartbeats 4000000
namespace Go.Proofs.YthddplghlljdbaaGreat
open Go.RowKit Go.Ecal
theorem WCmp_c (q:Value) (bs:List (Nat×Nat)) (p:Value) (W:Wld) (a:Nat) (cb:Nat) (i:Int) (x:Seat) (n:Int) (I:Gh) (R:List HP) (w:World) (S:Sat w I (WldO q bs p W::R)) (hb:bs[i.toNat]?=some (a,cb)) (hx:W.seat i=some x):Ret Tryz.prog 49 [q,ptr a,.int .i64 n] w fun v w'=>∃J:Gh,Gh.le I J∧.int .i64 (W.cmpA x n)=v∧Sat w' J (WldO q bs p (W.cmpS i x n)::R):=by
 obtain ⟨b,lv,sv,pv,ev,rfl,wok,hbl,Hl,S0⟩:=WldO.opn S
 have hsv:=SrvP.one S0.fr2
 have wp5:=wok.post
 have ws6:=wok.seats
 have hbm:(bs.map Prod.fst).length=W.seats.length:=by rw [List.length_map];exact hbl
 have hlv:=XRow.one (Hl.row S0.le)
 have hxs:=(Wld.seat_at hx).2.2
 refine ret_E Tryz.func49 rfl Tryz.ntmps49 (by simp) ?_
 refine g6 ?_
 rcases hsn:W.seat n with _ | y
 have hni:=Wld.seat_none hsn
 refine g3 ?_
 refine yR (WSeatF_c _ _ _ _ _ bs n _ _ _ S0 Hl (by rw [hbm];exact hni)) ?_
 rintro _ w0 ⟨rfl,S1⟩
 refine g8 ?_
 refine vl (.bool true) rfl (r_eqnn rfl rfl U77) ?_
 refine g12 ?_
 refine f1 Tryz.results49 ?_
 have hE:W.cmpA x n=32:=by unfold Wld.cmpA;rw [hsn]
 have S2:Sat w0 I (WldO (ptr b) bs p W::R):=WldO.cls (W:=W) wok hbl Hl S1
 have q0:W=W.cmpS i x n:=by unfold Wld.cmpS;rw [hsn]
 have S3:=Sat.ah0 (WldO (ptr b) bs p) S2 q0
 exact ⟨I,(Gh.le_refl _),(by rw [hE]),S3⟩
 have hy3:=Wld.seat_at hsn
 refine g3 ?_
 refine yR (WSeatT_c _ _ _ _ _ bs n _ _ _ S0 Hl (by rw [hbm];exact ⟨hy3.1,hy3.2.1⟩)) ?_
 rintro _ w1 ⟨a0,rfl,h0,S4⟩
 obtain ⟨cy,hby⟩:=seat_get h0
 refine g8 ?_
 refine vl (.bool false) rfl (r_eqptrnil rfl rfl U77) ?_
 refine g5 ?_
 refine EC_quietB (by kernel_rfl) (by kernel_rfl) ?_
 refine g4 ?_
 refine EQ_val (.int .i64 y.c.coll) rfl (fun _ hw=>r_loadA rfl ((SeatsQ.arr (k:=1) S4 rfl hby hy3.2.2).below hw) (u:=(.int .i64 y.c.coll)) rfl U3 rfl) ?_
 refine g4 ?_
 refine EQ_val (.int .i64 x.c.coll) rfl (fun _ hw=>r_loadA rfl ((SeatsQ.arr (k:=1) S4 rfl hb hxs).below hw) (u:=(.int .i64 x.c.coll)) rfl U3 rfl) ?_
 refine g2 ?_
 refine yE S4 ?_
 intro w2 S5
 refine g1 ?_
 refine EC_if rfl (fun h1=>?_) (fun h1=>?_)
 have hoc:y.c.coll≠x.c.coll:=h1
 refine g8 ?_
 refine f1 Tryz.results49 ?_
 have hE:W.cmpA x n=40:=by unfold Wld.cmpA;rw [hsn];dsimp only;rw [if_pos hoc]
 have S6:Sat w2 I (WldO (ptr b) bs p W::R):=WldO.cls (W:=W) wok hbl Hl S5
 have q1:W=W.cmpS i x n:=by unfold Wld.cmpS;rw [hsn];dsimp only;rw [if_pos hoc]
 have S7:=Sat.ah0 (WldO (ptr b) bs p) S6 q1
 exact ⟨I,(Gh.le_refl _),(by rw [hE]),S7⟩
 have hoc:¬y.c.coll≠x.c.coll:=h1
 refine g4 ?_
 refine yJ 9 (fun w'=>Arr w' a 79 [ptr cb,.int .i64 x.c.coll,.int .i64 x.c.founder,.int .i64 x.c.who,.int .i64 x.branch]∧Arr w' a0 79 [ptr cy,.int .i64 y.c.coll,.int .i64 y.c.founder,.int .i64 y.c.who,.int .i64 y.branch]) S5 ?_
 intro w3 S8
 refine yT 0 S8.le ⟨(SeatsQ.arr (k:=1) S8 rfl hb hxs),(SeatsQ.arr (k:=1) S8 rfl hby hy3.2.2)⟩ ?_
 refine yT 1 S8.le ⟨(SeatsQ.arr (k:=1) S8 rfl hb hxs),(SeatsQ.arr (k:=1) S8 rfl hby hy3.2.2)⟩ ?_
 refine yT 2 S8.le ⟨(SeatsQ.arr (k:=1) S8 rfl hb hxs),(SeatsQ.arr (k:=1) S8 rfl hby hy3.2.2)⟩ ?_
 refine yT 3 S8.le ⟨(SeatsQ.arr (k:=1) S8 rfl hb hxs),(SeatsQ.arr (k:=1) S8 rfl hby hy3.2.2)⟩ ?_
 refine yT 4 S8.le ⟨(SeatsQ.arr (k:=1) S8 rfl hb hxs),(SeatsQ.arr (k:=1) S8 rfl hby hy3.2.2)⟩ ?_
 refine yT 5 S8.le ⟨(SeatsQ.arr (k:=1) S8 rfl hb hxs),(SeatsQ.arr (k:=1) S8 rfl hby hy3.2.2)⟩ ?_
 refine yT 6 S8.le ⟨(SeatsQ.arr (k:=1) S8 rfl hb hxs),(SeatsQ.arr (k:=1) S8 rfl hby hy3.2.2)⟩ ?_
 refine yT 7 S8.le ⟨(SeatsQ.arr (k:=1) S8 rfl hb hxs),(SeatsQ.arr (k:=1) S8 rfl hby hy3.2.2)⟩ ?_
 refine y1 8 ?_
 have S9:Sat w3 I (Blk a0 79 [ptr cy,.int .i64 y.c.coll,.int .i64 y.c.founder,.int .i64 y.c.who,.int .i64 y.branch]::CliP (ptr cy) p y.c::SeatsQ (bs.eraseIdx n.toNat) p (W.seats.eraseIdx n.toNat)::Blk b 72 [lv,sv,pv,ev]::SrvP sv W.srv::OwnX 46 packR pv W.post::OwnX 33 bytesR ev W.sent::R):=SeatsQ.open hby hy3.2.2 S8.fr1
 refine yR (LHead_c _ _ _ _ _ _ S9.fr1) ?_
 rintro _ w4 ⟨cs0,I0,le0,rfl,h2,S10⟩
 obtain ⟨v0,rfl,r0,⟨o0,H0⟩⟩:=h2
 have S11:Sat w4 I0 (SeatsQ bs p W.seats::Blk b 72 [lv,sv,pv,ev]::SrvP sv W.srv::OwnX 46 packR pv W.post::OwnX 33 bytesR ev W.sent::R):=SeatsQ.same hby hy3.2.2 S10.fr2.fr1.fr2
 refine yn (lT le0 S11.le) ⟨(SeatsQ.arr (k:=0) S11 rfl hb hxs),(SeatsQ.arr (k:=0) S11 rfl hby hy3.2.2)⟩ ?_
 refine yu le0 ?_
 refine y1 9 ?_
 have S12:Sat w4 I0 (Blk a 79 [ptr cb,.int .i64 x.c.coll,.int .i64 x.c.founder,.int .i64 x.c.who,.int .i64 x.branch]::CliP (ptr cb) p x.c::SeatsQ (bs.eraseIdx i.toNat) p (W.seats.eraseIdx i.toNat)::Blk b 72 [lv,sv,pv,ev]::SrvP sv W.srv::OwnX 46 packR pv W.post::OwnX 33 bytesR ev W.sent::R):=SeatsQ.open hb hxs S11
 refine yR (LCmp_c _ _ _ [.int .i64 ((atV y.c.r.ch (y.c.r.ch.links.length:Int)).index),v0] (atV y.c.r.ch (y.c.r.ch.links.length:Int)) _ _ _ S12.fr1 ⟨v0,rfl,ad,⟨o0,H0⟩⟩) ?_
 rintro _ w5 ⟨I1,le1,rfl,S13⟩
 refine ym (lT le1 S13.le) ?_
 refine yu le1 ?_
 refine yf 10 S13.le ?_
 refine yd ?_
 refine g2 ?_
 refine f1 Tryz.results49 ?_
 have hE:W.cmpA x n=(x.c.cmpE (atV y.c.r.ch (y.c.r.ch.links.length:Int)).index (atV y.c.r.ch (y.c.r.ch.links.length:Int)).sum):=by unfold Wld.cmpA;rw [hsn];dsimp only;rw [if_neg hoc]
 have S14:Sat w5 I1 (SeatsQ bs p (W.seats.set i.toNat ({ x with c:=x.c.cmpS (atV y.c.r.ch (y.c.r.ch.links.length:Int)).index (atV y.c.r.ch (y.c.r.ch.links.length:Int)).sum }))::Blk b 72 [lv,sv,pv,ev]::SrvP sv W.srv::OwnX 46 packR pv W.post::OwnX 33 bytesR ev W.sent::R):=SeatsQ.shutC hb hxs cmp_id S13.fr2.fr1.fr2
 have S15:Sat w5 I1 (WldO (ptr b) bs p (W.set i { x with c:=x.c.cmpS (atV y.c.r.ch (y.c.r.ch.links.length:Int)).index (atV y.c.r.ch (y.c.r.ch.links.length:Int)).sum })::R):=WldO.cls (W:=W.set i { x with c:=x.c.cmpS (atV y.c.r.ch (y.c.r.ch.links.length:Int)).index (atV y.c.r.ch (y.c.r.ch.links.length:Int)).sum }) (wok.set (Wld.seat_br (x:=x) wok hx)) (by simpa [Wld.set] using hbl) (Hl.up (lT le0 le1)) S14.fr4.fr4.fr4.fr3.fr4
 have q2:W.set i { x with c:=x.c.cmpS (atV y.c.r.ch (y.c.r.ch.links.length:Int)).index (atV y.c.r.ch (y.c.r.ch.links.length:Int)).sum }=W.cmpS i x n:=by unfold Wld.cmpS;rw [hsn];dsimp only;rw [if_neg hoc]
 have S16:=Sat.ah0 (WldO (ptr b) bs p) S15 q2
 exact ⟨I1,(lT le0 le1),(by rw [hE]),S16⟩
end Go.Proofs.YthddplghlljdbaaGreat
