import Derived.Test.YthddplghlljdbaaGreatQWorldPostWldB
set_option linter.unusedVariables false
set_option linter.unusedSimpArgs false
set_option maxRecDepth 100000
set_option maxHeartbeats 4000000
namespace Go.Proofs.YthddplghlljdbaaGreat
open Go.RowKit Go.Ecal
instance : Many Tryz.prog 43 2 := ⟨_, Tryz.underlying43, rfl, by kernel_rfl⟩
theorem WArr_c (q:Value) (bs:List (Nat×Nat)) (p:Value) (W:Wld) (L:List Thing) (cpk:List Value) (k:PackT) (I:Gh) (R:List HP) (w:World) (S:Sat w I (WldO q bs p W::Suite p L::R)) (hpk:packR.r I cpk k) (hkc:0≤k.c∧k.c<(W.seats.length:Int)) (hsl:W.sent.length≤1000) (hl:L.length≤500000) (hT:TxtOk L):Ret Tryz.prog 42 [q,.agg cpk.toArray] w fun v w'=>∃v1:Value,∃J:Gh,Gh.le I J∧.agg [.int .i64 ((W.arrA L k).e),v1].toArray=v∧Sat w' J (Own 30 1 v1 ((W.arrA L k).outs).length (((W.arrA L k).outs).map (Value.int .i64))::WldO q bs p ((W.arrS L k).2)::Suite p ((W.arrS L k).1)::R):=by
 obtain ⟨b,lv,sv,pv,ev,rfl,wok,hbl,Hl,S0⟩:=WldO.opn S
 have hsv:=SrvP.one S0.fr2
 have wp5:=wok.post
 have ws6:=wok.seats
 have hbm:(bs.map Prod.fst).length=W.seats.length:=by rw [List.length_map];exact hbl
 have hlv:=XRow.one (Hl.row S0.le)
 obtain ⟨x,hx⟩:=Wld.seat_some hkc
 have hxs:=(Wld.seat_at hx).2.2
 obtain ⟨v0,rfl,r0,⟨o0,H0⟩⟩:=hpk
 refine ret_E Tryz.func42 rfl Tryz.ntmps42 (by simp) ?_
 refine g2 ?_
 refine yB (cs:=packRC k v0) S0 ?_
 intro b0 w0 S1
 refine yN [.int .i64 0,.slice none 0 0] S1 ?_
 intro b1 w1 S2
 refine g3 ?_
 refine EC_quietB (by kernel_rfl) (by kernel_rfl) ?_
 refine g6 ?_
 refine EQ_val (ptr (blkOf lv) (offOf lv+(k.c:Int).toNat*1)) rfl (fun _ hw=>r_indexX rfl (XRow.below (Hl.row S2.le) (hp_below hw)) rfl (by omega) as' U70 (by kernel_rfl)) ?_
 obtain ⟨a0,ha0⟩:=get_some (l:=bs.map Prod.fst) (j:=(k.c:Int).toNat) as'
 obtain ⟨cs0,hc0,he0⟩:=Hl.el ha0
 obtain rfl:=hc0
 refine EQ_val (ptr a0) rfl (fun _ hw=>r_load0 rfl (ElAt.below (he0 _ S2.le) (hp_below hw)) U77 rfl) ?_
 refine g1 ?_
 refine yE S2 ?_
 intro w2 S3
 refine g9 ?_
 refine EC_cond (t:=!k.up) rfl (fun h0=>?_) (fun h0=>?_)
 have hup:k.up=false:=by simpa using h0
 have harr:=arr_down (L:=L) hx hup
 refine g1 ?_
 obtain ⟨cb,hb⟩:=seat_get ha0
 have S4:Sat w2 I (Blk a0 79 [ptr cb,.int .i64 x.c.coll,.int .i64 x.c.founder,.int .i64 x.c.who,.int .i64 x.branch]::CliP (ptr cb) p x.c::SeatsQ (bs.eraseIdx k.c.toNat) p (W.seats.eraseIdx k.c.toNat)::Blk b1 43 [.int .i64 0,.slice none 0 0]::Blk b0 46 (packRC k v0)::Blk b 72 [lv,sv,pv,ev]::SrvP sv W.srv::OwnX 46 packR pv W.post::OwnX 33 bytesR ev W.sent::Suite p L::R):=SeatsQ.open hb hxs S3.fr3
 skip
 refine yJ 6 (fun w'=>Arr w' a0 79 [ptr cb,.int .i64 x.c.coll,.int .i64 x.c.founder,.int .i64 x.c.who,.int .i64 x.branch]∧Arr w' b0 46 (packRC k v0)) S4 ?_
 intro w3 S5
 refine yT 0 S5.le ⟨S5.a0,S5.a4⟩ ?_
 refine yT 1 S5.le ⟨S5.a0,S5.a4⟩ ?_
 refine yT 2 S5.le ⟨S5.a0,S5.a4⟩ ?_
 refine yT 3 S5.le ⟨S5.a0,S5.a4⟩ ?_
 refine yT 4 S5.le ⟨S5.a0,S5.a4⟩ ?_
 refine yT 5 S5.le ⟨S5.a0,S5.a4⟩ ?_
 refine y1 6 ?_
 refine yR (LTake_c _ _ _ _ _ _ _ _ _ S5.fr9.fr2 H0 au au) ?_
 rintro _ w4 ⟨v2,I0,le0,rfl,S6⟩
 refine ym (lT le0 S6.le) ?_
 refine yu le0 ?_
 refine yf 7 S6.le ?_
 refine yf 8 S6.le ?_
 refine yf 9 S6.le ?_
 refine yf 10 S6.le ?_
 refine yf 11 S6.le ?_
 refine yd ?_
 refine g5 ?_
 refine vl _ rfl (gB [.int .i64 (x.c.takeE k.data),v2] st_43 (parts2 rfl rfl) (fill_one rfl rfl rfl (fill_one rfl (one_cells (own_one (S6.own 0 rfl))) rfl fill_end))) ?_
 refine yW5 S6 ?_ (h1:=ones_cons rfl (ones_cons (own_one (S6.own 0 rfl)) ones_nil))
 intro w5 S7
 refine g4 ?_
 refine f1c Tryz.results42 ?_
 have S8:Sat w5 I0 (SeatsQ bs p (W.seats.set k.c.toNat ({ x with c:=(x.c.takeS L k.data).2 }))::Own 30 1 v2 (x.c.takeO L k.data).length ((x.c.takeO L k.data).map (Value.int .i64))::Suite p ((x.c.takeS L k.data).1)::Blk b1 43 [.int .i64 (x.c.takeE k.data),v2]::Blk b0 46 (packRC k v0)::Blk b 72 [lv,sv,pv,ev]::SrvP sv W.srv::OwnX 46 packR pv W.post::OwnX 33 bytesR ev W.sent::R):=SeatsQ.shutC hb hxs take_id S7.fr4.fr2.fr4
 have hE:(W.arrA L k).e=(x.c.takeE k.data):=by rw [harr.1]
 have q0:x.c.takeO L k.data=(W.arrA L k).outs:=by rw [harr.1]
 have S9:Sat w5 I0 (SeatsQ bs p (W.seats.set k.c.toNat ({ x with c:=(x.c.takeS L k.data).2 }))::Own 30 1 v2 ((W.arrA L k).outs).length (((W.arrA L k).outs).map (Value.int .i64))::Suite p ((x.c.takeS L k.data).1)::Blk b1 43 [.int .i64 (x.c.takeE k.data),v2]::Blk b0 46 (packRC k v0)::Blk b 72 [lv,sv,pv,ev]::SrvP sv W.srv::OwnX 46 packR pv W.post::OwnX 33 bytesR ev W.sent::R):=S8.as 1 rfl (congrArg (fun zz=>Own 30 1 v2 (zz).length ((zz).map (Value.int .i64))) q0)
 have S10:Sat _ _ (WldO (ptr b) bs p (W.set k.c { x with c:=(x.c.takeS L k.data).2 })::_):=WldO.cls (W:=(W.set k.c { x with c:=(x.c.takeS L k.data).2 })) (wok.set (Wld.seat_br (x:=x) wok hx)) (by simpa [Wld.set] using hbl) (Hl.up le0) S9.fr8.fr8.fr8.fr3.fr8
 have q1:(W.set k.c { x with c:=(x.c.takeS L k.data).2 })=(W.arrS L k).2:=by rw [harr.2]
 have S11:=Sat.ah0 (WldO (ptr b) bs p) S10 q1
 have q2:(x.c.takeS L k.data).1=(W.arrS L k).1:=by rw [harr.2]
 have S12:=Sat.ah2 (Suite p) S11 q2
 exact ⟨v2,I0,le0,(by rw [hE]),S12.dr3.dr3.fr2.fr1.fr2⟩
 have hup:k.up=true:=by simpa using h0
 have harr:=arr_up (L:=L) hx hup
 refine g3 ?_
 obtain ⟨cb,hb⟩:=seat_get ha0
 have S13:Sat w2 I (Blk a0 79 [ptr cb,.int .i64 x.c.coll,.int .i64 x.c.founder,.int .i64 x.c.who,.int .i64 x.branch]::CliP (ptr cb) p x.c::SeatsQ (bs.eraseIdx k.c.toNat) p (W.seats.eraseIdx k.c.toNat)::Blk b1 43 [.int .i64 0,.slice none 0 0]::Blk b0 46 (packRC k v0)::Blk b 72 [lv,sv,pv,ev]::SrvP sv W.srv::OwnX 46 packR pv W.post::OwnX 33 bytesR ev W.sent::Suite p L::R):=SeatsQ.open hb hxs S3.fr3
 skip
 refine yJ 10 (fun w'=>Arr w' b 72 [lv,sv,pv,ev]∧Arr w' a0 79 [ptr cb,.int .i64 x.c.coll,.int .i64 x.c.founder,.int .i64 x.c.who,.int .i64 x.branch]∧Arr w' b0 46 (packRC k v0)) S13 ?_
 intro w6 S14
 refine yT 0 S14.le ⟨S14.a5,S14.a0,S14.a4⟩ ?_
 refine yT 1 S14.le ⟨S14.a5,S14.a0,S14.a4⟩ ?_
 refine yT 2 S14.le ⟨S14.a5,S14.a0,S14.a4⟩ ?_
 refine yT 3 S14.le ⟨S14.a5,S14.a0,S14.a4⟩ ?_
 refine yT 4 S14.le ⟨S14.a5,S14.a0,S14.a4⟩ ?_
 refine yT 5 S14.le ⟨S14.a5,S14.a0,S14.a4⟩ ?_
 refine yT 6 S14.le ⟨S14.a5,S14.a0,S14.a4⟩ ?_
 refine yT 7 S14.le ⟨S14.a5,S14.a0,S14.a4⟩ ?_
 refine yT 8 S14.le ⟨S14.a5,S14.a0,S14.a4⟩ ?_
 refine yT 9 S14.le ⟨S14.a5,S14.a0,S14.a4⟩ ?_
 refine y1 10 ?_
 refine yR (SHand_c _ _ x.branch _ _ _ _ _ S14.fr6 H0) ?_
 rintro _ w7 ⟨v3,I1,le1,rfl,h2,S15⟩
 have hnb:=h2
 refine ym (lT le1 S15.le) ?_
 refine yu le1 ?_
 refine yf 11 S15.le ?_
 refine yf 12 S15.le ?_
 refine yf 13 S15.le ?_
 refine yf 14 S15.le ?_
 refine yf 15 S15.le ?_
 refine yd ?_
 refine g5 ?_
 refine vl _ rfl (r_neqnil rfl (own_row (S15.own 0 rfl)) rfl U33) ?_
 refine g5 ?_
 refine EL_gite 50 rfl rfl rfl (.int .i64 (W.post.length:Int)) rfl (fun g92=>r_lenX (cond_of g92 rfl) (OwnX.row S15 8 rfl (by decide)).1 U39) ?_
 refine g4 ?_
 refine EC_cond (t:=(!(isNil v3))&&(decide ((W.post.length:Int)<512))) rfl (fun h3=>?_) (fun h3=>?_)
 have h193:=(nn_of (n:=W.post.length) hnb).1 h3
 refine yJ 13 (fun w'=>Arr w' b 72 [lv,sv,pv,ev]∧Arr w' b0 46 (packRC k v0)) S15 ?_
 intro w8 S16
 refine yT 0 S16.le ⟨S16.a7,S16.a6⟩ ?_
 refine yT 1 S16.le ⟨S16.a7,S16.a6⟩ ?_
 refine yT 2 S16.le ⟨S16.a7,S16.a6⟩ ?_
 refine yT 3 S16.le ⟨S16.a7,S16.a6⟩ ?_
 refine yT 4 S16.le ⟨S16.a7,S16.a6⟩ ?_
 refine yT 5 S16.le ⟨S16.a7,S16.a6⟩ ?_
 refine yT 6 S16.le ⟨S16.a7,S16.a6⟩ ?_
 refine yT 7 S16.le ⟨S16.a7,S16.a6⟩ ?_
 refine jT 8 rfl (by kernel_rfl) (.agg ([.int .i64 k.c,.bool false,v3]).toArray) rfl (fun _ hw ht=>r_buildS (l:=[(0,.int .i64 k.c),(1,.bool false),(2,v3)]) st_46 (parts3 rfl rfl rfl) (Eq.trans (show Instr.fill _ _ [(0,.int .i64 k.c),(1,.bool false),(2,v3)]=_ from (fill_one rfl rfl rfl (fill_one rfl rfl rfl (fill_one rfl (one_cells (own_one (S16.own 0 rfl))) rfl fill_end)))) (by kernel_rfl))) ⟨S16.le,fun h=>⟨S16.a7,S16.a6⟩⟩ ?_
 refine y1 9 ?_
 obtain ⟨I2,le2,S17,H1⟩:=S16.fb0
 refine EL_litW (z:=#[.int .i64 0,.bool false,.slice none 0 0]) (cs:=([.int .i64 k.c,.bool false,v3]).toArray) (sz:=3) (l:=[(0,.agg ([.int .i64 k.c,.bool false,v3]).toArray)]) rfl U39 (by kernel_rfl) (parts1 rfl) (by kernel_rfl) rfl (by decide) ?_
 intro v4 w9 O0 B0 k0
 have S18:Sat _ _ (OwnX 46 packR v4 [(⟨k.c,false,W.srv.handB x.branch k.data⟩:PackT)]::_):=OwnX.cls (xss:=[[.int .i64 k.c,.bool false,v3]]) (.cons ⟨v3,rfl,ad,⟨(row_one (H1 _ S17.le)),H1⟩⟩ .nil) (S17.newO B0 O0)
 refine yn (lT le2 S18.le) ⟨S18.a7,S18.a6⟩ ?_
 refine yu le2 ?_
 refine y1 10 ?_
 have oH114:=(OwnX.one S18 0 rfl (by decide))
 obtain ⟨I3,le3,S19,H2⟩:=S18.fx0 (by decide)
 refine EL_appX (z:=(.agg #[.int .i64 0,.bool false,.slice none 0 0])) (bytes:=40) rfl U39 (by kernel_rfl) rfl (by decide) rfl rfl S19.fr7 H2 ac ac ?_
 intro v5 w10 S20
 refine yn (lT le3 S20.le) ⟨S20.a7,S20.a6⟩ ?_
 refine yu le3 ?_
 refine yT 11 S20.le ⟨S20.a7,S20.a6⟩ ?_
 refine yT 12 S20.le ⟨S20.a7,S20.a6⟩ ?_
 refine y1 13 ?_
 refine yS7 S20 ?_ (hu:=OwnX.one S20 0 rfl (by decide))
 intro w11 S21
 refine ym S21.le ?_
 refine yd ?_
 refine g4 ?_
 refine vl _ rfl (gB [.int .i64 (W.srv.handE x.branch k.data),.slice none 0 0] st_43 (parts1 rfl) (fill_one rfl rfl rfl fill_end)) ?_
 refine yW5 S21 ?_
 intro w12 S22
 refine g3 ?_
 refine f1c Tryz.results42 ?_
 have S23:Sat w12 I3 (SeatsQ bs p W.seats::OwnX 46 packR v5 (W.post++[(⟨k.c,false,W.srv.handB x.branch k.data⟩:PackT)])::SrvP sv (W.srv.handS x.branch k.data)::Blk b1 43 [.int .i64 (W.srv.handE x.branch k.data),.slice none 0 0]::Blk b0 46 (packRC k v0)::Blk b 72 [lv,sv,v5,ev]::OwnX 33 bytesR ev W.sent::Suite p L::R):=SeatsQ.same hb hxs S22.fr4.fr4.fr4
 have S24:Sat _ _ (Own 30 1 (.slice none 0 0) (([]:List Int)).length ((([]:List Int)).map (Value.int .i64))::_):=S23.nil 30 1
 have hE:(W.arrA L k).e=(W.srv.handE x.branch k.data):=by rw [harr.1]
 have q3:([]:List Int)=(W.arrA L k).outs:=by rw [harr.1]
 have S25:Sat w12 I3 (Own 30 1 (.slice none 0 0) ((W.arrA L k).outs).length (((W.arrA L k).outs).map (Value.int .i64))::SeatsQ bs p W.seats::OwnX 46 packR v5 (W.post++[(⟨k.c,false,W.srv.handB x.branch k.data⟩:PackT)])::SrvP sv (W.srv.handS x.branch k.data)::Blk b1 43 [.int .i64 (W.srv.handE x.branch k.data),.slice none 0 0]::Blk b0 46 (packRC k v0)::Blk b 72 [lv,sv,v5,ev]::OwnX 33 bytesR ev W.sent::Suite p L::R):=S24.as 0 rfl (congrArg (fun zz=>Own 30 1 (.slice none 0 0) (zz).length ((zz).map (Value.int .i64))) q3)
 have S26:Sat _ _ (WldO (ptr b) bs p ({ W with srv:=W.srv.handS x.branch k.data,post:=W.post++[⟨k.c,false,W.srv.handB x.branch k.data⟩] }:Wld)::_):=WldO.cls (W:=({ W with srv:=W.srv.handS x.branch k.data,post:=W.post++[⟨k.c,false,W.srv.handB x.branch k.data⟩] }:Wld)) (wok.handed (by simp;omega) (wok.back1 hkc hand_small)) hbl (Hl.up (lT (lT le1 le2) le3)) S25.fr7.fr3.fr4.fr4.fr7
 have q4:({ W with srv:=W.srv.handS x.branch k.data,post:=W.post++[⟨k.c,false,W.srv.handB x.branch k.data⟩] }:Wld)=(W.arrS L k).2:=by rw [harr.2,if_pos h193]
 have S27:=Sat.ah0 (WldO (ptr b) bs p) S26 q4
 have q5:L=(W.arrS L k).1:=by rw [harr.2,if_pos h193]
 have S28:=Sat.ah4 (Suite p) S27 q5
 exact ⟨(.slice none 0 0),I3,(lT (lT le1 le2) le3),(by rw [hE]),S28.dr2.dr2.fr2.fr1.fr2⟩
 have h193:=(not_congr (nn_of (n:=W.post.length) hnb)).1 (Bool.eq_false_iff.1 h3)
 refine g5 ?_
 refine vl _ rfl (gB [.int .i64 (W.srv.handE x.branch k.data),.slice none 0 0] st_43 (parts1 rfl) (fill_one rfl rfl rfl fill_end)) ?_
 refine yW5 S15 ?_
 intro w13 S29
 refine g3 ?_
 refine f1c Tryz.results42 ?_
 have S30:Sat w13 I1 (SeatsQ bs p W.seats::OwnB v3 (W.srv.handB x.branch k.data)::SrvP sv (W.srv.handS x.branch k.data)::Blk b1 43 [.int .i64 (W.srv.handE x.branch k.data),.slice none 0 0]::Blk b0 46 (packRC k v0)::Blk b 72 [lv,sv,pv,ev]::OwnX 46 packR pv W.post::OwnX 33 bytesR ev W.sent::Suite p L::R):=SeatsQ.same hb hxs S29.fr4.fr4.fr4
 have S31:Sat _ _ (Own 30 1 (.slice none 0 0) (([]:List Int)).length ((([]:List Int)).map (Value.int .i64))::_):=S30.nil 30 1
 have hE:(W.arrA L k).e=(W.srv.handE x.branch k.data):=by rw [harr.1]
 have q6:([]:List Int)=(W.arrA L k).outs:=by rw [harr.1]
 have S32:Sat w13 I1 (Own 30 1 (.slice none 0 0) ((W.arrA L k).outs).length (((W.arrA L k).outs).map (Value.int .i64))::SeatsQ bs p W.seats::OwnB v3 (W.srv.handB x.branch k.data)::SrvP sv (W.srv.handS x.branch k.data)::Blk b1 43 [.int .i64 (W.srv.handE x.branch k.data),.slice none 0 0]::Blk b0 46 (packRC k v0)::Blk b 72 [lv,sv,pv,ev]::OwnX 46 packR pv W.post::OwnX 33 bytesR ev W.sent::Suite p L::R):=S31.as 0 rfl (congrArg (fun zz=>Own 30 1 (.slice none 0 0) (zz).length ((zz).map (Value.int .i64))) q6)
 have S33:Sat _ _ (WldO (ptr b) bs p ({ W with srv:=W.srv.handS x.branch k.data,post:=W.post }:Wld)::_):=WldO.cls (W:=({ W with srv:=W.srv.handS x.branch k.data,post:=W.post }:Wld)) (wok.handed wp5 wok.pk) hbl (Hl.up le1) S32.fr8.fr8.fr5.fr4.fr8
 have q7:({ W with srv:=W.srv.handS x.branch k.data,post:=W.post }:Wld)=(W.arrS L k).2:=by rw [harr.2,if_neg h193]
 have S34:=Sat.ah0 (WldO (ptr b) bs p) S33 q7
 have q8:L=(W.arrS L k).1:=by rw [harr.2,if_neg h193]
 have S35:=Sat.ah5 (Suite p) S34 q8
 exact ⟨(.slice none 0 0),I1,le1,(by rw [hE]),S35.dr2.dr2.dr2.fr2.fr1.fr2⟩
end Go.Proofs.YthddplghlljdbaaGreat
