import Derived.Test.YthddplghlljdbaaGreatQWorldPostEntB
set_option linter.unusedVariables false
set_option linter.unusedSimpArgs false
set_option maxRecDepth 100000
set_option maxHeartbeats 4000000
namespace Go.Proofs.YthddplghlljdbaaGreat
open Go.RowKit Go.Ecal
theorem wraps_c (v0:Value) (l:List WrapT) (I:Gh) (R:List HP) (w:World) (S:Sat w I (R)) (Q0:RoX I v0 wrapR l):Ret Tryz.prog 130 [v0] w fun v w'=>.bool (wrapsOk l)=v∧Sat w' I (R):=by
 have lq0:=XRow.le (Q0.row S.le)
 refine ret_E Tryz.func130 rfl Tryz.ntmps130 (by simp) ?_
 refine g9 ?_
 refine vl _ rfl (r_lenX rfl (Q0.row S.le) U34) ?_
 refine g4 ?_
 refine EC_loop (fun m' E' w'=>∃j:Nat,m'=l.length-j∧E' 7=.int .i64 (j:Int)∧E' 0=v0∧E' 5=v0∧E' 6=.int .i64 (l.length:Int)∧(j≤l.length)∧(wrapsGo 0 l=wrapsGo (prevW l j) (l.drop j))∧Sat w' I (R)) _ ⟨0,rfl,rfl,rfl,rfl,rfl,Nat.zero_le _,(by rw [List.drop_zero];rfl),S⟩ ?_
 rintro _ E0 w0 ⟨j,rfl,e0,e1,e2,e3,hj,hW,S0⟩
 refine g6 ?_
 refine EC_if rfl (fun h0=>?_) (fun h0=>?_)
 refine g7 ?_
 refine vl (ptr (blkOf v0) (offOf v0+((j:Int):Int).toNat*2)) rfl (r_indexX (by exact e2) (Q0.row S0.le) (by exact e0) (by omega) as' U34 (by kernel_rfl)) ?_
 obtain ⟨a0,ha0⟩:=get_some (l:=l) (j:=((j:Int):Int).toNat) as'
 obtain ⟨cs0,hc0,he0⟩:=Q0.el ha0
 obtain ⟨v1,rfl,r0,⟨o0,H0⟩⟩:=hc0
 refine vl (.agg ([.int .i64 a0.who,v1]).toArray) rfl (r_loadR (cs:=[.int .i64 a0.who,v1]) rfl (he0 _ S0.le) U113 rfl (by kernel_rfl)) ?_
 refine yN [.int .i64 0,.slice none 0 0] S0 ?_
 intro b0 w1 S1
 refine g1 ?_
 refine yW0 S1 ?_ (h1:=ones_cons rfl (ones_cons o0 ones_nil))
 intro w3 S2
 refine g3 ?_
 rcases first4 (within a0.who 1 16=true) (a0.box.length=48) (j≠0) (prevW l j<a0.who) with hc | hc | hc | hc | hc
 refine EC_quietB (by kernel_rfl) (by kernel_rfl) ?_
 refine g2 ?_
 refine EQ_call (.bool (within a0.who 1 16)) _ rfl Tryz.func127 rfl nm127 rfl (fun w2 hw=>(within_c a0.who 1 16 _).mono ?_) ?_
 ·rintro _ _ ⟨rfl,B0⟩
  exact ⟨rfl,below_full hw hw.size B0⟩
 refine EQ_val _ rfl (fun _ hw=>nT rfl (by simpa using hc)) ?_
 refine g21 ?_
 refine yE S2 ?_
 intro w4 S3
 refine g13 ?_
 refine f1 Tryz.results130 ?_
 exact ⟨(congrArg Value.bool (wraps_stop (show l[j]?=_ from ha0) hW (.inl (by simpa using hc)))),S3.dr0⟩
 refine EC_quietB (by kernel_rfl) (by kernel_rfl) ?_
 refine g2 ?_
 refine EQ_call (.bool (within a0.who 1 16)) _ rfl Tryz.func127 rfl nm127 rfl (fun w2 hw=>(within_c a0.who 1 16 _).mono ?_) ?_
 ·rintro _ _ ⟨rfl,B1⟩
  exact ⟨rfl,below_full hw hw.size B1⟩
 refine EQ_val _ rfl (fun _ hw=>nF rfl hc.1) ?_
 refine g3 ?_
 refine EQ_gval 16 rfl rfl rfl rfl _ rfl (fun _ hw=>lenB (r_len rfl ((H0 _ S2.le).below hw) U33)) (EQ_gval 16 rfl rfl rfl rfl _ rfl (fun _ hw=>dcT (r_neq rfl rfl) (by have:=hc.2;simp;omega)) ?_)
 refine g16 ?_
 refine yE S2 ?_
 intro w5 S4
 refine g13 ?_
 refine f1 Tryz.results130 ?_
 exact ⟨(congrArg Value.bool (wraps_stop (show l[j]?=_ from ha0) hW (.inr (.inl hc.2)))),S4.dr0⟩
 have hpw:prevW l j<a0.who:=by rw [prevW,if_pos (by omega)];have:=within_iff.1 hc.1;omega
 refine EC_quietB (by kernel_rfl) (by kernel_rfl) ?_
 refine g2 ?_
 refine EQ_call (.bool (within a0.who 1 16)) _ rfl Tryz.func127 rfl nm127 rfl (fun w2 hw=>(within_c a0.who 1 16 _).mono ?_) ?_
 ·rintro _ _ ⟨rfl,B2⟩
  exact ⟨rfl,below_full hw hw.size B2⟩
 refine EQ_val _ rfl (fun _ hw=>nF rfl hc.1) ?_
 refine g3 ?_
 refine EQ_gval 16 rfl rfl rfl rfl _ rfl (fun _ hw=>lenB (r_len rfl ((H0 _ S2.le).below hw) U33)) (EQ_gval 16 rfl rfl rfl rfl _ rfl (fun _ hw=>dcF (r_neq rfl rfl) (by have:=hc.2.1;simp;omega)) ?_)
 refine g3 ?_
 refine EQ_gval 22 rfl rfl rfl rfl _ rfl (fun _ hw=>dcF (r_gtr rfl rfl) (by simp;omega)) ?_
 refine g12 ?_
 refine yE S2 ?_
 intro w6 S5
 refine g6 ?_
 refine EL_int ((j:Int)+1) rfl (r_addi (by exact e0) rfl (by omega)) ?_
 intro x0 hx57
 refine g3 ?_
 refine ⟨_,?_,j+1,rfl,(Eq.trans (show _=Value.int .i64 x0 from rfl) (congrArg _ (by omega))),(by exact e1),(by exact e2),(by exact e3),by omega,(wraps_step (show l[j]?=_ from ha0) hW hc.1 hc.2.1 hpw),S5.dr0⟩
 first | omega | (simp;omega)
 refine EC_quietB (by kernel_rfl) (by kernel_rfl) ?_
 refine g2 ?_
 refine EQ_call (.bool (within a0.who 1 16)) _ rfl Tryz.func127 rfl nm127 rfl (fun w2 hw=>(within_c a0.who 1 16 _).mono ?_) ?_
 ·rintro _ _ ⟨rfl,B3⟩
  exact ⟨rfl,below_full hw hw.size B3⟩
 refine EQ_val _ rfl (fun _ hw=>nF rfl hc.1) ?_
 refine g3 ?_
 refine EQ_gval 16 rfl rfl rfl rfl _ rfl (fun _ hw=>lenB (r_len rfl ((H0 _ S2.le).below hw) U33)) (EQ_gval 16 rfl rfl rfl rfl _ rfl (fun _ hw=>dcF (r_neq rfl rfl) (by have:=hc.2.1;simp;omega)) ?_)
 refine g3 ?_
 refine EQ_gval 22 rfl rfl rfl rfl _ rfl (fun _ hw=>dcT (r_gtr rfl rfl) (by simp;omega)) ?_
 refine g5 ?_
 refine EQ_gval 25 rfl rfl rfl rfl (.int .i64 ((j:Int)-1)) rfl (fun _ hw=>r_subi rfl rfl (by omega)) (EQ_gval 25 rfl rfl rfl rfl (ptr (blkOf v0) (offOf v0+((j:Int)-1:Int).toNat*2)) rfl (fun _ hw=>r_indexX rfl (XRow.below (Q0.row S2.le) (hp_below hw)) rfl (by omega) as' U34 (by kernel_rfl)) (EQ_gval 25 rfl rfl rfl rfl (ptr (blkOf v0) (offOf v0+((j:Int)-1:Int).toNat*2+0)) rfl (fun _ hw=>r_fieldP (s:=1) rfl U113 rfl (by kernel_rfl) (by decide) rfl) ?_))
 obtain ⟨a1,ha1⟩:=get_some (l:=l) (j:=((j:Int)-1:Int).toNat) as'
 obtain ⟨cs1,hc1,he1⟩:=Q0.el ha1
 obtain ⟨v2,rfl,r1,⟨o1,H1⟩⟩:=hc1
 refine EQ_gval 25 rfl rfl rfl rfl (.int .i64 a1.who) rfl (fun _ hw=>r_loadF (k:=0) rfl (ElAt.below (he1 _ S2.le) (hp_below hw)) rfl U3 rfl) (EQ_gval 25 rfl rfl rfl rfl _ rfl (fun _ hw=>dcT (r_leq rfl rfl) (by have hpe:=prevW_eq (l:=l) (j:=j) ha1 hc.2.2.1 (by omega);have:=hc.2.2.2;simp;omega)) ?_)
 refine g2 ?_
 refine yE S2 ?_
 intro w7 S6
 refine g13 ?_
 refine f1 Tryz.results130 ?_
 exact ⟨(congrArg Value.bool (wraps_stop (show l[j]?=_ from ha0) hW (.inr (.inr hc.2.2.2)))),S6.dr0⟩
 refine EC_quietB (by kernel_rfl) (by kernel_rfl) ?_
 refine g2 ?_
 refine EQ_call (.bool (within a0.who 1 16)) _ rfl Tryz.func127 rfl nm127 rfl (fun w2 hw=>(within_c a0.who 1 16 _).mono ?_) ?_
 ·rintro _ _ ⟨rfl,B4⟩
  exact ⟨rfl,below_full hw hw.size B4⟩
 refine EQ_val _ rfl (fun _ hw=>nF rfl hc.1) ?_
 refine g3 ?_
 refine EQ_gval 16 rfl rfl rfl rfl _ rfl (fun _ hw=>lenB (r_len rfl ((H0 _ S2.le).below hw) U33)) (EQ_gval 16 rfl rfl rfl rfl _ rfl (fun _ hw=>dcF (r_neq rfl rfl) (by have:=hc.2.1;simp;omega)) ?_)
 refine g3 ?_
 refine EQ_gval 22 rfl rfl rfl rfl _ rfl (fun _ hw=>dcT (r_gtr rfl rfl) (by simp;omega)) ?_
 refine g5 ?_
 refine EQ_gval 25 rfl rfl rfl rfl (.int .i64 ((j:Int)-1)) rfl (fun _ hw=>r_subi rfl rfl (by omega)) (EQ_gval 25 rfl rfl rfl rfl (ptr (blkOf v0) (offOf v0+((j:Int)-1:Int).toNat*2)) rfl (fun _ hw=>r_indexX rfl (XRow.below (Q0.row S2.le) (hp_below hw)) rfl (by omega) as' U34 (by kernel_rfl)) (EQ_gval 25 rfl rfl rfl rfl (ptr (blkOf v0) (offOf v0+((j:Int)-1:Int).toNat*2+0)) rfl (fun _ hw=>r_fieldP (s:=1) rfl U113 rfl (by kernel_rfl) (by decide) rfl) ?_))
 obtain ⟨a2,ha2⟩:=get_some (l:=l) (j:=((j:Int)-1:Int).toNat) as'
 obtain ⟨cs2,hc2,he2⟩:=Q0.el ha2
 obtain ⟨v3,rfl,r2,⟨o2,H2⟩⟩:=hc2
 refine EQ_gval 25 rfl rfl rfl rfl (.int .i64 a2.who) rfl (fun _ hw=>r_loadF (k:=0) rfl (ElAt.below (he2 _ S2.le) (hp_below hw)) rfl U3 rfl) (EQ_gval 25 rfl rfl rfl rfl _ rfl (fun _ hw=>dcF (r_leq rfl rfl) (by have hpe:=prevW_eq (l:=l) (j:=j) ha2 hc.2.2.1 (by omega);have:=hc.2.2.2;simp;omega)) ?_)
 refine g2 ?_
 refine yE S2 ?_
 intro w8 S7
 refine g6 ?_
 refine EL_int ((j:Int)+1) rfl (r_addi (by exact e0) rfl (by omega)) ?_
 intro x1 hx90
 refine g3 ?_
 refine ⟨_,?_,j+1,rfl,(Eq.trans (show _=Value.int .i64 x1 from rfl) (congrArg _ (by omega))),(by exact e1),(by exact e2),(by exact e3),by omega,(wraps_step (show l[j]?=_ from ha0) hW hc.1 hc.2.1 hc.2.2.2),S7.dr0⟩
 first | omega | (simp;omega)
 refine g8 ?_
 refine vl _ rfl (r_lenX rfl (Q0.row S0.le) U34) ?_
 refine g5 ?_
 refine f1 Tryz.results130 ?_
 exact ⟨(congrArg Value.bool (by rw [wrapsOk,hW,List.drop_of_length_le (by omega),wrapsGo,Bool.true_and,decide_eq_decide];omega)),S0⟩
theorem bare_c (ce:List Value) (e:Entry) (I:Gh) (R:List HP) (w:World) (S:Sat w I (R)) (he:entR.r I ce e):Ret Tryz.prog 129 [.agg ce.toArray] w fun v w'=>∃cr:List Value,.agg cr.toArray=v∧entR.r I cr e.bare∧Sat w' I (R):=by
 obtain ⟨v0,v1,v2,rfl,r0,r1,r2,⟨o0,H0⟩,⟨o1,H1⟩,r3,r4,r5,⟨o2,H2⟩⟩:=he
 refine ret_E Tryz.func129 rfl Tryz.ntmps129 (by simp) ?_
 refine g2 ?_
 refine yB (cs:=entRC e v0 v1 v2) S ?_
 intro b0 w0 S0
 refine yN entR0 S0 ?_
 intro b1 w1 S1
 refine g10 ?_
 refine vl _ rfl (gB [.int .i64 e.kind,.int .i64 e.writer,.int .i64 e.seq,.slice none 0 0,.slice none 0 0,.int .i64 0,.int .i64 0,.int .i64 0,.slice none 0 0] st_36 (parts3 rfl rfl rfl) (fill_one rfl rfl rfl (fill_one rfl rfl rfl (fill_one rfl rfl rfl fill_end)))) ?_
 refine yN entR0 S1 ?_
 intro b2 w2 S2
 refine yW0 S2 ?_
 intro w3 S3
 refine g16 ?_
 refine EC_if rfl (fun h0=>?_) (fun h0=>?_)
 have hk:e.kind=1:=h0
 refine yJ 7 (fun w'=>Arr w' b0 36 (entRC e v0 v1 v2)) S3 ?_
 intro w4 S4
 refine yT 0 S4.le (S4.a2) ?_
 refine yT 1 S4.le (S4.a2) ?_
 refine yT 2 S4.le (S4.a2) ?_
 refine yT 3 S4.le (S4.a2) ?_
 refine yT 4 S4.le (S4.a2) ?_
 refine y1 5 ?_
 refine EL_storeA (j:=3) (u:=v0) rfl rfl (S4.a0) (by first | decide | (simp;omega) | simp) o0 (by kernel_rfl) ?_
 intro w5 A0 K0 z0
 have S5:=S4.wr0 (ds:=[.int .i64 e.kind,.int .i64 e.writer,.int .i64 e.seq,v0,.slice none 0 0,.int .i64 0,.int .i64 0,.int .i64 0,.slice none 0 0]) K0 A0
 refine yn S5.le (S5.a2) ?_
 refine yT 6 S5.le (S5.a2) ?_
 refine y1 7 ?_
 refine EL_storeA (j:=4) (u:=v1) rfl rfl (S5.a0) (by first | decide | (simp;omega) | simp) o1 (by kernel_rfl) ?_
 intro w6 A1 K1 z1
 have S6:=S5.wr0 (ds:=[.int .i64 e.kind,.int .i64 e.writer,.int .i64 e.seq,v0,v1,.int .i64 0,.int .i64 0,.int .i64 0,.slice none 0 0]) K1 A1
 refine ym S6.le ?_
 refine yd ?_
 refine g5 ?_
 refine yW1 S6 ?_ (h1:=ones_cons rfl (ones_cons rfl (ones_cons rfl (ones_cons o0 (ones_cons o1 (ones_cons rfl (ones_cons rfl (ones_cons rfl (ones_cons rfl ones_nil)))))))))
 intro w7 S7
 refine g3 ?_
 refine f1c Tryz.results129 ?_
 have q0:e.bare=(⟨e.kind,e.writer,e.seq,e.name,e.value,0,0,0,[]⟩:Entry):=by simp [Entry.bare,hk]
 exact ⟨_,rfl,(by rw [q0];exact ⟨v0,v1,(.slice none 0 0),rfl,ad,ad,ad,⟨o0,H0⟩,⟨o1,H1⟩,(by dsimp only;omega),(by dsimp only;omega),(by dsimp only;omega),⟨rfl,RoX.nil⟩⟩),S7.dr0.dr0.dr0⟩
 have hn1:¬e.kind=1:=h0
 refine g6 ?_
 refine EC_if rfl (fun h2=>?_) (fun h2=>?_)
 have hk:e.kind=2:=h2
 refine g4 ?_
 refine EL_storeA (j:=3) (u:=v0) rfl rfl (S3.a0) (by first | decide | (simp;omega) | simp) o0 (by kernel_rfl) ?_
 intro w8 A2 K2 z2
 have S8:=S3.wr0 (ds:=[.int .i64 e.kind,.int .i64 e.writer,.int .i64 e.seq,v0,.slice none 0 0,.int .i64 0,.int .i64 0,.int .i64 0,.slice none 0 0]) K2 A2
 refine g6 ?_
 refine yW1 S8 ?_ (h1:=ones_cons rfl (ones_cons rfl (ones_cons rfl (ones_cons o0 (ones_cons rfl (ones_cons rfl (ones_cons rfl (ones_cons rfl (ones_cons rfl ones_nil)))))))))
 intro w9 S9
 refine g3 ?_
 refine f1c Tryz.results129 ?_
 have q1:e.bare=(⟨e.kind,e.writer,e.seq,e.name,[],0,0,0,[]⟩:Entry):=by simp [Entry.bare,hk]
 exact ⟨_,rfl,(by rw [q1];exact ⟨v0,(.slice none 0 0),(.slice none 0 0),rfl,ad,ad,ad,⟨o0,H0⟩,⟨rfl,Ro.nil⟩,(by dsimp only;omega),(by dsimp only;omega),(by dsimp only;omega),⟨rfl,RoX.nil⟩⟩),S9.dr0.dr0.dr0⟩
 have hn2:¬e.kind=2:=h2
 refine g6 ?_
 refine EC_if rfl (fun h3=>?_) (fun h3=>?_)
 have hk:e.kind=3:=h3
 refine yJ 7 (fun w'=>Arr w' b0 36 (entRC e v0 v1 v2)) S3 ?_
 intro w10 S10
 refine yT 0 S10.le (S10.a2) ?_
 refine yT 1 S10.le (S10.a2) ?_
 refine yT 2 S10.le (S10.a2) ?_
 refine yT 3 S10.le (S10.a2) ?_
 refine yT 4 S10.le (S10.a2) ?_
 refine y1 5 ?_
 refine yS0 S10 ?_
 intro w11 S11
 refine yn S11.le (S11.a2) ?_
 refine yT 6 S11.le (S11.a2) ?_
 refine y1 7 ?_
 refine yS0 S11 ?_
 intro w12 S12
 refine ym S12.le ?_
 refine yd ?_
 refine g5 ?_
 refine yW1 S12 ?_
 intro w13 S13
 refine g3 ?_
 refine f1c Tryz.results129 ?_
 have q2:e.bare=(⟨e.kind,e.writer,e.seq,[],[],e.who,e.rights,0,[]⟩:Entry):=by simp [Entry.bare,hk]
 exact ⟨_,rfl,(by rw [q2];exact ⟨(.slice none 0 0),(.slice none 0 0),(.slice none 0 0),rfl,ad,ad,ad,⟨rfl,Ro.nil⟩,⟨rfl,Ro.nil⟩,ad,ad,(by dsimp only;omega),⟨rfl,RoX.nil⟩⟩),S13.dr0.dr0.dr0⟩
 have hn3:¬e.kind=3:=h3
 refine g6 ?_
 refine EC_if rfl (fun h4=>?_) (fun h4=>?_)
 have hk:e.kind=4:=h4
 refine g4 ?_
 refine yS0 S3 ?_
 intro w14 S14
 refine g6 ?_
 refine yW1 S14 ?_
 intro w15 S15
 refine g3 ?_
 refine f1c Tryz.results129 ?_
 have q3:e.bare=(⟨e.kind,e.writer,e.seq,[],[],e.who,0,0,[]⟩:Entry):=by simp [Entry.bare,hk]
 exact ⟨_,rfl,(by rw [q3];exact ⟨(.slice none 0 0),(.slice none 0 0),(.slice none 0 0),rfl,ad,ad,ad,⟨rfl,Ro.nil⟩,⟨rfl,Ro.nil⟩,ad,(by dsimp only;omega),(by dsimp only;omega),⟨rfl,RoX.nil⟩⟩),S15.dr0.dr0.dr0⟩
 have hn4:¬e.kind=4:=h4
 refine g6 ?_
 refine EC_if rfl (fun h5=>?_) (fun h5=>?_)
 have hk:e.kind=5:=h5
 refine yJ 7 (fun w'=>Arr w' b0 36 (entRC e v0 v1 v2)) S3 ?_
 intro w16 S16
 refine yT 0 S16.le (S16.a2) ?_
 refine yT 1 S16.le (S16.a2) ?_
 refine yT 2 S16.le (S16.a2) ?_
 refine yT 3 S16.le (S16.a2) ?_
 refine yT 4 S16.le (S16.a2) ?_
 refine y1 5 ?_
 refine yS0 S16 ?_
 intro w17 S17
 refine yn S17.le (S17.a2) ?_
 refine yT 6 S17.le (S17.a2) ?_
 refine y1 7 ?_
 refine EL_storeA (j:=8) (u:=v2) rfl rfl (S17.a0) (by first | decide | (simp;omega) | simp) o2 (by kernel_rfl) ?_
 intro w18 A3 K3 z3
 have S18:=S17.wr0 (ds:=[.int .i64 e.kind,.int .i64 e.writer,.int .i64 e.seq,.slice none 0 0,.slice none 0 0,.int .i64 0,.int .i64 0,.int .i64 e.epoch,v2]) K3 A3
 refine ym S18.le ?_
 refine yd ?_
 refine g5 ?_
 refine yW1 S18 ?_ (h1:=ones_cons rfl (ones_cons rfl (ones_cons rfl (ones_cons rfl (ones_cons rfl (ones_cons rfl (ones_cons rfl (ones_cons rfl (ones_cons o2 ones_nil)))))))))
 intro w19 S19
 refine g3 ?_
 refine f1c Tryz.results129 ?_
 have q4:e.bare=(⟨e.kind,e.writer,e.seq,[],[],0,0,e.epoch,e.wraps⟩:Entry):=by simp [Entry.bare,hk]
 exact ⟨_,rfl,(by rw [q4];exact ⟨(.slice none 0 0),(.slice none 0 0),v2,rfl,ad,ad,ad,⟨rfl,Ro.nil⟩,⟨rfl,Ro.nil⟩,(by dsimp only;omega),(by dsimp only;omega),ad,⟨o2,H2⟩⟩),S19.dr0.dr0.dr0⟩
 have hn5:¬e.kind=5:=h5
 refine g6 ?_
 refine yW1 S3 ?_
 intro w20 S20
 refine g3 ?_
 refine f1c Tryz.results129 ?_
 have q5:e.bare=(⟨e.kind,e.writer,e.seq,[],[],0,0,0,[]⟩:Entry):=by simp [Entry.bare,hn1,hn2,hn3,hn4,hn5]
 exact ⟨_,rfl,(by rw [q5];exact ⟨(.slice none 0 0),(.slice none 0 0),(.slice none 0 0),rfl,ad,ad,ad,⟨rfl,Ro.nil⟩,⟨rfl,Ro.nil⟩,(by dsimp only;omega),(by dsimp only;omega),(by dsimp only;omega),⟨rfl,RoX.nil⟩⟩),S20.dr0.dr0.dr0⟩
end Go.Proofs.YthddplghlljdbaaGreat

set_option maxRecDepth 100000
set_option maxHeartbeats 4000000
namespace Go.Proofs.YthddplghlljdbaaGreat
open Go.RowKit Go.Ecal
theorem Same_c (ca:List Value) (cb:List Value) (a:Entry) (b:Entry) (I:Gh) (R:List HP) (w:World) (S:Sat w I (R)) (ha:entR.r I ca a) (hb:entR.r I cb b):Ret Tryz.prog 128 [.agg ca.toArray,.agg cb.toArray] w fun v w'=>.bool (decide (a=b))=v∧Sat w' I (R):=by
 obtain ⟨v0,v1,v2,rfl,r0,r1,r2,⟨o0,H0⟩,⟨o1,H1⟩,r3,r4,r5,⟨o2,H2⟩⟩:=ha
 obtain ⟨v3,v4,v5,rfl,r6,r7,r8,⟨o3,H3⟩,⟨o4,H4⟩,r9,r10,r11,⟨o5,H5⟩⟩:=hb
 refine ret_E Tryz.func128 rfl Tryz.ntmps128 (by simp) ?_
 refine g2 ?_
 refine yB (cs:=entRC a v0 v1 v2) S ?_
 intro b0 w0 S0
 refine yB (cs:=entRC b v3 v4 v5) S0 ?_
 intro b1 w1 S1
 refine g4 ?_
 rcases first9 (a.kind=b.kind) (a.writer=b.writer) (a.seq=b.seq) (a.name=b.name) (a.value=b.value) (a.who=b.who) (a.rights=b.rights) (a.epoch=b.epoch) (a.wraps=b.wraps) with hc | hc | hc | hc | hc | hc | hc | hc | hc | hc
 refine g5 ?_
 refine vl _ rfl (dF (r_eql rfl rfl) hc) ?_
 refine g30 ?_
 refine g30 ?_
 refine f1 Tryz.results128 ?_
 exact ⟨(congrArg Value.bool (decide_eq_false (fun h=>hc (by rw [h])))),S1.dr0.dr0⟩
 refine g5 ?_
 refine vl _ rfl (dT (r_eql rfl rfl) hc.1) ?_
 refine g5 ?_
 refine gl 10 rfl rfl rfl rfl _ rfl (dF (r_eql rfl rfl) hc.2) ?_
 refine g30 ?_
 refine g24 ?_
 refine f1 Tryz.results128 ?_
 exact ⟨(congrArg Value.bool (decide_eq_false (fun h=>hc.2 (by rw [h])))),S1.dr0.dr0⟩
 refine g5 ?_
 refine vl _ rfl (dT (r_eql rfl rfl) hc.1) ?_
 refine g5 ?_
 refine gl 10 rfl rfl rfl rfl _ rfl (dT (r_eql rfl rfl) hc.2.1) ?_
 refine g6 ?_
 refine gl 17 rfl rfl rfl rfl _ rfl (dF (r_eql rfl rfl) hc.2.2) ?_
 refine g30 ?_
 refine g17 ?_
 refine f1 Tryz.results128 ?_
 exact ⟨(congrArg Value.bool (decide_eq_false (fun h=>hc.2.2 (by rw [h])))),S1.dr0.dr0⟩
 refine g5 ?_
 refine vl _ rfl (dT (r_eql rfl rfl) hc.1) ?_
 refine g5 ?_
 refine gl 10 rfl rfl rfl rfl _ rfl (dT (r_eql rfl rfl) hc.2.1) ?_
 refine g6 ?_
 refine gl 17 rfl rfl rfl rfl _ rfl (dT (r_eql rfl rfl) hc.2.2.1) ?_
 refine g6 ?_
 refine yG (Equal_c _ _ _ _ _ _ _ S1 H0 H3) ?_
 rintro _ w2 ⟨rfl,S2⟩
 refine vl (.bool false) rfl (r_pickT rfl (Eq.trans (show _=Value.bool (decide (a.name=b.name)) from rfl) (congrArg Value.bool (show (decide (a.name=b.name))=false from by rw [decide_eq_false_iff_not];exact hc.2.2.2)))) ?_
 refine g30 ?_
 refine g9 ?_
 refine f1 Tryz.results128 ?_
 exact ⟨(congrArg Value.bool (decide_eq_false (fun h=>hc.2.2.2 (by rw [h])))),S2.dr0.dr0⟩
 refine g5 ?_
 refine vl _ rfl (dT (r_eql rfl rfl) hc.1) ?_
 refine g5 ?_
 refine gl 10 rfl rfl rfl rfl _ rfl (dT (r_eql rfl rfl) hc.2.1) ?_
 refine g6 ?_
 refine gl 17 rfl rfl rfl rfl _ rfl (dT (r_eql rfl rfl) hc.2.2.1) ?_
 refine g6 ?_
 refine yG (Equal_c _ _ _ _ _ _ _ S1 H0 H3) ?_
 rintro _ w3 ⟨rfl,S3⟩
 refine vl (.bool true) rfl (r_pickT rfl (Eq.trans (show _=Value.bool (decide (a.name=b.name)) from rfl) (congrArg Value.bool (show (decide (a.name=b.name))=true from by rw [decide_eq_true_eq];exact hc.2.2.2.1)))) ?_
 refine g5 ?_
 refine yG (Equal_c _ _ _ _ _ _ _ S3 H1 H4) ?_
 rintro _ w4 ⟨rfl,S4⟩
 refine vl (.bool false) rfl (r_pickT rfl (Eq.trans (show _=Value.bool (decide (a.value=b.value)) from rfl) (congrArg Value.bool (show (decide (a.value=b.value))=false from by rw [decide_eq_false_iff_not];exact hc.2.2.2.2)))) ?_
 refine g30 ?_
 refine g2 ?_
 refine f1 Tryz.results128 ?_
 exact ⟨(congrArg Value.bool (decide_eq_false (fun h=>hc.2.2.2.2 (by rw [h])))),S4.dr0.dr0⟩
 refine g5 ?_
 refine vl _ rfl (dT (r_eql rfl rfl) hc.1) ?_
 refine g5 ?_
 refine gl 10 rfl rfl rfl rfl _ rfl (dT (r_eql rfl rfl) hc.2.1) ?_
 refine g6 ?_
 refine gl 17 rfl rfl rfl rfl _ rfl (dT (r_eql rfl rfl) hc.2.2.1) ?_
 refine g6 ?_
 refine yG (Equal_c _ _ _ _ _ _ _ S1 H0 H3) ?_
 rintro _ w5 ⟨rfl,S5⟩
 refine vl (.bool true) rfl (r_pickT rfl (Eq.trans (show _=Value.bool (decide (a.name=b.name)) from rfl) (congrArg Value.bool (show (decide (a.name=b.name))=true from by rw [decide_eq_true_eq];exact hc.2.2.2.1)))) ?_
 refine g5 ?_
 refine yG (Equal_c _ _ _ _ _ _ _ S5 H1 H4) ?_
 rintro _ w6 ⟨rfl,S6⟩
 refine vl (.bool true) rfl (r_pickT rfl (Eq.trans (show _=Value.bool (decide (a.value=b.value)) from rfl) (congrArg Value.bool (show (decide (a.value=b.value))=true from by rw [decide_eq_true_eq];exact hc.2.2.2.2.1)))) ?_
 refine g5 ?_
 refine gl 38 rfl rfl rfl rfl _ rfl (dF (r_eql rfl rfl) hc.2.2.2.2.2) ?_
 refine g26 ?_
 refine f1 Tryz.results128 ?_
 exact ⟨(congrArg Value.bool (decide_eq_false (fun h=>hc.2.2.2.2.2 (by rw [h])))),S6.dr0.dr0⟩
 refine g5 ?_
 refine vl _ rfl (dT (r_eql rfl rfl) hc.1) ?_
 refine g5 ?_
 refine gl 10 rfl rfl rfl rfl _ rfl (dT (r_eql rfl rfl) hc.2.1) ?_
 refine g6 ?_
 refine gl 17 rfl rfl rfl rfl _ rfl (dT (r_eql rfl rfl) hc.2.2.1) ?_
 refine g6 ?_
 refine yG (Equal_c _ _ _ _ _ _ _ S1 H0 H3) ?_
 rintro _ w7 ⟨rfl,S7⟩
 refine vl (.bool true) rfl (r_pickT rfl (Eq.trans (show _=Value.bool (decide (a.name=b.name)) from rfl) (congrArg Value.bool (show (decide (a.name=b.name))=true from by rw [decide_eq_true_eq];exact hc.2.2.2.1)))) ?_
 refine g5 ?_
 refine yG (Equal_c _ _ _ _ _ _ _ S7 H1 H4) ?_
 rintro _ w8 ⟨rfl,S8⟩
 refine vl (.bool true) rfl (r_pickT rfl (Eq.trans (show _=Value.bool (decide (a.value=b.value)) from rfl) (congrArg Value.bool (show (decide (a.value=b.value))=true from by rw [decide_eq_true_eq];exact hc.2.2.2.2.1)))) ?_
 refine g5 ?_
 refine gl 38 rfl rfl rfl rfl _ rfl (dT (r_eql rfl rfl) hc.2.2.2.2.2.1) ?_
 refine g6 ?_
 refine gl 45 rfl rfl rfl rfl _ rfl (dF (r_eql rfl rfl) hc.2.2.2.2.2.2) ?_
 refine g19 ?_
 refine f1 Tryz.results128 ?_
 exact ⟨(congrArg Value.bool (decide_eq_false (fun h=>hc.2.2.2.2.2.2 (by rw [h])))),S8.dr0.dr0⟩
 refine g5 ?_
 refine vl _ rfl (dT (r_eql rfl rfl) hc.1) ?_
 refine g5 ?_
 refine gl 10 rfl rfl rfl rfl _ rfl (dT (r_eql rfl rfl) hc.2.1) ?_
 refine g6 ?_
 refine gl 17 rfl rfl rfl rfl _ rfl (dT (r_eql rfl rfl) hc.2.2.1) ?_
 refine g6 ?_
 refine yG (Equal_c _ _ _ _ _ _ _ S1 H0 H3) ?_
 rintro _ w9 ⟨rfl,S9⟩
 refine vl (.bool true) rfl (r_pickT rfl (Eq.trans (show _=Value.bool (decide (a.name=b.name)) from rfl) (congrArg Value.bool (show (decide (a.name=b.name))=true from by rw [decide_eq_true_eq];exact hc.2.2.2.1)))) ?_
 refine g5 ?_
 refine yG (Equal_c _ _ _ _ _ _ _ S9 H1 H4) ?_
 rintro _ w10 ⟨rfl,S10⟩
 refine vl (.bool true) rfl (r_pickT rfl (Eq.trans (show _=Value.bool (decide (a.value=b.value)) from rfl) (congrArg Value.bool (show (decide (a.value=b.value))=true from by rw [decide_eq_true_eq];exact hc.2.2.2.2.1)))) ?_
 refine g5 ?_
 refine gl 38 rfl rfl rfl rfl _ rfl (dT (r_eql rfl rfl) hc.2.2.2.2.2.1) ?_
 refine g6 ?_
 refine gl 45 rfl rfl rfl rfl _ rfl (dT (r_eql rfl rfl) hc.2.2.2.2.2.2.1) ?_
 refine g6 ?_
 refine gl 52 rfl rfl rfl rfl _ rfl (dF (r_eql rfl rfl) hc.2.2.2.2.2.2.2) ?_
 refine g12 ?_
 refine f1 Tryz.results128 ?_
 exact ⟨(congrArg Value.bool (decide_eq_false (fun h=>hc.2.2.2.2.2.2.2 (by rw [h])))),S10.dr0.dr0⟩
 refine g5 ?_
 refine vl _ rfl (dT (r_eql rfl rfl) hc.1) ?_
 refine g5 ?_
 refine gl 10 rfl rfl rfl rfl _ rfl (dT (r_eql rfl rfl) hc.2.1) ?_
 refine g6 ?_
 refine gl 17 rfl rfl rfl rfl _ rfl (dT (r_eql rfl rfl) hc.2.2.1) ?_
 refine g6 ?_
 refine yG (Equal_c _ _ _ _ _ _ _ S1 H0 H3) ?_
 rintro _ w11 ⟨rfl,S11⟩
 refine vl (.bool true) rfl (r_pickT rfl (Eq.trans (show _=Value.bool (decide (a.name=b.name)) from rfl) (congrArg Value.bool (show (decide (a.name=b.name))=true from by rw [decide_eq_true_eq];exact hc.2.2.2.1)))) ?_
 refine g5 ?_
 refine yG (Equal_c _ _ _ _ _ _ _ S11 H1 H4) ?_
 rintro _ w12 ⟨rfl,S12⟩
 refine vl (.bool true) rfl (r_pickT rfl (Eq.trans (show _=Value.bool (decide (a.value=b.value)) from rfl) (congrArg Value.bool (show (decide (a.value=b.value))=true from by rw [decide_eq_true_eq];exact hc.2.2.2.2.1)))) ?_
 refine g5 ?_
 refine gl 38 rfl rfl rfl rfl _ rfl (dT (r_eql rfl rfl) hc.2.2.2.2.2.1) ?_
 refine g6 ?_
 refine gl 45 rfl rfl rfl rfl _ rfl (dT (r_eql rfl rfl) hc.2.2.2.2.2.2.1) ?_
 refine g6 ?_
 refine gl 52 rfl rfl rfl rfl _ rfl (dT (r_eql rfl rfl) hc.2.2.2.2.2.2.2.1) ?_
 refine g6 ?_
 refine yG (EqualF_c _ _ _ _ _ _ _ S12 H2 H5) ?_
 rintro _ w13 ⟨rfl,S13⟩
 refine vl (.bool false) rfl (r_pickT rfl (Eq.trans (show _=Value.bool (decide (a.wraps=b.wraps)) from rfl) (congrArg Value.bool (show (decide (a.wraps=b.wraps))=false from by rw [decide_eq_false_iff_not];exact hc.2.2.2.2.2.2.2.2)))) ?_
 refine g4 ?_
 refine f1 Tryz.results128 ?_
 exact ⟨(congrArg Value.bool (decide_eq_false (fun h=>hc.2.2.2.2.2.2.2.2 (by rw [h])))),S13.dr0.dr0⟩
 refine g5 ?_
 refine vl _ rfl (dT (r_eql rfl rfl) hc.1) ?_
 refine g5 ?_
 refine gl 10 rfl rfl rfl rfl _ rfl (dT (r_eql rfl rfl) hc.2.1) ?_
 refine g6 ?_
 refine gl 17 rfl rfl rfl rfl _ rfl (dT (r_eql rfl rfl) hc.2.2.1) ?_
 refine g6 ?_
 refine yG (Equal_c _ _ _ _ _ _ _ S1 H0 H3) ?_
 rintro _ w14 ⟨rfl,S14⟩
 refine vl (.bool true) rfl (r_pickT rfl (Eq.trans (show _=Value.bool (decide (a.name=b.name)) from rfl) (congrArg Value.bool (show (decide (a.name=b.name))=true from by rw [decide_eq_true_eq];exact hc.2.2.2.1)))) ?_
 refine g5 ?_
 refine yG (Equal_c _ _ _ _ _ _ _ S14 H1 H4) ?_
 rintro _ w15 ⟨rfl,S15⟩
 refine vl (.bool true) rfl (r_pickT rfl (Eq.trans (show _=Value.bool (decide (a.value=b.value)) from rfl) (congrArg Value.bool (show (decide (a.value=b.value))=true from by rw [decide_eq_true_eq];exact hc.2.2.2.2.1)))) ?_
 refine g5 ?_
 refine gl 38 rfl rfl rfl rfl _ rfl (dT (r_eql rfl rfl) hc.2.2.2.2.2.1) ?_
 refine g6 ?_
 refine gl 45 rfl rfl rfl rfl _ rfl (dT (r_eql rfl rfl) hc.2.2.2.2.2.2.1) ?_
 refine g6 ?_
 refine gl 52 rfl rfl rfl rfl _ rfl (dT (r_eql rfl rfl) hc.2.2.2.2.2.2.2.1) ?_
 refine g6 ?_
 refine yG (EqualF_c _ _ _ _ _ _ _ S15 H2 H5) ?_
 rintro _ w16 ⟨rfl,S16⟩
 refine vl (.bool true) rfl (r_pickT rfl (Eq.trans (show _=Value.bool (decide (a.wraps=b.wraps)) from rfl) (congrArg Value.bool (show (decide (a.wraps=b.wraps))=true from by rw [decide_eq_true_eq];exact hc.2.2.2.2.2.2.2.2)))) ?_
 refine g4 ?_
 refine f1 Tryz.results128 ?_
 exact ⟨(congrArg Value.bool (decide_eq_true (entry_eq.2 hc))),S16.dr0.dr0⟩
end Go.Proofs.YthddplghlljdbaaGreat
