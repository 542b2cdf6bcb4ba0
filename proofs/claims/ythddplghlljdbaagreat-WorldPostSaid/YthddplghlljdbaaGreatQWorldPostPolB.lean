import Derived.Test.YthddplghlljdbaaGreatQWorldPostPolA
set_option linter.unusedVariables false
set_option linter.unusedSimpArgs false
set_option maxRecDepth 100000
set_option maxHeartbeats 4000000
namespace Go.Proofs.YthddplghlljdbaaGreat
open Go.RowKit Go.Ecal
theorem fits_c (cp:List Value) (p:Pol) (ce:List Value) (e:Entry) (I:Gh) (R:List HP) (w:World) (S:Sat w I (R)) (hp:polR.r I cp p) (he:entR.r I ce e) (hr:risingM 0 p.mem=true) (hpe:0≤p.epoch∧p.epoch≤16) (hw:e.wraps.length≤16):Ret Tryz.prog 93 [.agg cp.toArray,.agg ce.toArray] w fun v w'=>∃J:Gh,Gh.le I J∧.bool (p.fits e)=v∧Sat w' J (R):=by
 obtain ⟨v0,rfl,r0,r1,⟨o0,H0⟩⟩:=hp
 have lq_v13:=XRow.le (H0.row S.le)
 obtain ⟨v1,v2,v3,rfl,r2,r3,r4,⟨o1,H1⟩,⟨o2,H2⟩,r5,r6,r7,⟨o3,H3⟩⟩:=he
 have lq_v19:=RoB.le H1 S.le
 have lq_v22:=RoB.le H2 S.le
 have lq_v28:=XRow.le (H3.row S.le)
 refine ret_E Tryz.func93 rfl Tryz.ntmps93 (by simp) ?_
 refine g2 ?_
 refine yB (cs:=polRC p v0) S ?_
 intro b0 w0 S0
 refine yB (cs:=entRC e v1 v2 v3) S0 ?_
 intro b1 w1 S1
 refine g13 ?_
 refine vl _ rfl (r_lenX rfl (H3.row S1.le) U34) ?_
 refine g4 ?_
 have S2:Sat _ _ (Own 3 1 (.slice none 0 0) (([]:List Int)).length ((([]:List Int)).map (Value.int .i64))::_):=S1.nil 3 1
 have q0:([]:List Int)=(e.wraps.take 0).map WrapT.who:=by rw [List.take_zero];rfl
 have S3:Sat w1 I (Own 3 1 (.slice none 0 0) ((e.wraps.take 0).map WrapT.who).length (((e.wraps.take 0).map WrapT.who).map (Value.int .i64))::Blk b1 36 (entRC e v1 v2 v3)::Blk b0 103 (polRC p v0)::R):=S2.as 0 rfl (congrArg (fun zz=>Own 3 1 (.slice none 0 0) (zz).length ((zz).map (Value.int .i64))) q0)
 refine EC_loop (fun m' E' w'=>∃j:Nat,∃v:Value,m'=e.wraps.length-j∧E' 11=.int .i64 (j:Int)∧E' 5=v∧E' 2=ptr b0∧E' 3=ptr b1∧E' 4=.bool false∧E' 9=v3∧E' 10=.int .i64 (e.wraps.length:Int)∧(j≤e.wraps.length)∧Sat w' I (Own 3 1 v ((e.wraps.take j).map WrapT.who).length (((e.wraps.take j).map WrapT.who).map (Value.int .i64))::Blk b1 36 (entRC e v1 v2 v3)::Blk b0 103 (polRC p v0)::R)) _ ⟨0,.slice none 0 0,rfl,rfl,rfl,rfl,rfl,rfl,rfl,rfl,Nat.zero_le _,S3⟩ ?_
 rintro _ E0 w2 ⟨j,v,rfl,e0,e1,e2,e3,e4,e5,e6,hj,S4⟩
 refine g6 ?_
 refine EC_if rfl (fun h0=>?_) (fun h0=>?_)
 refine g6 ?_
 refine vl (ptr (blkOf v3) (offOf v3+((j:Int):Int).toNat*2)) rfl (r_indexX (by exact e5) (H3.row S4.le) (by exact e0) (by omega) as' U34 (by kernel_rfl)) ?_
 obtain ⟨a0,ha0⟩:=get_some (l:=e.wraps) (j:=((j:Int):Int).toNat) as'
 obtain ⟨cs0,hc0,he0⟩:=H3.el ha0
 obtain ⟨v4,rfl,r8,⟨o4,H4⟩⟩:=hc0
 refine vl (.agg ([.int .i64 a0.who,v4]).toArray) rfl (r_loadR (cs:=[.int .i64 a0.who,v4]) rfl (he0 _ S4.le) U113 rfl (by kernel_rfl)) ?_
 refine yN [.int .i64 0,.slice none 0 0] S4 ?_
 intro b2 w3 S5
 refine yW0 S5 ?_ (h1:=ones_cons rfl (ones_cons o4 ones_nil))
 intro w4 S6
 refine g6 ?_
 refine EL_lit w4.heap.size #[.int .i64 a0.who] el_i64 rfl (by decide) rfl (Nat.le_refl _) (by kernel_rfl) ?_
 intro v5 w5 O0 B0 k0 z0
 have S7:Sat _ _ (Own 3 1 v5 (([a0.who]:List Int)).length ((([a0.who]:List Int)).map (Value.int .i64))::_):=S6.newO B0 (own_eqF (f:=Value.int .i64) (l:=([a0.who]:List Int)) O0 rfl)
 refine EL_append (v:=v) (xs:=((e.wraps.take j).map WrapT.who).map (Value.int .i64)) (ys:=([a0.who]:List Int).map (Value.int .i64)) 0 el_i64 rfl rfl rfl (own_len (S7.own 2 rfl)) (own_row (S7.own 0 rfl)) (int_one _) ap (by decide) (Nat.zero_le _) ?_
 intro v6 w6 O1 G0 A0
 have S8:=S7.gr2 G0 (own_appF O1) A0
 refine g5 ?_
 refine EL_int ((j:Int)+1) rfl (r_addi (by exact e0) rfl (by omega)) ?_
 intro x0 hx93
 refine g3 ?_
 have q1:((e.wraps.take j).map WrapT.who)++([a0.who]:List Int)=(e.wraps.take (j+1)).map WrapT.who:=(whos_step (show _[j]?=_ from ha0))
 have S9:Sat w6 I (Own 3 1 v5 (([a0.who]:List Int)).length ((([a0.who]:List Int)).map (Value.int .i64))::Blk b2 113 [.int .i64 a0.who,v4]::Own 3 1 v6 ((e.wraps.take (j+1)).map WrapT.who).length (((e.wraps.take (j+1)).map WrapT.who).map (Value.int .i64))::Blk b1 36 (entRC e v1 v2 v3)::Blk b0 103 (polRC p v0)::R):=S8.as 2 rfl (congrArg (fun zz=>Own 3 1 v6 (zz).length ((zz).map (Value.int .i64))) q1)
 refine ⟨_,?_,j+1,v6,rfl,(Eq.trans (show _=Value.int .i64 x0 from rfl) (congrArg _ (by omega))),rfl,(by exact e2),(by exact e3),(by exact e4),(by exact e5),(by exact e6),by omega,S9.dr0.dr0⟩
 first | omega | (simp;omega)
 refine g11 ?_
 refine EL_int (p.epoch+1) rfl (r_addi rfl rfl (by omega)) ?_
 intro x1 hx98
 refine g4 ?_
 rcases Bool.eq_false_or_eq_true (decide (e.epoch=x1)) with q2 | q2
 have q101':e.epoch=x1:=of_decide_eq_true q2
 refine EL_gret 27 rfl (by exact congrArg Value.bool q2) rfl rfl _ rfl Tryz.func74 rfl nm74 (by exact args1 (by exact cond_of (show ((decide (e.epoch=x1)) == true)=true from by rw [q2];rfl) rfl)) (Readers_c (polRC p v0) p _ _ _ S4 ⟨v0,rfl,ad,ad,⟨o0,H0⟩⟩ hr) ?_
 rintro _ w7 ⟨v7,rfl,S10⟩
 obtain ⟨I0,le0,S11,H5⟩:=S10.fz1
 obtain ⟨I1,le1,S12,H6⟩:=S11.fz0
 refine EL_gret 27 rfl (by exact congrArg Value.bool q2) rfl rfl _ rfl Tryz.func131 rfl nm131 (by exact args2 (by exact cond_of (show ((decide (e.epoch=x1)) == true)=true from by rw [q2];rfl) rfl) rfl) (EqualI_c _ _ _ _ _ _ _ S12 (H5.up le1) H6) ?_
 rintro _ w8 ⟨rfl,S13⟩
 refine vl (.bool (decide (((e.wraps.take j).map WrapT.who)=(readersOf p.mem)))) rfl (r_pickT (by exact congrArg Value.bool q2) rfl) ?_
 refine g4 ?_
 refine f1 Tryz.results93 ?_
 exact ⟨I1,(lT le0 le1),(congrArg Value.bool (by rw [Pol.fits,decide_eq_true (by omega:e.epoch=p.epoch+1),←show (e.wraps.take j).map WrapT.who=e.wraps.map WrapT.who from by rw [List.take_of_length_le (by omega)]];rfl)),S13.dr0.dr0⟩
 have q101':¬(e.epoch=x1):=of_decide_eq_false q2
 refine EL_pass 27 rfl (by exact congrArg Value.bool q2) rfl rfl rfl (EL_pass 27 rfl (by exact congrArg Value.bool q2) rfl rfl rfl (vl (.bool false) rfl (r_pickF (by exact congrArg Value.bool q2) rfl) ?_))
 refine g4 ?_
 refine f1 Tryz.results93 ?_
 exact ⟨I,(Gh.le_refl _),(congrArg Value.bool (by rw [Pol.fits,decide_eq_false (by omega:¬e.epoch=p.epoch+1)];rfl)),S4.dr0.dr0.dr0⟩
theorem First_c (f:Int) (I:Gh) (R:List HP) (w:World) (S:Sat w I (R)) (hf0:-9223372036854775808≤f∧f≤9223372036854775807):Ret Tryz.prog 59 [.int .i64 f] w fun v w'=>∃cr:List Value,∃J:Gh,Gh.le I J∧.tuple #[.agg cr.toArray,.int .i64 (firstE f)]=v∧polR.r J cr (firstV f)∧Sat w' J (R):=by
 refine ret_E Tryz.func59 rfl Tryz.ntmps59 (by simp) ?_
 refine g2 ?_
 refine yN polR0 S ?_
 intro b0 w0 S0
 refine g7 ?_
 refine vl _ rfl (gB [.int .i64 f,.int .i64 7] st_183 (parts2 rfl rfl) (fill_one rfl rfl rfl (fill_one rfl rfl rfl fill_end))) ?_
 refine EL_litW (z:=#[.int .i64 0,.int .i64 0]) (cs:=([.int .i64 f,.int .i64 7]).toArray) (sz:=2) (l:=[(0,.agg ([.int .i64 f,.int .i64 7]).toArray)]) rfl U101 (by kernel_rfl) (parts1 rfl) (by kernel_rfl) rfl (by decide) ?_
 intro v0 w1 O0 B0 k0
 have S1:Sat _ _ (OwnX 183 memR v0 [(⟨f,7⟩:MemT)]::_):=OwnX.cls (xss:=[[.int .i64 f,.int .i64 7]]) (.cons ⟨rfl,ad,(by dsimp only;omega)⟩ .nil) (S0.newO B0 O0)
 refine vl _ rfl (gB [.int .i64 f,.int .i64 0,v0] st_103 (parts2 rfl rfl) (fill_one rfl rfl rfl (fill_one rfl (one_cells (OwnX.one S1 0 rfl (by decide))) rfl fill_end))) ?_
 refine yN polR0 S1 ?_
 intro b1 w2 S2
 refine yW0 S2 ?_ (h1:=ones_cons rfl (ones_cons rfl (ones_cons (OwnX.one S2 1 rfl (by decide)) ones_nil)))
 intro w3 S3
 refine g4 ?_
 rcases Bool.eq_false_or_eq_true (within f 1 16) with hf | hf
 have hfw:=within_iff.1 hf
 have hpr:=first_right hf
 refine g2 ?_
 have oH39:=(OwnX.one S3 1 rfl (by decide))
 obtain ⟨I0,le0,S4,H0⟩:=S3.fx1 (by decide)
 refine yR (PRight_c [.int .i64 f,.int .i64 0,v0] (⟨f,0,[(⟨f,7⟩:MemT)]⟩:Pol) _ _ _ S4 ⟨v0,rfl,ad,(by dsimp only;omega),⟨oH39,H0⟩⟩) ?_
 rintro _ w4 ⟨rfl,S5⟩
 refine vl _ rfl (nF rfl hpr) ?_
 refine g8 ?_
 refine yW1 S5 ?_ (h1:=ones_cons rfl (ones_cons rfl (ones_cons oH39 ones_nil)))
 intro w5 S6
 refine g4 ?_
 refine f2c Tryz.results59 ?_
 have q0:(firstV f)=(⟨f,0,[(⟨f,7⟩:MemT)]⟩:Pol):=by rw [firstV,if_pos hf];rfl
 exact ⟨[.int .i64 f,.int .i64 0,v0],I0,le0,(by rw [firstE,if_pos hf]),(by rw [q0];exact ⟨v0,rfl,ad,(by dsimp only;omega),⟨oH39,H0⟩⟩),S6.dr0.dr0⟩
 have hpr:=first_wrong hf
 refine g2 ?_
 have oH53:=(OwnX.one S3 1 rfl (by decide))
 obtain ⟨I1,le1,S7,H1⟩:=S3.fx1 (by decide)
 refine yR (PRight_c [.int .i64 f,.int .i64 0,v0] (⟨f,0,[(⟨f,7⟩:MemT)]⟩:Pol) _ _ _ S7 ⟨v0,rfl,ad,(by dsimp only;omega),⟨oH53,H1⟩⟩) ?_
 rintro _ w6 ⟨rfl,S8⟩
 refine vl _ rfl (nT rfl hpr) ?_
 refine g5 ?_
 refine vl _ rfl (gB polR0 st_103 rfl fill_end) ?_
 refine yW1 S8 ?_
 intro w7 S9
 refine g5 ?_
 refine f2c Tryz.results59 ?_
 have q1:(firstV f)=(⟨0,0,[]⟩:Pol):=by rw [firstV,if_neg (by rw [hf];decide)];rfl
 exact ⟨polR0,I1,le1,(by rw [firstE,if_neg (by rw [hf];decide)]),(by rw [q1];exact (polRz _)),S9.dr0.dr0⟩
theorem May_c (cp:List Value) (p:Pol) (ce:List Value) (e:Entry) (I:Gh) (R:List HP) (w:World) (S:Sat w I (R)) (hp:polR.r I cp p) (he:entR.r I ce e):Ret Tryz.prog 66 [.agg cp.toArray,.agg ce.toArray] w fun v w'=>∃J:Gh,Gh.le I J∧.int .i64 (p.mayE e)=v∧Sat w' J (R):=by
 obtain ⟨v0,rfl,r0,r1,⟨o0,H0⟩⟩:=hp
 obtain ⟨v1,v2,v3,rfl,r2,r3,r4,⟨o1,H1⟩,⟨o2,H2⟩,r5,r6,r7,⟨o3,H3⟩⟩:=he
 refine ret_E Tryz.func66 rfl Tryz.ntmps66 (by simp) ?_
 refine g2 ?_
 refine yB (cs:=polRC p v0) S ?_
 intro b0 w0 S0
 refine yB (cs:=entRC e v1 v2 v3) S0 ?_
 intro b1 w1 S1
 refine g5 ?_
 rcases first2 (p.right=true) (e.right=true) with hc | hc | hc
 refine g2 ?_
 refine yR (PRight_c (polRC p v0) p _ _ _ S1 ⟨v0,rfl,ad,ad,⟨o0,H0⟩⟩) ?_
 rintro _ w2 ⟨rfl,S2⟩
 refine vl _ rfl (nT rfl (by simpa using hc)) ?_
 refine g15 ?_
 refine f1 Tryz.results66 ?_
 exact ⟨I,(Gh.le_refl _),(by rw [may_10 (.inl (by simpa using hc))]),S2.dr0.dr0⟩
 refine g2 ?_
 refine yR (PRight_c (polRC p v0) p _ _ _ S1 ⟨v0,rfl,ad,ad,⟨o0,H0⟩⟩) ?_
 rintro _ w3 ⟨rfl,S3⟩
 refine vl _ rfl (nF rfl hc.1) ?_
 refine g2 ?_
 refine yG (Right_c (entRC e v1 v2 v3) e _ _ _ S3 ⟨v1,v2,v3,rfl,ad,ad,ad,⟨o1,H1⟩,⟨o2,H2⟩,ad,ad,ad,⟨o3,H3⟩⟩) ?_
 rintro _ w4 ⟨I0,le0,rfl,S4⟩
 refine gl 9 rfl rfl rfl rfl _ rfl (nT rfl (by simpa using hc.2)) ?_
 refine g11 ?_
 refine f1 Tryz.results66 ?_
 exact ⟨I0,le0,(by rw [may_10 (.inr (by simpa using hc.2))]),S4.dr0.dr0⟩
 have hri:=Pol.right_rising hc.1
 have hri2:=Pol.right_epoch hc.1
 have hwl:=right_wl hc.2
 have hr7:=rights_7 (w:=e.writer) hri
 refine g2 ?_
 refine yR (PRight_c (polRC p v0) p _ _ _ S1 ⟨v0,rfl,ad,ad,⟨o0,H0⟩⟩) ?_
 rintro _ w5 ⟨rfl,S5⟩
 refine vl _ rfl (nF rfl hc.1) ?_
 refine g2 ?_
 refine yG (Right_c (entRC e v1 v2 v3) e _ _ _ S5 ⟨v1,v2,v3,rfl,ad,ad,ad,⟨o1,H1⟩,⟨o2,H2⟩,ad,ad,ad,⟨o3,H3⟩⟩) ?_
 rintro _ w6 ⟨I1,le1,rfl,S6⟩
 refine gl 9 rfl rfl rfl rfl _ rfl (nF rfl hc.2) ?_
 refine g11 ?_
 refine yR (PRights_c (polRC p v0) p e.writer _ _ _ S6 ⟨v0,rfl,ad,ad,⟨o0,(H0.up le1)⟩⟩) ?_
 rintro _ w7 ⟨rfl,S7⟩
 refine g18 ?_
 refine EC_if rfl (fun h0=>?_) (fun h0=>?_)
 refine g2 ?_
 refine EC_if rfl (fun h1=>?_) (fun h1=>?_)
 refine g4 ?_
 refine vl (.int .i64 (andI (rightsOf p.mem e.writer) 6)) rfl (r_andI rfl rfl) ?_
 refine g3 ?_
 refine EC_if rfl (fun h2=>?_) (fun h2=>?_)
 refine g9 ?_
 refine f1 Tryz.results66 ?_
 exact ⟨I1,le1,(by rw [may_w hc (by omega),if_pos (by assumption)]),S7.dr0.dr0⟩
 refine g10 ?_
 refine f1 Tryz.results66 ?_
 exact ⟨I1,le1,(by rw [may_w hc (by omega),if_neg (by assumption)]),S7.dr0.dr0⟩
 refine g7 ?_
 refine EC_if rfl (fun h3=>?_) (fun h3=>?_)
 refine g2 ?_
 refine EC_if rfl (fun h4=>?_) (fun h4=>?_)
 refine g9 ?_
 refine EC_if rfl (fun h5=>?_) (fun h5=>?_)
 refine g8 ?_
 refine f1 Tryz.results66 ?_
 exact ⟨I1,le1,(by rw [may_f hc (by omega) (by omega)]),S7.dr0.dr0⟩
 refine g8 ?_
 refine vl (.int .i64 (andI (rightsOf p.mem e.writer) 4)) rfl (r_andI rfl rfl) ?_
 refine g4 ?_
 refine EC_if rfl (fun h6=>?_) (fun h6=>?_)
 refine g8 ?_
 refine f1 Tryz.results66 ?_
 exact ⟨I1,le1,(by rw [may_a hc (by omega) (by omega),if_pos (by assumption)]),S7.dr0.dr0⟩
 refine g8 ?_
 rcases Bool.eq_false_or_eq_true (decide (e.kind=5)) with q0 | q0
 have q82':e.kind=5:=of_decide_eq_true q0
 refine EL_gret 42 rfl (by exact congrArg Value.bool q0) rfl rfl _ rfl Tryz.func93 rfl nm93 (by exact args2 (by exact cond_of (show ((decide (e.kind=5)) == true)=true from by rw [q0];rfl) rfl) (by exact cond_of (show ((decide (e.kind=5)) == true)=true from by rw [q0];rfl) rfl)) (fits_c (polRC p v0) p (entRC e v1 v2 v3) e _ _ _ S7 ⟨v0,rfl,ad,ad,⟨o0,(H0.up le1)⟩⟩ ⟨v1,v2,v3,rfl,ad,ad,ad,⟨o1,(H1.up le1)⟩,⟨o2,(H2.up le1)⟩,ad,ad,ad,⟨o3,(H3.up le1)⟩⟩ hri hri2 hwl) ?_
 rintro _ w8 ⟨I2,le2,rfl,S8⟩
 refine EL_gval 42 rfl (by exact congrArg Value.bool q0) rfl rfl (.bool (!(p.fits e))) w8 rfl (r_not rfl) ?_
 refine vl (.bool (!(p.fits e))) rfl (r_pickT (by exact congrArg Value.bool q0) rfl) ?_
 refine g3 ?_
 refine EC_cond (t:=!(p.fits e)) rfl (fun h7=>?_) (fun h7=>?_)
 have hfi:p.fits e=false:=by simpa using h7
 refine g8 ?_
 refine f1 Tryz.results66 ?_
 exact ⟨I2,(lT le1 le2),(by rw [may_a hc (by omega) (by omega),if_neg (by assumption),if_pos ⟨by assumption,hfi⟩]),S8.dr0.dr0⟩
 have hfi:p.fits e=true:=by simpa using h7
 refine g9 ?_
 refine f1 Tryz.results66 ?_
 exact ⟨I2,(lT le1 le2),(by rw [may_a hc (by omega) (by omega),if_neg (by assumption),if_neg (by first | (intro hx;omega) | (intro hx;rw [hfi] at hx;exact absurd hx.2 (by decide)))]),S8.dr0.dr0⟩
 have q82':¬(e.kind=5):=of_decide_eq_false q0
 refine EL_pass 42 rfl (by exact congrArg Value.bool q0) rfl rfl rfl (EL_pass 42 rfl (by exact congrArg Value.bool q0) rfl rfl rfl (vl (.bool false) rfl (r_pickF (by exact congrArg Value.bool q0) rfl) ?_))
 refine g13 ?_
 refine f1 Tryz.results66 ?_
 exact ⟨I1,le1,(by rw [may_a hc (by omega) (by omega),if_neg (by assumption),if_neg (by first | (intro hx;omega) | (intro hx;rw [hfi] at hx;exact absurd hx.2 (by decide)))]),S7.dr0.dr0⟩
 refine g8 ?_
 refine vl (.int .i64 (andI (rightsOf p.mem e.writer) 4)) rfl (r_andI rfl rfl) ?_
 refine g4 ?_
 refine EC_if rfl (fun h8=>?_) (fun h8=>?_)
 refine g8 ?_
 refine f1 Tryz.results66 ?_
 exact ⟨I1,le1,(by rw [may_a hc (by omega) (by omega),if_pos (by assumption)]),S7.dr0.dr0⟩
 refine g8 ?_
 rcases Bool.eq_false_or_eq_true (decide (e.kind=5)) with q1 | q1
 have q99':e.kind=5:=of_decide_eq_true q1
 refine EL_gret 42 rfl (by exact congrArg Value.bool q1) rfl rfl _ rfl Tryz.func93 rfl nm93 (by exact args2 (by exact cond_of (show ((decide (e.kind=5)) == true)=true from by rw [q1];rfl) rfl) (by exact cond_of (show ((decide (e.kind=5)) == true)=true from by rw [q1];rfl) rfl)) (fits_c (polRC p v0) p (entRC e v1 v2 v3) e _ _ _ S7 ⟨v0,rfl,ad,ad,⟨o0,(H0.up le1)⟩⟩ ⟨v1,v2,v3,rfl,ad,ad,ad,⟨o1,(H1.up le1)⟩,⟨o2,(H2.up le1)⟩,ad,ad,ad,⟨o3,(H3.up le1)⟩⟩ hri hri2 hwl) ?_
 rintro _ w9 ⟨I3,le3,rfl,S9⟩
 refine EL_gval 42 rfl (by exact congrArg Value.bool q1) rfl rfl (.bool (!(p.fits e))) w9 rfl (r_not rfl) ?_
 refine vl (.bool (!(p.fits e))) rfl (r_pickT (by exact congrArg Value.bool q1) rfl) ?_
 refine g3 ?_
 refine EC_cond (t:=!(p.fits e)) rfl (fun h9=>?_) (fun h9=>?_)
 have hfi:p.fits e=false:=by simpa using h9
 refine g8 ?_
 refine f1 Tryz.results66 ?_
 exact ⟨I3,(lT le1 le3),(by rw [may_a hc (by omega) (by omega),if_neg (by assumption),if_pos ⟨by assumption,hfi⟩]),S9.dr0.dr0⟩
 have hfi:p.fits e=true:=by simpa using h9
 refine g9 ?_
 refine f1 Tryz.results66 ?_
 exact ⟨I3,(lT le1 le3),(by rw [may_a hc (by omega) (by omega),if_neg (by assumption),if_neg (by first | (intro hx;omega) | (intro hx;rw [hfi] at hx;exact absurd hx.2 (by decide)))]),S9.dr0.dr0⟩
 have q99':¬(e.kind=5):=of_decide_eq_false q1
 refine EL_pass 42 rfl (by exact congrArg Value.bool q1) rfl rfl rfl (EL_pass 42 rfl (by exact congrArg Value.bool q1) rfl rfl rfl (vl (.bool false) rfl (r_pickF (by exact congrArg Value.bool q1) rfl) ?_))
 refine g13 ?_
 refine f1 Tryz.results66 ?_
 exact ⟨I1,le1,(by rw [may_a hc (by omega) (by omega),if_neg (by assumption),if_neg (by first | (intro hx;omega) | (intro hx;rw [hfi] at hx;exact absurd hx.2 (by decide)))]),S7.dr0.dr0⟩
 refine g5 ?_
 refine EC_if rfl (fun h10=>?_) (fun h10=>?_)
 refine g9 ?_
 refine EC_if rfl (fun h11=>?_) (fun h11=>?_)
 refine g8 ?_
 refine f1 Tryz.results66 ?_
 exact ⟨I1,le1,(by rw [may_f hc (by omega) (by omega)]),S7.dr0.dr0⟩
 refine g8 ?_
 refine vl (.int .i64 (andI (rightsOf p.mem e.writer) 4)) rfl (r_andI rfl rfl) ?_
 refine g4 ?_
 refine EC_if rfl (fun h12=>?_) (fun h12=>?_)
 refine g8 ?_
 refine f1 Tryz.results66 ?_
 exact ⟨I1,le1,(by rw [may_a hc (by omega) (by omega),if_pos (by assumption)]),S7.dr0.dr0⟩
 refine g8 ?_
 rcases Bool.eq_false_or_eq_true (decide (e.kind=5)) with q2 | q2
 have q120':e.kind=5:=of_decide_eq_true q2
 refine EL_gret 42 rfl (by exact congrArg Value.bool q2) rfl rfl _ rfl Tryz.func93 rfl nm93 (by exact args2 (by exact cond_of (show ((decide (e.kind=5)) == true)=true from by rw [q2];rfl) rfl) (by exact cond_of (show ((decide (e.kind=5)) == true)=true from by rw [q2];rfl) rfl)) (fits_c (polRC p v0) p (entRC e v1 v2 v3) e _ _ _ S7 ⟨v0,rfl,ad,ad,⟨o0,(H0.up le1)⟩⟩ ⟨v1,v2,v3,rfl,ad,ad,ad,⟨o1,(H1.up le1)⟩,⟨o2,(H2.up le1)⟩,ad,ad,ad,⟨o3,(H3.up le1)⟩⟩ hri hri2 hwl) ?_
 rintro _ w10 ⟨I4,le4,rfl,S10⟩
 refine EL_gval 42 rfl (by exact congrArg Value.bool q2) rfl rfl (.bool (!(p.fits e))) w10 rfl (r_not rfl) ?_
 refine vl (.bool (!(p.fits e))) rfl (r_pickT (by exact congrArg Value.bool q2) rfl) ?_
 refine g3 ?_
 refine EC_cond (t:=!(p.fits e)) rfl (fun h13=>?_) (fun h13=>?_)
 have hfi:p.fits e=false:=by simpa using h13
 refine g8 ?_
 refine f1 Tryz.results66 ?_
 exact ⟨I4,(lT le1 le4),(by rw [may_a hc (by omega) (by omega),if_neg (by assumption),if_pos ⟨by assumption,hfi⟩]),S10.dr0.dr0⟩
 have hfi:p.fits e=true:=by simpa using h13
 refine g9 ?_
 refine f1 Tryz.results66 ?_
 exact ⟨I4,(lT le1 le4),(by rw [may_a hc (by omega) (by omega),if_neg (by assumption),if_neg (by first | (intro hx;omega) | (intro hx;rw [hfi] at hx;exact absurd hx.2 (by decide)))]),S10.dr0.dr0⟩
 have q120':¬(e.kind=5):=of_decide_eq_false q2
 refine EL_pass 42 rfl (by exact congrArg Value.bool q2) rfl rfl rfl (EL_pass 42 rfl (by exact congrArg Value.bool q2) rfl rfl rfl (vl (.bool false) rfl (r_pickF (by exact congrArg Value.bool q2) rfl) ?_))
 refine g13 ?_
 refine f1 Tryz.results66 ?_
 exact ⟨I1,le1,(by rw [may_a hc (by omega) (by omega),if_neg (by assumption),if_neg (by first | (intro hx;omega) | (intro hx;rw [hfi] at hx;exact absurd hx.2 (by decide)))]),S7.dr0.dr0⟩
 refine g8 ?_
 refine vl (.int .i64 (andI (rightsOf p.mem e.writer) 4)) rfl (r_andI rfl rfl) ?_
 refine g4 ?_
 refine EC_if rfl (fun h14=>?_) (fun h14=>?_)
 refine g8 ?_
 refine f1 Tryz.results66 ?_
 exact ⟨I1,le1,(by rw [may_a hc (by omega) (by omega),if_pos (by assumption)]),S7.dr0.dr0⟩
 refine g8 ?_
 rcases Bool.eq_false_or_eq_true (decide (e.kind=5)) with q3 | q3
 have q137':e.kind=5:=of_decide_eq_true q3
 refine EL_gret 42 rfl (by exact congrArg Value.bool q3) rfl rfl _ rfl Tryz.func93 rfl nm93 (by exact args2 (by exact cond_of (show ((decide (e.kind=5)) == true)=true from by rw [q3];rfl) rfl) (by exact cond_of (show ((decide (e.kind=5)) == true)=true from by rw [q3];rfl) rfl)) (fits_c (polRC p v0) p (entRC e v1 v2 v3) e _ _ _ S7 ⟨v0,rfl,ad,ad,⟨o0,(H0.up le1)⟩⟩ ⟨v1,v2,v3,rfl,ad,ad,ad,⟨o1,(H1.up le1)⟩,⟨o2,(H2.up le1)⟩,ad,ad,ad,⟨o3,(H3.up le1)⟩⟩ hri hri2 hwl) ?_
 rintro _ w11 ⟨I5,le5,rfl,S11⟩
 refine EL_gval 42 rfl (by exact congrArg Value.bool q3) rfl rfl (.bool (!(p.fits e))) w11 rfl (r_not rfl) ?_
 refine vl (.bool (!(p.fits e))) rfl (r_pickT (by exact congrArg Value.bool q3) rfl) ?_
 refine g3 ?_
 refine EC_cond (t:=!(p.fits e)) rfl (fun h15=>?_) (fun h15=>?_)
 have hfi:p.fits e=false:=by simpa using h15
 refine g8 ?_
 refine f1 Tryz.results66 ?_
 exact ⟨I5,(lT le1 le5),(by rw [may_a hc (by omega) (by omega),if_neg (by assumption),if_pos ⟨by assumption,hfi⟩]),S11.dr0.dr0⟩
 have hfi:p.fits e=true:=by simpa using h15
 refine g9 ?_
 refine f1 Tryz.results66 ?_
 exact ⟨I5,(lT le1 le5),(by rw [may_a hc (by omega) (by omega),if_neg (by assumption),if_neg (by first | (intro hx;omega) | (intro hx;rw [hfi] at hx;exact absurd hx.2 (by decide)))]),S11.dr0.dr0⟩
 have q137':¬(e.kind=5):=of_decide_eq_false q3
 refine EL_pass 42 rfl (by exact congrArg Value.bool q3) rfl rfl rfl (EL_pass 42 rfl (by exact congrArg Value.bool q3) rfl rfl rfl (vl (.bool false) rfl (r_pickF (by exact congrArg Value.bool q3) rfl) ?_))
 refine g13 ?_
 refine f1 Tryz.results66 ?_
 exact ⟨I1,le1,(by rw [may_a hc (by omega) (by omega),if_neg (by assumption),if_neg (by first | (intro hx;omega) | (intro hx;rw [hfi] at hx;exact absurd hx.2 (by decide)))]),S7.dr0.dr0⟩
 refine g5 ?_
 refine EC_if rfl (fun h16=>?_) (fun h16=>?_)
 refine g4 ?_
 refine vl (.int .i64 (andI (rightsOf p.mem e.writer) 6)) rfl (r_andI rfl rfl) ?_
 refine g3 ?_
 refine EC_if rfl (fun h17=>?_) (fun h17=>?_)
 refine g9 ?_
 refine f1 Tryz.results66 ?_
 exact ⟨I1,le1,(by rw [may_w hc (by omega),if_pos (by assumption)]),S7.dr0.dr0⟩
 refine g10 ?_
 refine f1 Tryz.results66 ?_
 exact ⟨I1,le1,(by rw [may_w hc (by omega),if_neg (by assumption)]),S7.dr0.dr0⟩
 refine g7 ?_
 refine EC_if rfl (fun h18=>?_) (fun h18=>?_)
 refine g2 ?_
 refine EC_if rfl (fun h19=>?_) (fun h19=>?_)
 refine g9 ?_
 refine EC_if rfl (fun h20=>?_) (fun h20=>?_)
 refine g8 ?_
 refine f1 Tryz.results66 ?_
 exact ⟨I1,le1,(by rw [may_f hc (by omega) (by omega)]),S7.dr0.dr0⟩
 refine g8 ?_
 refine vl (.int .i64 (andI (rightsOf p.mem e.writer) 4)) rfl (r_andI rfl rfl) ?_
 refine g4 ?_
 refine EC_if rfl (fun h21=>?_) (fun h21=>?_)
 refine g8 ?_
 refine f1 Tryz.results66 ?_
 exact ⟨I1,le1,(by rw [may_a hc (by omega) (by omega),if_pos (by assumption)]),S7.dr0.dr0⟩
 refine g8 ?_
 rcases Bool.eq_false_or_eq_true (decide (e.kind=5)) with q4 | q4
 have q165':e.kind=5:=of_decide_eq_true q4
 refine EL_gret 42 rfl (by exact congrArg Value.bool q4) rfl rfl _ rfl Tryz.func93 rfl nm93 (by exact args2 (by exact cond_of (show ((decide (e.kind=5)) == true)=true from by rw [q4];rfl) rfl) (by exact cond_of (show ((decide (e.kind=5)) == true)=true from by rw [q4];rfl) rfl)) (fits_c (polRC p v0) p (entRC e v1 v2 v3) e _ _ _ S7 ⟨v0,rfl,ad,ad,⟨o0,(H0.up le1)⟩⟩ ⟨v1,v2,v3,rfl,ad,ad,ad,⟨o1,(H1.up le1)⟩,⟨o2,(H2.up le1)⟩,ad,ad,ad,⟨o3,(H3.up le1)⟩⟩ hri hri2 hwl) ?_
 rintro _ w12 ⟨I6,le6,rfl,S12⟩
 refine EL_gval 42 rfl (by exact congrArg Value.bool q4) rfl rfl (.bool (!(p.fits e))) w12 rfl (r_not rfl) ?_
 refine vl (.bool (!(p.fits e))) rfl (r_pickT (by exact congrArg Value.bool q4) rfl) ?_
 refine g3 ?_
 refine EC_cond (t:=!(p.fits e)) rfl (fun h22=>?_) (fun h22=>?_)
 have hfi:p.fits e=false:=by simpa using h22
 refine g8 ?_
 refine f1 Tryz.results66 ?_
 exact ⟨I6,(lT le1 le6),(by rw [may_a hc (by omega) (by omega),if_neg (by assumption),if_pos ⟨by assumption,hfi⟩]),S12.dr0.dr0⟩
 have hfi:p.fits e=true:=by simpa using h22
 refine g9 ?_
 refine f1 Tryz.results66 ?_
 exact ⟨I6,(lT le1 le6),(by rw [may_a hc (by omega) (by omega),if_neg (by assumption),if_neg (by first | (intro hx;omega) | (intro hx;rw [hfi] at hx;exact absurd hx.2 (by decide)))]),S12.dr0.dr0⟩
 have q165':¬(e.kind=5):=of_decide_eq_false q4
 refine EL_pass 42 rfl (by exact congrArg Value.bool q4) rfl rfl rfl (EL_pass 42 rfl (by exact congrArg Value.bool q4) rfl rfl rfl (vl (.bool false) rfl (r_pickF (by exact congrArg Value.bool q4) rfl) ?_))
 refine g13 ?_
 refine f1 Tryz.results66 ?_
 exact ⟨I1,le1,(by rw [may_a hc (by omega) (by omega),if_neg (by assumption),if_neg (by first | (intro hx;omega) | (intro hx;rw [hfi] at hx;exact absurd hx.2 (by decide)))]),S7.dr0.dr0⟩
 refine g8 ?_
 refine vl (.int .i64 (andI (rightsOf p.mem e.writer) 4)) rfl (r_andI rfl rfl) ?_
 refine g4 ?_
 refine EC_if rfl (fun h23=>?_) (fun h23=>?_)
 refine g8 ?_
 refine f1 Tryz.results66 ?_
 exact ⟨I1,le1,(by rw [may_a hc (by omega) (by omega),if_pos (by assumption)]),S7.dr0.dr0⟩
 refine g8 ?_
 rcases Bool.eq_false_or_eq_true (decide (e.kind=5)) with q5 | q5
 have q182':e.kind=5:=of_decide_eq_true q5
 refine EL_gret 42 rfl (by exact congrArg Value.bool q5) rfl rfl _ rfl Tryz.func93 rfl nm93 (by exact args2 (by exact cond_of (show ((decide (e.kind=5)) == true)=true from by rw [q5];rfl) rfl) (by exact cond_of (show ((decide (e.kind=5)) == true)=true from by rw [q5];rfl) rfl)) (fits_c (polRC p v0) p (entRC e v1 v2 v3) e _ _ _ S7 ⟨v0,rfl,ad,ad,⟨o0,(H0.up le1)⟩⟩ ⟨v1,v2,v3,rfl,ad,ad,ad,⟨o1,(H1.up le1)⟩,⟨o2,(H2.up le1)⟩,ad,ad,ad,⟨o3,(H3.up le1)⟩⟩ hri hri2 hwl) ?_
 rintro _ w13 ⟨I7,le7,rfl,S13⟩
 refine EL_gval 42 rfl (by exact congrArg Value.bool q5) rfl rfl (.bool (!(p.fits e))) w13 rfl (r_not rfl) ?_
 refine vl (.bool (!(p.fits e))) rfl (r_pickT (by exact congrArg Value.bool q5) rfl) ?_
 refine g3 ?_
 refine EC_cond (t:=!(p.fits e)) rfl (fun h24=>?_) (fun h24=>?_)
 have hfi:p.fits e=false:=by simpa using h24
 refine g8 ?_
 refine f1 Tryz.results66 ?_
 exact ⟨I7,(lT le1 le7),(by rw [may_a hc (by omega) (by omega),if_neg (by assumption),if_pos ⟨by assumption,hfi⟩]),S13.dr0.dr0⟩
 have hfi:p.fits e=true:=by simpa using h24
 refine g9 ?_
 refine f1 Tryz.results66 ?_
 exact ⟨I7,(lT le1 le7),(by rw [may_a hc (by omega) (by omega),if_neg (by assumption),if_neg (by first | (intro hx;omega) | (intro hx;rw [hfi] at hx;exact absurd hx.2 (by decide)))]),S13.dr0.dr0⟩
 have q182':¬(e.kind=5):=of_decide_eq_false q5
 refine EL_pass 42 rfl (by exact congrArg Value.bool q5) rfl rfl rfl (EL_pass 42 rfl (by exact congrArg Value.bool q5) rfl rfl rfl (vl (.bool false) rfl (r_pickF (by exact congrArg Value.bool q5) rfl) ?_))
 refine g13 ?_
 refine f1 Tryz.results66 ?_
 exact ⟨I1,le1,(by rw [may_a hc (by omega) (by omega),if_neg (by assumption),if_neg (by first | (intro hx;omega) | (intro hx;rw [hfi] at hx;exact absurd hx.2 (by decide)))]),S7.dr0.dr0⟩
 refine g5 ?_
 refine EC_if rfl (fun h25=>?_) (fun h25=>?_)
 refine g9 ?_
 refine EC_if rfl (fun h26=>?_) (fun h26=>?_)
 refine g8 ?_
 refine f1 Tryz.results66 ?_
 exact ⟨I1,le1,(by rw [may_f hc (by omega) (by omega)]),S7.dr0.dr0⟩
 refine g8 ?_
 refine vl (.int .i64 (andI (rightsOf p.mem e.writer) 4)) rfl (r_andI rfl rfl) ?_
 refine g4 ?_
 refine EC_if rfl (fun h27=>?_) (fun h27=>?_)
 refine g8 ?_
 refine f1 Tryz.results66 ?_
 exact ⟨I1,le1,(by rw [may_a hc (by omega) (by omega),if_pos (by assumption)]),S7.dr0.dr0⟩
 refine g8 ?_
 rcases Bool.eq_false_or_eq_true (decide (e.kind=5)) with q6 | q6
 have q203':e.kind=5:=of_decide_eq_true q6
 refine EL_gret 42 rfl (by exact congrArg Value.bool q6) rfl rfl _ rfl Tryz.func93 rfl nm93 (by exact args2 (by exact cond_of (show ((decide (e.kind=5)) == true)=true from by rw [q6];rfl) rfl) (by exact cond_of (show ((decide (e.kind=5)) == true)=true from by rw [q6];rfl) rfl)) (fits_c (polRC p v0) p (entRC e v1 v2 v3) e _ _ _ S7 ⟨v0,rfl,ad,ad,⟨o0,(H0.up le1)⟩⟩ ⟨v1,v2,v3,rfl,ad,ad,ad,⟨o1,(H1.up le1)⟩,⟨o2,(H2.up le1)⟩,ad,ad,ad,⟨o3,(H3.up le1)⟩⟩ hri hri2 hwl) ?_
 rintro _ w14 ⟨I8,le8,rfl,S14⟩
 refine EL_gval 42 rfl (by exact congrArg Value.bool q6) rfl rfl (.bool (!(p.fits e))) w14 rfl (r_not rfl) ?_
 refine vl (.bool (!(p.fits e))) rfl (r_pickT (by exact congrArg Value.bool q6) rfl) ?_
 refine g3 ?_
 refine EC_cond (t:=!(p.fits e)) rfl (fun h28=>?_) (fun h28=>?_)
 have hfi:p.fits e=false:=by simpa using h28
 refine g8 ?_
 refine f1 Tryz.results66 ?_
 exact ⟨I8,(lT le1 le8),(by rw [may_a hc (by omega) (by omega),if_neg (by assumption),if_pos ⟨by assumption,hfi⟩]),S14.dr0.dr0⟩
 have hfi:p.fits e=true:=by simpa using h28
 refine g9 ?_
 refine f1 Tryz.results66 ?_
 exact ⟨I8,(lT le1 le8),(by rw [may_a hc (by omega) (by omega),if_neg (by assumption),if_neg (by first | (intro hx;omega) | (intro hx;rw [hfi] at hx;exact absurd hx.2 (by decide)))]),S14.dr0.dr0⟩
 have q203':¬(e.kind=5):=of_decide_eq_false q6
 refine EL_pass 42 rfl (by exact congrArg Value.bool q6) rfl rfl rfl (EL_pass 42 rfl (by exact congrArg Value.bool q6) rfl rfl rfl (vl (.bool false) rfl (r_pickF (by exact congrArg Value.bool q6) rfl) ?_))
 refine g13 ?_
 refine f1 Tryz.results66 ?_
 exact ⟨I1,le1,(by rw [may_a hc (by omega) (by omega),if_neg (by assumption),if_neg (by first | (intro hx;omega) | (intro hx;rw [hfi] at hx;exact absurd hx.2 (by decide)))]),S7.dr0.dr0⟩
 refine g8 ?_
 refine vl (.int .i64 (andI (rightsOf p.mem e.writer) 4)) rfl (r_andI rfl rfl) ?_
 refine g4 ?_
 refine EC_if rfl (fun h29=>?_) (fun h29=>?_)
 refine g8 ?_
 refine f1 Tryz.results66 ?_
 exact ⟨I1,le1,(by rw [may_a hc (by omega) (by omega),if_pos (by assumption)]),S7.dr0.dr0⟩
 refine g8 ?_
 rcases Bool.eq_false_or_eq_true (decide (e.kind=5)) with q7 | q7
 have q220':e.kind=5:=of_decide_eq_true q7
 refine EL_gret 42 rfl (by exact congrArg Value.bool q7) rfl rfl _ rfl Tryz.func93 rfl nm93 (by exact args2 (by exact cond_of (show ((decide (e.kind=5)) == true)=true from by rw [q7];rfl) rfl) (by exact cond_of (show ((decide (e.kind=5)) == true)=true from by rw [q7];rfl) rfl)) (fits_c (polRC p v0) p (entRC e v1 v2 v3) e _ _ _ S7 ⟨v0,rfl,ad,ad,⟨o0,(H0.up le1)⟩⟩ ⟨v1,v2,v3,rfl,ad,ad,ad,⟨o1,(H1.up le1)⟩,⟨o2,(H2.up le1)⟩,ad,ad,ad,⟨o3,(H3.up le1)⟩⟩ hri hri2 hwl) ?_
 rintro _ w15 ⟨I9,le9,rfl,S15⟩
 refine EL_gval 42 rfl (by exact congrArg Value.bool q7) rfl rfl (.bool (!(p.fits e))) w15 rfl (r_not rfl) ?_
 refine vl (.bool (!(p.fits e))) rfl (r_pickT (by exact congrArg Value.bool q7) rfl) ?_
 refine g3 ?_
 refine EC_cond (t:=!(p.fits e)) rfl (fun h30=>?_) (fun h30=>?_)
 have hfi:p.fits e=false:=by simpa using h30
 refine g8 ?_
 refine f1 Tryz.results66 ?_
 exact ⟨I9,(lT le1 le9),(by rw [may_a hc (by omega) (by omega),if_neg (by assumption),if_pos ⟨by assumption,hfi⟩]),S15.dr0.dr0⟩
 have hfi:p.fits e=true:=by simpa using h30
 refine g9 ?_
 refine f1 Tryz.results66 ?_
 exact ⟨I9,(lT le1 le9),(by rw [may_a hc (by omega) (by omega),if_neg (by assumption),if_neg (by first | (intro hx;omega) | (intro hx;rw [hfi] at hx;exact absurd hx.2 (by decide)))]),S15.dr0.dr0⟩
 have q220':¬(e.kind=5):=of_decide_eq_false q7
 refine EL_pass 42 rfl (by exact congrArg Value.bool q7) rfl rfl rfl (EL_pass 42 rfl (by exact congrArg Value.bool q7) rfl rfl rfl (vl (.bool false) rfl (r_pickF (by exact congrArg Value.bool q7) rfl) ?_))
 refine g13 ?_
 refine f1 Tryz.results66 ?_
 exact ⟨I1,le1,(by rw [may_a hc (by omega) (by omega),if_neg (by assumption),if_neg (by first | (intro hx;omega) | (intro hx;rw [hfi] at hx;exact absurd hx.2 (by decide)))]),S7.dr0.dr0⟩
end Go.Proofs.YthddplghlljdbaaGreat
