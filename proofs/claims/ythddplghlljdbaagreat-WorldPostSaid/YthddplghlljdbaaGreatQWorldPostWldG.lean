import Derived.Test.YthddplghlljdbaaGreatQWorldPostWldF
set_option linter.unusedVariables false
set_option linter.unusedSimpArgs false
set_option maxRecDepth 100000
set_option maxHeartbeats 4000000
namespace Go.Proofs.YthddplghlljdbaaGreat
open Go.RowKit Go.Ecal
def mbrR:Rep MembT:=⟨3,fun I cs a=>cs=[.int .i64 a.mc,.int .i64 a.mf,.int .i64 a.mw]∧(-9223372036854775808≤a.mc∧a.mc≤9223372036854775807)∧(-9223372036854775808≤a.mf∧a.mf≤9223372036854775807)∧(-9223372036854775808≤a.mw∧a.mw≤9223372036854775807),fun k h=>by obtain ⟨rfl,h0,h1,h2⟩:=h;exact ⟨rfl,h0,h1,h2⟩,
 fun h=>by obtain ⟨rfl,h0,h1,h2⟩:=h;rfl,fun h u hu=>by
  obtain ⟨rfl,h0,h1,h2⟩:=h
  simp only [List.mem_cons,List.not_mem_nil,or_false] at hu
  rcases hu with rfl | rfl | rfl<;>first | rfl | assumption⟩
def setR:Rep SetT:=⟨2,fun I cs a=>∃v1,cs=[.bool a.real,v1]∧(v1.oneCell'=true∧RoX I v1 mbrR a.mems),fun k h=>by obtain ⟨v1,rfl,⟨o1,h1⟩⟩:=h;exact ⟨v1,rfl,⟨o1,h1.up k⟩⟩,
 fun h=>by obtain ⟨v1,rfl,⟨o1,h1⟩⟩:=h;rfl,fun h u hu=>by
  obtain ⟨v1,rfl,⟨o1,h1⟩⟩:=h
  simp only [List.mem_cons,List.not_mem_nil,or_false] at hu
  rcases hu with rfl | rfl<;>first | rfl | assumption⟩
theorem RpNewBad_c (p:Value) (L:List Thing) (cx:List Value) (x:WhoT) (I:Gh) (R:List HP) (w:World) (S:Sat w I (Suite p L::R)) (hx:whoR.r I cx x) (hk:rplOk x.coll x.founder x.who=false):Ret Tryz.prog 40 [p,.agg cx.toArray] w fun v w'=>∃J:Gh,Gh.le I J∧.tuple #[.pointer none,.int .i64 12]=v∧Sat w' J (Suite p L::R):=by
 have hkn:=rpl_no hk
 obtain ⟨v0,rfl,r0,r1,r2,⟨o0,H0⟩⟩:=hx
 refine ret_E Tryz.func40 rfl Tryz.ntmps40 (by simp) ?_
 refine g2 ?_
 refine yB (cs:=whoRC x v0) S ?_
 intro b0 w0 S0
 refine g8 ?_
 refine yR (First_c x.founder _ _ _ S0 au) ?_
 rintro _ w1 ⟨cs0,I0,le0,rfl,h0,S1⟩
 obtain ⟨v1,rfl,r3,r4,⟨o1,H1⟩⟩:=h0
 refine g3 ?_
 refine yN polR0 S1 ?_
 intro b1 w2 S2
 refine yW0 S2 ?_ (h1:=ones_cons rfl (ones_cons rfl (ones_cons o1 ones_nil)))
 intro w3 S3
 refine g30 ?_
 refine EC_cond_true (Eq.trans (show _=Value.bool (((((decide ((firstE x.founder)≠0))||(decide (x.who<1)))||(decide (16<x.who)))||(decide (x.coll<1)))||(decide (1099511627776<x.coll))) from rfl) (congrArg Value.bool (show (((((decide ((firstE x.founder)≠0))||(decide (x.who<1)))||(decide (16<x.who)))||(decide (x.coll<1)))||(decide (1099511627776<x.coll)))=true from (by simp only [Bool.or_eq_true,decide_eq_true_eq];omega)))) ?_
 refine g8 ?_
 refine f2 Tryz.results40 ?_
 exact ⟨I0,le0,rfl,S3.dr0.dr0⟩
theorem LNewBad_c (p:Value) (L:List Thing) (cx:List Value) (x:WhoT) (I:Gh) (R:List HP) (w:World) (S:Sat w I (Suite p L::R)) (hx:whoR.r I cx x) (hk:rplOk x.coll x.founder x.who=false):Ret Tryz.prog 28 [p,.agg cx.toArray] w fun v w'=>∃J:Gh,Gh.le I J∧.tuple #[.pointer none,.int .i64 12]=v∧Sat w' J (Suite p L::R):=by
 obtain ⟨v0,rfl,r0,r1,r2,⟨o0,H0⟩⟩:=hx
 refine ret_E Tryz.func28 rfl Tryz.ntmps28 (by simp) ?_
 refine g2 ?_
 refine yB (cs:=whoRC x v0) S ?_
 intro b0 w0 S0
 refine g8 ?_
 refine yR (RpNewBad_c _ _ (whoRC x v0) x _ _ _ S0.fr1 ⟨v0,rfl,ad,ad,ad,⟨o0,H0⟩⟩ au) ?_
 rintro _ w1 ⟨I0,le0,rfl,S1⟩
 refine g11 ?_
 refine vl (.bool true) rfl (r_dec (by decide) (r_neq rfl rfl)) ?_
 refine g12 ?_
 refine f2 Tryz.results28 ?_
 exact ⟨I0,le0,rfl,S1.dr1⟩
theorem NEq_c (a:Nat) (cb:Nat) (x:Seat) (c:Nat) (m:MembT) (I:Gh) (R:List HP) (w:World) (S:Sat w I (Blk a 79 [ptr cb,.int .i64 x.c.coll,.int .i64 x.c.founder,.int .i64 x.c.who,.int .i64 x.branch]::Blk c 67 [.int .i64 m.mc,.int .i64 m.mf,.int .i64 m.mw]::R)):Ret Tryz.prog 26 [ptr a,ptr c] w fun v w'=>.bool (clash1 m x)=v∧Sat w' I (Blk a 79 [ptr cb,.int .i64 x.c.coll,.int .i64 x.c.founder,.int .i64 x.c.who,.int .i64 x.branch]::Blk c 67 [.int .i64 m.mc,.int .i64 m.mf,.int .i64 m.mw]::R):=by
 refine ret_E Tryz.func26 rfl Tryz.ntmps26 (by simp) ?_
 refine g6 ?_
 refine EC_quietB (by kernel_rfl) (by kernel_rfl) ?_
 refine g18 ?_
 refine EQ_gite2 21 rfl rfl rfl (ptr a) rfl (fun g20 _ hw=>r_move rfl) ?_
 refine EQ_gite2 21 rfl rfl rfl (ptr a) rfl (fun g21 _ hw=>r_nil (cond_of g21 rfl)) ?_
 refine EQ_gite2 21 rfl rfl rfl (ptr a 1) rfl (fun g22 _ hw=>r_fieldP (o:=0) (s:=3) (cond_of g22 rfl) U79 rfl (by kernel_rfl) (by decide) rfl) ?_
 refine EQ_gite2 21 rfl rfl rfl (ptr a 2) rfl (fun g23 _ hw=>fP 1 (cond_of g23 rfl) U67 (by kernel_rfl)) ?_
 refine EQ_gite2 21 rfl rfl rfl (.int .i64 x.c.founder) rfl (fun g24 _ hw=>r_loadA (cond_of g24 rfl) ((S.a0).below hw) (u:=(.int .i64 x.c.founder)) rfl U3 rfl) ?_
 refine EQ_gite2 21 rfl rfl rfl (ptr c 1) rfl (fun g25 _ hw=>fP 0 rfl U67 (by kernel_rfl)) ?_
 refine EQ_gite2 21 rfl rfl rfl (.int .i64 m.mf) rfl (fun g26 _ hw=>r_loadA (cond_of g26 rfl) ((S.a1).below hw) (u:=(.int .i64 m.mf)) rfl U3 rfl) ?_
 refine EQ_gite2 21 rfl rfl rfl (.bool (decide (x.c.founder≠m.mf))) rfl (fun g27 _ hw=>r_neq (cond_of g27 rfl) (cond_of g27 rfl)) ?_
 refine EQ_gite 12 rfl rfl rfl (.bool ((decide (x.c.who=m.mw))||(decide (x.c.founder≠m.mf)))) rfl (fun g28 _ hw=>r_or (cond_of g28 rfl) rfl (cond_in g28 rfl)) ?_
 refine g2 ?_
 refine yE S ?_
 intro w0 S0
 refine g2 ?_
 refine f1 Tryz.results26 ?_
 exact ⟨(congrArg Value.bool (by simp only [clash1])),S0⟩
theorem NIx_c (v0:Value) (bs:List (Nat×Nat)) (p:Value) (l:List Seat) (c:Nat) (m:MembT) (I:Gh) (R:List HP) (w:World) (S:Sat w I (Blk c 67 [.int .i64 m.mc,.int .i64 m.mf,.int .i64 m.mw]::OwnX 77 ptrR v0 (bs.map Prod.fst)::SeatsQ bs p l::R)) (hll:l.length≤1000):Ret Tryz.prog 38 [v0,.func (.func 26) #[] [ptr c].toArray] w fun v w'=>∃n:Int,.int .i64 n=v∧((n=-1∧l.any (clash1 m)=false)∨(0≤n∧l.any (clash1 m)=true))∧Sat w' I (Blk c 67 [.int .i64 m.mc,.int .i64 m.mf,.int .i64 m.mw]::OwnX 77 ptrR v0 (bs.map Prod.fst)::SeatsQ bs p l::R):=by
 have hbl:=SeatsP.len S.fr2
 have hbm:(bs.map Prod.fst).length=l.length:=by rw [List.length_map];exact hbl
 refine ret_E Tryz.func38 rfl Tryz.ntmps38 (by simp) ?_
 refine g9 ?_
 refine vl _ rfl (r_lenX rfl (OwnX.row S 1 rfl (by decide)).1 U70) ?_
 refine g4 ?_
 refine EC_loop (fun m' E' w'=>∃j:Nat,m'=l.length-j∧E' 8=.int .i64 (j:Int)∧E' 0=v0∧E' 1=.func (.func 26) #[] [ptr c].toArray∧E' 7=.int .i64 ((bs.map Prod.fst).length:Int)∧(j≤l.length)∧((l.take j).any (clash1 m)=false)∧Sat w' I (Blk c 67 [.int .i64 m.mc,.int .i64 m.mf,.int .i64 m.mw]::OwnX 77 ptrR v0 (bs.map Prod.fst)::SeatsQ bs p l::R)) _ ⟨0,rfl,rfl,rfl,rfl,rfl,Nat.zero_le _,rfl,S⟩ ?_
 rintro _ E0 w0 ⟨j,rfl,e0,e1,e2,e3,hj,hno,S0⟩
 refine g6 ?_
 refine EC_if rfl (fun h0=>?_) (fun h0=>?_)
 refine g15 ?_
 refine vl (ptr (blkOf v0) (offOf v0+((j:Int):Int).toNat*1)) rfl (r_indexX rfl (OwnX.row S0 1 rfl (by decide)).1 rfl (by omega) as' U70 (by kernel_rfl)) ?_
 obtain ⟨a0,ha0⟩:=get_some (l:=bs.map Prod.fst) (j:=((j:Int):Int).toNat) as'
 obtain ⟨cs0,hc0,he0⟩:=(OwnX.row S0 1 rfl (by decide)).2 _ _ ha0
 obtain rfl:=hc0
 refine vl _ rfl (r_load0 rfl he0 U77 rfl) ?_
 obtain ⟨cb,hb⟩:=seat_get ha0
 obtain ⟨x,hx⟩:=get_some (l:=l) (j:=j) (by omega)
 have S1:Sat w0 I (Blk a0 79 [ptr cb,.int .i64 x.c.coll,.int .i64 x.c.founder,.int .i64 x.c.who,.int .i64 x.branch]::CliP (ptr cb) p x.c::SeatsQ (bs.eraseIdx j) p (l.eraseIdx j)::Blk c 67 [.int .i64 m.mc,.int .i64 m.mf,.int .i64 m.mw]::OwnX 77 ptrR v0 (bs.map Prod.fst)::R):=SeatsQ.open hb hx S0.fr2
 refine EL_retw _ rfl rfl Tryz.func26 rfl nm26 rfl (NEq_c _ _ x _ m _ _ _ S1.fr3.fr1) ?_
 rintro _ w1 ⟨rfl,S2⟩
 have S3:Sat w1 I (SeatsQ bs p l::Blk c 67 [.int .i64 m.mc,.int .i64 m.mf,.int .i64 m.mw]::OwnX 77 ptrR v0 (bs.map Prod.fst)::R):=SeatsQ.same hb hx S2.fr3.fr3.fr2
 refine g2 ?_
 refine EC_cond (t:=clash1 m x) rfl (fun h1=>?_) (fun h1=>?_)
 have hcl:clash1 m x=true:=h1
 refine g12 ?_
 refine f1 Tryz.results38 ?_
 exact ⟨(j:Int),rfl,(.inr ⟨by omega,List.any_eq_true.2 ⟨x,List.mem_of_getElem? hx,hcl⟩⟩),S3.fr2.fr2⟩
 have hcl:clash1 m x=false:=h1
 refine g4 ?_
 refine EL_int ((j:Int)+1) rfl (r_addi (by exact e0) rfl (by omega)) ?_
 intro x0 hx37
 refine g3 ?_
 refine ⟨_,?_,j+1,rfl,(Eq.trans (show _=Value.int .i64 x0 from rfl) (congrArg _ (by omega))),(by exact e1),(by exact e2),(by exact e3),by omega,(by rw [List.take_add_one,hx];simp [hno,hcl]),S3.fr2.fr2⟩
 first | omega | (simp;omega)
 refine g11 ?_
 refine f1 Tryz.results38 ?_
 exact ⟨(-1),rfl,(.inl ⟨rfl,by rwa [List.take_of_length_le (by omega)] at hno⟩),S0⟩
theorem NCn_c (v0:Value) (bs:List (Nat×Nat)) (p:Value) (l:List Seat) (c:Nat) (m:MembT) (I:Gh) (R:List HP) (w:World) (S:Sat w I (Blk c 67 [.int .i64 m.mc,.int .i64 m.mf,.int .i64 m.mw]::OwnX 77 ptrR v0 (bs.map Prod.fst)::SeatsQ bs p l::R)) (hll:l.length≤1000):Ret Tryz.prog 25 [v0,.func (.func 26) #[] [ptr c].toArray] w fun v w'=>.bool (l.any (clash1 m))=v∧Sat w' I (Blk c 67 [.int .i64 m.mc,.int .i64 m.mf,.int .i64 m.mw]::OwnX 77 ptrR v0 (bs.map Prod.fst)::SeatsQ bs p l::R):=by
 refine ret_E Tryz.func25 rfl Tryz.ntmps25 (by simp) ?_
 refine g9 ?_
 refine yR (NIx_c _ _ _ _ _ m _ _ _ S au) ?_
 rintro _ w0 ⟨n0,rfl,h0,S0⟩
 have hcn:=h0
 refine g5 ?_
 refine f1 Tryz.results25 ?_
 exact ⟨(congrArg Value.bool (by rcases hcn with ⟨h1,h2⟩ | ⟨h1,h2⟩<;>rw [h2]<;>simp<;>omega)),S0⟩
theorem WNew_c (cx:List Value) (x:SetT) (I:Gh) (R:List HP) (w:World) (S:Sat w I (R)) (hx:setR.r I cx x) (hr:x.real=false):Ret Tryz.prog 10 [.agg cx.toArray] w fun v w'=>∃v1:Value,∃J:Gh,Gh.le I J∧.tuple #[v1,.int .i64 (if (newW x.mems).isSome then 0 else 10)]=v∧Sat w' J (NewP v1 (newW x.mems)::R):=by
 obtain ⟨v0,rfl,⟨o0,H0⟩⟩:=hx
 refine ret_E Tryz.func10 rfl Tryz.ntmps10 (by simp) ?_
 refine g2 ?_
 refine yB (cs:=[.bool x.real,v0]) S ?_
 intro b0 w0 S0
 refine g4 ?_
 refine EC_scope (fun l' m' E' w'=>(l'=0∧∃J:Gh,m'=0∧E' 1=ptr b0∧(newW x.mems=none)∧Gh.le I J∧Sat w' J (R))) 1 ?_ ?_
 refine g2 ?_
 refine yR (SNew_c _ _ _ S0) ?_
 rintro _ w1 ⟨q0,rfl,S1⟩
 have o1:=SrvP.one S1
 refine vl _ rfl (gB [.slice none 0 0,q0,.slice none 0 0,.slice none 0 0] st_72 (parts1 rfl) (fill_one rfl (one_cells o1) rfl fill_end)) ?_
 refine yB (cs:=[.slice none 0 0,q0,.slice none 0 0,.slice none 0 0]) S1 ?_
 intro b1 w2 S2
 refine g5 ?_
 refine yR (Signs_c _ _ _ S2) ?_
 rintro _ w3 ⟨p0,rfl,S3⟩
 have o2:=Suite.one S3
 refine g10 ?_
 refine EC_cond_false (Eq.trans (show _=Value.bool (x.real) from rfl) (congrArg Value.bool (show (x.real)=false from hr))) ?_
 refine g7 ?_
 refine vl _ rfl (r_lenX rfl (H0.row S3.le) U25) ?_
 refine g4 ?_
 refine EL_gite 25 rfl rfl rfl (.int .i64 (x.mems.length:Int)) rfl (fun g38=>r_lenX (cond_of g38 rfl) (H0.row S3.le) U25) ?_
 refine g4 ?_
 refine EC_cond (t:=(decide ((x.mems.length:Int)<1))||(decide (6<(x.mems.length:Int)))) rfl (fun h0=>?_) (fun h0=>?_)
 have hg90:x.mems.length<1∨6<x.mems.length:=by have h:=h0;simp at h;omega
 refine EC_goto ?_
 refine g1 ?_
 refine jmp_g _ ?_ ⟨rfl,I,rfl,rfl,(if_pos (by omega)),(Gh.le_refl _),S3.dr0.dr0.dr0.dr0⟩
 first | omega | (simp;omega)
 have hg90:¬(x.mems.length<1∨6<x.mems.length):=by have h:=h0;simp at h;omega
 refine g7 ?_
 refine vl _ rfl (r_lenX rfl (H0.row S3.le) U25) ?_
 refine g4 ?_
 have S4:Sat _ _ (OwnX 77 ptrR (.slice none 0 0) []::_):=OwnX.nil S3 77 ptrR
 have q1:[]=(([]:List (Nat×Nat)).map Prod.fst):=rfl
 have S5:=S4.ax0 q1
 have S6:=SeatsQ.nil S5 p0
 refine EC_loop (fun m' E' w'=>∃j:Nat,∃bs:List (Nat×Nat),∃l:List Seat,∃L:List Thing,∃lv:Value,∃J:Gh,m'=x.mems.length-j∧E' 34=.int .i64 (j:Int)∧E' 1=ptr b0∧E' 2=.pointer none∧E' 3=.int .i64 0∧E' 4=ptr b1∧E' 5=p0∧E' 12=q0∧E' 13=.agg ([.slice none 0 0,q0,.slice none 0 0,.slice none 0 0]).toArray∧E' 14=ptr b1∧E' 15=p0∧E' 16=ptr b0 0∧E' 17=.bool x.real∧E' 21=ptr b0 1∧E' 22=v0∧E' 23=.int .i64 (x.mems.length:Int)∧E' 24=.bool (decide ((x.mems.length:Int)<1))∧E' 25=.bool (decide ((x.mems.length:Int)<1))∧E' 26=(bif ((decide ((x.mems.length:Int)<1)) == false) then ptr b0 1 else undef)∧E' 27=(bif ((decide ((x.mems.length:Int)<1)) == false) then v0 else undef)∧E' 28=(bif ((decide ((x.mems.length:Int)<1)) == false) then .int .i64 (x.mems.length:Int) else undef)∧E' 29=(bif ((decide ((x.mems.length:Int)<1)) == false) then .bool (decide (6<(x.mems.length:Int))) else undef)∧E' 30=.bool ((decide ((x.mems.length:Int)<1))||(decide (6<(x.mems.length:Int))))∧E' 31=ptr b0 1∧E' 32=v0∧E' 33=.int .i64 (x.mems.length:Int)∧(j≤x.mems.length)∧(newAll (x.mems.take j) ([],[])=some (L,l))∧(L.length≤2*j)∧(l.length=j)∧(bs.length=l.length)∧Gh.le I J∧Sat w' J (Blk b1 72 [lv,q0,.slice none 0 0,.slice none 0 0]::OwnX 77 ptrR lv (bs.map Prod.fst)::SeatsQ bs p0 l::Suite p0 L::SrvP q0 Srv.new::Blk b0 27 [.bool x.real,v0]::R)) _ ⟨0,[],[],[],.slice none 0 0,I,rfl,rfl,rfl,rfl,rfl,rfl,rfl,rfl,rfl,rfl,rfl,rfl,rfl,rfl,rfl,rfl,rfl,rfl,rfl,rfl,rfl,rfl,rfl,rfl,rfl,rfl,Nat.zero_le _,rfl,by simp,rfl,rfl,(Gh.le_refl _),S6.fr5.fr5.fr4.fr3.fr4.fr5⟩ ?_
 rintro _ E0 w4 ⟨j,bs,l,L,lv,I0,rfl,e0,e1,e2,e3,e4,e5,e6,e7,e8,e9,e10,e11,e12,e13,e14,e15,e16,e17,e18,e19,e20,e21,e22,e23,e24,hj,hall,hlL,hll,hbl,le0,S7⟩
 refine g6 ?_
 refine EC_if rfl (fun h1=>?_) (fun h1=>?_)
 refine g6 ?_
 refine vl (ptr (blkOf v0) (offOf v0+((j:Int):Int).toNat*3)) rfl (r_indexX (by exact e23) (H0.row (lT le0 S7.le)) (by exact e0) (by omega) as' U25 (by kernel_rfl)) ?_
 obtain ⟨a0,ha0⟩:=get_some (l:=x.mems) (j:=((j:Int):Int).toNat) as'
 obtain ⟨cs0,hc0,he0⟩:=H0.el ha0
 obtain ⟨rfl,r0,r1,r2⟩:=hc0
 refine vl (.agg ([.int .i64 a0.mc,.int .i64 a0.mf,.int .i64 a0.mw]).toArray) rfl (r_loadR (cs:=[.int .i64 a0.mc,.int .i64 a0.mf,.int .i64 a0.mw]) rfl (he0 _ (lT le0 S7.le)) U67 rfl (by kernel_rfl)) ?_
 refine yN [.int .i64 0,.int .i64 0,.int .i64 0] S7 ?_
 intro b2 w5 S8
 refine yW0 S8 ?_
 intro w6 S9
 refine g9 ?_
 refine vl (.func (.func 26) #[] [ptr b2].toArray) rfl (r_mkfun rfl rfl) ?_
 refine yR (NCn_c _ _ _ _ _ a0 _ _ _ S9.fr3.fr3.fr2 (by omega)) ?_
 rintro _ w7 ⟨rfl,S10⟩
 refine g2 ?_
 refine EC_cond (t:=l.any (clash1 a0)) rfl (fun h2=>?_) (fun h2=>?_)
 have hcs:=h2
 refine EC_goto ?_
 refine g6 ?_
 refine jmp_g _ ?_ ⟨rfl,I0,rfl,(by exact e1),(newW_no (by omega) hall (show x.mems[j]?=_ from ha0) (newOne_clash (y:=(L,l)) hcs)),le0,S10.dr0.dr0.dr0.dr0.dr0.dr0.dr0⟩
 first | omega | (simp;omega)
 have hcs:=h2
 refine g6 ?_
 refine vl _ rfl (r_iface rfl U3 rfl) ?_
 refine EL_lit1 (l:=[(0,.iface 3 (.int .i64 a0.mc))]) w7.heap.size [.iface 3 (.int .i64 a0.mc)] el_122 rfl (by decide) rfl (Nat.le_refl _) (parts1 rfl) (Eq.trans (show Instr.fill _ _ [(0,.iface 3 (.int .i64 a0.mc))]=_ from (fill_one rfl rfl (by kernel_rfl) fill_end)) (by kernel_rfl)) ?_
 intro v2 w8 O0 B0 k0
 have S11:Sat _ _ (OwnX 20 anyR v2 [(Any.int a0.mc)]::_):=OwnX.cls (xss:=[[.iface 3 (.int .i64 a0.mc)]]) (.cons ⟨rfl,(by first | assumption | omega)⟩ .nil) (S10.newO B0 O0)
 have oH128:=(OwnX.one S11 0 rfl (by decide))
 obtain ⟨I1,le1,S12,H1⟩:=S11.fx0 (by decide)
 refine yR (Put_c _ _ _ _ _ S12 H1 (by simp)) ?_
 rintro _ w9 ⟨v3,rfl,S13⟩
 refine g8 ?_
 rcases hrk:rplOk a0.mc a0.mf a0.mw with _ | _
 refine g9 ?_
 refine vl _ rfl (gB [.int .i64 a0.mc,.int .i64 a0.mf,.int .i64 a0.mw,v3] st_86 (parts4 rfl rfl rfl rfl) (fill_one rfl rfl rfl (fill_one rfl rfl rfl (fill_one rfl rfl rfl (fill_one rfl (one_cells (own_one (S13.own 0 rfl))) rfl fill_end))))) ?_
 obtain ⟨I2,le2,S14,H2⟩:=S13.fb0
 have S15:=S14.fr4
 refine yR (LNewBad_c _ _ [.int .i64 a0.mc,.int .i64 a0.mf,.int .i64 a0.mw,v3] (⟨a0.mc,a0.mf,a0.mw,putB [(Any.int a0.mc)]⟩:WhoT) _ _ _ S15 ⟨v3,rfl,ad,ad,ad,⟨(row_one (H2 _ S15.le)),H2⟩⟩ hrk) ?_
 rintro _ w10 ⟨I3,le3,rfl,S16⟩
 refine g11 ?_
 refine vl (.bool true) rfl (r_dec (by decide) (r_neq rfl rfl)) ?_
 refine g3 ?_
 refine EC_goto ?_
 refine g6 ?_
 refine jmp_g _ ?_ ⟨rfl,I3,rfl,(by exact e1),(newW_no (by omega) hall (show x.mems[j]?=_ from ha0) (newOne_bad (y:=(L,l)) hrk)),(lT (lT (lT le0 le1) le2) le3),S16.dr0.dr0.dr0.dr0.dr0.dr0.dr0⟩
 first | omega | (simp;omega)
 refine g9 ?_
 refine vl _ rfl (gB [.int .i64 a0.mc,.int .i64 a0.mf,.int .i64 a0.mw,v3] st_86 (parts4 rfl rfl rfl rfl) (fill_one rfl rfl rfl (fill_one rfl rfl rfl (fill_one rfl rfl rfl (fill_one rfl (one_cells (own_one (S13.own 0 rfl))) rfl fill_end))))) ?_
 obtain ⟨I4,le4,S17,H3⟩:=S13.fb0
 have S18:=S17.fr4
 refine yR (LNew_c _ _ [.int .i64 a0.mc,.int .i64 a0.mf,.int .i64 a0.mw,v3] (⟨a0.mc,a0.mf,a0.mw,putB [(Any.int a0.mc)]⟩:WhoT) _ _ _ S18 ⟨v3,rfl,ad,ad,ad,⟨(row_one (H3 _ S18.le)),H3⟩⟩ (by omega) hrk (Nat.le_trans (putB_le _) (by simp))) ?_
 rintro _ w11 ⟨b3,I5,le5,rfl,S19⟩
 refine g11 ?_
 refine vl (.bool false) rfl (r_dec (by decide) (r_neq rfl rfl)) ?_
 refine g5 ?_
 refine yJ 13 (fun w'=>Arr w' b1 72 [lv,q0,.slice none 0 0,.slice none 0 0]∧Arr w' b2 67 [.int .i64 a0.mc,.int .i64 a0.mf,.int .i64 a0.mw]) S19 ?_
 intro w12 S20
 refine yT 0 S20.le ⟨S20.a5,S20.a2⟩ ?_
 refine yT 1 S20.le ⟨S20.a5,S20.a2⟩ ?_
 refine yT 2 S20.le ⟨S20.a5,S20.a2⟩ ?_
 refine yT 3 S20.le ⟨S20.a5,S20.a2⟩ ?_
 refine yT 4 S20.le ⟨S20.a5,S20.a2⟩ ?_
 refine yT 5 S20.le ⟨S20.a5,S20.a2⟩ ?_
 refine yT 6 S20.le ⟨S20.a5,S20.a2⟩ ?_
 refine jT 7 rfl (by kernel_rfl) (.agg ([ptr b3,.int .i64 a0.mc,.int .i64 a0.mf,.int .i64 a0.mw,.int .i64 0]).toArray) rfl (fun _ hw ht=>r_buildS (l:=[(0,ptr b3),(1,.agg ([.int .i64 a0.mc,.int .i64 a0.mf,.int .i64 a0.mw]).toArray)]) st_79 (parts2 rfl rfl) (Eq.trans (show Instr.fill _ _ [(0,ptr b3),(1,.agg ([.int .i64 a0.mc,.int .i64 a0.mf,.int .i64 a0.mw]).toArray)]=_ from (fill_one rfl rfl (by kernel_rfl) (fill_some (cs:=([.int .i64 a0.mc,.int .i64 a0.mf,.int .i64 a0.mw]).toArray) rfl rfl rfl (Nat.le_of_ble_eq_true (by kernel_rfl)) fill_end))) (by kernel_rfl))) ⟨S20.le,fun h=>⟨S20.a5,S20.a2⟩⟩ ?_
 refine y1 8 ?_
 refine yB (cs:=[ptr b3,.int .i64 a0.mc,.int .i64 a0.mf,.int .i64 a0.mw,.int .i64 0]) S20 ?_
 intro b4 w13 S21
 refine yn S21.le ⟨S21.a6,S21.a3⟩ ?_
 refine y1 9 ?_
 refine EL_lit1 (l:=[(0,ptr b4)]) w13.heap.size [ptr b4] el_70 rfl (by decide) rfl (Nat.le_refl _) (parts1 rfl) (Eq.trans (show Instr.fill _ _ [(0,ptr b4)]=_ from (fill_one rfl rfl (by kernel_rfl) fill_end)) (by kernel_rfl)) ?_
 intro v4 w14 O1 B1 k1
 have S22:Sat _ _ (OwnX 77 ptrR v4 [b4]::_):=OwnX.cls (xss:=[[ptr b4]]) (.cons rfl .nil) (S21.newO B1 O1)
 refine yn S22.le ⟨S22.a7,S22.a4⟩ ?_
 refine y1 10 ?_
 have oH180:=(OwnX.one S22 0 rfl (by decide))
 obtain ⟨I6,le6,S23,H4⟩:=S22.fx0 (by decide)
 refine EL_appX (z:=(.pointer none)) (bytes:=8) rfl U70 (by kernel_rfl) rfl (by decide) rfl rfl S23.fr4 H4 ac ac ?_
 intro v5 w15 S24
 refine yn (lT le6 S24.le) ⟨S24.a6,S24.a4⟩ ?_
 refine yu le6 ?_
 refine yT 11 S24.le ⟨S24.a6,S24.a4⟩ ?_
 refine yT 12 S24.le ⟨S24.a6,S24.a4⟩ ?_
 refine y1 13 ?_
 refine yS6 S24 ?_ (hu:=OwnX.one S24 0 rfl (by decide))
 intro w16 S25
 refine ym S25.le ?_
 refine yd ?_
 refine g2 ?_
 have S26:Sat w16 I6 (SeatsQ (bs++[(b4,b3)]) p0 (l++[(⟨newC L (⟨a0.mc,a0.mf,a0.mw,putB [(Any.int a0.mc)]⟩:WhoT).coll (⟨a0.mc,a0.mf,a0.mw,putB [(Any.int a0.mc)]⟩:WhoT).founder (⟨a0.mc,a0.mf,a0.mw,putB [(Any.int a0.mc)]⟩:WhoT).who (⟨a0.mc,a0.mf,a0.mw,putB [(Any.int a0.mc)]⟩:WhoT).sec,0⟩:Seat)])::OwnX 77 ptrR v5 ((bs.map Prod.fst)++[b4])::Suite p0 ((newR L (⟨a0.mc,a0.mf,a0.mw,putB [(Any.int a0.mc)]⟩:WhoT).coll (⟨a0.mc,a0.mf,a0.mw,putB [(Any.int a0.mc)]⟩:WhoT).founder (⟨a0.mc,a0.mf,a0.mw,putB [(Any.int a0.mc)]⟩:WhoT).who (⟨a0.mc,a0.mf,a0.mw,putB [(Any.int a0.mc)]⟩:WhoT).sec).1)::Blk b2 67 [.int .i64 a0.mc,.int .i64 a0.mf,.int .i64 a0.mw]::Blk b1 72 [v5,q0,.slice none 0 0,.slice none 0 0]::SrvP q0 Srv.new::Blk b0 27 [.bool x.real,v0]::R):=SeatsQ.snoc (x:=(⟨newC L (⟨a0.mc,a0.mf,a0.mw,putB [(Any.int a0.mc)]⟩:WhoT).coll (⟨a0.mc,a0.mf,a0.mw,putB [(Any.int a0.mc)]⟩:WhoT).founder (⟨a0.mc,a0.mf,a0.mw,putB [(Any.int a0.mc)]⟩:WhoT).who (⟨a0.mc,a0.mf,a0.mw,putB [(Any.int a0.mc)]⟩:WhoT).sec,0⟩:Seat)) S25.fr2.fr2.fr5
 have q2:(bs.map Prod.fst)++[b4]=(bs++[(b4,b3)]).map Prod.fst:=by simp
 have S27:=S26.ax1 q2
 skip
 refine g1 ?_
 refine EL_int ((j:Int)+1) rfl (r_addi (by exact e0) rfl (by omega)) ?_
 intro x0 hx193
 refine g3 ?_
 refine ⟨_,?_,j+1,bs++[(b4,b3)],l++[(⟨newC L (⟨a0.mc,a0.mf,a0.mw,putB [(Any.int a0.mc)]⟩:WhoT).coll (⟨a0.mc,a0.mf,a0.mw,putB [(Any.int a0.mc)]⟩:WhoT).founder (⟨a0.mc,a0.mf,a0.mw,putB [(Any.int a0.mc)]⟩:WhoT).who (⟨a0.mc,a0.mf,a0.mw,putB [(Any.int a0.mc)]⟩:WhoT).sec,0⟩:Seat)],(newR L (⟨a0.mc,a0.mf,a0.mw,putB [(Any.int a0.mc)]⟩:WhoT).coll (⟨a0.mc,a0.mf,a0.mw,putB [(Any.int a0.mc)]⟩:WhoT).founder (⟨a0.mc,a0.mf,a0.mw,putB [(Any.int a0.mc)]⟩:WhoT).who (⟨a0.mc,a0.mf,a0.mw,putB [(Any.int a0.mc)]⟩:WhoT).sec).1,v5,I6,rfl,(Eq.trans (show _=Value.int .i64 x0 from rfl) (congrArg _ (by omega))),(by exact e1),(by exact e2),(by exact e3),(by exact e4),(by exact e5),(by exact e6),(by exact e7),(by exact e8),(by exact e9),(by exact e10),(by exact e11),(by exact e12),(by exact e13),(by exact e14),(by exact e15),(by exact e16),(by exact e17),(by exact e18),(by exact e19),(by exact e20),(by exact e21),(by exact e22),(by exact e23),(by exact e24),by omega,(newAll_step hall (show x.mems[j]?=_ from ha0) (newOne_ok (y:=(L,l)) hcs hrk)),(by have h:=newR_len (L:=L) (a:=a0.mc) (b:=a0.mf) (c:=a0.mw) (s:=putB [.int a0.mc]);exact Nat.le_trans h (by omega)),(by simp;omega),(by simp;omega),(lT (lT (lT (lT le0 le1) le4) le5) le6),S27.dr3.fr5.fr5.fr4.fr3.fr4.fr5⟩
 first | omega | (simp;omega)
 refine g16 ?_
 refine f2 Tryz.results10 ?_
 rw [List.take_of_length_le (by omega)] at hall
 have hnw:newW x.mems=some (L,⟨l,Srv.new,[],[]⟩):=by rw [newW,if_neg (by omega),hall];rfl
 have oH205:=(OwnX.one S7 1 rfl (by decide))
 obtain ⟨I7,le7,S28,H5⟩:=S7.fx1 (by decide)
 have S29:Sat _ _ (OwnX 46 packR (.slice none 0 0) []::_):=OwnX.nil S28 46 packR
 have S30:=OwnX.nil S29.fr4.fr3.fr3 33 bytesR
 have S31:=((((S30.fr4).fr4).fr4).fr4)
 have S32:Sat _ _ (WldO (ptr b1) bs p0 ⟨l,Srv.new,[],[]⟩::_):=WldO.cls ⟨by show l.length≤6;omega,by simp,fun p hp=>by simp at hp,fun b hb=>by simp at hb,fun s hs=>newAll_br hall s hs⟩ (by omega) H5 S31
 rw [hnw]
 have S33:Sat w4 I7 (NewP (ptr b1) (some (L,⟨l,Srv.new,[],[]⟩))::Blk b0 27 [.bool x.real,v0]::R):=Sat.toex p0 (Sat.toex bs (Sat.join [_,_] S32))
 exact ⟨(ptr b1),I7,(lT le0 le7),rfl,S33.dr1⟩
 rintro _ _ E1 w17 (⟨rfl,I8,rfl,e25,hbad,le8,S34⟩)
 refine ⟨_,rfl,?_⟩
 refine g11 ?_
 refine f2 Tryz.results10 ?_
 rw [hbad]
 have S35:Sat w17 I8 (NewP (.pointer none) none::R):=Sat.toprop rfl S34
 exact ⟨(.pointer none),I8,le8,rfl,S35⟩
end Go.Proofs.YthddplghlljdbaaGreat
