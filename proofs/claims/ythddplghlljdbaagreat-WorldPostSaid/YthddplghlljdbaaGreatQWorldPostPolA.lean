import Derived.Test.YthddplghlljdbaaGreatQWorldPostPolicy
import Derived.Test.YthddplghlljdbaaGreatQWorldPostEntG
set_option linter.unusedVariables false
set_option linter.unusedSimpArgs false
set_option maxRecDepth 100000
set_option maxHeartbeats 4000000
namespace Go.Proofs.YthddplghlljdbaaGreat
open Go.RowKit Go.Ecal
def memR:Rep MemT:=⟨2,fun I cs a=>cs=[.int .i64 a.who,.int .i64 a.rights]∧(-9223372036854775808≤a.who∧a.who≤9223372036854775807)∧(-9223372036854775808≤a.rights∧a.rights≤9223372036854775807),fun k h=>by obtain ⟨rfl,h0,h1⟩:=h;exact ⟨rfl,h0,h1⟩,
 fun h=>by obtain ⟨rfl,h0,h1⟩:=h;rfl,fun h u hu=>by
  obtain ⟨rfl,h0,h1⟩:=h
  simp only [List.mem_cons,List.not_mem_nil,or_false] at hu
  rcases hu with rfl | rfl<;>first | rfl | assumption⟩
def polR:Rep Pol:=⟨3,fun I cs a=>∃v2,cs=[.int .i64 a.founder,.int .i64 a.epoch,v2]∧(-9223372036854775808≤a.founder∧a.founder≤9223372036854775807)∧(-9223372036854775808≤a.epoch∧a.epoch≤9223372036854775807)∧(v2.oneCell'=true∧RoX I v2 memR a.mem),fun k h=>by obtain ⟨v2,rfl,h0,h1,⟨o2,h2⟩⟩:=h;exact ⟨v2,rfl,h0,h1,⟨o2,h2.up k⟩⟩,
 fun h=>by obtain ⟨v2,rfl,h0,h1,⟨o2,h2⟩⟩:=h;rfl,fun h u hu=>by
  obtain ⟨v2,rfl,h0,h1,⟨o2,h2⟩⟩:=h
  simp only [List.mem_cons,List.not_mem_nil,or_false] at hu
  rcases hu with rfl | rfl | rfl<;>first | rfl | assumption⟩
abbrev polRC (a:Pol) (v2:Value):List Value:=[.int .i64 a.founder,.int .i64 a.epoch,v2]
abbrev polR0:List Value:=[.int .i64 0,.int .i64 0,.slice none 0 0]
theorem polRz (I:Gh):polR.r I polR0 (⟨0,0,[]⟩:Pol):=⟨_,rfl,(by dsimp only;omega),(by dsimp only;omega),⟨rfl,RoX.nil⟩⟩
theorem PRights_c (cp:List Value) (p:Pol) (n:Int) (I:Gh) (R:List HP) (w:World) (S:Sat w I (R)) (hp:polR.r I cp p):Ret Tryz.prog 71 [.agg cp.toArray,.int .i64 n] w fun v w'=>.int .i64 (rightsOf p.mem n)=v∧Sat w' I (R):=by
 obtain ⟨v0,rfl,r0,r1,⟨o0,H0⟩⟩:=hp
 have lq_v13:=XRow.le (H0.row S.le)
 refine ret_E Tryz.func71 rfl Tryz.ntmps71 (by simp) ?_
 refine g2 ?_
 refine yB (cs:=[.int .i64 p.founder,.int .i64 p.epoch,v0]) S ?_
 intro b0 w0 S0
 refine g8 ?_
 refine vl _ rfl (r_lenX rfl (H0.row S0.le) U101) ?_
 refine g4 ?_
 refine EC_loop (fun m' E' w'=>∃j:Nat,m'=p.mem.length-j∧E' 10=.int .i64 (j:Int)∧E' 1=.int .i64 n∧E' 8=v0∧E' 9=.int .i64 (p.mem.length:Int)∧(j≤p.mem.length)∧(rightsOf p.mem n=rightsOf (p.mem.drop j) n)∧Sat w' I (Blk b0 103 [.int .i64 p.founder,.int .i64 p.epoch,v0]::R)) _ ⟨0,rfl,rfl,rfl,rfl,rfl,Nat.zero_le _,(by rw [List.drop_zero]),S0⟩ ?_
 rintro _ E0 w1 ⟨j,rfl,e0,e1,e2,e3,hj,hR,S1⟩
 refine g6 ?_
 refine EC_if rfl (fun h0=>?_) (fun h0=>?_)
 refine g6 ?_
 refine vl (ptr (blkOf v0) (offOf v0+((j:Int):Int).toNat*2)) rfl (r_indexX (by exact e2) (H0.row S1.le) (by exact e0) (by omega) as' U101 (by kernel_rfl)) ?_
 obtain ⟨a0,ha0⟩:=get_some (l:=p.mem) (j:=((j:Int):Int).toNat) as'
 obtain ⟨cs0,hc0,he0⟩:=H0.el ha0
 obtain ⟨rfl,r2,r3⟩:=hc0
 refine vl (.agg ([.int .i64 a0.who,.int .i64 a0.rights]).toArray) rfl (r_loadR (cs:=[.int .i64 a0.who,.int .i64 a0.rights]) rfl (he0 _ S1.le) U183 rfl (by kernel_rfl)) ?_
 refine yN [.int .i64 0,.int .i64 0] S1 ?_
 intro b1 w2 S2
 refine yW0 S2 ?_
 intro w3 S3
 refine g10 ?_
 refine EC_if rfl (fun h1=>?_) (fun h1=>?_)
 have hab:a0.who=n:=by simpa using h1
 refine g13 ?_
 refine f1 Tryz.results71 ?_
 exact ⟨(by rw [rights_stop (show _[j]?=_ from ha0) hR hab]),S3.dr0.dr0⟩
 have hab:¬a0.who=n:=by simpa using h1
 refine g4 ?_
 refine EL_int ((j:Int)+1) rfl (r_addi (by exact e0) rfl (by omega)) ?_
 intro x0 hx53
 refine g3 ?_
 refine ⟨_,?_,j+1,rfl,(Eq.trans (show _=Value.int .i64 x0 from rfl) (congrArg _ (by omega))),(by exact e1),(by exact e2),(by exact e3),by omega,(rights_step (show _[j]?=_ from ha0) hR hab),S3.dr0⟩
 first | omega | (simp;omega)
 refine g11 ?_
 refine f1 Tryz.results71 ?_
 exact ⟨(by rw [hR,List.drop_of_length_le (by omega)];rfl),S1.dr0⟩
theorem PRight_c (cp:List Value) (p:Pol) (I:Gh) (R:List HP) (w:World) (S:Sat w I (R)) (hp:polR.r I cp p):Ret Tryz.prog 85 [.agg cp.toArray] w fun v w'=>.bool p.right=v∧Sat w' I (R):=by
 obtain ⟨v0,rfl,r0,r1,⟨o0,H0⟩⟩:=hp
 have lq_v13:=XRow.le (H0.row S.le)
 refine ret_E Tryz.func85 rfl Tryz.ntmps85 (by simp) ?_
 refine g2 ?_
 refine yB (cs:=[.int .i64 p.founder,.int .i64 p.epoch,v0]) S ?_
 intro b0 w0 S0
 refine g13 ?_
 refine vl _ rfl (r_lenX rfl (H0.row S0.le) U101) ?_
 refine g4 ?_
 refine EC_loop (fun m' E' w'=>∃j:Nat,∃n:Int,m'=p.mem.length-j∧E' 9=.int .i64 (j:Int)∧E' 3=.int .i64 n∧E' 1=ptr b0∧E' 7=v0∧E' 8=.int .i64 (p.mem.length:Int)∧(j≤p.mem.length)∧(risingM 0 p.mem=risingM n (p.mem.drop j))∧Sat w' I (Blk b0 103 [.int .i64 p.founder,.int .i64 p.epoch,v0]::R)) _ ⟨0,0,rfl,rfl,rfl,rfl,rfl,rfl,Nat.zero_le _,(by rw [List.drop_zero]),S0⟩ ?_
 rintro _ E0 w1 ⟨j,n,rfl,e0,e1,e2,e3,e4,hj,hR,S1⟩
 refine g6 ?_
 refine EC_if rfl (fun h0=>?_) (fun h0=>?_)
 refine g6 ?_
 refine vl (ptr (blkOf v0) (offOf v0+((j:Int):Int).toNat*2)) rfl (r_indexX (by exact e3) (H0.row S1.le) (by exact e0) (by omega) as' U101 (by kernel_rfl)) ?_
 obtain ⟨a0,ha0⟩:=get_some (l:=p.mem) (j:=((j:Int):Int).toNat) as'
 obtain ⟨cs0,hc0,he0⟩:=H0.el ha0
 obtain ⟨rfl,r2,r3⟩:=hc0
 refine vl (.agg ([.int .i64 a0.who,.int .i64 a0.rights]).toArray) rfl (r_loadR (cs:=[.int .i64 a0.who,.int .i64 a0.rights]) rfl (he0 _ S1.le) U183 rfl (by kernel_rfl)) ?_
 refine yN [.int .i64 0,.int .i64 0] S1 ?_
 intro b1 w2 S2
 refine yW0 S2 ?_
 intro w3 S3
 refine g26 ?_
 refine EC_cond (t:=(((decide (a0.who≤n))||(decide (16<a0.who)))||(decide (a0.rights<1)))||(decide (7<a0.rights))) rfl (fun h1=>?_) (fun h1=>?_)
 have hab:a0.who≤n∨16<a0.who∨a0.rights<1∨7<a0.rights:=by simpa [or_assoc] using h1
 refine g12 ?_
 refine f1 Tryz.results85 ?_
 exact ⟨(congrArg Value.bool (by rw [Pol.right,rising_stop (show _[j]?=_ from ha0) hR hab];rfl)),S3.dr0.dr0⟩
 have hab:¬(a0.who≤n∨16<a0.who∨a0.rights<1∨7<a0.rights):=by simp at h1;omega
 refine g10 ?_
 refine EL_int ((j:Int)+1) rfl (r_addi (by exact e0) rfl (by omega)) ?_
 intro x0 hx63
 refine g3 ?_
 refine ⟨_,?_,j+1,a0.who,rfl,(Eq.trans (show _=Value.int .i64 x0 from rfl) (congrArg _ (by omega))),rfl,(by exact e2),(by exact e3),(by exact e4),by omega,(rising_step (show _[j]?=_ from ha0) hR hab),S3.dr0⟩
 first | omega | (simp;omega)
 refine g6 ?_
 rcases (by omega:p.epoch<0∨(0≤p.epoch∧16<p.epoch)∨(0≤p.epoch∧p.epoch≤16)) with hc | hc | hc
 refine g3 ?_
 refine vl _ rfl (dcF (r_geq rfl rfl) (by simp;omega)) ?_
 refine g16 ?_
 refine f1 Tryz.results85 ?_
 have hr:risingM 0 p.mem=true:=by rw [hR,List.drop_of_length_le (by omega)];rfl
 exact ⟨(congrArg Value.bool (by rw [Pol.right,hr,decide_eq_false (by omega:¬0≤p.epoch)];simp)),S1.dr0⟩
 refine g3 ?_
 refine vl _ rfl (dcT (r_geq rfl rfl) (by simp;omega)) ?_
 refine g3 ?_
 refine gl 38 rfl rfl rfl rfl _ rfl (dcF (r_leq rfl rfl) (by simp;omega)) ?_
 refine g12 ?_
 refine f1 Tryz.results85 ?_
 have hr:risingM 0 p.mem=true:=by rw [hR,List.drop_of_length_le (by omega)];rfl
 exact ⟨(congrArg Value.bool (by rw [Pol.right,hr,decide_eq_false (by omega:¬p.epoch≤16)];simp)),S1.dr0⟩
 refine g3 ?_
 refine vl _ rfl (dcT (r_geq rfl rfl) (by simp;omega)) ?_
 refine g3 ?_
 refine gl 38 rfl rfl rfl rfl _ rfl (dcT (r_leq rfl rfl) (by simp;omega)) ?_
 refine g5 ?_
 refine yG (PRights_c [.int .i64 p.founder,.int .i64 p.epoch,v0] p p.founder _ _ _ S1 ⟨v0,rfl,ad,ad,⟨o0,H0⟩⟩) ?_
 rintro _ w4 ⟨rfl,S4⟩
 refine g6 ?_
 refine f1 Tryz.results85 ?_
 have hr:risingM 0 p.mem=true:=by rw [hR,List.drop_of_length_le (by omega)];rfl
 exact ⟨(congrArg Value.bool (by rw [Pol.right,hr,decide_eq_true hc.1,decide_eq_true hc.2];simp)),S4.dr0⟩
theorem Readers_c (cp:List Value) (p:Pol) (I:Gh) (R:List HP) (w:World) (S:Sat w I (R)) (hp:polR.r I cp p) (hr:risingM 0 p.mem=true):Ret Tryz.prog 74 [.agg cp.toArray] w fun v w'=>∃v1:Value,v1=v∧Sat w' I (Own 3 1 v1 (readersOf p.mem).length ((readersOf p.mem).map (Value.int .i64))::R):=by
 obtain ⟨v0,rfl,r0,r1,⟨o0,H0⟩⟩:=hp
 have lq_v13:=XRow.le (H0.row S.le)
 refine ret_E Tryz.func74 rfl Tryz.ntmps74 (by simp) ?_
 refine g2 ?_
 refine yB (cs:=[.int .i64 p.founder,.int .i64 p.epoch,v0]) S ?_
 intro b0 w0 S0
 refine g13 ?_
 refine vl _ rfl (r_lenX rfl (H0.row S0.le) U101) ?_
 refine g4 ?_
 have S1:Sat _ _ (Own 3 1 (.slice none 0 0) (([]:List Int)).length ((([]:List Int)).map (Value.int .i64))::_):=S0.nil 3 1
 have q0:([]:List Int)=readersOf (p.mem.take 0):=by rw [List.take_zero];rfl
 have S2:Sat w0 I (Own 3 1 (.slice none 0 0) (readersOf (p.mem.take 0)).length ((readersOf (p.mem.take 0)).map (Value.int .i64))::Blk b0 103 [.int .i64 p.founder,.int .i64 p.epoch,v0]::R):=S1.as 0 rfl (congrArg (fun zz=>Own 3 1 (.slice none 0 0) (zz).length ((zz).map (Value.int .i64))) q0)
 refine EC_loop (fun m' E' w'=>∃j:Nat,∃v:Value,m'=p.mem.length-j∧E' 9=.int .i64 (j:Int)∧E' 3=v∧E' 2=.slice none 0 0∧E' 7=v0∧E' 8=.int .i64 (p.mem.length:Int)∧(j≤p.mem.length)∧Sat w' I (Own 3 1 v (readersOf (p.mem.take j)).length ((readersOf (p.mem.take j)).map (Value.int .i64))::Blk b0 103 [.int .i64 p.founder,.int .i64 p.epoch,v0]::R)) _ ⟨0,.slice none 0 0,rfl,rfl,rfl,rfl,rfl,rfl,Nat.zero_le _,S2⟩ ?_
 rintro _ E0 w1 ⟨j,v,rfl,e0,e1,e2,e3,e4,hj,S3⟩
 refine g6 ?_
 refine EC_if rfl (fun h0=>?_) (fun h0=>?_)
 refine g6 ?_
 refine vl (ptr (blkOf v0) (offOf v0+((j:Int):Int).toNat*2)) rfl (r_indexX (by exact e3) (H0.row S3.le) (by exact e0) (by omega) as' U101 (by kernel_rfl)) ?_
 obtain ⟨a0,ha0⟩:=get_some (l:=p.mem) (j:=((j:Int):Int).toNat) as'
 obtain ⟨cs0,hc0,he0⟩:=H0.el ha0
 obtain ⟨rfl,r2,r3⟩:=hc0
 refine vl (.agg ([.int .i64 a0.who,.int .i64 a0.rights]).toArray) rfl (r_loadR (cs:=[.int .i64 a0.who,.int .i64 a0.rights]) rfl (he0 _ S3.le) U183 rfl (by kernel_rfl)) ?_
 refine yN [.int .i64 0,.int .i64 0] S3 ?_
 intro b1 w2 S4
 refine yW0 S4 ?_
 intro w3 S5
 refine g6 ?_
 refine vl (.int .i64 (andI a0.rights 1)) rfl (r_andI rfl rfl) ?_
 refine g3 ?_
 refine EC_if rfl (fun h1=>?_) (fun h1=>?_)
 have hab:readsM a0=true:=reads_yes hr (show _[j]?=_ from ha0) h1
 have hrl:=readers_len hr j
 refine g4 ?_
 refine EL_lit w3.heap.size #[.int .i64 a0.who] el_i64 rfl (by decide) rfl (Nat.le_refl _) (by kernel_rfl) ?_
 intro v2 w4 O0 B0 k0 z0
 have S6:Sat _ _ (Own 3 1 v2 (([a0.who]:List Int)).length ((([a0.who]:List Int)).map (Value.int .i64))::_):=S5.newO B0 (own_eqF (f:=Value.int .i64) (l:=([a0.who]:List Int)) O0 rfl)
 refine EL_append (v:=v) (xs:=(readersOf (p.mem.take j)).map (Value.int .i64)) (ys:=([a0.who]:List Int).map (Value.int .i64)) 0 el_i64 rfl rfl rfl (own_len (S6.own 2 rfl)) (own_row (S6.own 0 rfl)) (int_one _) ap (by decide) (Nat.zero_le _) ?_
 intro v3 w5 O1 G0 A0
 have S7:=S6.gr2 G0 (own_appF O1) A0
 refine g5 ?_
 refine EL_int ((j:Int)+1) rfl (r_addi (by exact e0) rfl (by omega)) ?_
 intro x0 hx68
 refine g3 ?_
 have q1:(readersOf (p.mem.take j))++([a0.who]:List Int)=readersOf (p.mem.take (j+1)):=(readers_step (show _[j]?=_ from ha0) hab)
 have S8:Sat w5 I (Own 3 1 v2 (([a0.who]:List Int)).length ((([a0.who]:List Int)).map (Value.int .i64))::Blk b1 183 [.int .i64 a0.who,.int .i64 a0.rights]::Own 3 1 v3 (readersOf (p.mem.take (j+1))).length ((readersOf (p.mem.take (j+1))).map (Value.int .i64))::Blk b0 103 [.int .i64 p.founder,.int .i64 p.epoch,v0]::R):=S7.as 2 rfl (congrArg (fun zz=>Own 3 1 v3 (zz).length ((zz).map (Value.int .i64))) q1)
 refine ⟨_,?_,j+1,v3,rfl,(Eq.trans (show _=Value.int .i64 x0 from rfl) (congrArg _ (by omega))),rfl,(by exact e2),(by exact e3),(by exact e4),by omega,S8.dr0.dr0⟩
 first | omega | (simp;omega)
 have hab:readsM a0=false:=reads_no hr (show _[j]?=_ from ha0) h1
 refine g4 ?_
 refine EL_int ((j:Int)+1) rfl (r_addi (by exact e0) rfl (by omega)) ?_
 intro x1 hx73
 refine g3 ?_
 have q2:readersOf (p.mem.take j)=readersOf (p.mem.take (j+1)):=(readers_skip (show _[j]?=_ from ha0) hab)
 have S9:Sat w3 I (Blk b1 183 [.int .i64 a0.who,.int .i64 a0.rights]::Own 3 1 v (readersOf (p.mem.take (j+1))).length ((readersOf (p.mem.take (j+1))).map (Value.int .i64))::Blk b0 103 [.int .i64 p.founder,.int .i64 p.epoch,v0]::R):=S5.as 1 rfl (congrArg (fun zz=>Own 3 1 v (zz).length ((zz).map (Value.int .i64))) q2)
 refine ⟨_,?_,j+1,v,rfl,(Eq.trans (show _=Value.int .i64 x1 from rfl) (congrArg _ (by omega))),(by exact e1),(by exact e2),(by exact e3),(by exact e4),by omega,S9.dr0⟩
 first | omega | (simp;omega)
 refine g12 ?_
 refine f1 Tryz.results74 ?_
 have q3:readersOf (p.mem.take j)=readersOf p.mem:=by rw [List.take_of_length_le (by omega)]
 have S10:Sat w1 I (Own 3 1 v (readersOf p.mem).length ((readersOf p.mem).map (Value.int .i64))::Blk b0 103 [.int .i64 p.founder,.int .i64 p.epoch,v0]::R):=S3.as 0 rfl (congrArg (fun zz=>Own 3 1 v (zz).length ((zz).map (Value.int .i64))) q3)
 exact ⟨v,rfl,S10.dr1⟩
theorem EqualI_c (v0:Value) (l:List Int) (v1:Value) (m:List Int) (I:Gh) (R:List HP) (w:World) (S:Sat w I (R)) (Q0:Ro I v0 (l.map (Value.int .i64))) (Q1:Ro I v1 (m.map (Value.int .i64))):Ret Tryz.prog 131 [v0,v1] w fun v w'=>.bool (decide (l=m))=v∧Sat w' I (R):=by
 have lq0:=(Q0 _ S.le).len_le
 have lq1:=(Q1 _ S.le).len_le
 have hll:l.length≤9223372036854775807:=by simpa using lq0
 refine ret_E Tryz.func131 rfl Tryz.ntmps131 (by simp) ?_
 refine g9 ?_
 refine vl (.int .i64 (l.length:Int)) rfl (lenF (r_len rfl (Q0 _ S.le) U161)) ?_
 refine g1 ?_
 refine vl (.int .i64 (m.length:Int)) rfl (lenF (r_len rfl (Q1 _ S.le) U161)) ?_
 refine g3 ?_
 refine EC_if rfl (fun h0=>?_) (fun h0=>?_)
 have hne:¬l.length=m.length:=by simp at h0;omega
 refine g7 ?_
 refine f1 Tryz.results131 ?_
 exact ⟨(by rw [decide_eq_false (fun h=>hne (by rw [h]))]),S⟩
 have hle:l.length=m.length:=by simp at h0;omega
 refine g6 ?_
 refine vl (.int .i64 (l.length:Int)) rfl (lenF (r_len rfl (Q0 _ S.le) U161)) ?_
 refine g4 ?_
 refine EC_loop (fun m' E' w'=>∃j:Nat,m'=l.length-j∧E' 13=.int .i64 (j:Int)∧E' 0=v0∧E' 1=v1∧E' 12=.int .i64 (l.length:Int)∧(j≤l.length)∧(l.take j=m.take j)∧Sat w' I (R)) _ ⟨0,rfl,rfl,rfl,rfl,rfl,Nat.zero_le _,by simp,S⟩ ?_
 rintro _ E0 w0 ⟨j,rfl,e0,e1,e2,e3,hj,hlm,S0⟩
 refine g6 ?_
 refine EC_if rfl (fun h2=>?_) (fun h2=>?_)
 refine g11 ?_
 refine EC_quietB (by kernel_rfl) (by kernel_rfl) ?_
 refine g2 ?_
 refine EQ_val (.pointer (some (at_ v0 (((j:Int):Int).toNat)))) rfl (fun _ hw=>r_index rfl ((Q0 _ S0.le).below hw) rfl (by omega) as' U161 (by kernel_rfl)) ?_
 obtain ⟨x0,hx0⟩:=get_some (l:=l) (j:=((j:Int):Int).toNat) as'
 refine EQ_val (.int .i64 x0) rfl (fun _ hw=>r_load rfl (((Q0 _ S0.le).below hw).cell (int_get hx0)) U3 rfl) ?_
 refine g2 ?_
 refine EQ_val (.pointer (some (at_ v1 (((j:Int):Int).toNat)))) rfl (fun _ hw=>r_index rfl ((Q1 _ S0.le).below hw) rfl (by omega) as' U161 (by kernel_rfl)) ?_
 obtain ⟨x1,hx1⟩:=get_some (l:=m) (j:=((j:Int):Int).toNat) as'
 refine EQ_val (.int .i64 x1) rfl (fun _ hw=>r_load rfl (((Q1 _ S0.le).below hw).cell (int_get hx1)) U3 rfl) ?_
 refine g1 ?_
 refine yE S0 ?_
 intro w1 S1
 refine g1 ?_
 refine EC_if rfl (fun h3=>?_) (fun h3=>?_)
 have hab:x0≠x1:=h3
 refine g11 ?_
 refine f1 Tryz.results131 ?_
 exact ⟨(by rw [decide_eq_false (fun h=>hab (by have h1:=hx0;rw [h] at h1;exact Option.some.inj (h1.symm.trans hx1)))]),S1⟩
 have hab:x0=x1:=by omega
 refine g4 ?_
 refine EL_int ((j:Int)+1) rfl (r_addi (by exact e0) rfl (by omega)) ?_
 intro x2 hx28
 refine g3 ?_
 refine ⟨_,?_,j+1,rfl,(Eq.trans (show _=Value.int .i64 x2 from rfl) (congrArg _ (by omega))),(by exact e1),(by exact e2),(by exact e3),by omega,(by rw [List.take_add_one,List.take_add_one,hlm,(show l[j]?=_ from hx0),(show m[j]?=_ from hx1),hab]),S1⟩
 first | omega | (simp;omega)
 refine g11 ?_
 refine f1 Tryz.results131 ?_
 exact ⟨(by rw [decide_eq_true (by rwa [List.take_of_length_le (by omega),List.take_of_length_le (by omega)] at hlm)]),S0⟩
end Go.Proofs.YthddplghlljdbaaGreat
