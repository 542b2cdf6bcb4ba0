import Derived.Test.YthddplghlljdbaaGreatQWorldPostRdA
set_option linter.unusedVariables false
set_option linter.unusedSimpArgs false
set_option maxRecDepth 100000
set_option maxHeartbeats 4000000
namespace Go.Proofs.YthddplghlljdbaaGreat
open Go.RowKit Go.Ecal
def wrapR:Rep WrapT:=⟨2,fun I cs a=>∃v1,cs=[.int .i64 a.who,v1]∧(-9223372036854775808≤a.who∧a.who≤9223372036854775807)∧(v1.oneCell'=true∧RoB I v1 a.box),fun k h=>by obtain ⟨v1,rfl,h0,⟨o1,h1⟩⟩:=h;exact ⟨v1,rfl,h0,⟨o1,h1.up k⟩⟩,
 fun h=>by obtain ⟨v1,rfl,h0,⟨o1,h1⟩⟩:=h;rfl,fun h u hu=>by
  obtain ⟨v1,rfl,h0,⟨o1,h1⟩⟩:=h
  simp only [List.mem_cons,List.not_mem_nil,or_false] at hu
  rcases hu with rfl | rfl<;>first | rfl | assumption⟩
def entR:Rep Entry:=⟨9,fun I cs a=>∃v3 v4 v8,cs=[.int .i64 a.kind,.int .i64 a.writer,.int .i64 a.seq,v3,v4,.int .i64 a.who,.int .i64 a.rights,.int .i64 a.epoch,v8]∧(-9223372036854775808≤a.kind∧a.kind≤9223372036854775807)∧(-9223372036854775808≤a.writer∧a.writer≤9223372036854775807)∧(-9223372036854775808≤a.seq∧a.seq≤9223372036854775807)∧(v3.oneCell'=true∧RoB I v3 a.name)∧(v4.oneCell'=true∧RoB I v4 a.value)∧(-9223372036854775808≤a.who∧a.who≤9223372036854775807)∧(-9223372036854775808≤a.rights∧a.rights≤9223372036854775807)∧(-9223372036854775808≤a.epoch∧a.epoch≤9223372036854775807)∧(v8.oneCell'=true∧RoX I v8 wrapR a.wraps),fun k h=>by obtain ⟨v3,v4,v8,rfl,h0,h1,h2,⟨o3,h3⟩,⟨o4,h4⟩,h5,h6,h7,⟨o8,h8⟩⟩:=h;exact ⟨v3,v4,v8,rfl,h0,h1,h2,⟨o3,h3.up k⟩,⟨o4,h4.up k⟩,h5,h6,h7,⟨o8,h8.up k⟩⟩,
 fun h=>by obtain ⟨v3,v4,v8,rfl,h0,h1,h2,⟨o3,h3⟩,⟨o4,h4⟩,h5,h6,h7,⟨o8,h8⟩⟩:=h;rfl,fun h u hu=>by
  obtain ⟨v3,v4,v8,rfl,h0,h1,h2,⟨o3,h3⟩,⟨o4,h4⟩,h5,h6,h7,⟨o8,h8⟩⟩:=h
  simp only [List.mem_cons,List.not_mem_nil,or_false] at hu
  rcases hu with rfl | rfl | rfl | rfl | rfl | rfl | rfl | rfl | rfl<;>first | rfl | assumption⟩
abbrev entRC (a:Entry) (v3 v4 v8:Value):List Value:=[.int .i64 a.kind,.int .i64 a.writer,.int .i64 a.seq,v3,v4,.int .i64 a.who,.int .i64 a.rights,.int .i64 a.epoch,v8]
abbrev entR0:List Value:=[.int .i64 0,.int .i64 0,.int .i64 0,.slice none 0 0,.slice none 0 0,.int .i64 0,.int .i64 0,.int .i64 0,.slice none 0 0]
theorem entRz (I:Gh):entR.r I entR0 (⟨0,0,0,[],[],0,0,0,[]⟩:Entry):=⟨_,_,_,rfl,(by dsimp only;omega),(by dsimp only;omega),(by dsimp only;omega),⟨rfl,Ro.nil⟩,⟨rfl,Ro.nil⟩,(by dsimp only;omega),(by dsimp only;omega),(by dsimp only;omega),⟨rfl,RoX.nil⟩⟩
theorem within_c (n:Int) (lo:Int) (hi:Int) (w:World):Ret Tryz.prog 127 [.int .i64 n,.int .i64 lo,.int .i64 hi] w fun v w'=>.bool (within n lo hi)=v∧Below w.heap.size w w':=by
 have S:=Sat.start w
 refine ret_E Tryz.func127 rfl Tryz.ntmps127 (by simp) ?_
 refine g19 ?_
 refine f1 Tryz.results127 ?_
 exact ⟨rfl,(Below.refl _ _)⟩
theorem Clone_c (v0:Value) (l:List UInt8) (I:Gh) (R:List HP) (w:World) (S:Sat w I (R)) (Q0:RoB I v0 l) (hl:l.length≤100000000000):Ret Tryz.prog 140 [v0] w fun v w'=>∃v1:Value,v1=v∧(isNil v1=isNil v0)∧Sat w' I (OwnB v1 l::R):=by
 have lq0:=RoB.le Q0 S.le
 refine ret_E Tryz.func140 rfl Tryz.ntmps140 (by simp) ?_
 refine g9 ?_
 refine vl _ rfl (r_eqnil rfl (Q0 _ S.le) rfl U33) ?_
 refine g2 ?_
 refine EC_cond (t:=isNil v0) rfl (fun h0=>?_) (fun h0=>?_)
 have hnil:=h0
 refine g7 ?_
 refine f1 Tryz.results140 ?_
 have hl0:l=[]:=by by_cases hl:l=[];exact hl;exact absurd (isNil_of Q0 S.le hl) (by rw [hnil];decide)
 subst hl0
 have S0:=S.nilB
 exact ⟨(.slice none 0 0),rfl,(by rw [hnil];rfl),S0⟩
 have hnil:=h0
 refine g4 ?_
 refine EL_lit w.heap.size #[] elB rfl (by decide) rfl (Nat.le_refl _) (by kernel_rfl) ?_
 intro v2 w0 O0 B0 k0 z0
 have S1:Sat w0 I (OwnB v2 ([]:List UInt8)::R):=S.newO B0 (own_eq (l:=([]:List UInt8)) O0 (by simp [bof_val,byt]))
 refine g1 ?_
 refine EL_append (v:=v2) (xs:=([]:List UInt8).map byt) (ys:=l.map byt) 0 elB rfl rfl rfl (own_len (S1.own 0 rfl)) (Q0 _ S1.le) (byt_one _) ap (by decide) (Nat.zero_le _) ?_
 intro v3 w1 O1 G0 A0
 have S2:=S1.gb0 G0 (own_app O1) A0
 refine g4 ?_
 refine f1 Tryz.results140 ?_
 exact ⟨v3,rfl,(by rw [hnil];exact (A0.elim (fun e=>isNil_block (e.trans k0)) (fun e=>isNil_block e))),S2⟩
theorem Equal_c (v0:Value) (l:List UInt8) (v1:Value) (m:List UInt8) (I:Gh) (R:List HP) (w:World) (S:Sat w I (R)) (Q0:RoB I v0 l) (Q1:RoB I v1 m):Ret Tryz.prog 151 [v0,v1] w fun v w'=>.bool (decide (l=m))=v∧Sat w' I (R):=by
 have lq0:=RoB.le Q0 S.le
 have lq1:=RoB.le Q1 S.le
 refine ret_E Tryz.func151 rfl Tryz.ntmps151 (by simp) ?_
 refine g9 ?_
 refine vl _ rfl (lenB (r_len rfl (Q0 _ S.le) U33)) ?_
 refine g1 ?_
 refine vl _ rfl (lenB (r_len rfl (Q1 _ S.le) U33)) ?_
 refine g3 ?_
 refine EC_if rfl (fun h0=>?_) (fun h0=>?_)
 have hne:¬l.length=m.length:=by simp at h0;omega
 refine g7 ?_
 refine f1 Tryz.results151 ?_
 exact ⟨(by rw [decide_eq_false (fun h=>hne (by rw [h]))]),S⟩
 have hle:l.length=m.length:=by simp at h0;omega
 refine g6 ?_
 refine vl _ rfl (lenB (r_len rfl (Q0 _ S.le) U33)) ?_
 refine g4 ?_
 refine EC_loop (fun m' E' w'=>∃j:Nat,m'=l.length-j∧E' 13=.int .i64 (j:Int)∧E' 0=v0∧E' 1=v1∧E' 12=.int .i64 (l.length:Int)∧(j≤l.length)∧(l.take j=m.take j)∧Sat w' I (R)) _ ⟨0,rfl,rfl,rfl,rfl,rfl,Nat.zero_le _,by simp,S⟩ ?_
 rintro _ E0 w0 ⟨j,rfl,e0,e1,e2,e3,hj,hlm,S0⟩
 refine g6 ?_
 refine EC_if rfl (fun h2=>?_) (fun h2=>?_)
 refine g11 ?_
 refine EC_quietB (by kernel_rfl) (by kernel_rfl) ?_
 refine g2 ?_
 refine EQ_val (.pointer (some (at_ v0 (((j:Int):Int).toNat)))) rfl (fun _ hw=>r_index rfl ((Q0 _ S0.le).below hw) rfl (by omega) as' U33 (by kernel_rfl)) ?_
 obtain ⟨b0,hb0⟩:=get_some (l:=l) (j:=((j:Int):Int).toNat) as'
 have hb1:=b0.toNat_lt
 refine EQ_val (.int .u8 (b0.toNat:Int)) rfl (fun _ hw=>r_load rfl (((Q0 _ S0.le).below hw).cell (bs_get hb0)) U5 rfl) ?_
 refine g2 ?_
 refine EQ_val (.pointer (some (at_ v1 (((j:Int):Int).toNat)))) rfl (fun _ hw=>r_index rfl ((Q1 _ S0.le).below hw) rfl (by omega) as' U33 (by kernel_rfl)) ?_
 obtain ⟨b1,hb2⟩:=get_some (l:=m) (j:=((j:Int):Int).toNat) as'
 have hb3:=b1.toNat_lt
 refine EQ_val (.int .u8 (b1.toNat:Int)) rfl (fun _ hw=>r_load rfl (((Q1 _ S0.le).below hw).cell (bs_get hb2)) U5 rfl) ?_
 refine g1 ?_
 refine yE S0 ?_
 intro w1 S1
 refine g1 ?_
 refine EC_if rfl (fun h3=>?_) (fun h3=>?_)
 have hab:b0≠b1:=fun h=>h3 (by rw [h])
 refine g11 ?_
 refine f1 Tryz.results151 ?_
 exact ⟨(by rw [decide_eq_false (fun h=>hab (by have h1:=hb0;rw [h] at h1;exact Option.some.inj (h1.symm.trans hb2)))]),S1⟩
 have hab:b0=b1:=UInt8.toNat_inj.1 (by omega)
 refine g4 ?_
 refine EL_int ((j:Int)+1) rfl (r_addi (by exact e0) rfl (by omega)) ?_
 intro x0 hx30
 refine g3 ?_
 refine ⟨_,?_,j+1,rfl,(Eq.trans (show _=Value.int .i64 x0 from rfl) (congrArg _ (by omega))),(by exact e1),(by exact e2),(by exact e3),by omega,(by rw [List.take_add_one,List.take_add_one,hlm,(show l[j]?=_ from hb0),(show m[j]?=_ from hb2),hab]),S1⟩
 first | omega | (simp;omega)
 refine g11 ?_
 refine f1 Tryz.results151 ?_
 exact ⟨(by rw [decide_eq_true (by rwa [List.take_of_length_le (by omega),List.take_of_length_le (by omega)] at hlm)]),S0⟩
end Go.Proofs.YthddplghlljdbaaGreat

set_option maxRecDepth 100000
set_option maxHeartbeats 4000000
namespace Go.Proofs.YthddplghlljdbaaGreat
open Go.RowKit Go.Ecal
theorem SameW_c (cx:List Value) (cy:List Value) (x:WrapT) (y:WrapT) (I:Gh) (R:List HP) (w:World) (S:Sat w I (R)) (hx:wrapR.r I cx x) (hy:wrapR.r I cy y):Ret Tryz.prog 163 [.agg cx.toArray,.agg cy.toArray] w fun v w'=>.bool (decide (x=y))=v∧Sat w' I (R):=by
 obtain ⟨v0,rfl,r0,⟨o0,H0⟩⟩:=hx
 obtain ⟨v1,rfl,r1,⟨o1,H1⟩⟩:=hy
 refine ret_E Tryz.func163 rfl Tryz.ntmps163 (by simp) ?_
 refine g2 ?_
 refine yB (cs:=[.int .i64 x.who,v0]) S ?_
 intro b0 w0 S0
 refine yB (cs:=[.int .i64 y.who,v1]) S0 ?_
 intro b1 w1 S1
 refine g4 ?_
 rcases Decidable.em (x.who=y.who) with hxy | hxy
 refine g5 ?_
 refine vl _ rfl (dT (r_eql rfl rfl) hxy) ?_
 refine g5 ?_
 refine yG (Equal_c _ _ _ _ _ _ _ S1 H0 H1) ?_
 rintro _ w2 ⟨rfl,S2⟩
 refine g5 ?_
 refine f1 Tryz.results163 ?_
 exact ⟨(congrArg Value.bool (decide_eq_decide.2 ⟨fun h=>(wrap_eq.1 h).2,fun h=>wrap_eq.2 ⟨hxy,h⟩⟩)),S2.dr0.dr0⟩
 refine g5 ?_
 refine vl _ rfl (dF (r_eql rfl rfl) hxy) ?_
 refine g11 ?_
 refine f1 Tryz.results163 ?_
 exact ⟨(congrArg Value.bool (by rw [decide_eq_false (fun h=>hxy (wrap_eq.1 h).1)])),S1.dr0.dr0⟩
theorem EqualF_c (v0:Value) (l:List WrapT) (v1:Value) (m:List WrapT) (I:Gh) (R:List HP) (w:World) (S:Sat w I (R)) (Q0:RoX I v0 wrapR l) (Q1:RoX I v1 wrapR m):Ret Tryz.prog 162 [v0,v1,.func (.func 163) #[] #[]] w fun v w'=>.bool (decide (l=m))=v∧Sat w' I (R):=by
 have lq0:=XRow.le (Q0.row S.le)
 have lq1:=XRow.le (Q1.row S.le)
 refine ret_E Tryz.func162 rfl Tryz.ntmps162 (by simp) ?_
 refine g9 ?_
 refine vl _ rfl (r_lenX rfl (Q0.row S.le) U34) ?_
 refine g1 ?_
 refine vl _ rfl (r_lenX rfl (Q1.row S.le) U34) ?_
 refine g3 ?_
 refine EC_if rfl (fun h0=>?_) (fun h0=>?_)
 have hne:¬l.length=m.length:=by simp at h0;omega
 refine g7 ?_
 refine f1 Tryz.results162 ?_
 exact ⟨(by rw [decide_eq_false (fun h=>hne (by rw [h]))]),S⟩
 have hle:l.length=m.length:=by simp at h0;omega
 refine g6 ?_
 refine vl _ rfl (r_lenX rfl (Q0.row S.le) U34) ?_
 refine g4 ?_
 refine EC_loop (fun m' E' w'=>∃j:Nat,m'=l.length-j∧E' 17=.int .i64 (j:Int)∧E' 1=v1∧E' 2=.func (.func 163) #[] #[]∧E' 15=v0∧E' 16=.int .i64 (l.length:Int)∧(j≤l.length)∧(l.take j=m.take j)∧Sat w' I (R)) _ ⟨0,rfl,rfl,rfl,rfl,rfl,rfl,Nat.zero_le _,by simp,S⟩ ?_
 rintro _ E0 w0 ⟨j,rfl,e0,e1,e2,e3,e4,hj,hlm,S0⟩
 refine g6 ?_
 refine EC_if rfl (fun h2=>?_) (fun h2=>?_)
 refine g7 ?_
 refine vl (ptr (blkOf v0) (offOf v0+((j:Int):Int).toNat*2)) rfl (r_indexX (by exact e3) (Q0.row S0.le) (by exact e0) (by omega) as' U34 (by kernel_rfl)) ?_
 obtain ⟨a0,ha0⟩:=get_some (l:=l) (j:=((j:Int):Int).toNat) as'
 obtain ⟨cs0,hc0,he0⟩:=Q0.el ha0
 obtain ⟨v2,rfl,r0,⟨o0,H0⟩⟩:=hc0
 refine vl (.agg ([.int .i64 a0.who,v2]).toArray) rfl (r_loadR (cs:=[.int .i64 a0.who,v2]) rfl (he0 _ S0.le) U113 rfl (by kernel_rfl)) ?_
 refine yN [.int .i64 0,.slice none 0 0] S0 ?_
 intro b0 w1 S1
 refine g1 ?_
 refine yW0 S1 ?_ (h1:=ones_cons rfl (ones_cons o0 ones_nil))
 intro w2 S2
 refine g6 ?_
 refine vl (ptr (blkOf v1) (offOf v1+((j:Int):Int).toNat*2)) rfl (r_indexX rfl (Q1.row S2.le) rfl (by omega) as' U34 (by kernel_rfl)) ?_
 obtain ⟨a1,ha1⟩:=get_some (l:=m) (j:=((j:Int):Int).toNat) as'
 obtain ⟨cs1,hc1,he1⟩:=Q1.el ha1
 obtain ⟨v3,rfl,r1,⟨o1,H1⟩⟩:=hc1
 refine vl (.agg ([.int .i64 a1.who,v3]).toArray) rfl (r_loadR (cs:=[.int .i64 a1.who,v3]) rfl (he1 _ S2.le) U113 rfl (by kernel_rfl)) ?_
 refine yN [.int .i64 0,.slice none 0 0] S2 ?_
 intro b1 w3 S3
 refine yW0 S3 ?_ (h1:=ones_cons rfl (ones_cons o1 ones_nil))
 intro w4 S4
 refine g7 ?_
 refine EL_retw _ rfl rfl Tryz.func163 rfl nm163 rfl (SameW_c [.int .i64 a0.who,v2] [.int .i64 a1.who,v3] a0 a1 _ _ _ S4 ⟨v2,rfl,ad,⟨o0,H0⟩⟩ ⟨v3,rfl,ad,⟨o1,H1⟩⟩) ?_
 rintro _ w5 ⟨rfl,S5⟩
 refine g3 ?_
 refine EC_cond (t:=!(decide (a0=a1))) rfl (fun h3=>?_) (fun h3=>?_)
 have hab:a0≠a1:=fun h=>by simp [h] at h3
 refine g11 ?_
 refine f1 Tryz.results162 ?_
 exact ⟨(by rw [decide_eq_false (fun h=>hab (by have h1:=ha0;rw [h] at h1;exact Option.some.inj (h1.symm.trans ha1)))]),S5.dr0.dr0⟩
 have hab:a0=a1:=by simpa using h3
 refine g4 ?_
 refine EL_int ((j:Int)+1) rfl (r_addi (by exact e0) rfl (by omega)) ?_
 intro x0 hx68
 refine g3 ?_
 refine ⟨_,?_,j+1,rfl,(Eq.trans (show _=Value.int .i64 x0 from rfl) (congrArg _ (by omega))),(by exact e1),(by exact e2),(by exact e3),(by exact e4),by omega,(by rw [List.take_add_one,List.take_add_one,hlm,(show l[j]?=_ from ha0),(show m[j]?=_ from ha1),show a0=a1 from hab]),S5.dr0.dr0⟩
 first | omega | (simp;omega)
 refine g11 ?_
 refine f1 Tryz.results162 ?_
 exact ⟨(by rw [decide_eq_true (by rwa [List.take_of_length_le (by omega),List.take_of_length_le (by omega)] at hlm)]),S0⟩
end Go.Proofs.YthddplghlljdbaaGreat
