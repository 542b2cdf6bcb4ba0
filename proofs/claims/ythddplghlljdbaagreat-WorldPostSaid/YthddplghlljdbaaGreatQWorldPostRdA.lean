import Derived.Test.YthddplghlljdbaaGreatQWorldPostBucket
import Derived.Test.YthddplghlljdbaaGreatQWorldPostBase
set_option linter.unusedVariables false
set_option linter.unusedSimpArgs false
set_option maxRecDepth 100000
set_option maxHeartbeats 4000000
namespace Go.Proofs.YthddplghlljdbaaGreat
open Go.RowKit Go.Ecal
theorem number_c (n:Int) (I:Gh) (R:List HP) (w:World) (S:Sat w I (R)) (hn:-9223372036854775808≤n∧n≤9223372036854775807):Ret Tryz.prog 57 [.int .i64 n] w fun v w'=>∃v1:Value,.tuple #[v1,.int .i64 (numE n)]=v∧Sat w' I (OwnB v1 (numB n)::R):=by
 refine ret_E Tryz.func57 rfl Tryz.ntmps57 (by simp) ?_
 refine g17 ?_
 refine EC_cond (t:=(decide (n<0))||(decide (1099511627776<n))) rfl (fun h0=>?_) (fun h0=>?_)
 simp only [Bool.and_eq_true,Bool.or_eq_true,Bool.not_eq_true',Bool.not_eq_false',decide_eq_true_eq,decide_eq_false_iff_not,Bool.and_eq_false_iff,Bool.or_eq_false_iff,Bool.not_eq_true,Bool.not_eq_false,bne_iff_ne,beq_iff_eq,beq_eq_false_iff_ne] at h0
 refine g8 ?_
 refine f2 Tryz.results57 ?_
 rw [show numB n=[] from by rw [numB,if_neg (by omega)]]
 have S0:=S.nilB
 exact ⟨(.slice none 0 0),(by rw [numE,if_neg (by omega)]),S0⟩
 simp only [Bool.and_eq_true,Bool.or_eq_true,Bool.not_eq_true',Bool.not_eq_false',decide_eq_true_eq,decide_eq_false_iff_not,Bool.and_eq_false_iff,Bool.or_eq_false_iff,Bool.not_eq_true,Bool.not_eq_false,bne_iff_ne,beq_iff_eq,beq_eq_false_iff_ne] at h0
 refine g5 ?_
 refine EL_int (n / 1099511627776) rfl (r_shri (n:=40) rfl rfl rfl (by decide) (by decide)) ?_
 intro x0 hx16
 refine vl (.int .u8 (x0 % 256)) rfl (r_convb 3 5 rfl U3 U5) ?_
 refine g1 ?_
 refine EL_int (n / 4294967296) rfl (r_shri (n:=32) rfl rfl rfl (by decide) (by decide)) ?_
 intro x1 hx17
 refine vl (.int .u8 (x1 % 256)) rfl (r_convb 3 5 rfl U3 U5) ?_
 refine g1 ?_
 refine EL_int (n / 16777216) rfl (r_shri (n:=24) rfl rfl rfl (by decide) (by decide)) ?_
 intro x2 hx18
 refine vl (.int .u8 (x2 % 256)) rfl (r_convb 3 5 rfl U3 U5) ?_
 refine g1 ?_
 refine EL_int (n / 65536) rfl (r_shri (n:=16) rfl rfl rfl (by decide) (by decide)) ?_
 intro x3 hx19
 refine vl (.int .u8 (x3 % 256)) rfl (r_convb 3 5 rfl U3 U5) ?_
 refine g1 ?_
 refine EL_int (n / 256) rfl (r_shri (n:=8) rfl rfl rfl (by decide) (by decide)) ?_
 intro x4 hx20
 refine vl (.int .u8 (x4 % 256)) rfl (r_convb 3 5 rfl U3 U5) ?_
 refine g1 ?_
 refine vl (.int .u8 (n % 256)) rfl (r_convb 3 5 rfl U3 U5) ?_
 refine EL_lit w.heap.size #[.int .u8 (x0 % 256),.int .u8 (x1 % 256),.int .u8 (x2 % 256),.int .u8 (x3 % 256),.int .u8 (x4 % 256),.int .u8 (n % 256)] elB rfl (by decide) rfl (Nat.le_refl _) (by kernel_rfl) ?_
 intro v0 w0 O0 B0 k0 z0
 have S1:Sat w0 I (OwnB v0 [bof x0,bof x1,bof x2,bof x3,bof x4,bof n]::R):=S.newO B0 (own_eq (l:=[bof x0,bof x1,bof x2,bof x3,bof x4,bof n]) O0 (by simp [bof_val,byt]))
 refine g5 ?_
 refine f2 Tryz.results57 ?_
 have q0:[bof x0,bof x1,bof x2,bof x3,bof x4,bof n]=numB n:=by rw [numB_ok (by omega),be6,hx16,hx17,hx18,hx19,hx20]
 have S2:=S1.ab0 q0
 exact ⟨v0,(by rw [numE_ok (by omega)]),S2⟩
theorem text_c (v0:Value) (l:List UInt8) (I:Gh) (R:List HP) (w:World) (S:Sat w I (R)) (Q0:RoB I v0 l):Ret Tryz.prog 58 [v0] w fun v w'=>∃v1:Value,.tuple #[v1,.int .i64 (textE l)]=v∧Sat w' I (OwnB v1 (textB l)::R):=by
 have lq0:=RoB.le Q0 S.le
 refine ret_E Tryz.func58 rfl Tryz.ntmps58 (by simp) ?_
 refine g10 ?_
 refine vl _ rfl (lenB (r_len rfl (Q0 _ S.le) U33)) ?_
 refine g3 ?_
 refine EC_if rfl (fun h0=>?_) (fun h0=>?_)
 refine g8 ?_
 refine f2 Tryz.results58 ?_
 rw [show textB l=[] from by rw [textB,if_neg (by omega)]]
 have S0:=S.nilB
 exact ⟨(.slice none 0 0),(by rw [textE,if_neg (by omega)]),S0⟩
 refine g5 ?_
 refine vl _ rfl (lenB (r_len rfl (Q0 _ S.le) U33)) ?_
 refine EL_int ((l.length:Int) / 256) rfl (r_shri (n:=8) rfl rfl rfl (by decide) (by decide)) ?_
 intro x0 hx14
 refine vl (.int .u8 (x0 % 256)) rfl (r_convb 3 5 rfl U3 U5) ?_
 refine g1 ?_
 refine vl _ rfl (lenB (r_len rfl (Q0 _ S.le) U33)) (vl (.int .u8 ((l.length:Int) % 256)) rfl (r_convb 3 5 rfl U3 U5) ?_)
 refine EL_lit w.heap.size #[.int .u8 (x0 % 256),.int .u8 ((l.length:Int) % 256)] elB rfl (by decide) rfl (Nat.le_refl _) (by kernel_rfl) ?_
 intro v2 w0 O0 B0 k0 z0
 have S1:Sat w0 I (OwnB v2 [bof x0,bof (l.length:Int)]::R):=S.newO B0 (own_eq (l:=[bof x0,bof (l.length:Int)]) O0 (by simp [bof_val,byt]))
 refine g1 ?_
 refine yP0 elB S1 (Q0 _ S1.le) ?_
 intro v3 w1 S2
 refine g5 ?_
 refine f2 Tryz.results58 ?_
 have q0:[bof x0,bof (l.length:Int)]++l=textB l:=by rw [textB,if_pos (by omega),be2,hx14]
 have S3:=S2.ab0 q0
 exact ⟨v3,(by rw [textE,if_pos (by omega)]),S3⟩
theorem partI_c (n:Int) (I:Gh) (R:List HP) (w:World) (S:Sat w I (R)) (hn:-9223372036854775808≤n∧n≤9223372036854775807):Ret Tryz.prog 39 [.iface 3 (.int .i64 n)] w fun v w'=>∃v1:Value,.tuple #[v1,.int .i64 (numE n)]=v∧Sat w' I (OwnB v1 (numB n)::R):=by
 refine ret_E Tryz.func39 rfl Tryz.ntmps39 (by simp) ?_
 refine g15 ?_
 refine vl (.tuple #[.int .i64 n,.bool true]) rfl (r_assertT rfl U3 rfl) ?_
 refine g13 ?_
 refine yR (number_c n _ _ _ S au) ?_
 rintro _ w0 ⟨v0,rfl,S0⟩
 refine g9 ?_
 refine f2 Tryz.results39 ?_
 exact ⟨v0,rfl,S0⟩
theorem partB_c (v0:Value) (l:List UInt8) (I:Gh) (R:List HP) (w:World) (S:Sat w I (R)) (Q0:RoB I v0 l):Ret Tryz.prog 39 [.iface 33 v0] w fun v w'=>∃v1:Value,.tuple #[v1,.int .i64 (textE l)]=v∧Sat w' I (OwnB v1 (textB l)::R):=by
 have lq0:=RoB.le Q0 S.le
 refine ret_E Tryz.func39 rfl Tryz.ntmps39 (by simp) ?_
 refine g15 ?_
 refine vl (.tuple #[.int .i64 0,.bool false]) rfl (r_assertF (z:=.int .i64 0) rfl rfl U3 rfl (by kernel_rfl)) ?_
 refine g7 ?_
 refine vl (.tuple #[v0,.bool true]) rfl (r_assertT rfl U33 rfl) ?_
 refine g13 ?_
 refine yR (text_c _ _ _ _ _ S Q0) ?_
 rintro _ w0 ⟨v2,rfl,S0⟩
 refine g9 ?_
 refine f2 Tryz.results39 ?_
 exact ⟨v2,rfl,S0⟩
theorem part_c (u:Value) (a:Any) (I:Gh) (R:List HP) (w:World) (S:Sat w I R) (H:anyR.r I [u] a):Ret Tryz.prog 39 [u] w fun v w'=>∃v1:Value,.tuple #[v1,.int .i64 (partE a)]=v∧Sat w' I (OwnB v1 (partB a)::R):=by
 cases a with
 | int n=>obtain ⟨h,r⟩:=H;simp only [List.cons.injEq,and_true] at h;subst h;exact partI_c n I R w S r
 | bytes l=>obtain ⟨q,h,o,r⟩:=H;simp only [List.cons.injEq,and_true] at h;subst h;exact partB_c q l I R w S r
theorem Put_c (v0:Value) (l:List Any) (I:Gh) (R:List HP) (w:World) (S:Sat w I (R)) (Q0:RoX I v0 anyR l) (hl:l.length≤1000):Ret Tryz.prog 27 [v0] w fun v w'=>∃v1:Value,.tuple #[v1,.int .i64 (putE l)]=v∧Sat w' I (OwnB v1 (putB l)::R):=by
 have lq0:=XRow.le (Q0.row S.le)
 refine ret_E Tryz.func27 rfl Tryz.ntmps27 (by simp) ?_
 refine g15 ?_
 refine vl _ rfl (r_lenX rfl (Q0.row S.le) U122) ?_
 refine g4 ?_
 have S0:Sat w I (OwnB (.slice none 0 0) (((l.take 0).map partB).flatten)::R):=S.nil 5 1
 refine EC_loop (fun m' E' w'=>∃j:Nat,∃ov:Value,m'=l.length-j∧E' 4=ov∧E' 11=.int .i64 (j:Int)∧E' 9=v0∧E' 10=.int .i64 (l.length:Int)∧(j≤l.length)∧(PutTo l j)∧Sat w' I (OwnB ov (((l.take j).map partB).flatten)::R)) _ ⟨0,.slice none 0 0,rfl,rfl,rfl,rfl,rfl,Nat.zero_le _,PutTo.zero,S0⟩ ?_
 rintro _ E0 w0 ⟨j,ov,rfl,e0,e1,e2,e3,hj,hP,S1⟩
 refine g6 ?_
 refine EC_if rfl (fun h0=>?_) (fun h0=>?_)
 refine g6 ?_
 refine vl (ptr (blkOf v0) (offOf v0+((j:Int):Int).toNat*1)) rfl (r_indexX (by exact e2) (Q0.row S1.le) (by exact e1) (by omega) as' U122 (by kernel_rfl)) ?_
 obtain ⟨a0,ha0⟩:=get_some (l:=l) (j:=((j:Int):Int).toNat) as'
 have pl:=partB_le a0;have pm:=put_le (l:=l) j
 obtain ⟨cs0,hc0,he0⟩:=Q0.el ha0
 obtain ⟨u0,rfl,oH27,H0⟩:=any_open hc0
 refine vl _ rfl (r_load0 rfl (he0 _ S1.le) U20 rfl) ?_
 refine g6 ?_
 refine yR (part_c u0 a0 _ _ _ S1 (anyR.mono (Gh.le_refl _) H0)) ?_
 rintro _ w1 ⟨v2,rfl,S2⟩
 refine g14 ?_
 refine EC_if rfl (fun h1=>?_) (fun h1=>?_)
 have hst:=hP.stop ha0 h1
 refine g14 ?_
 refine f2 Tryz.results27 ?_
 rw [show putB l=[] from by rw [putB,if_neg (by rw [hst];assumption)]]
 have S3:=S2.nilB
 exact ⟨(.slice none 0 0),(by rw [hst]),S3.dr1.dr1⟩
 have hok:partE a0=0:=by simpa using h1
 refine g5 ?_
 refine yP1 elB S2 (own_row (S2.own 0 rfl)) ?_
 intro v3 w2 S4
 refine g5 ?_
 refine EL_int ((j:Int)+1) rfl (r_addi (by exact e1) rfl (by omega)) ?_
 intro x0 hx42
 refine g3 ?_
 have q0:(((l.take j).map partB).flatten)++(partB a0)=((l.take (j+1)).map partB).flatten:=put_step (j:=j) ha0
 have S5:=S4.ab1 q0
 refine ⟨_,?_,j+1,v3,rfl,rfl,(Eq.trans (show _=Value.int .i64 x0 from rfl) (congrArg _ (by omega))),(by exact e2),(by exact e3),by omega,hP.next ha0 hok,S5.dr0⟩
 first | omega | (simp;omega)
 refine g13 ?_
 refine f2 Tryz.results27 ?_
 have hall:=PutTo.all (show PutTo l l.length from by rwa [show l.length=j by omega])
 have q1:((l.take j).map partB).flatten=putB l:=by rw [putB_ok hall,List.take_of_length_le (by omega)]
 have S6:=S1.ab0 q1
 exact ⟨ov,(by rw [hall]),S6⟩
end Go.Proofs.YthddplghlljdbaaGreat

set_option maxRecDepth 100000
set_option maxHeartbeats 4000000
namespace Go.Proofs.YthddplghlljdbaaGreat
open Go.RowKit Go.Ecal
theorem take_c (p:Value) (r:Rd) (n:Int) (I:Gh) (R:List HP) (w:World) (S:Sat w I (RdP p r::R)) (hn:0≤n∧n≤9223372036854775807):Ret Tryz.prog 133 [p,.int .i64 n] w fun v w'=>∃u:Value,∃J:Gh,Gh.le I J∧u=v∧RoB J u (rdTake r n)∧Sat w' J (RdP p (rdTakeS r n)::R):=by
 obtain ⟨b,v,rfl,ov,H0,S0⟩:=RdP.opn S
 refine ret_E Tryz.func133 rfl Tryz.ntmps133 (by simp) ?_
 refine g5 ?_
 refine EC_scope (fun l' m' E' w'=>(l'=0∧m'=0∧E' 0=ptr b∧E' 1=.int .i64 n∧(rdShort r n=true)∧Sat w' I (Blk b 228 [v,.bool r.bad]::R))) 1 ?_ ?_
 refine g12 ?_
 refine EL_gite 10 rfl rfl rfl (.int .i64 (r.l.length:Int)) rfl (fun g15=>lenB (r_len (cond_of g15 rfl) (H0 _ S0.le) U33)) ?_
 refine g5 ?_
 refine EC_cond (t:=r.bad||(decide ((r.l.length:Int)<n))) rfl (fun h0=>?_) (fun h0=>?_)
 have hs:rdShort r n=true:=h0
 refine EC_goto ?_
 refine g1 ?_
 refine jmp_g _ ?_ ⟨rfl,rfl,rfl,rfl,hs,S0⟩
 first | omega | (simp;omega)
 have hs:rdShort r n=false:=by rw [←Bool.not_eq_true];intro hq;rw [rdShort] at hq;rw [hq] at h0;cases h0
 have hnl:r.bad=false∧n≤(r.l.length:Int):=by simp only [rdShort,Bool.or_eq_false_iff,decide_eq_false_iff_not] at hs;exact ⟨hs.1,by omega⟩
 refine g11 ?_
 refine vl (cutM v 0 ((n:Int).toNat)) rfl (r_slice3 rfl (H0 _ S0.le) U33 (by kernel_rfl) 0 ((n:Int).toNat) as' as' (.inl ⟨rfl,rfl⟩) (⟨_,_,rfl,(show _=Value.int .i64 ((n:Int).toNat:Int) from by rw [Int.toNat_of_nonneg (by omega)];exact rfl)⟩) (⟨_,_,rfl,(show _=Value.int .i64 ((n:Int).toNat:Int) from by rw [Int.toNat_of_nonneg (by omega)];exact rfl)⟩)) ?_
 have H1:RoB I (cutM v 0 ((n:Int).toNat)) (r.l.take ((n:Int).toNat)):=rob_as (RoB.cutM H0 0 ((n:Int).toNat) as' as') (by simp)
 have L0:(r.l.take ((n:Int).toNat)).length=((n:Int).toNat)-0:=by first | (simp;done) | (simp;omega)
 refine g11 ?_
 refine vl (cutV v ((n:Int).toNat) ((r.l.map byt).length)) rfl (r_slice rfl (H0 _ S0.le) U33 (by kernel_rfl) ((n:Int).toNat) ((r.l.map byt).length) as' as' (.inr ⟨_,_,rfl,(show _=Value.int .i64 ((n:Int).toNat:Int) from by rw [Int.toNat_of_nonneg (by omega)];exact rfl)⟩) (.inl ⟨rfl,rfl⟩)) ?_
 have H2:RoB I (cutV v ((n:Int).toNat) ((r.l.map byt).length)) (r.l.drop ((n:Int).toNat)):=rob_as (RoB.cut H0 ((n:Int).toNat) ((r.l.map byt).length) as' as') (by simp)
 have L1:(r.l.drop ((n:Int).toNat)).length=r.l.length-((n:Int).toNat):=by first | (simp;done) | (simp;omega)
 refine g2 ?_
 refine yS0 S0 ?_ (hu:=row_one (H2 _ S0.le))
 intro w0 S1
 refine g11 ?_
 refine f1 Tryz.results133 ?_
 have S2:Sat w0 I (RdP (ptr b) (rdTakeS r n)::R):=RdP.cls (row_one (H2 _ S1.le)) H2 (by rw [rdTakeS,if_neg (by rw [hs];decide)]) S1
 exact ⟨(cutM v 0 ((n:Int).toNat)),I,(Gh.le_refl _),rfl,(rob_as H1 (by rw [rdTake,if_neg (by rw [hs];decide)])),S2⟩
 rintro _ _ E0 w1 (⟨rfl,rfl,e0,e1,hs,S3⟩)
 refine ⟨_,rfl,?_⟩
 refine g8 ?_
 refine yS0 S3 ?_
 intro w2 S4
 refine g9 ?_
 refine f1 Tryz.results133 ?_
 have S5:Sat w2 I (RdP (ptr b) (rdTakeS r n)::R):=RdP.cls ov H0 (by rw [rdTakeS,if_pos hs]) S4
 exact ⟨(.slice none 0 0),I,(Gh.le_refl _),rfl,(rob_as Ro.nil (by rw [rdTake,if_pos hs])),S5⟩
theorem get_c (p:Value) (r:Rd) (n:Int) (I:Gh) (R:List HP) (w:World) (S:Sat w I (RdP p r::R)) (hn:0≤n∧n≤6):Ret Tryz.prog 132 [p,.int .i64 n] w fun v w'=>∃J:Gh,Gh.le I J∧.int .i64 (rdGet r n)=v∧Sat w' J (RdP p (rdTakeS r n)::R):=by
 refine ret_E Tryz.func132 rfl Tryz.ntmps132 (by simp) ?_
 refine g15 ?_
 refine yR (take_c _ _ n _ _ _ S au) ?_
 rintro _ w0 ⟨u0,I0,le0,rfl,H0,S0⟩
 have hml:(rdTake r n).length≤n.toNat:=rdTake_len (by omega)
 refine vl _ rfl (lenB (r_len rfl (H0 _ S0.le) U33)) ?_
 refine g4 ?_
 refine EC_loop (fun m' E' w'=>∃j:Nat,∃q:Nat,m'=(rdTake r n).length-j∧E' 12=.int .i64 (j:Int)∧E' 5=.int .i64 (q:Int)∧E' 4=.int .i64 0∧E' 10=u0∧E' 11=.int .i64 ((rdTake r n).length:Int)∧(j≤(rdTake r n).length)∧(q+1≤256 ^ j)∧((q:Int)=beN ((rdTake r n).take j))∧Sat w' I0 (RdP p (rdTakeS r n)::R)) _ ⟨0,0,rfl,rfl,rfl,rfl,rfl,rfl,Nat.zero_le _,(by simp),(by rw [List.take_zero];rfl),S0⟩ ?_
 rintro _ E0 w1 ⟨j,q,rfl,e0,e1,e2,e3,e4,hj,hq,hb,S1⟩
 refine g6 ?_
 refine EC_if rfl (fun h0=>?_) (fun h0=>?_)
 refine g6 ?_
 refine vl (.pointer (some (at_ u0 (((j:Int):Int).toNat)))) rfl (r_index (by exact e3) (H0 _ S1.le) (by exact e0) (by omega) as' U33 (by kernel_rfl)) ?_
 obtain ⟨b0,hb0⟩:=get_some (l:=rdTake r n) (j:=((j:Int):Int).toNat) as'
 have hb1:=b0.toNat_lt
 refine vl _ rfl (r_load rfl ((H0 _ S1.le).cell (bs_get hb0)) U5 rfl) ?_
 refine g3 ?_
 have hq2:=Nat.le_trans hq (Nat.pow_le_pow_right (show 0<256 by decide) (show j≤5 by omega))
 refine g2 ?_
 refine EL_int ((q:Int)*256) rfl (r_shli (n:=8) rfl rfl rfl (by decide) (by decide) (by omega)) ?_
 intro x0 hx29
 refine g1 ?_
 refine vl (.int .i64 (b0.toNat:Int)) rfl (r_convi 5 3 rfl U5 U3 (by omega)) ?_
 refine EL_int (x0+(b0.toNat:Int)) rfl (r_ori q b0.toNat 8 rfl rfl (by omega) (by omega) (by omega) rfl (by omega)) ?_
 intro x1 hx30
 refine g5 ?_
 refine EL_int ((j:Int)+1) rfl (r_addi (by exact e0) rfl (by omega)) ?_
 intro x2 hx31
 refine g3 ?_
 refine ⟨_,?_,j+1,(q*256+b0.toNat),rfl,(Eq.trans (show _=Value.int .i64 x2 from rfl) (congrArg _ (by omega))),(Eq.trans (show _=Value.int .i64 x1 from rfl) (congrArg _ (by omega))),(by exact e2),(by exact e3),(by exact e4),by omega,(by rw [Nat.pow_succ];omega),(beN_step hb hb0),S1⟩
 first | omega | (simp;omega)
 refine g12 ?_
 refine f1 Tryz.results132 ?_
 exact ⟨I0,le0,(by rw [rdGet,hb,List.take_of_length_le (by omega)]),S1⟩
theorem Number_c (p:Value) (r:Rd) (lo:Int) (hi:Int) (I:Gh) (R:List HP) (w:World) (S:Sat w I (RdP p r::R)):Ret Tryz.prog 96 [p,.int .i64 lo,.int .i64 hi] w fun v w'=>∃J:Gh,Gh.le I J∧.int .i64 (rdNum r lo hi)=v∧Sat w' J (RdP p (rdNumS r lo hi)::R):=by
 obtain ⟨b,rfl⟩:=RdP.ptr S
 refine ret_E Tryz.func96 rfl Tryz.ntmps96 (by simp) ?_
 refine g8 ?_
 refine yR (get_c _ _ 6 _ _ _ S au) ?_
 rintro _ w0 ⟨I0,le0,rfl,S0⟩
 obtain ⟨v0,o0,H0,S1⟩:=RdP.at S0
 refine g23 ?_
 refine yS0 S1 ?_
 intro w1 S2
 refine g10 ?_
 refine EC_cond (t:=(((rdTakeS r 6).bad)||(decide ((rdGet r 6)<lo)))||(decide (hi<(rdGet r 6)))) rfl (fun h0=>?_) (fun h0=>?_)
 have hbad:(rdMid r 6 lo hi).bad=true:=h0
 refine g7 ?_
 refine f1 Tryz.results96 ?_
 have S3:Sat w1 I0 (RdP (ptr b) (rdNumS r lo hi)::R):=RdP.cls o0 H0 rfl S2
 exact ⟨I0,le0,(by rw [rdNum,if_pos hbad]),S3⟩
 have hbad:(rdMid r 6 lo hi).bad=false:=h0
 refine g9 ?_
 refine f1 Tryz.results96 ?_
 have S4:Sat w1 I0 (RdP (ptr b) (rdNumS r lo hi)::R):=RdP.cls o0 H0 rfl S2
 exact ⟨I0,le0,(by rw [rdNum,if_neg (by rw [hbad];decide)]),S4⟩
theorem Text_c (p:Value) (r:Rd) (lo:Int) (hi:Int) (I:Gh) (R:List HP) (w:World) (S:Sat w I (RdP p r::R)):Ret Tryz.prog 97 [p,.int .i64 lo,.int .i64 hi] w fun v w'=>∃u:Value,∃J:Gh,Gh.le I J∧u=v∧RoB J u (rdTxt r lo hi)∧Sat w' J (RdP p (rdTxtS r lo hi)::R):=by
 obtain ⟨b,rfl⟩:=RdP.ptr S
 refine ret_E Tryz.func97 rfl Tryz.ntmps97 (by simp) ?_
 refine g8 ?_
 refine yR (get_c _ _ 2 _ _ _ S au) ?_
 rintro _ w0 ⟨I0,le0,rfl,S0⟩
 obtain ⟨v0,o0,H0,S1⟩:=RdP.at S0
 refine g23 ?_
 refine yS0 S1 ?_
 intro w1 S2
 refine g10 ?_
 refine EC_cond (t:=(((rdTakeS r 2).bad)||(decide ((rdGet r 2)<lo)))||(decide (hi<(rdGet r 2)))) rfl (fun h0=>?_) (fun h0=>?_)
 have hbad:(rdMid r 2 lo hi).bad=true:=h0
 refine g7 ?_
 refine f1 Tryz.results97 ?_
 have S3:Sat w1 I0 (RdP (ptr b) (rdTxtS r lo hi)::R):=RdP.cls o0 H0 (by rw [rdTxtS,if_pos hbad];rfl) S2
 exact ⟨(.slice none 0 0),I0,le0,rfl,(rob_as Ro.nil (by rw [rdTxt,if_pos hbad])),S3⟩
 have hbad:(rdMid r 2 lo hi).bad=false:=h0
 refine g3 ?_
 have S4:Sat w1 I0 (RdP (ptr b) (rdMid r 2 lo hi)::R):=RdP.cls o0 H0 rfl S2
 have hg2:=rdGet2 r
 skip
 refine g3 ?_
 refine yR (take_c _ _ (rdGet r 2) _ _ _ S4 au) ?_
 rintro _ w2 ⟨u0,I1,le1,rfl,H1,S5⟩
 refine g4 ?_
 refine f1 Tryz.results97 ?_
 have q0:rdTakeS (rdMid r 2 lo hi) (rdGet r 2)=rdTxtS r lo hi:=by rw [rdTxtS,if_neg (by rw [hbad];decide)]
 have S6:=Sat.ah0 (RdP (ptr b)) S5 q0
 exact ⟨u0,I1,(lT le0 le1),rfl,(rob_as H1 (by rw [rdTxt,if_neg (by rw [hbad];decide)])),S6⟩
theorem Bad_c (p:Value) (r:Rd) (I:Gh) (R:List HP) (w:World) (S:Sat w I (RdP p r::R)):Ret Tryz.prog 98 [p] w fun v w'=>.bool r.bad=v∧Sat w' I (RdP p r::R):=by
 obtain ⟨b,v,rfl,ov,H0,S0⟩:=RdP.opn S
 refine ret_E Tryz.func98 rfl Tryz.ntmps98 (by simp) ?_
 refine g15 ?_
 refine f1 Tryz.results98 ?_
 have S1:Sat w I (RdP (ptr b) r::R):=RdP.cls ov H0 rfl S0
 exact ⟨rfl,S1⟩
theorem End_c (p:Value) (r:Rd) (I:Gh) (R:List HP) (w:World) (S:Sat w I (RdP p r::R)):Ret Tryz.prog 99 [p] w fun v w'=>.bool (rdEnd r)=v∧Sat w' I (RdP p r::R):=by
 obtain ⟨b,v,rfl,ov,H0,S0⟩:=RdP.opn S
 refine ret_E Tryz.func99 rfl Tryz.ntmps99 (by simp) ?_
 refine g17 ?_
 refine EL_gite 8 rfl rfl rfl (.int .i64 (r.l.length:Int)) rfl (fun g15=>lenB (r_len (cond_of g15 rfl) (H0 _ S0.le) U33)) ?_
 refine g6 ?_
 refine f1 Tryz.results99 ?_
 have S1:Sat w I (RdP (ptr b) r::R):=RdP.cls ov H0 rfl S0
 exact ⟨rfl,S1⟩
theorem Read_c (v0:Value) (l:List UInt8) (I:Gh) (R:List HP) (w:World) (S:Sat w I (R)) (Q0:RoB I v0 l) (hl:l.length≤1000000000):Ret Tryz.prog 94 [v0] w fun v w'=>∃p:Value,∃J:Gh,Gh.le I J∧p=v∧Sat w' J (RdP p (Rd.mk l false)::R):=by
 have lq0:=RoB.le Q0 S.le
 refine ret_E Tryz.func94 rfl Tryz.ntmps94 (by simp) ?_
 refine g8 ?_
 have S0:=S.nilB
 refine yP0 elB S0 (Q0 _ S0.le) ?_
 intro v1 w0 S1
 refine vl _ rfl (gB [v1,.bool false] st_228 (parts1 rfl) (fill_one rfl (one_cells (own_one (S1.own 0 rfl))) rfl fill_end)) ?_
 refine yB (cs:=[v1,.bool false]) S1 ?_
 intro b0 w1 S2
 refine g4 ?_
 refine f1 Tryz.results94 ?_
 obtain ⟨I0,le0,S3,H0⟩:=S2.fb1
 have S4:Sat w1 I0 (RdP (ptr b0) (Rd.mk l false)::R):=RdP.cls (row_one (H0 _ S3.le)) H0 (by simp) S3
 exact ⟨(ptr b0),I0,le0,rfl,S4⟩
end Go.Proofs.YthddplghlljdbaaGreat
