import Derived.Test.YthddplghlljdbaaGreatQWorldPostBucket
import Derived.Test.YthddplghlljdbaaGreatQWorldPostBase
set_option linter.unusedVariables false
set_option linter.unusedSimpArgs false
set_option maxRecDepth 100000
set_option maxHeartbeats 4000000
namespace Go.Proofs.YthddplghlljdbaaGreat
open Go.RowKit Go.Ecal
theorem Size_c (n:Int) (I:Gh) (R:List HP) (w:World) (S:Sat w I (R)) (hb:-9223372036854775808≤n∧n≤9223372036854775807):Ret Tryz.prog 135 [.int .i64 n] w fun v w'=>.tuple #[.int .i64 (bsize n),.int .i64 (bsizeE n)]=v∧Sat w' I (R):=by
 refine ret_E Tryz.func135 rfl Tryz.ntmps135 (by simp) ?_
 refine g6 ?_
 refine EC_scope (fun l' m' E' w'=>(l'=0∧m'=0∧E' 0=.int .i64 n∧(n<0∨2046<n)∧Sat w' I (R))∨(l'=1∧∃z:Int,m'=(4096-z).toNat∧E' 4=.int .i64 z∧E' 0=.int .i64 n∧(z=64∨(z=128∧62<n)∨(z=256∧126<n)∨(z=512∧254<n)∨(z=1024∧510<n)∨(z=2048∧1022<n))∧(0≤n∧n≤2046)∧Sat w' I (R))) 5000 ?_ ?_
 refine g16 ?_
 refine EC_cond (t:=(decide (n<0))||(decide (2046<n))) rfl (fun h0=>?_) (fun h0=>?_)
 have hno:n<0∨2046<n:=by simp at h0;omega
 refine EC_goto ?_
 refine g1 ?_
 refine jmp_g _ ?_ (.inl ⟨rfl,rfl,rfl,hno,S⟩)
 first | omega | (simp;omega)
 have hn:0≤n∧n≤2046:=by simp at h0;omega
 refine g9 ?_
 refine EL_int (n+2) rfl (r_addi rfl rfl (by omega)) ?_
 intro x0 hx14
 refine g4 ?_
 refine EC_if rfl (fun h1=>?_) (fun h1=>?_)
 refine g10 ?_
 refine f2 Tryz.results135 ?_
 exact ⟨(by rw [show bsize n=64 from bsize_at hn (by omega) (by omega),show bsizeE n=0 from by rw [bsizeE,if_neg (by omega)]]),S⟩
 refine g5 ?_
 refine vl (.int .i64 128) rfl (r_asn (by kernel_rfl) (r_mul rfl rfl)) ?_
 refine g4 ?_
 refine EC_goto ?_
 refine g1 ?_
 refine jmp_g _ ?_ (.inr ⟨rfl,128,rfl,rfl,rfl,(by omega),(by omega),S⟩)
 first | omega | (simp;omega)
 rintro _ _ E0 w0 (⟨rfl,rfl,e0,hno,S0⟩ | ⟨rfl,z,rfl,e1,e2,hz,hn,S1⟩)
 refine ⟨_,rfl,?_⟩
 refine g11 ?_
 refine f2 Tryz.results135 ?_
 exact ⟨(by rw [(bsize_no n hno).1,(bsize_no n hno).2]),S0⟩
 refine ⟨_,rfl,?_⟩
 refine g7 ?_
 refine EL_int (n+2) rfl (r_addi rfl rfl (by omega)) ?_
 intro x1 hx23
 refine g4 ?_
 refine EC_if rfl (fun h2=>?_) (fun h2=>?_)
 refine g10 ?_
 refine f2 Tryz.results135 ?_
 exact ⟨(by rw [show bsize n=z from bsize_at hn (by omega) (by omega),show bsizeE n=0 from by rw [bsizeE,if_neg (by omega)]]),S1⟩
 refine g5 ?_
 refine EL_int (z*2) rfl (r_muli rfl rfl (by omega)) ?_
 intro x2 hx25
 refine g4 ?_
 refine EC_goto ?_
 refine g1 ?_
 refine jmp_g _ ?_ (.inr ⟨rfl,x2,rfl,rfl,(by exact e2),(by omega),(by omega),S1⟩)
 first | omega | (simp;omega)
theorem Pad_c (v0:Value) (l:List UInt8) (I:Gh) (R:List HP) (w:World) (S:Sat w I (R)) (Q0:RoB I v0 l):Ret Tryz.prog 137 [v0] w fun v w'=>∃v1:Value,.tuple #[v1,.int .i64 (bsizeE (l.length:Int))]=v∧Sat w' I (OwnB v1 (padB l)::R):=by
 have lq0:=RoB.le Q0 S.le
 refine ret_E Tryz.func137 rfl Tryz.ntmps137 (by simp) ?_
 refine g9 ?_
 refine vl _ rfl (lenB (r_len rfl (Q0 _ S.le) U33)) ?_
 refine yR (Size_c (l.length:Int) _ _ _ S au) ?_
 rintro _ w0 ⟨rfl,S0⟩
 refine g9 ?_
 rcases (by omega:l.length≤2046∨2046<l.length) with hp | hp
 obtain ⟨z,hz,hz0,hz1,hz2,hz3,hz4⟩:=bsize_facts l.length (by omega) (by omega)
 subst hz
 refine g2 ?_
 refine vl _ rfl (dcF (r_neq rfl rfl) (by simp [hz0])) ?_
 refine g8 ?_
 refine EL_make w0.heap.size elB rfl rfl rfl rfl (by omega) (by omega) (by omega) (by omega) (Nat.le_refl _) ?_
 intro v2 w1 O0 B0 k0 z0
 have S1:Sat w1 I (OwnB v2 (List.replicate ((bsize (l.length:Int):Int).toNat) (0:UInt8))::R):=S0.newO B0 (own_rep O0)
 refine g8 ?_
 refine vl _ rfl (lenB (r_len rfl (Q0 _ S1.le) U33)) ?_
 refine EL_int ((l.length:Int) / 256) rfl (r_shri (n:=8) rfl rfl rfl (by decide) (by decide)) ?_
 intro x0 hx20
 refine vl (.int .u8 (x0 % 256)) rfl (r_convb 3 5 rfl U3 U5) ?_
 refine g1 ?_
 refine vl _ rfl (lenB (r_len rfl (Q0 _ S1.le) U33)) (vl (.int .u8 ((l.length:Int) % 256)) rfl (r_convb 3 5 rfl U3 U5) (vl (.pointer (some (at_ v2 ((0:Int).toNat)))) rfl (r_index rfl (own_row (S1.own 0 rfl)) rfl (by omega) as' U33 (by kernel_rfl)) ?_))
 refine EL_store (u:=byt (bof x0)) rfl (Eq.trans (show _=Value.int .u8 (x0 % 256) from rfl) (bof_val _)) (S1.own 0 rfl) ao rfl (by kernel_rfl) ?_
 intro w2 O1 G0 z1
 have S2:=S1.gb0 G0 (own_set O1) (.inl rfl)
 refine vl (.pointer (some (at_ v2 ((1:Int).toNat)))) rfl (r_index rfl (own_row (S2.own 0 rfl)) rfl (by omega) as' U33 (by kernel_rfl)) ?_
 refine EL_store (u:=byt (bof (l.length:Int))) rfl (Eq.trans (show _=Value.int .u8 ((l.length:Int) % 256) from rfl) (bof_val _)) (S2.own 0 rfl) ao rfl (by kernel_rfl) ?_
 intro w3 O2 G1 z2
 have S3:=S2.gb0 G1 (own_set O2) (.inl rfl)
 refine g5 ?_
 refine vl (cutV v2 2 ((((List.replicate ((bsize (l.length:Int):Int).toNat) (0:UInt8)).set ((0:Int).toNat) (bof x0)).set ((1:Int).toNat) (bof (l.length:Int))).map byt).length) rfl (r_slice rfl (own_row (S3.own 0 rfl)) U33 (by kernel_rfl) 2 ((((List.replicate ((bsize (l.length:Int):Int).toNat) (0:UInt8)).set ((0:Int).toNat) (bof x0)).set ((1:Int).toNat) (bof (l.length:Int))).map byt).length as' as' (.inr ⟨_,_,rfl,rfl⟩) (.inl ⟨rfl,rfl⟩)) ?_
 refine g1 ?_
 refine EL_copy (ys:=l.map byt) rfl (show _=(cutV v2 2 ((((List.replicate ((bsize (l.length:Int):Int).toNat) (0:UInt8)).set ((0:Int).toNat) (bof x0)).set ((1:Int).toNat) (bof (l.length:Int))).map byt).length) from rfl) rfl (S3.own 0 rfl) (Q0 _ S3.le) (by simp;omega) (by first | (simp;done) | (simp;omega)) (by simp;omega) U33 (by kernel_rfl) (byt_one _) ?_
 intro w4 O3 G2 z3
 have S4:=S3.gb0 G2 (own_cpy O3) (.inl rfl)
 refine g10 ?_
 refine f2 Tryz.results137 ?_
 have q0:(((List.replicate ((bsize (l.length:Int):Int).toNat) (0:UInt8)).set ((0:Int).toNat) (bof x0)).set ((1:Int).toNat) (bof (l.length:Int))).take 2++l++(((List.replicate ((bsize (l.length:Int):Int).toNat) (0:UInt8)).set ((0:Int).toNat) (bof x0)).set ((1:Int).toNat) (bof (l.length:Int))).drop (2+l.length)=padB l:=by rw [padB,if_pos hp];exact bpad_list l _ rfl _ _ (by first | rfl | rw [hx20]) (by first | rfl | rw [hx20]) hz2
 have S5:=S4.ab0 q0
 exact ⟨v2,(by rw [hz0]),S5⟩
 obtain ⟨hz,hz0⟩:=bsize_no l.length (by omega)
 refine g2 ?_
 refine vl _ rfl (dcT (r_neq rfl rfl) (by simp [hz0])) ?_
 refine g12 ?_
 refine f2 Tryz.results137 ?_
 rw [show padB l=[] from by rw [padB,if_neg (by omega)]]
 have S6:=S0.nilB
 exact ⟨(.slice none 0 0),(by rw [hz0]),S6⟩
theorem MacEqual_c (v0:Value) (l:List UInt8) (v1:Value) (m:List UInt8) (I:Gh) (R:List HP) (w:World) (S:Sat w I (R)) (Q0:RoB I v0 l) (Q1:RoB I v1 m):Ret Tryz.prog 171 [v0,v1] w fun v w'=>.bool (decide (l=m))=v∧Sat w' I (R):=by
 have lq0:=RoB.le Q0 S.le
 have lq1:=RoB.le Q1 S.le
 refine ret_E Tryz.func171 rfl Tryz.ntmps171 (by simp) ?_
 refine g9 ?_
 refine vl _ rfl (lenB (r_len rfl (Q0 _ S.le) U33)) ?_
 refine g1 ?_
 refine vl _ rfl (lenB (r_len rfl (Q1 _ S.le) U33)) ?_
 refine g3 ?_
 refine EC_if rfl (fun h0=>?_) (fun h0=>?_)
 have hne:¬l.length=m.length:=by simp at h0;omega
 refine g7 ?_
 refine f1 Tryz.results171 ?_
 exact ⟨(by rw [decide_eq_false (fun h=>hne (by rw [h]))]),S⟩
 have hle:l.length=m.length:=by simp at h0;omega
 refine g11 ?_
 refine vl _ rfl (lenB (r_len rfl (Q0 _ S.le) U33)) ?_
 refine g4 ?_
 refine EC_loop (fun m' E' w'=>∃j:Nat,∃x:UInt8,m'=l.length-j∧E' 14=.int .i64 (j:Int)∧E' 5=.int .u8 (x.toNat:Int)∧E' 0=v0∧E' 1=v1∧E' 4=.bool false∧E' 13=.int .i64 (l.length:Int)∧(j≤l.length)∧(x=0↔l.take j=m.take j)∧Sat w' I (R)) _ ⟨0,0,rfl,rfl,rfl,rfl,rfl,rfl,rfl,Nat.zero_le _,by simp,S⟩ ?_
 rintro _ E0 w0 ⟨j,x,rfl,e0,e1,e2,e3,e4,e5,hj,hx,S0⟩
 refine g6 ?_
 refine EC_if rfl (fun h1=>?_) (fun h1=>?_)
 refine g10 ?_
 refine EC_quietB (by kernel_rfl) (by kernel_rfl) ?_
 refine g3 ?_
 refine EQ_val (.pointer (some (at_ v0 (((j:Int):Int).toNat)))) rfl (fun _ hw=>r_index rfl ((Q0 _ S0.le).below hw) rfl (by omega) as' U33 (by kernel_rfl)) ?_
 obtain ⟨b0,hb0⟩:=get_some (l:=l) (j:=((j:Int):Int).toNat) as'
 have hb1:=b0.toNat_lt
 refine EQ_val (.int .u8 (b0.toNat:Int)) rfl (fun _ hw=>r_load rfl (((Q0 _ S0.le).below hw).cell (bs_get hb0)) U5 rfl) ?_
 refine g2 ?_
 refine EQ_val (.pointer (some (at_ v1 (((j:Int):Int).toNat)))) rfl (fun _ hw=>r_index rfl ((Q1 _ S0.le).below hw) rfl (by omega) as' U33 (by kernel_rfl)) ?_
 obtain ⟨b1,hb2⟩:=get_some (l:=m) (j:=((j:Int):Int).toNat) as'
 have hb3:=b1.toNat_lt
 refine EQ_val (.int .u8 (b1.toNat:Int)) rfl (fun _ hw=>r_load rfl (((Q1 _ S0.le).below hw).cell (bs_get hb2)) U5 rfl) (EQ_val (.int .u8 ((b0 ^^^ b1).toNat:Int)) rfl (fun _ hw=>r_xorb (a:=b0) (b:=b1) rfl rfl) (EQ_val (.int .u8 ((x ||| (b0 ^^^ b1)).toNat:Int)) rfl (fun _ hw=>r_orb (a:=x) (b:=(b0 ^^^ b1)) rfl rfl) ?_))
 refine g1 ?_
 refine yE S0 ?_
 intro w1 S1
 refine g3 ?_
 refine EL_int ((j:Int)+1) rfl (r_addi (by exact e0) rfl (by omega)) ?_
 intro x0 hx31
 refine g3 ?_
 refine ⟨_,?_,j+1,(x ||| (b0 ^^^ b1)),rfl,(Eq.trans (show _=Value.int .i64 x0 from rfl) (congrArg _ (by omega))),rfl,(by exact e2),(by exact e3),(by exact e4),(by exact e5),by omega,(mq_next hx (show l[j]?=_ from hb0) (show m[j]?=_ from hb2)),S1⟩
 first | omega | (simp;omega)
 refine g13 ?_
 refine f1 Tryz.results171 ?_
 exact ⟨(congrArg Value.bool (decide_eq_decide.2 (mq_fin hx (by omega) (by omega)))),S0⟩
theorem Strip_c (v0:Value) (l:List UInt8) (I:Gh) (R:List HP) (w:World) (S:Sat w I (R)) (Q0:RoB I v0 l) (hl:l.length≤1000000000):Ret Tryz.prog 170 [v0] w fun v w'=>∃v1:Value,.tuple #[v1,.int .i64 (stripE l)]=v∧Sat w' I (OwnB v1 (stripB l)::R):=by
 have lq0:=RoB.le Q0 S.le
 refine ret_E Tryz.func170 rfl Tryz.ntmps170 (by simp) ?_
 refine g10 ?_
 refine vl _ rfl (lenB (r_len rfl (Q0 _ S.le) U33)) ?_
 refine g3 ?_
 refine EC_if rfl (fun h0=>?_) (fun h0=>?_)
 refine g8 ?_
 refine f2 Tryz.results170 ?_
 have hsn:bstrip l=none:=strip_short (by omega)
 rw [show stripB l=[] from by rw [stripB,hsn];rfl]
 have S0:=S.nilB
 exact ⟨(.slice none 0 0),(by rw [stripE,hsn];rfl),S0⟩
 refine g3 ?_
 refine EC_quietB (by kernel_rfl) (by kernel_rfl) ?_
 refine g1 ?_
 refine EQ_val (.pointer (some (at_ v0 ((0:Int).toNat)))) rfl (fun _ hw=>r_index rfl ((Q0 _ S.le).below hw) rfl (by omega) as' U33 (by kernel_rfl)) ?_
 obtain ⟨b0,hb0⟩:=get_some (l:=l) (j:=(0:Int).toNat) as'
 have hb1:=b0.toNat_lt
 refine EQ_val (.int .u8 (b0.toNat:Int)) rfl (fun _ hw=>r_load rfl (((Q0 _ S.le).below hw).cell (bs_get hb0)) U5 rfl) (EQ_val (.int .i64 (b0.toNat:Int)) rfl (fun _ hw=>r_convi 5 3 rfl U5 U3 (by omega)) ?_)
 refine EQ_int ((b0.toNat:Int)*256) rfl (fun _ hw=>r_shli (n:=8) rfl rfl rfl (by decide) (by decide) (by omega)) ?_
 intro x0 hx17
 refine g1 ?_
 refine EQ_val (.pointer (some (at_ v0 ((1:Int).toNat)))) rfl (fun _ hw=>r_index rfl ((Q0 _ S.le).below hw) rfl (by omega) as' U33 (by kernel_rfl)) ?_
 obtain ⟨b1,hb2⟩:=get_some (l:=l) (j:=(1:Int).toNat) as'
 have hb3:=b1.toNat_lt
 refine EQ_val (.int .u8 (b1.toNat:Int)) rfl (fun _ hw=>r_load rfl (((Q0 _ S.le).below hw).cell (bs_get hb2)) U5 rfl) (EQ_val (.int .i64 (b1.toNat:Int)) rfl (fun _ hw=>r_convi 5 3 rfl U5 U3 (by omega)) ?_)
 refine EQ_int (x0+(b1.toNat:Int)) rfl (fun _ hw=>r_ori b0.toNat b1.toNat 8 rfl rfl (by omega) (by omega) (by omega) rfl (by omega)) ?_
 intro x1 hx21
 refine g1 ?_
 refine yE S ?_
 intro w0 S1
 refine g3 ?_
 have hn:x1=bnum l:=by rw [bnum_eq hb0 hb2];omega
 have hn0:0≤x1∧x1<65536:=by omega
 rcases (by by_cases h1:bsizeE x1=0<;>by_cases h2:bsize x1=l.length<;>simp [h1,h2]:(bsizeE x1≠0)∨(bsizeE x1=0∧bsize x1≠l.length)∨(bsizeE x1=0∧bsize x1=l.length)) with hs | hs | hs
 refine g2 ?_
 refine yR (Size_c x1 _ _ _ S1 au) ?_
 rintro _ w1 ⟨rfl,S2⟩
 refine g10 ?_
 refine vl _ rfl (dcT (r_neq rfl rfl) (by simpa using hs)) ?_
 refine g17 ?_
 refine f2 Tryz.results170 ?_
 have hsn:bstrip l=none:=strip_size hn (.inl hs)
 rw [show stripB l=[] from by rw [stripB,hsn];rfl]
 have S3:=S2.nilB
 exact ⟨(.slice none 0 0),(by rw [stripE,hsn];rfl),S3⟩
 refine g2 ?_
 refine yR (Size_c x1 _ _ _ S1 au) ?_
 rintro _ w2 ⟨rfl,S4⟩
 refine g10 ?_
 refine vl _ rfl (dcF (r_neq rfl rfl) (by simp [hs.1])) ?_
 refine g3 ?_
 refine gl 29 rfl rfl rfl rfl _ rfl (lenB (r_len rfl (Q0 _ S4.le) U33)) (gl 29 rfl rfl rfl rfl _ rfl (dcT (r_neq rfl rfl) (by simpa using hs.2)) ?_)
 refine g12 ?_
 refine f2 Tryz.results170 ?_
 have hsn:bstrip l=none:=strip_size hn (.inr hs.2)
 rw [show stripB l=[] from by rw [stripB,hsn];rfl]
 have S5:=S4.nilB
 exact ⟨(.slice none 0 0),(by rw [stripE,hsn];rfl),S5⟩
 have hft:=size_fits hn0.1 (by omega) hs.1 hs.2
 refine g2 ?_
 refine yR (Size_c x1 _ _ _ S1 au) ?_
 rintro _ w3 ⟨rfl,S6⟩
 refine g10 ?_
 refine vl _ rfl (dcF (r_neq rfl rfl) (by simp [hs.1])) ?_
 refine g3 ?_
 refine gl 29 rfl rfl rfl rfl _ rfl (lenB (r_len rfl (Q0 _ S6.le) U33)) (gl 29 rfl rfl rfl rfl _ rfl (dcF (r_neq rfl rfl) (by simp [hs.2])) ?_)
 refine g11 ?_
 refine EL_int (2+x1) rfl (r_addi rfl rfl (by omega)) ?_
 intro x2 hx35
 refine vl (cutV v0 ((x2:Int).toNat) ((l.map byt).length)) rfl (r_slice rfl (Q0 _ S6.le) U33 (by kernel_rfl) ((x2:Int).toNat) ((l.map byt).length) as' as' (.inr ⟨_,_,rfl,(show _=Value.int .i64 ((x2:Int).toNat:Int) from by rw [Int.toNat_of_nonneg (by omega)];exact rfl)⟩) (.inl ⟨rfl,rfl⟩)) ?_
 have H0:RoB I (cutV v0 ((x2:Int).toNat) ((l.map byt).length)) (l.drop ((x2:Int).toNat)):=rob_as (RoB.cut Q0 ((x2:Int).toNat) ((l.map byt).length) as' as') (by simp)
 have L0:(l.drop ((x2:Int).toNat)).length=l.length-((x2:Int).toNat):=by first | (simp;done) | (simp;omega)
 refine vl _ rfl (lenB (r_len rfl (H0 _ S6.le) U33)) ?_
 refine g4 ?_
 have H1:RoB I (cutV v0 ((x2:Int).toNat) ((l.map byt).length)) (l.drop (2+bnum l)):=rob_as H0 (by congr 1;omega)
 have hdl:(l.drop (2+bnum l)).length=l.length-(2+bnum l):=List.length_drop ..
 refine EC_loop (fun m' E' w'=>∃j:Nat,m'=l.length-(2+bnum l)-j∧E' 40=.int .i64 (j:Int)∧E' 0=v0∧E' 4=.int .i64 x1∧E' 38=(cutV v0 ((x2:Int).toNat) ((l.map byt).length))∧E' 39=.int .i64 ((l.drop ((x2:Int).toNat)).length:Int)∧(j≤l.length-(2+bnum l))∧(((l.drop (2+bnum l)).take j).all (· == 0)=true)∧Sat w' I (R)) _ ⟨0,rfl,rfl,rfl,rfl,rfl,rfl,Nat.zero_le _,by simp,S6⟩ ?_
 rintro _ E0 w4 ⟨j,rfl,e0,e1,e2,e3,e4,hj,hall,S7⟩
 refine g6 ?_
 refine EC_if rfl (fun h3=>?_) (fun h3=>?_)
 refine g6 ?_
 refine vl (.pointer (some (at_ (cutV v0 ((x2:Int).toNat) ((l.map byt).length)) (((j:Int):Int).toNat)))) rfl (r_index (by exact e3) (H1 _ S7.le) (by exact e0) (by omega) as' U33 (by kernel_rfl)) ?_
 obtain ⟨b2,hb4⟩:=get_some (l:=l.drop (2+bnum l)) (j:=((j:Int):Int).toNat) as'
 have hb5:=b2.toNat_lt
 refine vl _ rfl (r_load rfl ((H1 _ S7.le).cell (bs_get hb4)) U5 rfl) ?_
 refine g9 ?_
 refine EC_if rfl (fun h4=>?_) (fun h4=>?_)
 have hc0:(b2.toNat:Int)≠0:=h4
 refine g12 ?_
 refine f2 Tryz.results170 ?_
 have hsn:bstrip l=none:=strip_tail rfl (show (l.drop (2+bnum l))[j]?=_ from hb4) hc0
 rw [show stripB l=[] from by rw [stripB,hsn];rfl]
 have S8:=S7.nilB
 exact ⟨(.slice none 0 0),(by rw [stripE,hsn];rfl),S8⟩
 have hc0:¬(b2.toNat:Int)≠0:=h4
 refine g4 ?_
 refine EL_int ((j:Int)+1) rfl (r_addi (by exact e0) rfl (by omega)) ?_
 intro x3 hx54
 refine g3 ?_
 refine ⟨_,?_,j+1,rfl,(Eq.trans (show _=Value.int .i64 x3 from rfl) (congrArg _ (by omega))),(by exact e1),(by exact e2),(by exact e3),(by exact e4),by omega,(strip_next hall (show (l.drop (2+bnum l))[j]?=_ from hb4) hc0),S7⟩
 first | omega | (simp;omega)
 refine g9 ?_
 refine EL_int (2+x1) rfl (r_addi rfl rfl (by omega)) ?_
 intro x4 hx55
 refine vl (cutV v0 2 ((x4:Int).toNat)) rfl (r_slice rfl (Q0 _ S7.le) U33 (by kernel_rfl) 2 ((x4:Int).toNat) as' as' (.inr ⟨_,_,rfl,rfl⟩) (.inr ⟨_,_,rfl,(show _=Value.int .i64 ((x4:Int).toNat:Int) from by rw [Int.toNat_of_nonneg (by omega)];exact rfl)⟩)) ?_
 have H2:RoB I (cutV v0 2 ((x4:Int).toNat)) ((l.take ((x4:Int).toNat)).drop 2):=rob_as (RoB.cut Q0 2 ((x4:Int).toNat) as' as') (by simp)
 have L1:((l.take ((x4:Int).toNat)).drop 2).length=((x4:Int).toNat)-2:=by first | (simp;done) | (simp;omega)
 have S9:=S7.nilB
 refine yP0 elB S9 (H2 _ S9.le) ?_
 intro v2 w5 S10
 refine g5 ?_
 refine f2 Tryz.results170 ?_
 have hsn:bstrip l=some ((l.drop 2).take (bnum l)):=strip_good (n:=x1) (i:=(j:Int)) hn (by omega) hs.2 rfl (by omega) hall
 have q0:([]:List UInt8)++((l.take ((x4:Int).toNat)).drop 2)=stripB l:=by rw [stripB,hsn,List.nil_append,List.drop_take,show (x4:Int).toNat-2=bnum l by omega];rfl
 have S11:=S10.ab0 q0
 exact ⟨v2,(by rw [stripE,hsn];rfl),S11⟩
end Go.Proofs.YthddplghlljdbaaGreat
