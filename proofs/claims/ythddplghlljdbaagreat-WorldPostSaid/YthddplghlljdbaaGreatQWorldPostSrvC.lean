import Derived.Test.YthddplghlljdbaaGreatQWorldPostSeats
import Derived.Test.YthddplghlljdbaaGreatQWorldPostServerP
set_option linter.unusedVariables false
set_option linter.unusedSimpArgs false
set_option maxRecDepth 100000
set_option maxHeartbeats 4000000
namespace Go.Proofs.YthddplghlljdbaaGreat
open Go.RowKit Go.Ecal
theorem SNew_c (I:Gh) (R:List HP) (w:World) (S:Sat w I (R)):Ret Tryz.prog 22 [] w fun v w'=>∃q:Value,q=v∧Sat w' I (SrvP q Srv.new::R):=by
 refine ret_E Tryz.func22 rfl Tryz.ntmps22 (by simp) ?_
 refine g7 ?_
 refine EL_map rfl ?_
 intro b0 w0 k0 A0 B0
 have S0:Sat w0 I (MRaw b0 (#[]) 0::R):=S.newRaw B0 A0 k0
 refine vl _ rfl (gB [.map (some b0)] st_116 (parts1 rfl) (fill_one rfl rfl rfl fill_end)) ?_
 refine EL_box [.map (some b0)] rfl rfl rfl ?_
 intro b1 w1 k1 A1 B1 z0
 have S1:=S0.newB B1 A1 k1
 refine g4 ?_
 refine f1 Tryz.results22 ?_
 have S2:Sat w1 I (SrvP (ptr b1) Srv.new::R):=SrvP.cls (s:=Srv.new) Srv.ok.new stmp0 rfl (⟨List.Pairwise.nil,fun k h=>absurd h (by simp)⟩:PlK []) (fun p=>⟨rfl,RoX.nil⟩) S1.fr1.fr1
 exact ⟨(ptr b1),rfl,S2⟩
theorem CloneL_c (v0:Value) (l:List (List UInt8)) (I:Gh) (R:List HP) (w:World) (S:Sat w I (R)) (Q0:RoX I v0 bytesR l) (hl:l.length≤1000):Ret Tryz.prog 43 [v0] w fun v w'=>∃v1:Value,v1=v∧Sat w' I (OwnX 33 bytesR v1 l::R):=by
 have lq0:=XRow.le (Q0.row S.le)
 refine ret_E Tryz.func43 rfl Tryz.ntmps43 (by simp) ?_
 refine g9 ?_
 refine vl (.bool (isNil v0)) rfl (r_eqnilX rfl (Q0.row S.le) rfl U52) ?_
 refine g2 ?_
 refine EC_cond (t:=isNil v0) rfl (fun h0=>?_) (fun h0=>?_)
 have hnil:=h0
 refine g7 ?_
 refine f1 Tryz.results43 ?_
 have hl0:l=[]:=by by_cases hl:l=[];exact hl;exact absurd (isNil_ofX Q0 S.le hl) (by rw [hnil];decide)
 subst hl0
 have S0:Sat w I (OwnX 33 bytesR (.slice none 0 0) []::R):=OwnX.nil S 33 bytesR
 exact ⟨(.slice none 0 0),rfl,S0⟩
 have hnil:=h0
 refine g4 ?_
 refine EL_lit0X (τ:=bytesR) U52 (by kernel_rfl) S ?_
 intro u0 w0 S1
 refine g1 ?_
 refine EL_appX (z:=(.slice none 0 0)) (bytes:=24) rfl U52 (by kernel_rfl) rfl (by decide) rfl rfl S1 Q0 ac ac ?_
 intro v2 w1 S2
 have S3:Sat w1 I (OwnX 33 bytesR v2 l::R):=S2
 refine g4 ?_
 refine f1 Tryz.results43 ?_
 exact ⟨v2,rfl,S3⟩
theorem BEq_c (v0:Value) (l:List UInt8) (v1:Value) (m:List UInt8) (I:Gh) (R:List HP) (w:World) (S:Sat w I (R)) (Q0:RoB I v0 l) (Q1:RoB I v1 m):Ret Tryz.prog 123 [v0,v1] w fun v w'=>.bool (decide (l=m))=v∧Sat w' I (R):=by
 have lq0:=RoB.le Q0 S.le
 have lq1:=RoB.le Q1 S.le
 refine ret_E Tryz.func123 rfl Tryz.ntmps123 (by simp) ?_
 refine g8 ?_
 refine vl _ rfl (r_str rfl (Q0 _ S.le) U33 U5 U9) ?_
 refine g1 ?_
 refine vl _ rfl (r_str rfl (Q1 _ S.le) U33 U5 U9) (vl _ rfl (r_eqls rfl rfl) ?_)
 refine g4 ?_
 refine f1 Tryz.results123 ?_
 exact ⟨rfl,S⟩
theorem PEq_c (v0:Value) (x:List UInt8) (c:Nat) (bv:Value) (b:List UInt8) (I:Gh) (R:List HP) (w:World) (S:Sat w I (Blk c 33 [bv]::R)) (Q0:RoB I v0 x) (Q1:RoB I bv b):Ret Tryz.prog 122 [v0,ptr c] w fun v w'=>.bool (decide (x=b))=v∧Sat w' I (Blk c 33 [bv]::R):=by
 have lq0:=RoB.le Q0 S.le
 have lq1:=RoB.le Q1 S.le
 refine ret_E Tryz.func122 rfl Tryz.ntmps122 (by simp) ?_
 refine g9 ?_
 refine yR (BEq_c _ _ _ _ _ _ _ S Q0 Q1) ?_
 rintro _ w0 ⟨rfl,S0⟩
 refine g4 ?_
 refine f1 Tryz.results122 ?_
 exact ⟨rfl,S0⟩
theorem PIx_c (v0:Value) (l:List (List UInt8)) (c:Nat) (bv:Value) (b:List UInt8) (I:Gh) (R:List HP) (w:World) (S:Sat w I (Blk c 33 [bv]::OwnX 33 bytesR v0 l::R)) (Q0:RoB I bv b) (hl:l.length≤1000):Ret Tryz.prog 156 [v0,.func (.func 122) #[] [ptr c].toArray] w fun v w'=>∃n:Int,.int .i64 n=v∧((n=-1∧b∉l)∨(0≤n∧b∈l))∧Sat w' I (Blk c 33 [bv]::OwnX 33 bytesR v0 l::R):=by
 have lq0:=RoB.le Q0 S.le
 refine ret_E Tryz.func156 rfl Tryz.ntmps156 (by simp) ?_
 refine g9 ?_
 refine vl _ rfl (r_lenX rfl (OwnX.row S 1 rfl (by decide)).1 U52) ?_
 refine g4 ?_
 refine EC_loop (fun m' E' w'=>∃j:Nat,m'=l.length-j∧E' 8=.int .i64 (j:Int)∧E' 0=v0∧E' 1=.func (.func 122) #[] [ptr c].toArray∧E' 7=.int .i64 (l.length:Int)∧(j≤l.length)∧(b∉l.take j)∧Sat w' I (Blk c 33 [bv]::OwnX 33 bytesR v0 l::R)) _ ⟨0,rfl,rfl,rfl,rfl,rfl,Nat.zero_le _,(by simp),S⟩ ?_
 rintro _ E0 w0 ⟨j,rfl,e0,e1,e2,e3,hj,hno,S0⟩
 refine g6 ?_
 refine EC_if rfl (fun h0=>?_) (fun h0=>?_)
 refine g15 ?_
 refine vl (ptr (blkOf v0) (offOf v0+((j:Int):Int).toNat*1)) rfl (r_indexX rfl (OwnX.row S0 1 rfl (by decide)).1 rfl (by omega) as' U52 (by kernel_rfl)) ?_
 obtain ⟨a0,ha0⟩:=get_some (l:=l) (j:=((j:Int):Int).toNat) as'
 obtain ⟨cs0,hc0,he0⟩:=(OwnX.row S0 1 rfl (by decide)).2 _ _ ha0
 obtain ⟨v1,rfl,o0,H0⟩:=hc0
 refine vl _ rfl (r_load0 rfl he0 U33 rfl) ?_
 refine EL_retw _ rfl rfl Tryz.func122 rfl nm122 rfl (PEq_c _ _ _ _ _ _ _ _ S0 H0 Q0) ?_
 rintro _ w1 ⟨rfl,S1⟩
 refine g2 ?_
 refine EC_if rfl (fun h1=>?_) (fun h1=>?_)
 have hab:a0=b:=by simpa using h1
 refine g12 ?_
 refine f1 Tryz.results156 ?_
 exact ⟨(j:Int),rfl,(.inr ⟨by omega,by rw [←hab];exact List.mem_of_getElem? (show l[j]?=_ from ha0)⟩),S1⟩
 have hab:a0≠b:=by simpa using h1
 refine g4 ?_
 refine EL_int ((j:Int)+1) rfl (r_addi (by exact e0) rfl (by omega)) ?_
 intro x0 hx30
 refine g3 ?_
 refine ⟨_,?_,j+1,rfl,(Eq.trans (show _=Value.int .i64 x0 from rfl) (congrArg _ (by omega))),(by exact e1),(by exact e2),(by exact e3),by omega,(by rw [List.take_add_one,(show l[j]?=_ from ha0)];simp [hno,Ne.symm hab]),S1⟩
 first | omega | (simp;omega)
 refine g11 ?_
 refine f1 Tryz.results156 ?_
 exact ⟨(-1),rfl,(.inl ⟨rfl,by rwa [List.take_of_length_le (by omega)] at hno⟩),S0⟩
theorem PCn_c (v0:Value) (l:List (List UInt8)) (c:Nat) (bv:Value) (b:List UInt8) (I:Gh) (R:List HP) (w:World) (S:Sat w I (Blk c 33 [bv]::OwnX 33 bytesR v0 l::R)) (Q0:RoB I bv b) (hl:l.length≤1000):Ret Tryz.prog 121 [v0,.func (.func 122) #[] [ptr c].toArray] w fun v w'=>.bool (decide (b∈l))=v∧Sat w' I (Blk c 33 [bv]::OwnX 33 bytesR v0 l::R):=by
 have lq0:=RoB.le Q0 S.le
 refine ret_E Tryz.func121 rfl Tryz.ntmps121 (by simp) ?_
 refine g9 ?_
 refine yR (PIx_c _ _ _ _ _ _ _ _ S Q0 au) ?_
 rintro _ w0 ⟨n0,rfl,h0,S0⟩
 have hcn:=h0
 refine g5 ?_
 refine f1 Tryz.results121 ?_
 exact ⟨(congrArg Value.bool (by rcases hcn with ⟨h1,h2⟩ | ⟨h1,h2⟩<;>simp [h2]<;>omega)),S0⟩
theorem SPush_c (q:Value) (s:Srv) (kb:Int) (kc:Int) (v0:Value) (l:List (List UInt8)) (I:Gh) (R:List HP) (w:World) (S:Sat w I (SrvP q s::R)) (Q0:RoX I v0 bytesR l) (hpl:PlOk (kb,kc)) (hl:l.length≤8) (hlk:∀b∈l,1≤b.length∧b.length≤4096):Ret Tryz.prog 88 [q,.agg [.int .i64 kb,.int .i64 kc].toArray,v0] w fun v w'=>∃J:Gh,Gh.le I J∧.int .i64 (s.pushE (kb,kc) l)=v∧Sat w' J (SrvP q (s.pushS (kb,kc) l)::R):=by
 have lq0:=XRow.le (Q0.row S.le)
 obtain ⟨b,m,K,arr,clock,rfl,sok,hst,he,hPK,hK,S0⟩:=SrvP.opn S
 have hon:=hPK.1
 have hkv:=hPK.kv
 have hl64:=sok.len (kb,kc)
 refine ret_E Tryz.func88 rfl Tryz.ntmps88 (by simp) ?_
 refine g2 ?_
 refine yB (cs:=[.int .i64 kb,.int .i64 kc]) S0 ?_
 intro b0 w0 S1
 refine g4 ?_
 refine yJ 6 (fun w'=>Arr w' b 116 [.map (some m)]∧Arr w' b0 129 [.int .i64 kb,.int .i64 kc]∧w'.heap[m]?=some (.map arr clock)) S1 ?_
 intro w1 S2
 refine yT 0 S2.le ⟨S2.a1,S2.a0,S2.raw 2 rfl⟩ ?_
 refine yT 1 S2.le ⟨S2.a1,S2.a0,S2.raw 2 rfl⟩ ?_
 refine yT 2 S2.le ⟨S2.a1,S2.a0,S2.raw 2 rfl⟩ ?_
 refine yT 3 S2.le ⟨S2.a1,S2.a0,S2.raw 2 rfl⟩ ?_
 refine yT 4 S2.le ⟨S2.a1,S2.a0,S2.raw 2 rfl⟩ ?_
 obtain ⟨u0,hu0⟩:∃z,(lkM K (kb,kc)).getD (.slice none 0 0)=z:=⟨_,rfl⟩
 have o0:=(hK (kb,kc)).1
 have H0:=(hK (kb,kc)).2
 rw [hu0] at o0 H0
 refine jT 5 rfl (by kernel_rfl) u0 rfl (fun _ hw ht=>r_lookK1 (enc:=encP) (dec:=idV) (kk:=(kb,kc)) law_place U114 (by kernel_rfl) rfl rfl ht.2.2 he hon (kv_place hpl) hkv (fun _ _=>encP_inj) hu0) ⟨S2.le,fun h=>⟨S2.a1,S2.a0,S2.raw 2 rfl⟩⟩ ?_
 refine y1 6 ?_
 refine yR (CloneL_c _ _ _ _ _ S2 H0 (by omega)) ?_
 rintro _ w2 ⟨v1,rfl,S3⟩
 refine ym S3.le ?_
 refine yf 7 S3.le ?_
 refine yd ?_
 refine g5 ?_
 refine vl _ rfl (r_lenX rfl (Q0.row S3.le) U52) ?_
 refine g4 ?_
 refine EC_loop (fun m' E' w'=>∃j:Nat,∃gv:Value,∃g:List (List UInt8),∃J:Gh,m'=l.length-j∧E' 19=.int .i64 (j:Int)∧E' 7=gv∧E' 0=ptr b∧E' 4=ptr b0∧E' 6=.int .i64 0∧E' 17=v0∧E' 18=.int .i64 (l.length:Int)∧(j≤l.length)∧(g=addLog (s.log (kb,kc)) (l.take j))∧(g.length≤64+j)∧Gh.le I J∧Sat w' J (OwnX 33 bytesR gv g::Blk b0 129 [.int .i64 kb,.int .i64 kc]::Blk b 116 [.map (some m)]::MRaw m arr clock::R)) _ ⟨0,v1,(s.log (kb,kc)),I,rfl,rfl,rfl,rfl,rfl,rfl,rfl,rfl,Nat.zero_le _,(by rw [List.take_zero];rfl),by omega,(Gh.le_refl _),S3⟩ ?_
 rintro _ E0 w3 ⟨j,gv,g,I0,rfl,e0,e1,e2,e3,e4,e5,e6,hj,hg,hgl,le0,S4⟩
 refine g6 ?_
 refine EC_if rfl (fun h0=>?_) (fun h0=>?_)
 refine g6 ?_
 refine vl (ptr (blkOf v0) (offOf v0+((j:Int):Int).toNat*1)) rfl (r_indexX (by exact e5) (Q0.row (lT le0 S4.le)) (by exact e0) (by omega) as' U52 (by kernel_rfl)) ?_
 obtain ⟨a0,ha0⟩:=get_some (l:=l) (j:=((j:Int):Int).toNat) as'
 obtain ⟨cs0,hc0,he0⟩:=Q0.el ha0
 obtain ⟨v2,rfl,o1,H1⟩:=hc0
 refine vl _ rfl (r_load0 rfl (he0 _ (lT le0 S4.le)) U33 rfl) ?_
 refine yN [.slice none 0 0] S4 ?_
 intro b1 w4 S5
 refine EL_storeA (j:=0) (u:=v2) rfl rfl (S5.a0) (by first | decide | (simp;omega) | simp) o1 (by kernel_rfl) ?_
 intro w5 A0 K0 z0
 have S6:=S5.wr0 (ds:=[v2]) K0 A0
 refine g5 ?_
 refine vl (.func (.func 122) #[] [ptr b1].toArray) rfl (r_mkfun rfl rfl) ?_
 refine yR (PCn_c _ _ _ _ _ _ _ _ S6 (H1.up le0) (by omega)) ?_
 rintro _ w6 ⟨rfl,S7⟩
 refine g3 ?_
 refine EC_cond (t:=!(decide (a0∈g))) rfl (fun h1=>?_) (fun h1=>?_)
 have hin:¬a0∈g:=by simpa using h1
 refine g3 ?_
 refine EL_lit1 (l:=[(0,v2)]) w6.heap.size [v2] el_52 rfl (by decide) rfl (Nat.le_refl _) (parts1 rfl) (Eq.trans (show Instr.fill _ _ [(0,v2)]=_ from (fill_one rfl (one_cells o1) (by kernel_rfl) fill_end)) (by kernel_rfl)) ?_
 intro v3 w7 O0 B0 k0
 have S8:Sat _ _ (OwnX 33 bytesR v3 [a0]::_):=OwnX.cls (xss:=[[v2]]) (.cons ⟨_,rfl,o1,(H1.up le0)⟩ .nil) (S7.newO B0 O0)
 have oH76:=(OwnX.one S8 0 rfl (by decide))
 obtain ⟨I1,le1,S9,H2⟩:=S8.fx0 (by decide)
 refine EL_appX (z:=(.slice none 0 0)) (bytes:=24) rfl U52 (by kernel_rfl) rfl (by decide) rfl rfl S9.fr1 H2 ac ac ?_
 intro v4 w8 S10
 refine g5 ?_
 refine EL_int ((j:Int)+1) rfl (r_addi (by exact e0) rfl (by omega)) ?_
 intro x0 hx78
 refine g3 ?_
 refine ⟨_,?_,j+1,v4,g++[a0],I1,rfl,(Eq.trans (show _=Value.int .i64 x0 from rfl) (congrArg _ (by omega))),rfl,(by exact e2),(by exact e3),(by exact e4),(by exact e5),(by exact e6),by omega,(by rw [addLog_step (show l[j]?=_ from ha0),←hg,if_neg hin]),(by simp;omega),(lT le0 le1),S10.dr1⟩
 first | omega | (simp;omega)
 have hin:a0∈g:=by simpa using h1
 refine g4 ?_
 refine EL_int ((j:Int)+1) rfl (r_addi (by exact e0) rfl (by omega)) ?_
 intro x1 hx80
 refine g3 ?_
 refine ⟨_,?_,j+1,gv,g,I0,rfl,(Eq.trans (show _=Value.int .i64 x1 from rfl) (congrArg _ (by omega))),(by exact e1),(by exact e2),(by exact e3),(by exact e4),(by exact e5),(by exact e6),by omega,(by rw [addLog_step (show l[j]?=_ from ha0),←hg,if_pos hin]),by omega,le0,S7.dr0⟩
 first | omega | (simp;omega)
 refine g7 ?_
 have hgf:g=addLog (s.log (kb,kc)) l:=by rw [List.take_of_length_le (by omega)] at hg;exact hg
 skip
 refine g2 ?_
 refine vl _ rfl (r_lenX rfl (OwnX.row S4 0 rfl (by decide)).1 U52) ?_
 refine g3 ?_
 refine EC_if rfl (fun h2=>?_) (fun h2=>?_)
 have hE:s.pushE (kb,kc) l=33:=if_pos (by rw [←hgf];have h:=h2;omega)
 refine g7 ?_
 refine f1 Tryz.results88 ?_
 have hS:s=s.pushS (kb,kc) l:=(if_neg (by rw [hE];decide)).symm
 have S11:Sat _ _ (SrvP (ptr b) s::_):=SrvP.cls (s:=s) sok hst he hPK (hK.up le0) S4.fr3.fr3
 have q0:s=s.pushS (kb,kc) l:=hS
 have S12:=Sat.ah0 (SrvP (ptr b)) S11 q0
 exact ⟨I0,le0,(by rw [hE]),S12.dr1.dr1⟩
 have h64:g.length≤64:=by have h:=h2;omega
 have hE:s.pushE (kb,kc) l=0:=if_neg (by rw [←hgf];omega)
 refine g3 ?_
 have oH93:=(OwnX.one S4 0 rfl (by decide))
 obtain ⟨I2,le2,S13,H3⟩:=S4.fx0 (by decide)
 skip
 refine yJ 6 (fun w'=>Arr w' b 116 [.map (some m)]∧Arr w' b0 129 [.int .i64 kb,.int .i64 kc]) S13 ?_
 intro w9 S14
 refine yT 0 S14.le ⟨S14.a1,S14.a0⟩ ?_
 refine yT 1 S14.le ⟨S14.a1,S14.a0⟩ ?_
 refine yT 2 S14.le ⟨S14.a1,S14.a0⟩ ?_
 refine yT 3 S14.le ⟨S14.a1,S14.a0⟩ ?_
 refine yT 4 S14.le ⟨S14.a1,S14.a0⟩ ?_
 refine yT 5 S14.le ⟨S14.a1,S14.a0⟩ ?_
 refine y1 6 ?_
 refine EL_putK (enc:=encP) (dec:=idV) (K:=K) (kk:=(kb,kc)) (u:=gv) law_place U114 rfl rfl rfl (S14.raw 2 rfl) he hon (kv_place hpl) hkv (fun _ _=>encP_inj) ?_
 intro w10 ar2 ck2 hm2 he2 G2 T2
 have S15:Sat w10 I2 (Blk b0 129 [.int .i64 kb,.int .i64 kc]::Blk b 116 [.map (some m)]::MRaw m ar2 ck2::R):=S14.rawW 2 rfl G2 hm2
 refine ym S15.le ?_
 refine yd ?_
 refine g7 ?_
 refine f1 Tryz.results88 ?_
 have hS:s.put (kb,kc) g=s.pushS (kb,kc) l:=by rw [Srv.pushS,if_pos hE,hgf]
 have hgm:∀b∈g,1≤b.length∧b.length≤4096:=by rw [hgf];exact addLog_link (sok.link _) hlk
 have S16:Sat _ _ (SrvP (ptr b) (s.put (kb,kc) g)::_):=SrvP.cls (s:=(s.put (kb,kc) g)) (sok.put h64 hgm) (T2.stmp hst) he2 (hPK.put hpl) (SrvK.put oH93 H3 (hK.up (lT le0 le2))) S15.fr2.fr2
 have q1:(s.put (kb,kc) g)=s.pushS (kb,kc) l:=hS
 have S17:=Sat.ah0 (SrvP (ptr b)) S16 q1
 exact ⟨I2,(lT le0 le2),(by rw [hE]),S17.dr1⟩
end Go.Proofs.YthddplghlljdbaaGreat

set_option maxRecDepth 100000
set_option maxHeartbeats 4000000
namespace Go.Proofs.YthddplghlljdbaaGreat
open Go.RowKit Go.Ecal
theorem SPull_c (q:Value) (s:Srv) (kb:Int) (kc:Int) (i:Int) (I:Gh) (R:List HP) (w:World) (S:Sat w I (SrvP q s::R)) (hpl:PlOk (kb,kc)) (hi6:0≤i∧i≤64):Ret Tryz.prog 89 [q,.agg [.int .i64 kb,.int .i64 kc].toArray,.int .i64 i] w fun v w'=>∃v1:Value,∃J:Gh,Gh.le I J∧.tuple #[v1,.int .i64 (s.pullE (kb,kc) i)]=v∧(isNil v1=(s.pullB (kb,kc) i).isEmpty)∧Sat w' J (OwnB v1 (s.pullB (kb,kc) i)::SrvP q s::R):=by
 obtain ⟨b,m,K,arr,clock,rfl,sok,hst,he,hPK,hK,S0⟩:=SrvP.opn S
 have hon:=hPK.1
 have hkv:=hPK.kv
 have hlg1:=sok.len (kb,kc)
 have hlg2:=sok.link (kb,kc)
 refine ret_E Tryz.func89 rfl Tryz.ntmps89 (by simp) ?_
 refine g2 ?_
 refine yB (cs:=[.int .i64 kb,.int .i64 kc]) S0 ?_
 intro b0 w0 S1
 refine g4 ?_
 refine EC_scope (fun l' m' E' w'=>(l'=0∧∃n:Int,∃fb:Nat,∃lv:Value,∃uv:Value,∃J:Gh,m'=n.toNat∧E' 10=.int .i64 n∧E' 9=ptr fb∧E' 8=uv∧E' 0=ptr b∧E' 2=.int .i64 i∧E' 4=ptr b0∧(0≤n∧n≤8∧i+n≤((s.log (kb,kc)).length:Int))∧(batchN kc i (s.log (kb,kc)) (min 8 ((s.log (kb,kc)).length-i.toNat))=batchN kc i (s.log (kb,kc)) n.toNat)∧(¬((s.log (kb,kc)).length:Int)<i)∧(lv.oneCell'=true)∧Gh.le I J∧RoX J uv bytesR (s.log (kb,kc))∧Sat w' J (Blk fb 164 [.int .i64 3,.int .i64 kc,.int .i64 i,lv,.slice none 0 0]::Blk b0 129 [.int .i64 kb,.int .i64 kc]::Blk b 116 [.map (some m)]::MRaw m arr clock::R))) 9 ?_ ?_
 refine g1 ?_
 refine EC_quietB (by kernel_rfl) (by kernel_rfl) ?_
 refine g5 ?_
 obtain ⟨u0,hu0⟩:∃z,(lkM K (kb,kc)).getD (.slice none 0 0)=z:=⟨_,rfl⟩
 have o0:=(hK (kb,kc)).1
 have H0:=(hK (kb,kc)).2
 rw [hu0] at o0 H0
 refine EQ_val u0 rfl (fun _ hw=>r_lookK1 (enc:=encP) (dec:=idV) (kk:=(kb,kc)) law_place U114 (by kernel_rfl) rfl rfl (mp_below (S1.raw 2 rfl) hw) he hon (kv_place hpl) hkv (fun _ _=>encP_inj) hu0) ?_
 refine g1 ?_
 refine yE S1 ?_
 intro w1 S2
 refine g6 ?_
 refine vl _ rfl (r_lenX rfl (H0.row S2.le) U52) ?_
 refine g3 ?_
 refine EC_if rfl (fun h1=>?_) (fun h1=>?_)
 have hbg:((s.log (kb,kc)).length:Int)<i:=by have h:=h1;omega
 have hE:s.pullE (kb,kc) i=14:=if_pos hbg
 refine g9 ?_
 refine f2 Tryz.results89 ?_
 have S3:Sat _ _ (SrvP (ptr b) s::_):=SrvP.cls (s:=s) sok hst he hPK hK S2.fr2.fr2
 rw [show s.pullB (kb,kc) i=[] from if_pos hbg,hE]
 have S4:=S3.nilB
 exact ⟨(.slice none 0 0),I,(Gh.le_refl _),rfl,rfl,S4.dr2⟩
 have hle:¬((s.log (kb,kc)).length:Int)<i:=by have h:=h1;omega
 refine g7 ?_
 refine vl _ rfl (gB [.int .i64 3,.int .i64 kc,.int .i64 i,.slice none 0 0,.slice none 0 0] st_164 (parts3 rfl rfl rfl) (fill_one rfl rfl rfl (fill_one rfl rfl rfl (fill_one rfl rfl rfl fill_end)))) ?_
 refine yN frmR0 S2 ?_
 intro b1 w2 S5
 refine yW0 S5 ?_
 intro w3 S6
 refine g5 ?_
 refine vl _ rfl (r_lenX rfl (H0.row S6.le) U52) ?_
 refine g1 ?_
 refine EL_int (((s.log (kb,kc)).length:Int)-i) rfl (r_subi rfl rfl (by omega)) ?_
 intro x0 hx44
 refine EL_int (if x0<8 then x0 else 8) rfl (r_min rfl rfl) ?_
 intro x1 hx45
 refine g22 ?_
 refine EL_int (i+x1) rfl (r_addi rfl rfl (by omega)) ?_
 intro x2 hx46
 refine vl (cutW u0 1 ((i:Int).toNat) ((x2:Int).toNat)) rfl (r_sliceX rfl (H0.row S6.le) U52 (by kernel_rfl) ((i:Int).toNat) ((x2:Int).toNat) as' as' (.inr ⟨_,_,rfl,(show _=Value.int .i64 ((i:Int).toNat:Int) from by rw [Int.toNat_of_nonneg (by omega)];exact rfl)⟩) (.inr ⟨_,_,rfl,(show _=Value.int .i64 ((x2:Int).toNat:Int) from by rw [Int.toNat_of_nonneg (by omega)];exact rfl)⟩)) ?_
 have H1:RoX I (cutW u0 1 ((i:Int).toNat) ((x2:Int).toNat)) bytesR (((s.log (kb,kc)).take ((x2:Int).toNat)).drop ((i:Int).toNat)):=rox_as (H0.cut ((i:Int).toNat) ((x2:Int).toNat) as' as') (by simp)
 refine g1 ?_
 refine yS0 S6 ?_ (hu:=XRow.one (H1.row S6.le))
 intro w4 S7
 refine g4 ?_
 have hB:batchN kc i (s.log (kb,kc)) (min 8 ((s.log (kb,kc)).length-i.toNat))=batchN kc i (s.log (kb,kc)) (x1:Int).toNat:=by rw [show (x1:Int).toNat=min 8 ((s.log (kb,kc)).length-i.toNat) by omega]
 have H2:RoX I (cutW u0 1 ((i:Int).toNat) ((x2:Int).toNat)) bytesR ((batchF kc i (s.log (kb,kc)) ((x1:Int).toNat)).links):=rox_as H1 (by rw [show x2=i+x1 by omega];exact cut_batch (by omega) (by omega))
 have hrt:(batchF kc i (s.log (kb,kc)) ((x1:Int).toNat)).right=true:=batch_right hpl.2 hi6 hlg2 (by omega)
 skip
 refine g2 ?_
 refine yR (FEnc_c [.int .i64 3,.int .i64 kc,.int .i64 i,(cutW u0 1 ((i:Int).toNat) ((x2:Int).toNat)),.slice none 0 0] (⟨3,kc,i,(batchF kc i (s.log (kb,kc)) ((x1:Int).toNat)).links,[]⟩:FrameT) _ _ _ S7 ⟨(cutW u0 1 ((i:Int).toNat) ((x2:Int).toNat)),(.slice none 0 0),rfl,(by dsimp only;omega),ad,ad,⟨(XRow.one (H2.row S7.le)),H2⟩,⟨rfl,Ro.nil⟩⟩) ?_
 rintro _ w5 ⟨v0,I0,le0,rfl,h2,S8⟩
 have hne:=h2
 refine g13 ?_
 refine EC_if rfl (fun h3=>?_) (fun h3=>?_)
 have hE11:(batchF kc i (s.log (kb,kc)) ((x1:Int).toNat)).encE=11:=h3
 have hn0:x1≠0:=fun q=>by rw [q] at hE11;have h0:=batch_0 (g:=s.log (kb,kc)) hpl.2 hi6;exact absurd (h0.symm.trans hE11) (by decide)
 refine g3 ?_
 refine EL_int (x1-1) rfl (r_subi rfl rfl (by omega)) ?_
 intro x3 hx61
 refine g3 ?_
 refine EC_goto ?_
 refine g1 ?_
 refine jmp_g _ ?_ ⟨rfl,x3,b1,(cutW u0 1 ((i:Int).toNat) ((x2:Int).toNat)),u0,I0,rfl,rfl,rfl,rfl,rfl,rfl,rfl,(by omega),(hB.trans ((batchN_step (by omega) hE11).trans (congrArg (fun z:Int=>batchN kc i (s.log (kb,kc)) z.toNat) (by omega)))),hle,(XRow.one (H2.row (lT le0 S8.le))),le0,(H0.up le0),S8.dr0⟩
 first | omega | (simp;omega)
 have hEn:¬(batchF kc i (s.log (kb,kc)) ((x1:Int).toNat)).encE=11:=h3
 refine g12 ?_
 refine f2 Tryz.results89 ?_
 have hF:s.pullF (kb,kc) i=batchF kc i (s.log (kb,kc)) ((x1:Int).toNat):=by rw [Srv.pullF];show batchF kc i (s.log (kb,kc)) (batchN kc i (s.log (kb,kc)) (min 8 ((s.log (kb,kc)).length-i.toNat)))=_;rw [hB,batchN_end hEn]
 have hE:s.pullE (kb,kc) i=(batchF kc i (s.log (kb,kc)) ((x1:Int).toNat)).encE:=by rw [Srv.pullE,if_neg hle,hF]
 have hBB:(batchF kc i (s.log (kb,kc)) ((x1:Int).toNat)).encB=s.pullB (kb,kc) i:=by rw [Srv.pullB,if_neg hle,hF]
 have q0:(⟨3,kc,i,(batchF kc i (s.log (kb,kc)) ((x1:Int).toNat)).links,[]⟩:FrameT).encB=s.pullB (kb,kc) i:=hBB
 have S9:=S8.ab0 q0
 have S10:Sat _ _ (SrvP (ptr b) s::_):=SrvP.cls (s:=s) sok hst he hPK (hK.up le0) S9.fr4.fr4
 exact ⟨v0,I0,le0,(by rw [hE];rfl),(by rw [←hBB];exact hne),S10.dr2.dr2.fr1⟩
 rintro _ _ E0 w6 (⟨rfl,n,fb,lv,uv,I1,rfl,e0,e1,e2,e3,e4,e5,hn,hB,hle,olv,le1,H3,S11⟩)
 refine ⟨_,rfl,?_⟩
 refine g9 ?_
 refine EL_int (i+n) rfl (r_addi rfl rfl (by omega)) ?_
 intro x4 hx83
 refine vl (cutW uv 1 ((i:Int).toNat) ((x4:Int).toNat)) rfl (r_sliceX rfl (H3.row S11.le) U52 (by kernel_rfl) ((i:Int).toNat) ((x4:Int).toNat) as' as' (.inr ⟨_,_,rfl,(show _=Value.int .i64 ((i:Int).toNat:Int) from by rw [Int.toNat_of_nonneg (by omega)];exact rfl)⟩) (.inr ⟨_,_,rfl,(show _=Value.int .i64 ((x4:Int).toNat:Int) from by rw [Int.toNat_of_nonneg (by omega)];exact rfl)⟩)) ?_
 have H4:RoX I1 (cutW uv 1 ((i:Int).toNat) ((x4:Int).toNat)) bytesR (((s.log (kb,kc)).take ((x4:Int).toNat)).drop ((i:Int).toNat)):=rox_as (H3.cut ((i:Int).toNat) ((x4:Int).toNat) as' as') (by simp)
 refine g1 ?_
 refine yS0 S11 ?_ (hu:=XRow.one (H4.row S11.le))
 intro w7 S12
 refine g4 ?_
 have H5:RoX I1 (cutW uv 1 ((i:Int).toNat) ((x4:Int).toNat)) bytesR ((batchF kc i (s.log (kb,kc)) ((n:Int).toNat)).links):=rox_as H4 (by rw [show x4=i+n by omega];exact cut_batch (by omega) (by omega))
 have hrt:(batchF kc i (s.log (kb,kc)) ((n:Int).toNat)).right=true:=batch_right hpl.2 hi6 hlg2 (by omega)
 skip
 refine g2 ?_
 refine yR (FEnc_c [.int .i64 3,.int .i64 kc,.int .i64 i,(cutW uv 1 ((i:Int).toNat) ((x4:Int).toNat)),.slice none 0 0] (⟨3,kc,i,(batchF kc i (s.log (kb,kc)) ((n:Int).toNat)).links,[]⟩:FrameT) _ _ _ S12 ⟨(cutW uv 1 ((i:Int).toNat) ((x4:Int).toNat)),(.slice none 0 0),rfl,(by dsimp only;omega),ad,ad,⟨(XRow.one (H5.row S12.le)),H5⟩,⟨rfl,Ro.nil⟩⟩) ?_
 rintro _ w8 ⟨v2,I2,le2,rfl,h4,S13⟩
 have hne:=h4
 refine g13 ?_
 refine EC_if rfl (fun h5=>?_) (fun h5=>?_)
 have hE11:(batchF kc i (s.log (kb,kc)) ((n:Int).toNat)).encE=11:=h5
 have hn0:n≠0:=fun q=>by rw [q] at hE11;have h0:=batch_0 (g:=s.log (kb,kc)) hpl.2 hi6;exact absurd (h0.symm.trans hE11) (by decide)
 refine g3 ?_
 refine EL_int (n-1) rfl (r_subi rfl rfl (by omega)) ?_
 intro x5 hx98
 refine g3 ?_
 refine EC_goto ?_
 refine g1 ?_
 refine jmp_g _ ?_ ⟨rfl,x5,fb,(cutW uv 1 ((i:Int).toNat) ((x4:Int).toNat)),uv,I2,rfl,rfl,(by exact e1),(by exact e2),(by exact e3),(by exact e4),(by exact e5),(by omega),(hB.trans ((batchN_step (by omega) hE11).trans (congrArg (fun z:Int=>batchN kc i (s.log (kb,kc)) z.toNat) (by omega)))),hle,(XRow.one (H5.row (lT le2 S13.le))),(lT le1 le2),(H3.up le2),S13.dr0⟩
 first | omega | (simp;omega)
 have hEn:¬(batchF kc i (s.log (kb,kc)) ((n:Int).toNat)).encE=11:=h5
 refine g12 ?_
 refine f2 Tryz.results89 ?_
 have hF:s.pullF (kb,kc) i=batchF kc i (s.log (kb,kc)) ((n:Int).toNat):=by rw [Srv.pullF];show batchF kc i (s.log (kb,kc)) (batchN kc i (s.log (kb,kc)) (min 8 ((s.log (kb,kc)).length-i.toNat)))=_;rw [hB,batchN_end hEn]
 have hE:s.pullE (kb,kc) i=(batchF kc i (s.log (kb,kc)) ((n:Int).toNat)).encE:=by rw [Srv.pullE,if_neg hle,hF]
 have hBB:(batchF kc i (s.log (kb,kc)) ((n:Int).toNat)).encB=s.pullB (kb,kc) i:=by rw [Srv.pullB,if_neg hle,hF]
 have q1:(⟨3,kc,i,(batchF kc i (s.log (kb,kc)) ((n:Int).toNat)).links,[]⟩:FrameT).encB=s.pullB (kb,kc) i:=hBB
 have S14:=S13.ab0 q1
 have S15:Sat _ _ (SrvP (ptr b) s::_):=SrvP.cls (s:=s) sok hst he hPK (hK.up (lT le1 le2)) S14.fr4.fr4
 exact ⟨v2,I2,(lT le1 le2),(by rw [hE];rfl),(by rw [←hBB];exact hne),S15.dr2.dr2.fr1⟩
end Go.Proofs.YthddplghlljdbaaGreat

set_option maxRecDepth 100000
set_option maxHeartbeats 4000000
namespace Go.Proofs.YthddplghlljdbaaGreat
open Go.RowKit Go.Ecal
def ptrR:Rep Nat:=⟨1,fun _ cs a=>cs=[ptr a],fun _ h=>h,fun h=>by rw [h];rfl,fun h u hu=>by rw [h] at hu;rw [List.mem_singleton.1 hu];rfl⟩
def packR:Rep PackT:=⟨3,fun I cs a=>∃v2,cs=[.int .i64 a.c,.bool a.up,v2]∧(-9223372036854775808≤a.c∧a.c≤9223372036854775807)∧(v2.oneCell'=true∧RoB I v2 a.data),fun k h=>by obtain ⟨v2,rfl,h0,⟨o2,h2⟩⟩:=h;exact ⟨v2,rfl,h0,⟨o2,h2.up k⟩⟩,
 fun h=>by obtain ⟨v2,rfl,h0,⟨o2,h2⟩⟩:=h;rfl,fun h u hu=>by
  obtain ⟨v2,rfl,h0,⟨o2,h2⟩⟩:=h
  simp only [List.mem_cons,List.not_mem_nil,or_false] at hu
  rcases hu with rfl | rfl | rfl<;>first | rfl | assumption⟩
abbrev packRC (a:PackT) (v2:Value):List Value:=[.int .i64 a.c,.bool a.up,v2]
abbrev packR0:List Value:=[.int .i64 0,.bool false,.slice none 0 0]
theorem SHand_c (q:Value) (s:Srv) (br:Int) (v0:Value) (bb:List UInt8) (I:Gh) (R:List HP) (w:World) (S:Sat w I (SrvP q s::R)) (Q0:RoB I v0 bb):Ret Tryz.prog 63 [q,.int .i64 br,v0] w fun v w'=>∃v1:Value,∃J:Gh,Gh.le I J∧.tuple #[v1,.int .i64 (s.handE br bb)]=v∧(isNil v1=(s.handB br bb).isEmpty)∧Sat w' J (OwnB v1 (s.handB br bb)::SrvP q (s.handS br bb)::R):=by
 have lq0:=RoB.le Q0 S.le
 refine ret_E Tryz.func63 rfl Tryz.ntmps63 (by simp) ?_
 refine g17 ?_
 refine EC_cond (t:=(decide (br<0))||(decide (2≤br))) rfl (fun h0=>?_) (fun h0=>?_)
 have hbr:br<0∨2≤br:=by simpa using h0
 refine g8 ?_
 refine f2 Tryz.results63 ?_
 have q0:s=s.handS br bb:=(by rw [Srv.handS,if_pos hbr])
 have S0:=Sat.ah0 (SrvP q) S q0
 have hE:s.handE br bb=12:=by rw [Srv.handE,if_pos hbr]
 rw [show s.handB br bb=[] from by rw [Srv.handB,if_pos hbr]]
 have S1:=S0.nilB
 exact ⟨(.slice none 0 0),I,(Gh.le_refl _),(by rw [hE]),rfl,S1⟩
 have hbn:¬(br<0∨2≤br):=by have h:=h0;simp at h;omega
 have hbr:0≤br∧br<2:=by omega
 refine g5 ?_
 refine yR (FDec_c _ _ _ _ _ S Q0) ?_
 rintro _ w0 ⟨cs0,I0,le0,rfl,h2,S2⟩
 obtain ⟨v2,v3,rfl,r0,r1,r2,⟨o0,H0⟩,⟨o1,H1⟩⟩:=h2
 refine g3 ?_
 refine yN frmR0 S2 ?_
 intro b0 w1 S3
 refine yW0 S3 ?_ (h1:=ones_cons rfl (ones_cons rfl (ones_cons rfl (ones_cons o0 (ones_cons o1 ones_nil)))))
 intro w2 S4
 refine g8 ?_
 refine vl _ rfl (gB [.int .i64 br,.int .i64 ((frV bb).coll)] st_129 (parts2 rfl rfl) (fill_one rfl rfl rfl (fill_one rfl rfl rfl fill_end))) ?_
 refine yN [.int .i64 0,.int .i64 0] S4 ?_
 intro b1 w3 S5
 refine yW0 S5 ?_
 intro w4 S6
 refine g11 ?_
 refine EC_if rfl (fun h3=>?_) (fun h3=>?_)
 have hfe:¬frE bb=0:=h3
 refine g10 ?_
 refine f2 Tryz.results63 ?_
 have q1:s=s.handS br bb:=(by rw [Srv.handS,if_neg hbn,if_pos hfe])
 have S7:=Sat.ah2 (SrvP q) S6 q1
 have hE:s.handE br bb=frE bb:=by rw [Srv.handE,if_neg hbn,if_pos hfe]
 rw [show s.handB br bb=[] from by rw [Srv.handB,if_neg hbn,if_pos hfe]]
 have S8:=S7.nilB
 exact ⟨(.slice none 0 0),I0,le0,(by rw [hE]),rfl,S8.dr1.dr1⟩
 have hf0:frE bb=0:=Classical.byContradiction h3
 have hfr:=right_fr (fr_ok hf0)
 have hpo:PlOk (br,(frV bb).coll):=⟨hbr,hfr.1.2.1⟩
 refine g8 ?_
 refine EC_if rfl (fun h4=>?_) (fun h4=>?_)
 have hk1:(frV bb).kind=1:=h4
 refine g6 ?_
 refine yR (SPush_c _ _ br ((frV bb).coll) _ _ _ _ _ S6.fr2 H0 hpo hfr.2.1 hfr.2.2.1) ?_
 rintro _ w5 ⟨I1,le1,rfl,S9⟩
 refine g7 ?_
 refine f2 Tryz.results63 ?_
 have q2:s.pushS (br,((frV bb).coll)) ((frV bb).links)=s.handS br bb:=(by rw [Srv.handS,if_neg hbn,if_neg (fun q=>q hf0),if_pos hk1])
 have S10:=Sat.ah0 (SrvP q) S9 q2
 have hE:s.handE br bb=s.pushE (br,((frV bb).coll)) ((frV bb).links):=by rw [Srv.handE,if_neg hbn,if_neg (fun q=>q hf0),if_pos hk1]
 rw [show s.handB br bb=[] from by rw [Srv.handB,if_neg hbn,if_neg (fun q=>q hf0),if_neg (by rw [hk1];decide)]]
 have S11:=S10.nilB
 exact ⟨(.slice none 0 0),I1,(lT le0 le1),(by rw [hE]),rfl,S11.dr2.dr2⟩
 have hk1:¬(frV bb).kind=1:=h4
 refine g8 ?_
 refine EC_if rfl (fun h5=>?_) (fun h5=>?_)
 have hk2:(frV bb).kind=2:=h5
 refine g6 ?_
 refine yR (SPull_c _ _ br ((frV bb).coll) ((frV bb).index) _ _ _ S6.fr2 hpo hfr.1.2.2) ?_
 rintro _ w6 ⟨v4,I2,le2,rfl,h6,S12⟩
 have hpn:=h6
 refine g9 ?_
 refine f2 Tryz.results63 ?_
 have q3:s=s.handS br bb:=(by rw [Srv.handS,if_neg hbn,if_neg (fun q=>q hf0),if_neg hk1])
 have S13:=Sat.ah1 (SrvP q) S12 q3
 have hE:s.handE br bb=s.pullE (br,((frV bb).coll)) ((frV bb).index):=by rw [Srv.handE,if_neg hbn,if_neg (fun q=>q hf0),if_neg hk1,if_pos hk2]
 have hB:s.pullB (br,(frV bb).coll) (frV bb).index=s.handB br bb:=by rw [Srv.handB,if_neg hbn,if_neg (fun q=>q hf0),if_pos hk2]
 have q4:s.pullB (br,((frV bb).coll)) ((frV bb).index)=s.handB br bb:=hB
 have S14:=S13.ab0 q4
 exact ⟨v4,I2,(lT le0 le2),(by rw [hE]),(by rw [←hB];exact hpn),S14.dr2.dr2⟩
 have hk2:¬(frV bb).kind=2:=h5
 refine g10 ?_
 refine f2 Tryz.results63 ?_
 have q5:s=s.handS br bb:=(by rw [Srv.handS,if_neg hbn,if_neg (fun q=>q hf0),if_neg hk1])
 have S15:=Sat.ah2 (SrvP q) S6 q5
 have hE:s.handE br bb=13:=by rw [Srv.handE,if_neg hbn,if_neg (fun q=>q hf0),if_neg hk1,if_neg hk2]
 rw [show s.handB br bb=[] from by rw [Srv.handB,if_neg hbn,if_neg (fun q=>q hf0),if_neg hk2]]
 have S16:=S15.nilB
 exact ⟨(.slice none 0 0),I0,le0,(by rw [hE]),rfl,S16.dr1.dr1⟩
end Go.Proofs.YthddplghlljdbaaGreat
