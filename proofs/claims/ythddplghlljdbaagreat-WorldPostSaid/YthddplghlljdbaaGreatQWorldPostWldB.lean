import Derived.Test.YthddplghlljdbaaGreatQWorldPostWorldP
import Derived.Test.YthddplghlljdbaaGreatQWorldPostSrvD
import Derived.Test.YthddplghlljdbaaGreatQWorldPostCliH
set_option linter.unusedVariables false
set_option linter.unusedSimpArgs false
set_option maxRecDepth 100000
set_option maxHeartbeats 4000000
namespace Go.Proofs.YthddplghlljdbaaGreat
open Go.RowKit Go.Ecal
theorem PkDel_c (v:Value) (l:List PackT) (i:Nat) (k:Int) (I:Gh) (R:List HP) (w:World) (S:Sat w I (OwnX 46 packR v l::R)) (hi:i<l.length) (hl:l.length≤100000) (hk:k=(i:Int)+1):Ret Tryz.prog 41 [v,.int .i64 (i:Int),.int .i64 k] w fun v' w'=>∃v1:Value,v1=v'∧Sat w' I (OwnX 46 packR v1 (l.eraseIdx i)::R):=by
 rw [List.eraseIdx_eq_take_drop_succ]
 obtain rfl:k=((i+1:Nat):Int):=by omega
 obtain ⟨xss,hA,S⟩:=OwnX.opn S
 have hL:=hA.len
 have hs:∀cs∈xss,cs.length=3:=hA.lens
 obtain ⟨g,cap,C,rfl,h1,h2,h3,h4,S⟩:=own_cells S (by omega)
 change C.length=cap*3 at h3
 change C.take (l.length*3)=_ at h4
 refine ret_E Tryz.func41 rfl Tryz.ntmps41 (by simp) ?_
 repeat refine g1 ?_
 refine vl _ rfl (r_lenC rfl U39) ?_
 refine vl _ rfl (r_slice3C (sz:=3) (i:=i) (j:=i+1) (m:=l.length) rfl U39 (by kernel_rfl) (by omega) (by omega) (by omega) rfl rfl rfl) ?_
 refine g7 ?_
 refine vl _ rfl (dF (r_eql rfl rfl)) ?_
 repeat refine g1 ?_
 refine vl _ rfl (r_lenC rfl U39) ?_
 refine g4 ?_
 refine yJ 6 (fun w'=>Arr w' g 46 C) S ?_
 intro w1 S1
 refine yT 0 S1.le S1.a0 ?_
 refine yT 1 S1.le S1.a0 ?_
 refine jT 2 rfl (by kernel_rfl) (.slice (some ⟨g,0,none⟩) i cap) rfl (fun _ hw ht=>r_asv (by simp) (r_sliceC (sz:=3) rfl U39 (by kernel_rfl) 0 i (by omega) (by omega) (.inl ⟨rfl,rfl⟩) (.inr ⟨_,_,rfl,rfl⟩))) ⟨S1.le,fun h=>S1.a0⟩ ?_
 refine yT 3 S1.le S1.a0 ?_
 refine yT 4 S1.le S1.a0 ?_
 refine jT 5 rfl (by kernel_rfl) (.slice (some ⟨g,if cap=i+1 then 0 else 0+(i+1)*3,none⟩) (l.length-(i+1)) (cap-(i+1))) rfl (fun _ hw ht=>r_sliceC (sz:=3) rfl U39 (by kernel_rfl) (i+1) l.length (by omega) (by omega) (.inr ⟨_,_,rfl,rfl⟩) (.inl ⟨rfl,rfl⟩)) ⟨S1.le,fun h=>S1.a0⟩ ?_
 refine y1 6 ?_
 have hdl:((C.drop ((i+1)*3)).take ((l.length-(i+1))*3)).length=(l.length-(i+1))*3:=by rw [List.length_take,List.length_drop,h3];omega
 have hdx:(C.drop ((i+1)*3)).take ((l.length-(i+1))*3)=(xss.drop (i+1)).flatten:=by
  rw [←flat_drop hs,←h4,List.drop_take,←Nat.sub_mul]
 refine EL_roomC (cs:=(C.drop ((i+1)*3)).take ((l.length-(i+1))*3)) S1 rfl rfl ?_ rfl U39 (by kernel_rfl) hdl (by omega) (by rw [hdl,h3];omega) ?_ ?_
 ·intro j u hj
  have hlt:=(List.getElem?_eq_some_iff.1 hj).1
  rw [hdl] at hlt
  rw [if_neg (by omega),Nat.zero_add]
  exact S1.a0.src _ _ j u hj
 ·rw [hdx];exact flat_one (hA.drop (i+1))
 intro w2 S2
 refine ym S2.le ?_
 refine yf 7 S2.le ?_
 refine yd ?_
 repeat refine g1 ?_
 refine vl _ rfl (r_lenC rfl U39) ?_
 refine g1 ?_
 refine vl (.slice (some ⟨g,(l.length-1)*3,none⟩) 1 (cap-(l.length-1))) rfl (r_asv (by rw [if_neg (by omega)];congr 2<;>first | omega | (congr 1;omega)) (r_sliceC (sz:=3) rfl U39 (by kernel_rfl) (i+(l.length-(i+1))) l.length (by omega) (by omega) (.inr ⟨_,_,rfl,rfl⟩) (.inr ⟨_,_,rfl,rfl⟩))) ?_
 refine EL_clearC (n:=0) S2 rfl U39 (z:=.agg #[.int .i64 0,.bool false,.slice none 0 0]) (by kernel_rfl) rfl (by simp only [List.length_append,List.length_take,List.length_drop,hdl,h3];show _+(0+1)*3≤_;omega) ?_
 intro w3 D hD hT S3
 repeat refine g1 ?_
 refine f1 Tryz.results41 ?_
 have hll:i+(l.length-(i+1))=l.length-1:=by omega
 refine ⟨_,rfl,OwnX.cls (xss:=xss.take i++xss.drop (i+1)) ((hA.take i).app (hA.drop (i+1))) ?_⟩
 have hlen:(l.take i++l.drop (i+1)).length=l.length-1:=by rw [List.length_append,List.length_take,List.length_drop];omega
 rw [hlen,←hll]
 refine cells_own S3 (by omega) h2 (by rw [hD];simp only [List.length_append,List.length_take,List.length_drop,hdl,h3];show _=_*3;omega) ?_
 show D.take ((i+(l.length-(i+1)))*3)=_
 rw [hll,hT,List.flatten_append,←hdx,←flat_take hs,←h4]
 have e1:(C.take (i*3)).length=i*3:=by rw [List.length_take,h3];omega
 rw [List.take_take,show min (i*3) (l.length*3)=i*3 by omega]
 refine List.take_left' ?_
 rw [List.length_append,e1,hdl];omega
theorem BClone_c (v0:Value) (l:List UInt8) (I:Gh) (R:List HP) (w:World) (S:Sat w I (R)) (Q0:RoB I v0 l) (hl:l.length≤100000):Ret Tryz.prog 29 [v0] w fun v w'=>∃v1:Value,v1=v∧Sat w' I (OwnB v1 l::R):=by
 have lq0:=RoB.le Q0 S.le
 refine ret_E Tryz.func29 rfl Tryz.ntmps29 (by simp) ?_
 refine g9 ?_
 refine vl _ rfl (r_eqnil rfl (Q0 _ S.le) rfl U33) ?_
 refine g2 ?_
 refine EC_cond (t:=isNil v0) rfl (fun h0=>?_) (fun h0=>?_)
 have hnil:=h0
 refine g7 ?_
 refine f1 Tryz.results29 ?_
 have hl0:l=[]:=by by_cases hl:l=[];exact hl;exact absurd (isNil_of Q0 S.le hl) (by rw [hnil];decide)
 subst hl0
 have S0:=S.nilB
 exact ⟨(.slice none 0 0),rfl,S0⟩
 have hnil:=h0
 refine g4 ?_
 refine EL_lit w.heap.size #[] elB rfl (by decide) rfl (Nat.le_refl _) (by kernel_rfl) ?_
 intro v2 w0 O0 B0 k0 z0
 have S1:Sat w0 I (OwnB v2 ([]:List UInt8)::R):=S.newO B0 (own_eq (l:=([]:List UInt8)) O0 (by simp [bof_val,byt]))
 refine g1 ?_
 refine yP0 elB S1 (Q0 _ S1.le) ?_
 intro v3 w1 S2
 refine g4 ?_
 refine f1 Tryz.results29 ?_
 exact ⟨v3,rfl,S2⟩
theorem WSeatT_c (b:Nat) (lv:Value) (sv:Value) (pv:Value) (ev:Value) (bs:List (Nat×Nat)) (i:Int) (I:Gh) (R:List HP) (w:World) (S:Sat w I (Blk b 72 [lv,sv,pv,ev]::R)) (Q0:RoX I lv ptrR (bs.map Prod.fst)) (hi:0≤i∧i<((bs.map Prod.fst).length:Int)):Ret Tryz.prog 32 [ptr b,.int .i64 i] w fun v w'=>∃a:Nat,ptr a=v∧((bs.map Prod.fst)[i.toNat]?=some a)∧Sat w' I (Blk b 72 [lv,sv,pv,ev]::R):=by
 have lq0:=XRow.le (Q0.row S.le)
 refine ret_E Tryz.func32 rfl Tryz.ntmps32 (by simp) ?_
 refine g9 ?_
 refine vl _ rfl (dcF (r_lss rfl rfl) (by simp only [decide_eq_false_iff_not,Bool.or_eq_false_iff];omega)) ?_
 refine g6 ?_
 refine gl 7 rfl rfl rfl rfl _ rfl (r_lenX rfl (Q0.row S.le) U70) (gl 7 rfl rfl rfl rfl _ rfl (dcF (r_geq rfl rfl) (by simp only [decide_eq_false_iff_not,Bool.or_eq_false_iff];omega)) ?_)
 refine g13 ?_
 refine vl (ptr (blkOf lv) (offOf lv+(i:Int).toNat*1)) rfl (r_indexX rfl (Q0.row S.le) rfl (by omega) as' U70 (by kernel_rfl)) ?_
 obtain ⟨a0,ha0⟩:=get_some (l:=bs.map Prod.fst) (j:=(i:Int).toNat) as'
 obtain ⟨cs0,hc0,he0⟩:=Q0.el ha0
 obtain rfl:=hc0
 refine vl _ rfl (r_load0 rfl (he0 _ S.le) U77 rfl) ?_
 refine g4 ?_
 refine f1 Tryz.results32 ?_
 exact ⟨a0,rfl,ha0,S⟩
theorem WSeatF_c (b:Nat) (lv:Value) (sv:Value) (pv:Value) (ev:Value) (bs:List (Nat×Nat)) (i:Int) (I:Gh) (R:List HP) (w:World) (S:Sat w I (Blk b 72 [lv,sv,pv,ev]::R)) (Q0:RoX I lv ptrR (bs.map Prod.fst)) (hi:¬(0≤i∧i<((bs.map Prod.fst).length:Int))):Ret Tryz.prog 32 [ptr b,.int .i64 i] w fun v w'=>.pointer none=v∧Sat w' I (Blk b 72 [lv,sv,pv,ev]::R):=by
 have lq0:=XRow.le (Q0.row S.le)
 refine ret_E Tryz.func32 rfl Tryz.ntmps32 (by simp) ?_
 refine g16 ?_
 refine EL_gite 7 rfl rfl rfl (.int .i64 ((bs.map Prod.fst).length:Int)) rfl (fun g16=>r_lenX (cond_of g16 rfl) (Q0.row S.le) U70) ?_
 refine g4 ?_
 refine EC_cond_true (Eq.trans (show _=Value.bool ((decide (i<0))||(decide (((bs.map Prod.fst).length:Int)≤i))) from rfl) (congrArg Value.bool (show ((decide (i<0))||(decide (((bs.map Prod.fst).length:Int)≤i)))=true from by simp only [Bool.or_eq_true,decide_eq_true_eq];omega))) ?_
 refine g7 ?_
 refine f1 Tryz.results32 ?_
 exact ⟨rfl,S⟩
end Go.Proofs.YthddplghlljdbaaGreat

set_option maxRecDepth 100000
set_option maxHeartbeats 4000000
namespace Go.Proofs.YthddplghlljdbaaGreat
open Go.RowKit Go.Ecal
theorem WPost_c (q:Value) (bs:List (Nat×Nat)) (p:Value) (W:Wld) (I:Gh) (R:List HP) (w:World) (S:Sat w I (WldO q bs p W::R)):Ret Tryz.prog 11 [q] w fun v w'=>∃v1:Value,∃J:Gh,Gh.le I J∧v1=v∧Sat w' J (OwnX 46 packR v1 W.post::WldO q bs p W::R):=by
 obtain ⟨b,lv,sv,pv,ev,rfl,wok,hbl,Hl,S0⟩:=WldO.opn S
 have hsv:=SrvP.one S0.fr2
 have wp5:=wok.post
 have ws6:=wok.seats
 have hbm:(bs.map Prod.fst).length=W.seats.length:=by rw [List.length_map];exact hbl
 have hlv:=XRow.one (Hl.row S0.le)
 refine ret_E Tryz.func11 rfl Tryz.ntmps11 (by simp) ?_
 refine g17 ?_
 refine vl _ rfl (r_lenX rfl (OwnX.row S0 3 rfl (by decide)).1 U39) ?_
 refine g4 ?_
 have S1:Sat _ _ (OwnX 46 packR (.slice none 0 0) []::_):=OwnX.nil S0 46 packR
 have q0:[]=W.post.take 0:=rfl
 have S2:=S1.ax0 q0
 refine EC_loop (fun m' E' w'=>∃j:Nat,∃ov:Value,∃J:Gh,m'=W.post.length-j∧E' 11=.int .i64 (j:Int)∧E' 3=ov∧E' 2=.slice none 0 0∧E' 9=pv∧E' 10=.int .i64 (W.post.length:Int)∧(j≤W.post.length)∧Gh.le I J∧Sat w' J (OwnX 46 packR ov (W.post.take j)::Blk b 72 [lv,sv,pv,ev]::SeatsQ bs p W.seats::SrvP sv W.srv::OwnX 46 packR pv W.post::OwnX 33 bytesR ev W.sent::R)) _ ⟨0,.slice none 0 0,I,rfl,rfl,rfl,rfl,rfl,rfl,Nat.zero_le _,(Gh.le_refl _),S2⟩ ?_
 rintro _ E0 w0 ⟨j,ov,I0,rfl,e0,e1,e2,e3,e4,hj,le0,S3⟩
 refine g6 ?_
 refine EC_if rfl (fun h0=>?_) (fun h0=>?_)
 refine g6 ?_
 refine vl (ptr (blkOf pv) (offOf pv+((j:Int):Int).toNat*3)) rfl (r_indexX (by exact e3) (OwnX.row S3 4 rfl (by decide)).1 (by exact e0) (by omega) as' U39 (by kernel_rfl)) ?_
 obtain ⟨a0,ha0⟩:=get_some (l:=W.post) (j:=((j:Int):Int).toNat) as'
 have hpk:=wok.pk a0 (List.mem_of_getElem? ha0)
 obtain ⟨cs0,hc0,he0⟩:=(OwnX.row S3 4 rfl (by decide)).2 _ _ ha0
 obtain ⟨v0,rfl,r0,⟨o0,H0⟩⟩:=hc0
 refine vl (.agg ((packRC a0 v0)).toArray) rfl (r_loadR (cs:=(packRC a0 v0)) rfl he0 U46 rfl (by kernel_rfl)) ?_
 refine yN packR0 S3 ?_
 intro b0 w1 S4
 refine yW0 S4 ?_ (h1:=ones_cons rfl (ones_cons rfl (ones_cons o0 ones_nil)))
 intro w2 S5
 refine g6 ?_
 refine yR (BClone_c _ _ _ _ _ S5 H0 (by omega)) ?_
 rintro _ w3 ⟨v2,rfl,S6⟩
 refine g1 ?_
 refine yS1 S6 ?_ (hu:=own_one (S6.own 0 rfl))
 intro w4 S7
 refine g5 ?_
 obtain ⟨I1,le1,S8,H1⟩:=S7.fb0
 refine EL_litW (z:=#[.int .i64 0,.bool false,.slice none 0 0]) (cs:=([.int .i64 a0.c,.bool a0.up,v2]).toArray) (sz:=3) (l:=[(0,.agg ((packRC a0 v2)).toArray)]) rfl U39 (by kernel_rfl) (parts1 rfl) (by kernel_rfl) rfl (by decide) ?_
 intro v3 w5 O0 B0 k0
 have S9:Sat _ _ (OwnX 46 packR v3 [(⟨a0.c,a0.up,a0.data⟩:PackT)]::_):=OwnX.cls (xss:=[(packRC a0 v2)]) (.cons ⟨v2,rfl,ad,⟨(row_one (H1 _ S8.le)),H1⟩⟩ .nil) (S8.newO B0 O0)
 have oH70:=(OwnX.one S9 0 rfl (by decide))
 obtain ⟨I2,le2,S10,H2⟩:=S9.fx0 (by decide)
 refine EL_appX (z:=(.agg #[.int .i64 0,.bool false,.slice none 0 0])) (bytes:=40) rfl U39 (by kernel_rfl) rfl (by decide) rfl rfl S10.fr1 H2 ac ac ?_
 intro v4 w6 S11
 refine g5 ?_
 refine EL_int ((j:Int)+1) rfl (r_addi (by exact e0) rfl (by omega)) ?_
 intro x0 hx72
 refine g3 ?_
 have q1:(W.post.take j)++[(⟨a0.c,a0.up,a0.data⟩:PackT)]=W.post.take (j+1):=by rw [List.take_add_one,(show W.post[j]?=_ from ha0)];rfl
 have S12:=S11.ax0 q1
 refine ⟨_,?_,j+1,v4,I2,rfl,(Eq.trans (show _=Value.int .i64 x0 from rfl) (congrArg _ (by omega))),rfl,(by exact e2),(by exact e3),(by exact e4),by omega,(lT (lT le0 le1) le2),S12.dr1⟩
 first | omega | (simp;omega)
 refine g12 ?_
 refine f1 Tryz.results11 ?_
 have q2:W.post.take j=W.post:=by rw [List.take_of_length_le (by omega)]
 have S13:=S3.ax0 q2
 have S14:Sat _ _ (WldO (ptr b) bs p W::_):=WldO.cls (W:=W) wok hbl (Hl.up le0) S13.fr5.fr5.fr5.fr5.fr5
 exact ⟨ov,I0,le0,rfl,S14.fr1⟩
theorem WSent_c (q:Value) (bs:List (Nat×Nat)) (p:Value) (W:Wld) (I:Gh) (R:List HP) (w:World) (S:Sat w I (WldO q bs p W::R)) (hsl:W.sent.length≤1000):Ret Tryz.prog 14 [q] w fun v w'=>∃v1:Value,∃J:Gh,Gh.le I J∧v1=v∧Sat w' J (OwnX 33 bytesR v1 W.sent::WldO q bs p W::R):=by
 obtain ⟨b,lv,sv,pv,ev,rfl,wok,hbl,Hl,S0⟩:=WldO.opn S
 have hsv:=SrvP.one S0.fr2
 have wp5:=wok.post
 have ws6:=wok.seats
 have hbm:(bs.map Prod.fst).length=W.seats.length:=by rw [List.length_map];exact hbl
 have hlv:=XRow.one (Hl.row S0.le)
 refine ret_E Tryz.func14 rfl Tryz.ntmps14 (by simp) ?_
 refine g17 ?_
 refine vl _ rfl (r_lenX rfl (OwnX.row S0 4 rfl (by decide)).1 U52) ?_
 refine g4 ?_
 have S1:Sat _ _ (OwnX 33 bytesR (.slice none 0 0) []::_):=OwnX.nil S0 33 bytesR
 have q0:[]=W.sent.take 0:=rfl
 have S2:=S1.ax0 q0
 refine EC_loop (fun m' E' w'=>∃j:Nat,∃ov:Value,∃J:Gh,m'=W.sent.length-j∧E' 11=.int .i64 (j:Int)∧E' 3=ov∧E' 2=.slice none 0 0∧E' 9=ev∧E' 10=.int .i64 (W.sent.length:Int)∧(j≤W.sent.length)∧Gh.le I J∧Sat w' J (OwnX 33 bytesR ov (W.sent.take j)::Blk b 72 [lv,sv,pv,ev]::SeatsQ bs p W.seats::SrvP sv W.srv::OwnX 46 packR pv W.post::OwnX 33 bytesR ev W.sent::R)) _ ⟨0,.slice none 0 0,I,rfl,rfl,rfl,rfl,rfl,rfl,Nat.zero_le _,(Gh.le_refl _),S2⟩ ?_
 rintro _ E0 w0 ⟨j,ov,I0,rfl,e0,e1,e2,e3,e4,hj,le0,S3⟩
 refine g6 ?_
 refine EC_if rfl (fun h0=>?_) (fun h0=>?_)
 refine g6 ?_
 refine vl (ptr (blkOf ev) (offOf ev+((j:Int):Int).toNat*1)) rfl (r_indexX (by exact e3) (OwnX.row S3 5 rfl (by decide)).1 (by exact e0) (by omega) as' U52 (by kernel_rfl)) ?_
 obtain ⟨a0,ha0⟩:=get_some (l:=W.sent) (j:=((j:Int):Int).toNat) as'
 have hsn:=wok.sent a0 (List.mem_of_getElem? ha0)
 obtain ⟨cs0,hc0,he0⟩:=(OwnX.row S3 5 rfl (by decide)).2 _ _ ha0
 obtain ⟨v0,rfl,o0,H0⟩:=hc0
 refine vl _ rfl (r_load0 rfl he0 U33 rfl) ?_
 refine g6 ?_
 refine yR (BClone_c _ _ _ _ _ S3 H0 (by omega)) ?_
 rintro _ w1 ⟨v2,rfl,S4⟩
 obtain ⟨I1,le1,S5,H1⟩:=S4.fb0
 refine EL_lit1 (l:=[(0,v2)]) w1.heap.size [v2] el_52 rfl (by decide) rfl (Nat.le_refl _) (parts1 rfl) (Eq.trans (show Instr.fill _ _ [(0,v2)]=_ from (fill_one rfl (row_cells (H1 _ S5.le)) (by kernel_rfl) fill_end)) (by kernel_rfl)) ?_
 intro v3 w2 O0 B0 k0
 have S6:Sat _ _ (OwnX 33 bytesR v3 [a0]::_):=OwnX.cls (xss:=[[v2]]) (.cons ⟨_,rfl,(row_one (H1 _ S5.le)),H1⟩ .nil) (S5.newO B0 O0)
 have oH52:=(OwnX.one S6 0 rfl (by decide))
 obtain ⟨I2,le2,S7,H2⟩:=S6.fx0 (by decide)
 refine EL_appX (z:=(.slice none 0 0)) (bytes:=24) rfl U52 (by kernel_rfl) rfl (by decide) rfl rfl S7 H2 ac ac ?_
 intro v4 w3 S8
 refine g5 ?_
 refine EL_int ((j:Int)+1) rfl (r_addi (by exact e0) rfl (by omega)) ?_
 intro x0 hx53
 refine g3 ?_
 have q1:(W.sent.take j)++[a0]=W.sent.take (j+1):=by rw [List.take_add_one,(show W.sent[j]?=_ from ha0)];rfl
 have S9:=S8.ax0 q1
 refine ⟨_,?_,j+1,v4,I2,rfl,(Eq.trans (show _=Value.int .i64 x0 from rfl) (congrArg _ (by omega))),rfl,(by exact e2),(by exact e3),(by exact e4),by omega,(lT (lT le0 le1) le2),S9⟩
 first | omega | (simp;omega)
 refine g12 ?_
 refine f1 Tryz.results14 ?_
 have q2:W.sent.take j=W.sent:=by rw [List.take_of_length_le (by omega)]
 have S10:=S3.ax0 q2
 have S11:Sat _ _ (WldO (ptr b) bs p W::_):=WldO.cls (W:=W) wok hbl (Hl.up le0) S10.fr5.fr5.fr5.fr5.fr5
 exact ⟨ov,I0,le0,rfl,S11.fr1⟩
theorem WTly_c (q:Value) (bs:List (Nat×Nat)) (p:Value) (W:Wld) (I:Gh) (R:List HP) (w:World) (S:Sat w I (WldO q bs p W::R)):Ret Tryz.prog 13 [q] w fun v w'=>∃x:Nat,∃y:Nat,∃J:Gh,Gh.le I J∧.complex .f64 x y=v∧(Fw x (csR (tls W.seats)))∧(Fw y (csI (tls W.seats)))∧(0≤csR (tls W.seats)∧csR (tls W.seats)≤10000∧0≤csI (tls W.seats)∧csI (tls W.seats)≤10000)∧Sat w' J (WldO q bs p W::R):=by
 obtain ⟨b,lv,sv,pv,ev,rfl,wok,hbl,Hl,S0⟩:=WldO.opn S
 have hsv:=SrvP.one S0.fr2
 have wp5:=wok.post
 have ws6:=wok.seats
 have hbm:(bs.map Prod.fst).length=W.seats.length:=by rw [List.length_map];exact hbl
 have hlv:=XRow.one (Hl.row S0.le)
 refine ret_E Tryz.func13 rfl Tryz.ntmps13 (by simp) ?_
 refine g17 ?_
 refine vl _ rfl (r_lenX rfl (Hl.row S0.le) U70) ?_
 refine g4 ?_
 have S1:Sat _ _ (OwnX 48 cpxR (.slice none 0 0) []::_):=OwnX.nil S0 48 cpxR
 have q0:[]=(tls W.seats).take 0:=rfl
 have S2:=S1.ax0 q0
 refine EC_loop (fun m' E' w'=>∃j:Nat,∃ov:Value,∃J:Gh,m'=W.seats.length-j∧E' 13=.int .i64 (j:Int)∧E' 3=ov∧E' 2=.complex .f64 0 0∧E' 11=lv∧E' 12=.int .i64 ((bs.map Prod.fst).length:Int)∧(j≤W.seats.length)∧Gh.le I J∧Sat w' J (OwnX 48 cpxR ov ((tls W.seats).take j)::Blk b 72 [lv,sv,pv,ev]::SeatsQ bs p W.seats::SrvP sv W.srv::OwnX 46 packR pv W.post::OwnX 33 bytesR ev W.sent::R)) _ ⟨0,.slice none 0 0,I,rfl,rfl,rfl,rfl,rfl,rfl,Nat.zero_le _,(Gh.le_refl _),S2⟩ ?_
 rintro _ E0 w0 ⟨j,ov,I0,rfl,e0,e1,e2,e3,e4,hj,le0,S3⟩
 refine g6 ?_
 refine EC_if rfl (fun h0=>?_) (fun h0=>?_)
 refine g6 ?_
 refine vl (ptr (blkOf lv) (offOf lv+((j:Int):Int).toNat*1)) rfl (r_indexX (by exact e3) (Hl.row (lT le0 S3.le)) (by exact e0) (by omega) as' U70 (by kernel_rfl)) ?_
 obtain ⟨a0,ha0⟩:=get_some (l:=bs.map Prod.fst) (j:=((j:Int):Int).toNat) as'
 obtain ⟨cs0,hc0,he0⟩:=Hl.el ha0
 obtain rfl:=hc0
 refine vl _ rfl (r_load0 rfl (he0 _ (lT le0 S3.le)) U77 rfl) ?_
 refine g3 ?_
 obtain ⟨cb,hb⟩:=seat_get ha0
 obtain ⟨x,hx⟩:=get_some (l:=W.seats) (j:=j) (by omega)
 have S4:Sat w0 I0 (Blk a0 79 [ptr cb,.int .i64 x.c.coll,.int .i64 x.c.founder,.int .i64 x.c.who,.int .i64 x.branch]::CliP (ptr cb) p x.c::SeatsQ (bs.eraseIdx j) p (W.seats.eraseIdx j)::OwnX 48 cpxR ov ((tls W.seats).take j)::Blk b 72 [lv,sv,pv,ev]::SrvP sv W.srv::OwnX 46 packR pv W.post::OwnX 33 bytesR ev W.sent::R):=SeatsQ.open hb hx S3.fr2
 have hcb:=CliP.bd S4.fr1
 skip
 refine g6 ?_
 refine yR (LTally_c _ _ _ _ _ _ S4.fr1) ?_
 rintro _ w1 ⟨rfl,S5⟩
 refine EL_lit1 (l:=[(0,.complex .f64 (fw (x.c.r.ch.links.length:Int)) (fw (x.c.pend.length:Int)))]) w1.heap.size [.complex .f64 (fw (x.c.r.ch.links.length:Int)) (fw (x.c.pend.length:Int))] el_91 rfl (by decide) rfl (Nat.le_refl _) (parts1 rfl) (Eq.trans (show Instr.fill _ _ [(0,.complex .f64 (fw (x.c.r.ch.links.length:Int)) (fw (x.c.pend.length:Int)))]=_ from (fill_one rfl rfl (by kernel_rfl) fill_end)) (by kernel_rfl)) ?_
 intro v0 w2 O0 B0 k0
 have S6:Sat _ _ (OwnX 48 cpxR v0 [((x.c.r.ch.links.length:Int),(x.c.pend.length:Int))]::_):=OwnX.cls (xss:=[[.complex .f64 (fw (x.c.r.ch.links.length:Int)) (fw (x.c.pend.length:Int))]]) (.cons ⟨_,_,rfl,(fw_is (n:=(x.c.r.ch.links.length:Int)) (by first | omega | exact (of_decide_eq_true (by kernel_rfl)))),(fw_is (n:=(x.c.pend.length:Int)) (by first | omega | exact (of_decide_eq_true (by kernel_rfl))))⟩ .nil) (S5.newO B0 O0)
 have oH47:=(OwnX.one S6 0 rfl (by decide))
 obtain ⟨I1,le1,S7,H0⟩:=S6.fx0 (by decide)
 refine EL_appX (z:=(.complex .f64 0 0)) (bytes:=16) rfl U91 (by kernel_rfl) rfl (by decide) rfl rfl S7.fr3 H0 ac ac ?_
 intro v1 w3 S8
 refine g4 ?_
 have S9:Sat w3 I1 (SeatsQ bs p W.seats::OwnX 48 cpxR v1 (((tls W.seats).take j)++[((x.c.r.ch.links.length:Int),(x.c.pend.length:Int))])::Blk b 72 [lv,sv,pv,ev]::SrvP sv W.srv::OwnX 46 packR pv W.post::OwnX 33 bytesR ev W.sent::R):=SeatsQ.same hb hx S8.fr3.fr2.fr3
 have q1:((tls W.seats).take j)++[((x.c.r.ch.links.length:Int),(x.c.pend.length:Int))]=(tls W.seats).take (j+1):=tls_step hx
 have S10:=S9.ax1 q1
 skip
 refine g1 ?_
 refine EL_int ((j:Int)+1) rfl (r_addi (by exact e0) rfl (by omega)) ?_
 intro x0 hx55
 refine g3 ?_
 refine ⟨_,?_,j+1,v1,I1,rfl,(Eq.trans (show _=Value.int .i64 x0 from rfl) (congrArg _ (by omega))),rfl,(by exact e2),(by exact e3),(by exact e4),by omega,(lT le0 le1),S10.fr5.fr5.fr5.fr3.fr5.fr5⟩
 first | omega | (simp;omega)
 refine g6 ?_
 have q2:(tls W.seats).take j=tls W.seats:=by rw [List.take_of_length_le (by rw [tls,List.length_map];omega)]
 have S11:=S3.ax0 q2
 have htb:=tls_bd (SeatsP.bds S11.fr2)
 skip
 refine g2 ?_
 have oH67:=(OwnX.one S11 0 rfl (by decide))
 obtain ⟨I2,le2,S12,H1⟩:=S11.fx0 (by decide)
 refine yR (TSum_c _ _ _ _ _ S12 H1 (by rw [tls,List.length_map];omega) htb) ?_
 rintro _ w4 ⟨x1,y71,rfl,h1,h2,S13⟩
 refine g14 ?_
 refine f1 Tryz.results13 ?_
 have hcs:=cs_bd1 htb
 have htl:(tls W.seats).length≤6:=by rw [tls,List.length_map];exact ws6
 have S14:Sat w4 I2 (WldO (ptr b) bs p W::R):=WldO.cls (W:=W) wok hbl (Hl.up (lT le0 le2)) S13
 exact ⟨x1,y71,I2,(lT le0 le2),rfl,(by assumption),(by assumption),(by omega),S14⟩
theorem WUp_c (q:Value) (bs:List (Nat×Nat)) (p:Value) (W:Wld) (c:Int) (e:Int) (v0:Value) (l:List (List UInt8)) (I:Gh) (R:List HP) (w:World) (S:Sat w I (WldO q bs p W::R)) (Q0:RoX I v0 bytesR l) (hc:0≤c∧c<(W.seats.length:Int)) (hll:l.length≤10) (hlb:∀b∈l,b.length≤32768) (hsl:W.sent.length≤1000):Ret Tryz.prog 47 [q,.int .i64 c,.int .i64 e,v0] w fun v w'=>∃J:Gh,Gh.le I J∧.int .i64 (W.upE e l)=v∧Sat w' J (WldO q bs p (W.upS c e l)::R):=by
 have lq0:=XRow.le (Q0.row S.le)
 obtain ⟨b,lv,sv,pv,ev,rfl,wok,hbl,Hl,S0⟩:=WldO.opn S
 have hsv:=SrvP.one S0.fr2
 have wp5:=wok.post
 have ws6:=wok.seats
 have hbm:(bs.map Prod.fst).length=W.seats.length:=by rw [List.length_map];exact hbl
 have hlv:=XRow.one (Hl.row S0.le)
 refine ret_E Tryz.func47 rfl Tryz.ntmps47 (by simp) ?_
 refine g14 ?_
 refine EC_if rfl (fun h0=>?_) (fun h0=>?_)
 have he0:e≠0:=h0
 refine g9 ?_
 refine f1 Tryz.results47 ?_
 have hE:W.upE e l=e:=by rw [Wld.upE,if_pos he0]
 have hS:W.upS c e l=W:=by rw [Wld.upS,if_neg (by rw [hE];exact he0)]
 have S1:Sat w I (WldO (ptr b) bs p W::R):=WldO.cls (W:=W) wok hbl Hl S0
 have q0:W=W.upS c e l:=hS.symm
 have S2:=Sat.ah0 (WldO (ptr b) bs p) S1 q0
 exact ⟨I,(Gh.le_refl _),(by rw [hE]),S2⟩
 have he0:¬e≠0:=h0
 refine g6 ?_
 refine vl _ rfl (r_lenX rfl (OwnX.row S0 3 rfl (by decide)).1 U39) ?_
 refine g1 ?_
 refine vl _ rfl (r_lenX rfl (Q0.row S0.le) U52) ?_
 refine EL_int ((W.post.length:Int)+(l.length:Int)) rfl (r_addi rfl rfl (by omega)) ?_
 intro x0 hx15
 refine g4 ?_
 refine EC_if rfl (fun h1=>?_) (fun h1=>?_)
 have h512:512<W.post.length+l.length:=by have h:=h1;omega
 refine g8 ?_
 refine f1 Tryz.results47 ?_
 have hE:W.upE e l=33:=by rw [Wld.upE,if_neg he0,if_pos h512]
 have hS:W.upS c e l=W:=by rw [Wld.upS,if_neg (by rw [hE];decide)]
 have S3:Sat w I (WldO (ptr b) bs p W::R):=WldO.cls (W:=W) wok hbl Hl S0
 have q1:W=W.upS c e l:=hS.symm
 have S4:=Sat.ah0 (WldO (ptr b) bs p) S3 q1
 exact ⟨I,(Gh.le_refl _),(by rw [hE]),S4⟩
 have h512:¬512<W.post.length+l.length:=by have h:=h1;omega
 refine g7 ?_
 refine vl _ rfl (r_lenX rfl (Q0.row S0.le) U52) ?_
 refine g4 ?_
 have q2:W.post=W.post++(l.take 0).map (fun b=>(⟨c,true,b⟩:PackT)):=by simp
 have S5:=S0.ax3 q2
 have q3:W.sent=W.sent++l.take 0:=by simp
 have S6:=S5.ax4 q3
 refine EC_loop (fun m' E' w'=>∃j:Nat,∃pw:Value,∃ew:Value,∃J:Gh,m'=l.length-j∧E' 27=.int .i64 (j:Int)∧E' 0=ptr b∧E' 1=.int .i64 c∧E' 8=.int .i64 0∧E' 25=v0∧E' 26=.int .i64 (l.length:Int)∧(j≤l.length)∧Gh.le I J∧Sat w' J (Blk b 72 [lv,sv,pw,ew]::OwnX 46 packR pw (W.post++(l.take j).map (fun b=>(⟨c,true,b⟩:PackT)))::OwnX 33 bytesR ew (W.sent++l.take j)::SeatsQ bs p W.seats::SrvP sv W.srv::R)) _ ⟨0,pv,ev,I,rfl,rfl,rfl,rfl,rfl,rfl,rfl,Nat.zero_le _,(Gh.le_refl _),S6.fr2.fr2.fr4.fr4.fr4⟩ ?_
 rintro _ E0 w0 ⟨j,pw,ew,I0,rfl,e0,e1,e2,e3,e4,e5,hj,le0,S7⟩
 refine g6 ?_
 refine EC_if rfl (fun h2=>?_) (fun h2=>?_)
 refine g6 ?_
 refine vl (ptr (blkOf v0) (offOf v0+((j:Int):Int).toNat*1)) rfl (r_indexX (by exact e4) (Q0.row (lT le0 S7.le)) (by exact e0) (by omega) as' U52 (by kernel_rfl)) ?_
 obtain ⟨a0,ha0⟩:=get_some (l:=l) (j:=((j:Int):Int).toNat) as'
 obtain ⟨cs0,hc0,he1⟩:=Q0.el ha0
 obtain ⟨v1,rfl,o0,H0⟩:=hc0
 refine vl _ rfl (r_load0 rfl (he1 _ (lT le0 S7.le)) U33 rfl) ?_
 refine g12 ?_
 refine vl _ rfl (gB [.int .i64 c,.bool true,v1] st_46 (parts3 rfl rfl rfl) (fill_one rfl rfl rfl (fill_one rfl rfl rfl (fill_one rfl (one_cells o0) rfl fill_end)))) ?_
 refine EL_litW (z:=#[.int .i64 0,.bool false,.slice none 0 0]) (cs:=([.int .i64 c,.bool true,v1]).toArray) (sz:=3) (l:=[(0,.agg ([.int .i64 c,.bool true,v1]).toArray)]) rfl U39 (by kernel_rfl) (parts1 rfl) (by kernel_rfl) rfl (by decide) ?_
 intro v2 w1 O0 B0 k0
 have S8:Sat _ _ (OwnX 46 packR v2 [(⟨c,true,a0⟩:PackT)]::_):=OwnX.cls (xss:=[[.int .i64 c,.bool true,v1]]) (.cons ⟨v1,rfl,ad,⟨o0,(H0.up le0)⟩⟩ .nil) (S7.newO B0 O0)
 have oH61:=(OwnX.one S8 0 rfl (by decide))
 obtain ⟨I1,le1,S9,H1⟩:=S8.fx0 (by decide)
 refine EL_appX (z:=(.agg #[.int .i64 0,.bool false,.slice none 0 0])) (bytes:=40) rfl U39 (by kernel_rfl) rfl (by decide) rfl rfl S9.fr1 H1 ac ac ?_
 intro v3 w2 S10
 refine g2 ?_
 refine yS1 S10 ?_ (hu:=OwnX.one S10 0 rfl (by decide))
 intro w3 S11
 refine g9 ?_
 refine EL_lit1 (l:=[(0,v1)]) w3.heap.size [v1] el_52 rfl (by decide) rfl (Nat.le_refl _) (parts1 rfl) (Eq.trans (show Instr.fill _ _ [(0,v1)]=_ from (fill_one rfl (one_cells o0) (by kernel_rfl) fill_end)) (by kernel_rfl)) ?_
 intro v4 w4 O1 B1 k1
 have S12:Sat _ _ (OwnX 33 bytesR v4 [a0]::_):=OwnX.cls (xss:=[[v1]]) (.cons ⟨_,rfl,o0,(H0.up (lT le0 le1))⟩ .nil) (S11.newO B1 O1)
 have oH80:=(OwnX.one S12 0 rfl (by decide))
 obtain ⟨I2,le2,S13,H2⟩:=S12.fx0 (by decide)
 refine EL_appX (z:=(.slice none 0 0)) (bytes:=24) rfl U52 (by kernel_rfl) rfl (by decide) rfl rfl S13.fr2 H2 ac ac ?_
 intro v5 w5 S14
 refine g2 ?_
 refine yS2 S14 ?_ (hu:=OwnX.one S14 0 rfl (by decide))
 intro w6 S15
 refine g4 ?_
 refine EL_int ((j:Int)+1) rfl (r_addi (by exact e0) rfl (by omega)) ?_
 intro x1 hx87
 refine g3 ?_
 have q4:(W.post++(l.take j).map (fun b=>(⟨c,true,b⟩:PackT)))++[(⟨c,true,a0⟩:PackT)]=W.post++(l.take (j+1)).map (fun b=>(⟨c,true,b⟩:PackT)):=by rw [List.take_add_one,(show l[j]?=_ from ha0)];simp
 have S16:=S15.ax1 q4
 have q5:(W.sent++l.take j)++[a0]=W.sent++l.take (j+1):=by rw [List.take_add_one,(show l[j]?=_ from ha0)];simp
 have S17:=S16.ax0 q5
 refine ⟨_,?_,j+1,v3,v5,I2,rfl,(Eq.trans (show _=Value.int .i64 x1 from rfl) (congrArg _ (by omega))),(by exact e1),(by exact e2),(by exact e3),(by exact e4),(by exact e5),by omega,(lT (lT le0 le1) le2),S17.fr4.fr4.fr2.fr3.fr4⟩
 first | omega | (simp;omega)
 refine g11 ?_
 refine f1 Tryz.results47 ?_
 have q6:W.post++(l.take j).map (fun b=>(⟨c,true,b⟩:PackT))=W.post++l.map (fun b=>(⟨c,true,b⟩:PackT)):=by rw [List.take_of_length_le (by omega)]
 have S18:=S7.ax1 q6
 have q7:W.sent++l.take j=W.sent++l:=by rw [List.take_of_length_le (by omega)]
 have S19:=S18.ax2 q7
 have hE:W.upE e l=0:=by rw [Wld.upE,if_neg he0,if_neg h512]
 have S20:Sat w0 I0 (WldO (ptr b) bs p ({ W with post:=W.post++l.map (fun b=>(⟨c,true,b⟩:PackT)),sent:=W.sent++l }:Wld)::R):=WldO.cls (W:=({ W with post:=W.post++l.map (fun b=>(⟨c,true,b⟩:PackT)),sent:=W.sent++l }:Wld)) (wok.sends hc hlb (by omega)) hbl (Hl.up le0) S19.fr2.fr2.fr4.fr4.fr4
 have q8:({ W with post:=W.post++l.map (fun b=>(⟨c,true,b⟩:PackT)),sent:=W.sent++l }:Wld)=W.upS c e l:=by rw [Wld.upS,if_pos hE]
 have S21:=Sat.ah0 (WldO (ptr b) bs p) S20 q8
 exact ⟨I0,le0,(by rw [hE]),S21⟩
end Go.Proofs.YthddplghlljdbaaGreat
