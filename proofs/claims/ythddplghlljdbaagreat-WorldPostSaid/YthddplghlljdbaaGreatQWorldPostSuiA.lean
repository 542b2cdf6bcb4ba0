import Derived.Test.YthddplghlljdbaaGreatQWorldPostReplay
import Derived.Test.YthddplghlljdbaaGreatQWorldPostEntG
set_option linter.unusedVariables false
set_option linter.unusedSimpArgs false
set_option maxRecDepth 100000
set_option maxHeartbeats 4000000
namespace Go.Proofs.YthddplghlljdbaaGreat
open Go.RowKit Go.Ecal
theorem DApp_c (q:Value) (K:List Doc) (ce:List Value) (e:Entry) (I:Gh) (R:List HP) (w:World) (S:Sat w I (DocsP q K::R)) (he:entR.r I ce e) (hK:K.length≤1000000):Ret Tryz.prog 126 [q,.agg ce.toArray] w fun v w'=>∃J:Gh,Gh.le I J∧.int .i64 (applyE K e)=v∧Sat w' J (DocsP q (applyD K e)::R):=by
 obtain ⟨b,m,rfl,S0⟩:=DocsP.opn S
 obtain ⟨v0,v1,v2,rfl,r0,r1,r2,⟨o0,H0⟩,⟨o1,H1⟩,r3,r4,r5,⟨o2,H2⟩⟩:=he
 refine ret_E Tryz.func126 rfl Tryz.ntmps126 (by simp) ?_
 refine g2 ?_
 refine yB (cs:=entRC e v0 v1 v2) S0 ?_
 intro b0 w0 S1
 refine g7 ?_
 refine yR (Right_c (entRC e v0 v1 v2) e _ _ _ S1 ⟨v0,v1,v2,rfl,ad,ad,ad,⟨o0,H0⟩,⟨o1,H1⟩,ad,ad,ad,⟨o2,H2⟩⟩) ?_
 rintro _ w1 ⟨I0,le0,rfl,S2⟩
 refine g3 ?_
 refine EC_cond (t:=!e.right) rfl (fun h0=>?_) (fun h0=>?_)
 have hrt:e.right=false:=by simpa using h0
 refine g7 ?_
 refine f1 Tryz.results126 ?_
 have S3:Sat _ _ (DocsP (ptr b) K::_):=DocsP.cls S2.fr2.fr2
 have q0:K=applyD K e:=by first | (simp only [applyD,hrt,hk1,hk2];simp;done) | (simp only [applyD,hrt,hk];simp [del_none hth];done) | (simp only [applyD,hrt,hk];simp;done) | (simp only [applyD,hrt];simp;done)
 have S4:=Sat.ah0 (DocsP (ptr b)) S3 q0
 exact ⟨I0,le0,(congrArg (Value.int .i64) (by first | (simp only [applyE,hrt,hk2];simp;done) | (simp only [applyE,thereD,hrt,hk,hth];simp;done) | (simp only [applyE,hrt,hk];simp;done) | (simp only [applyE,hrt];simp;done))),S4.dr1⟩
 have hrt:e.right=true:=by simpa using h0
 have hnv:=right_nv hrt
 refine g6 ?_
 refine vl _ rfl (r_str rfl (H0 _ (lT le0 S2.le)) U33 U5 U9) ?_
 refine g17 ?_
 refine EC_if rfl (fun h1=>?_) (fun h1=>?_)
 have hk:e.kind=1:=h1
 refine yJ 8 (fun w'=>Arr w' b 111 [.map (some m)]∧Arr w' b0 36 (entRC e v0 v1 v2)) S2 ?_
 intro w2 S5
 refine yT 0 S5.le ⟨S5.a1,S5.a0⟩ ?_
 refine yT 1 S5.le ⟨S5.a1,S5.a0⟩ ?_
 refine yT 2 S5.le ⟨S5.a1,S5.a0⟩ ?_
 refine yT 3 S5.le ⟨S5.a1,S5.a0⟩ ?_
 refine yT 4 S5.le ⟨S5.a1,S5.a0⟩ ?_
 refine yT 5 S5.le ⟨S5.a1,S5.a0⟩ ?_
 refine yT 6 S5.le ⟨S5.a1,S5.a0⟩ ?_
 refine jT 7 rfl (by kernel_rfl) (.string (str e.value)) rfl (fun _ hw ht=>r_str rfl (H1 _ (lT le0 hw)) U33 U5 U9) ⟨S5.le,fun h=>⟨S5.a1,S5.a0⟩⟩ ?_
 refine y1 8 ?_
 obtain ⟨ar0,ck0,hm0,hK0⟩:=S5.md 2 rfl
 refine EL_putD U9 U109 rfl rfl rfl hm0 hK0 (by first | assumption | omega | (simp;omega)) (by first | assumption | omega | (simp;omega)) (by first | assumption | omega | (simp;omega)) ?_
 intro w3 ar1 ck1 hm1 hK1 G0
 have S6:Sat w3 I0 (Blk b0 36 (entRC e v0 v1 v2)::Blk b 111 [.map (some m)]::Md Tryz.prog 9 m (putD K e.name e.value)::R):=S5.mdW 2 rfl G0 hm1 hK1
 refine ym S6.le ?_
 refine yd ?_
 refine g8 ?_
 refine f1 Tryz.results126 ?_
 have S7:Sat _ _ (DocsP (ptr b) (putD K e.name e.value)::_):=DocsP.cls S6.fr2.fr2
 have q1:putD K e.name e.value=applyD K e:=by first | (simp only [applyD,hrt,hk1,hk2];simp;done) | (simp only [applyD,hrt,hk];simp [del_none hth];done) | (simp only [applyD,hrt,hk];simp;done) | (simp only [applyD,hrt];simp;done)
 have S8:=Sat.ah0 (DocsP (ptr b)) S7 q1
 exact ⟨I0,le0,(congrArg (Value.int .i64) (by first | (simp only [applyE,hrt,hk2];simp;done) | (simp only [applyE,thereD,hrt,hk,hth];simp;done) | (simp only [applyE,hrt,hk];simp;done) | (simp only [applyE,hrt];simp;done))),S8.dr1⟩
 have hk1:¬e.kind=1:=h1
 refine g6 ?_
 refine EC_if rfl (fun h2=>?_) (fun h2=>?_)
 have hk:e.kind=2:=h2
 refine g8 ?_
 obtain ⟨ar2,ck2,hm2,hK2⟩:=S2.md 2 rfl
 refine vl (.tuple #[.string (str ((lkD K e.name).getD [])),.bool ((lkD K e.name).isSome)]) rfl ((r_lookD2 U9 U109 (by kernel_rfl) rfl rfl hm2 hK2 (by first | assumption | omega | (simp;omega))).1) ?_
 refine g13 ?_
 refine EC_cond (t:=!((lkD K e.name).isSome)) rfl (fun h3=>?_) (fun h3=>?_)
 have hth:(lkD K e.name).isSome=false:=by simpa using h3
 refine g9 ?_
 refine f1 Tryz.results126 ?_
 have S9:Sat _ _ (DocsP (ptr b) K::_):=DocsP.cls S2.fr2.fr2
 have q2:K=applyD K e:=by first | (simp only [applyD,hrt,hk1,hk2];simp;done) | (simp only [applyD,hrt,hk];simp [del_none hth];done) | (simp only [applyD,hrt,hk];simp;done) | (simp only [applyD,hrt];simp;done)
 have S10:=Sat.ah0 (DocsP (ptr b)) S9 q2
 exact ⟨I0,le0,(congrArg (Value.int .i64) (by first | (simp only [applyE,hrt,hk2];simp;done) | (simp only [applyE,thereD,hrt,hk,hth];simp;done) | (simp only [applyE,hrt,hk];simp;done) | (simp only [applyE,hrt];simp;done))),S10.dr1⟩
 have hth:(lkD K e.name).isSome=true:=by simpa using h3
 refine g8 ?_
 obtain ⟨ar3,ck3,hm3,hK3⟩:=S2.md 2 rfl
 refine EL_delD U9 U109 rfl rfl hm3 hK3 (by first | assumption | omega | (simp;omega)) ?_
 intro w4 ar4 ck4 hm4 hK4 G1
 have S11:Sat w4 I0 (Blk b0 36 (entRC e v0 v1 v2)::Blk b 111 [.map (some m)]::Md Tryz.prog 9 m (delD K e.name)::R):=S2.mdW 2 rfl G1 hm4 hK4
 refine g9 ?_
 refine f1 Tryz.results126 ?_
 have S12:Sat _ _ (DocsP (ptr b) (delD K e.name)::_):=DocsP.cls S11.fr2.fr2
 have q3:delD K e.name=applyD K e:=by first | (simp only [applyD,hrt,hk1,hk2];simp;done) | (simp only [applyD,hrt,hk];simp [del_none hth];done) | (simp only [applyD,hrt,hk];simp;done) | (simp only [applyD,hrt];simp;done)
 have S13:=Sat.ah0 (DocsP (ptr b)) S12 q3
 exact ⟨I0,le0,(congrArg (Value.int .i64) (by first | (simp only [applyE,hrt,hk2];simp;done) | (simp only [applyE,thereD,hrt,hk,hth];simp;done) | (simp only [applyE,hrt,hk];simp;done) | (simp only [applyE,hrt];simp;done))),S13.dr1⟩
 have hk2:¬e.kind=2:=h2
 refine g9 ?_
 refine f1 Tryz.results126 ?_
 have S14:Sat _ _ (DocsP (ptr b) K::_):=DocsP.cls S2.fr2.fr2
 have q4:K=applyD K e:=by first | (simp only [applyD,hrt,hk1,hk2];simp;done) | (simp only [applyD,hrt,hk];simp [del_none hth];done) | (simp only [applyD,hrt,hk];simp;done) | (simp only [applyD,hrt];simp;done)
 have S15:=Sat.ah0 (DocsP (ptr b)) S14 q4
 exact ⟨I0,le0,(congrArg (Value.int .i64) (by first | (simp only [applyE,hrt,hk2];simp;done) | (simp only [applyE,thereD,hrt,hk,hth];simp;done) | (simp only [applyE,hrt,hk];simp;done) | (simp only [applyE,hrt];simp;done))),S15.dr1⟩
theorem DNew_c (I:Gh) (R:List HP) (w:World) (S:Sat w I (R)):Ret Tryz.prog 61 [] w fun v w'=>∃q:Value,q=v∧Sat w' I (DocsP q ([]:List Doc)::R):=by
 refine ret_E Tryz.func61 rfl Tryz.ntmps61 (by simp) ?_
 refine g7 ?_
 refine EL_map rfl ?_
 intro b0 w0 k0 A0 B0
 have S0:Sat w0 I (Md Tryz.prog 9 b0 ([]:List Doc)::R):=S.newD B0 A0 mdAt_nil k0
 refine vl _ rfl (gB [.map (some b0)] st_111 (parts1 rfl) (fill_one rfl rfl rfl fill_end)) ?_
 refine EL_box [.map (some b0)] rfl rfl rfl ?_
 intro b1 w1 k1 A1 B1 z0
 have S1:=S0.newB B1 A1 k1
 refine g4 ?_
 refine f1 Tryz.results61 ?_
 have S2:Sat w1 I (DocsP (ptr b1) ([]:List Doc)::R):=DocsP.cls S1
 exact ⟨(ptr b1),rfl,S2⟩
theorem MClone_c (m:Nat) (K:List Doc) (I:Gh) (R:List HP) (w:World) (S:Sat w I (Md Tryz.prog 9 m K::R)):Ret Tryz.prog 56 [.map (some m)] w fun v w'=>∃m2:Nat,.map (some m2)=v∧Sat w' I (Md Tryz.prog 9 m2 K::Md Tryz.prog 9 m K::R):=by
 refine ret_E Tryz.func56 rfl Tryz.ntmps56 (by simp) ?_
 refine g9 ?_
 refine vl (.bool false) rfl (r_eqmapnil (p:=(some m)) rfl rfl U109) ?_
 refine g8 ?_
 refine vl _ rfl (r_iface rfl U109 rfl) ?_
 obtain ⟨ar0,ck0,hm0,hK0⟩:=S.md 0 rfl
 refine EL_cloneD Tryz.func84 (by kernel_rfl) rfl (by kernel_rfl) (by kernel_rfl) rfl rfl hm0 hK0 ?_
 intro b0 w0 k0 A0 B0
 have S0:Sat w0 I (Md Tryz.prog 9 b0 K::Md Tryz.prog 9 m K::R):=S.newD B0 A0 hK0 k0
 refine vl (.map (some b0)) rfl (r_assertM rfl U109) ?_
 refine g4 ?_
 refine f1 Tryz.results56 ?_
 exact ⟨b0,rfl,S0⟩
theorem DClone_c (q:Value) (K:List Doc) (I:Gh) (R:List HP) (w:World) (S:Sat w I (DocsP q K::R)):Ret Tryz.prog 37 [q] w fun v w'=>∃q2:Value,q2=v∧Sat w' I (DocsP q2 K::DocsP q K::R):=by
 obtain ⟨b,m,rfl,S0⟩:=DocsP.opn S
 refine ret_E Tryz.func37 rfl Tryz.ntmps37 (by simp) ?_
 refine g11 ?_
 refine yR (MClone_c _ _ _ _ _ S0.fr1) ?_
 rintro _ w0 ⟨m0,rfl,S1⟩
 refine vl _ rfl (gB [.map (some m0)] st_111 (parts1 rfl) (fill_one rfl rfl rfl fill_end)) ?_
 refine EL_box [.map (some m0)] rfl rfl rfl ?_
 intro b0 w1 k0 A0 B0 z0
 have S2:=S1.newB B0 A0 k0
 refine g4 ?_
 refine f1 Tryz.results37 ?_
 have S3:Sat _ _ (DocsP (ptr b0) K::_):=DocsP.cls S2
 have S4:Sat _ _ (DocsP (ptr b) K::_):=DocsP.cls S3.fr1.fr2
 exact ⟨(ptr b0),rfl,S4.fr1⟩
end Go.Proofs.YthddplghlljdbaaGreat

set_option maxRecDepth 100000
set_option maxHeartbeats 4000000
namespace Go.Proofs.YthddplghlljdbaaGreat
open Go.RowKit Go.Ecal
theorem put_c (v0:Value) (l:List UInt8) (n:Int) (I:Gh) (R:List HP) (w:World) (S:Sat w I (OwnB v0 l::R)) (hl:8≤l.length∧l.length≤1000000000) (hn:0≤n∧n≤9223372036854775807):Ret Tryz.prog 104 [v0,.int .i64 n] w fun v w'=>v0=v∧Sat w' I (OwnB v0 (l.take (l.length-8)++be8 n)::R):=by
 refine ret_E Tryz.func104 rfl Tryz.ntmps104 (by simp) ?_
 refine g12 ?_
 refine EC_for 9 ?_
 refine U_step ?_
 refine g4 ?_
 refine vl (.bool true) rfl (r_dec (by decide) (r_leq rfl rfl)) ?_
 refine g10 ?_
 refine vl (.int .i64 (l.length:Int)) rfl (r_asn (by simp) (lenB (r_len rfl (own_row (S.own 0 rfl)) U33))) ?_
 refine g1 ?_
 refine EL_int ((l.length:Int)-1) rfl (r_subi rfl rfl (by omega)) ?_
 intro x0 hx11
 refine g2 ?_
 refine vl (.int .i64 0) rfl (r_asn (by kernel_rfl) (r_sub rfl rfl)) (vl (.int .i64 0) rfl (r_asn (by kernel_rfl) (r_mul rfl rfl)) ?_)
 refine EL_int (n / 1) rfl (r_shri (n:=0) rfl rfl rfl (by decide) (by decide)) ?_
 intro x1 hx12
 refine vl (.int .u8 (x1 % 256)) rfl (r_convb 3 5 rfl U3 U5) (vl (.pointer (some (at_ v0 ((x0:Int).toNat)))) rfl (r_index rfl (own_row (S.own 0 rfl)) rfl (by omega) as' U33 (by kernel_rfl)) ?_)
 refine EL_store (u:=byt (bof x1)) rfl (Eq.trans (show _=Value.int .u8 (x1 % 256) from rfl) (bof_val _)) (S.own 0 rfl) ao rfl (by kernel_rfl) ?_
 intro w0 O0 G0 z0
 have S0:=S.gb0 G0 (own_set O0) (.inl rfl)
 refine g5 ?_
 refine vl (.int .i64 2) rfl (r_asn (by kernel_rfl) (r_add rfl rfl)) ?_
 refine g3 ?_
 refine U_step ?_
 refine g4 ?_
 refine vl (.bool true) rfl (r_dec (by decide) (r_leq rfl rfl)) ?_
 refine g10 ?_
 refine vl (.int .i64 (l.length:Int)) rfl (r_asn (by simp) (lenB (r_len rfl (own_row (S0.own 0 rfl)) U33))) ?_
 refine g1 ?_
 refine EL_int ((l.length:Int)-2) rfl (r_subi rfl rfl (by omega)) ?_
 intro x2 hx18
 refine g2 ?_
 refine vl (.int .i64 1) rfl (r_asn (by kernel_rfl) (r_sub rfl rfl)) (vl (.int .i64 8) rfl (r_asn (by kernel_rfl) (r_mul rfl rfl)) ?_)
 refine EL_int (n / 256) rfl (r_shri (n:=8) rfl rfl rfl (by decide) (by decide)) ?_
 intro x3 hx19
 refine vl (.int .u8 (x3 % 256)) rfl (r_convb 3 5 rfl U3 U5) (vl (.pointer (some (at_ v0 ((x2:Int).toNat)))) rfl (r_index rfl (own_row (S0.own 0 rfl)) rfl (by omega) as' U33 (by kernel_rfl)) ?_)
 refine EL_store (u:=byt (bof x3)) rfl (Eq.trans (show _=Value.int .u8 (x3 % 256) from rfl) (bof_val _)) (S0.own 0 rfl) ao rfl (by kernel_rfl) ?_
 intro w1 O1 G1 z1
 have S1:=S0.gb0 G1 (own_set O1) (.inl rfl)
 refine g5 ?_
 refine vl (.int .i64 3) rfl (r_asn (by kernel_rfl) (r_add rfl rfl)) ?_
 refine g3 ?_
 refine U_step ?_
 refine g4 ?_
 refine vl (.bool true) rfl (r_dec (by decide) (r_leq rfl rfl)) ?_
 refine g10 ?_
 refine vl (.int .i64 (l.length:Int)) rfl (r_asn (by simp) (lenB (r_len rfl (own_row (S1.own 0 rfl)) U33))) ?_
 refine g1 ?_
 refine EL_int ((l.length:Int)-3) rfl (r_subi rfl rfl (by omega)) ?_
 intro x4 hx25
 refine g2 ?_
 refine vl (.int .i64 2) rfl (r_asn (by kernel_rfl) (r_sub rfl rfl)) (vl (.int .i64 16) rfl (r_asn (by kernel_rfl) (r_mul rfl rfl)) ?_)
 refine EL_int (n / 65536) rfl (r_shri (n:=16) rfl rfl rfl (by decide) (by decide)) ?_
 intro x5 hx26
 refine vl (.int .u8 (x5 % 256)) rfl (r_convb 3 5 rfl U3 U5) (vl (.pointer (some (at_ v0 ((x4:Int).toNat)))) rfl (r_index rfl (own_row (S1.own 0 rfl)) rfl (by omega) as' U33 (by kernel_rfl)) ?_)
 refine EL_store (u:=byt (bof x5)) rfl (Eq.trans (show _=Value.int .u8 (x5 % 256) from rfl) (bof_val _)) (S1.own 0 rfl) ao rfl (by kernel_rfl) ?_
 intro w2 O2 G2 z2
 have S2:=S1.gb0 G2 (own_set O2) (.inl rfl)
 refine g5 ?_
 refine vl (.int .i64 4) rfl (r_asn (by kernel_rfl) (r_add rfl rfl)) ?_
 refine g3 ?_
 refine U_step ?_
 refine g4 ?_
 refine vl (.bool true) rfl (r_dec (by decide) (r_leq rfl rfl)) ?_
 refine g10 ?_
 refine vl (.int .i64 (l.length:Int)) rfl (r_asn (by simp) (lenB (r_len rfl (own_row (S2.own 0 rfl)) U33))) ?_
 refine g1 ?_
 refine EL_int ((l.length:Int)-4) rfl (r_subi rfl rfl (by omega)) ?_
 intro x6 hx32
 refine g2 ?_
 refine vl (.int .i64 3) rfl (r_asn (by kernel_rfl) (r_sub rfl rfl)) (vl (.int .i64 24) rfl (r_asn (by kernel_rfl) (r_mul rfl rfl)) ?_)
 refine EL_int (n / 16777216) rfl (r_shri (n:=24) rfl rfl rfl (by decide) (by decide)) ?_
 intro x7 hx33
 refine vl (.int .u8 (x7 % 256)) rfl (r_convb 3 5 rfl U3 U5) (vl (.pointer (some (at_ v0 ((x6:Int).toNat)))) rfl (r_index rfl (own_row (S2.own 0 rfl)) rfl (by omega) as' U33 (by kernel_rfl)) ?_)
 refine EL_store (u:=byt (bof x7)) rfl (Eq.trans (show _=Value.int .u8 (x7 % 256) from rfl) (bof_val _)) (S2.own 0 rfl) ao rfl (by kernel_rfl) ?_
 intro w3 O3 G3 z3
 have S3:=S2.gb0 G3 (own_set O3) (.inl rfl)
 refine g5 ?_
 refine vl (.int .i64 5) rfl (r_asn (by kernel_rfl) (r_add rfl rfl)) ?_
 refine g3 ?_
 refine U_step ?_
 refine g4 ?_
 refine vl (.bool true) rfl (r_dec (by decide) (r_leq rfl rfl)) ?_
 refine g10 ?_
 refine vl (.int .i64 (l.length:Int)) rfl (r_asn (by simp) (lenB (r_len rfl (own_row (S3.own 0 rfl)) U33))) ?_
 refine g1 ?_
 refine EL_int ((l.length:Int)-5) rfl (r_subi rfl rfl (by omega)) ?_
 intro x8 hx39
 refine g2 ?_
 refine vl (.int .i64 4) rfl (r_asn (by kernel_rfl) (r_sub rfl rfl)) (vl (.int .i64 32) rfl (r_asn (by kernel_rfl) (r_mul rfl rfl)) ?_)
 refine EL_int (n / 4294967296) rfl (r_shri (n:=32) rfl rfl rfl (by decide) (by decide)) ?_
 intro x9 hx40
 refine vl (.int .u8 (x9 % 256)) rfl (r_convb 3 5 rfl U3 U5) (vl (.pointer (some (at_ v0 ((x8:Int).toNat)))) rfl (r_index rfl (own_row (S3.own 0 rfl)) rfl (by omega) as' U33 (by kernel_rfl)) ?_)
 refine EL_store (u:=byt (bof x9)) rfl (Eq.trans (show _=Value.int .u8 (x9 % 256) from rfl) (bof_val _)) (S3.own 0 rfl) ao rfl (by kernel_rfl) ?_
 intro w4 O4 G4 z4
 have S4:=S3.gb0 G4 (own_set O4) (.inl rfl)
 refine g5 ?_
 refine vl (.int .i64 6) rfl (r_asn (by kernel_rfl) (r_add rfl rfl)) ?_
 refine g3 ?_
 refine U_step ?_
 refine g4 ?_
 refine vl (.bool true) rfl (r_dec (by decide) (r_leq rfl rfl)) ?_
 refine g10 ?_
 refine vl (.int .i64 (l.length:Int)) rfl (r_asn (by simp) (lenB (r_len rfl (own_row (S4.own 0 rfl)) U33))) ?_
 refine g1 ?_
 refine EL_int ((l.length:Int)-6) rfl (r_subi rfl rfl (by omega)) ?_
 intro x10 hx46
 refine g2 ?_
 refine vl (.int .i64 5) rfl (r_asn (by kernel_rfl) (r_sub rfl rfl)) (vl (.int .i64 40) rfl (r_asn (by kernel_rfl) (r_mul rfl rfl)) ?_)
 refine EL_int (n / 1099511627776) rfl (r_shri (n:=40) rfl rfl rfl (by decide) (by decide)) ?_
 intro x11 hx47
 refine vl (.int .u8 (x11 % 256)) rfl (r_convb 3 5 rfl U3 U5) (vl (.pointer (some (at_ v0 ((x10:Int).toNat)))) rfl (r_index rfl (own_row (S4.own 0 rfl)) rfl (by omega) as' U33 (by kernel_rfl)) ?_)
 refine EL_store (u:=byt (bof x11)) rfl (Eq.trans (show _=Value.int .u8 (x11 % 256) from rfl) (bof_val _)) (S4.own 0 rfl) ao rfl (by kernel_rfl) ?_
 intro w5 O5 G5 z5
 have S5:=S4.gb0 G5 (own_set O5) (.inl rfl)
 refine g5 ?_
 refine vl (.int .i64 7) rfl (r_asn (by kernel_rfl) (r_add rfl rfl)) ?_
 refine g3 ?_
 refine U_step ?_
 refine g4 ?_
 refine vl (.bool true) rfl (r_dec (by decide) (r_leq rfl rfl)) ?_
 refine g10 ?_
 refine vl (.int .i64 (l.length:Int)) rfl (r_asn (by simp) (lenB (r_len rfl (own_row (S5.own 0 rfl)) U33))) ?_
 refine g1 ?_
 refine EL_int ((l.length:Int)-7) rfl (r_subi rfl rfl (by omega)) ?_
 intro x12 hx53
 refine g2 ?_
 refine vl (.int .i64 6) rfl (r_asn (by kernel_rfl) (r_sub rfl rfl)) (vl (.int .i64 48) rfl (r_asn (by kernel_rfl) (r_mul rfl rfl)) ?_)
 refine EL_int (n / 281474976710656) rfl (r_shri (n:=48) rfl rfl rfl (by decide) (by decide)) ?_
 intro x13 hx54
 refine vl (.int .u8 (x13 % 256)) rfl (r_convb 3 5 rfl U3 U5) (vl (.pointer (some (at_ v0 ((x12:Int).toNat)))) rfl (r_index rfl (own_row (S5.own 0 rfl)) rfl (by omega) as' U33 (by kernel_rfl)) ?_)
 refine EL_store (u:=byt (bof x13)) rfl (Eq.trans (show _=Value.int .u8 (x13 % 256) from rfl) (bof_val _)) (S5.own 0 rfl) ao rfl (by kernel_rfl) ?_
 intro w6 O6 G6 z6
 have S6:=S5.gb0 G6 (own_set O6) (.inl rfl)
 refine g5 ?_
 refine vl (.int .i64 8) rfl (r_asn (by kernel_rfl) (r_add rfl rfl)) ?_
 refine g3 ?_
 refine U_step ?_
 refine g4 ?_
 refine vl (.bool true) rfl (r_dec (by decide) (r_leq rfl rfl)) ?_
 refine g10 ?_
 refine vl (.int .i64 (l.length:Int)) rfl (r_asn (by simp) (lenB (r_len rfl (own_row (S6.own 0 rfl)) U33))) ?_
 refine g1 ?_
 refine EL_int ((l.length:Int)-8) rfl (r_subi rfl rfl (by omega)) ?_
 intro x14 hx60
 refine g2 ?_
 refine vl (.int .i64 7) rfl (r_asn (by kernel_rfl) (r_sub rfl rfl)) (vl (.int .i64 56) rfl (r_asn (by kernel_rfl) (r_mul rfl rfl)) ?_)
 refine EL_int (n / 72057594037927936) rfl (r_shri (n:=56) rfl rfl rfl (by decide) (by decide)) ?_
 intro x15 hx61
 refine vl (.int .u8 (x15 % 256)) rfl (r_convb 3 5 rfl U3 U5) (vl (.pointer (some (at_ v0 ((x14:Int).toNat)))) rfl (r_index rfl (own_row (S6.own 0 rfl)) rfl (by omega) as' U33 (by kernel_rfl)) ?_)
 refine EL_store (u:=byt (bof x15)) rfl (Eq.trans (show _=Value.int .u8 (x15 % 256) from rfl) (bof_val _)) (S6.own 0 rfl) ao rfl (by kernel_rfl) ?_
 intro w7 O7 G7 z7
 have S7:=S6.gb0 G7 (own_set O7) (.inl rfl)
 refine g5 ?_
 refine vl (.int .i64 9) rfl (r_asn (by kernel_rfl) (r_add rfl rfl)) ?_
 refine g3 ?_
 refine U_step ?_
 refine g4 ?_
 refine vl (.bool false) rfl (r_dec (by decide) (r_leq rfl rfl)) ?_
 refine g15 ?_
 refine f1 Tryz.results104 ?_
 have ef:(((((((l.set ((x0:Int).toNat) (bof x1)).set ((x2:Int).toNat) (bof x3)).set ((x4:Int).toNat) (bof x5)).set ((x6:Int).toNat) (bof x7)).set ((x8:Int).toNat) (bof x9)).set ((x10:Int).toNat) (bof x11)).set ((x12:Int).toNat) (bof x13)).set ((x14:Int).toNat) (bof x15)=l.take (l.length-8)++be8 n:=by
  rw [show (x0:Int).toNat=l.length-1 from by omega,show (x2:Int).toNat=l.length-2 from by omega,show (x4:Int).toNat=l.length-3 from by omega,show (x6:Int).toNat=l.length-4 from by omega,show (x8:Int).toNat=l.length-5 from by omega,show (x10:Int).toNat=l.length-6 from by omega,show (x12:Int).toNat=l.length-7 from by omega,show (x14:Int).toNat=l.length-8 from by omega]
  rw [put_sets hl.1,be8,hx12,hx19,hx26,hx33,hx40,hx47,hx54,hx61,Int.ediv_one]
 rw [ef] at S7
 exact ⟨rfl,S7⟩
theorem signed_c (c:UInt8) (n:Int) (I:Gh) (R:List HP) (w:World) (S:Sat w I (R)) (hn:0≤n∧n≤9223372036854775807):Ret Tryz.prog 105 [.int .u8 (c.toNat:Int),.int .i64 n] w fun v w'=>∃v1:Value,v1=v∧Sat w' I (OwnB v1 (signOf c n)::R):=by
 refine ret_E Tryz.func105 rfl Tryz.ntmps105 (by simp) ?_
 refine g7 ?_
 refine EL_make w.heap.size elB rfl rfl rfl rfl (by omega) (by omega) (by omega) (by omega) (Nat.le_refl _) ?_
 intro v0 w0 O0 B0 k0 z0
 have S0:Sat w0 I (OwnB v0 (List.replicate 32 (0:UInt8))::R):=S.newO B0 (own_rep O0)
 refine g8 ?_
 refine vl (.pointer (some (at_ v0 ((0:Int).toNat)))) rfl (r_index rfl (own_row (S0.own 0 rfl)) rfl (by omega) as' U33 (by kernel_rfl)) ?_
 refine EL_store (u:=byt (83:UInt8)) rfl rfl (S0.own 0 rfl) ao rfl (by kernel_rfl) ?_
 intro w1 O1 G0 z1
 have S1:=S0.gb0 G0 (own_set O1) (.inl rfl)
 refine vl (.pointer (some (at_ v0 ((1:Int).toNat)))) rfl (r_index rfl (own_row (S1.own 0 rfl)) rfl (by omega) as' U33 (by kernel_rfl)) ?_
 refine EL_store (u:=byt c) rfl rfl (S1.own 0 rfl) ao rfl (by kernel_rfl) ?_
 intro w2 O2 G1 z2
 have S2:=S1.gb0 G1 (own_set O2) (.inl rfl)
 refine g6 ?_
 refine yR (put_c _ _ n _ _ _ S2 au au) ?_
 rintro _ w3 ⟨rfl,S3⟩
 refine g4 ?_
 refine f1 Tryz.results105 ?_
 rw [show (((List.replicate 32 (0:UInt8)).set ((0:Int).toNat) (83:UInt8)).set ((1:Int).toNat) c).take ((((List.replicate 32 (0:UInt8)).set ((0:Int).toNat) (83:UInt8)).set ((1:Int).toNat) c).length-8)++be8 n=signOf c n from rfl] at S3
 exact ⟨v0,rfl,S3⟩
theorem box_c (n:Int) (m:Int) (I:Gh) (R:List HP) (w:World) (S:Sat w I (R)) (hn:0≤n∧n≤9223372036854775807) (hm:0≤m∧m≤900000000):Ret Tryz.prog 148 [.int .i64 n,.int .i64 m] w fun v w'=>∃v1:Value,v1=v∧Sat w' I (OwnB v1 (boxOf n m.toNat)::R):=by
 refine ret_E Tryz.func148 rfl Tryz.ntmps148 (by simp) ?_
 refine g8 ?_
 refine EL_int (m+16) rfl (r_addi rfl rfl (by omega)) ?_
 intro x0 hx11
 refine EL_make w.heap.size elB rfl rfl rfl rfl (by omega) (by omega) (by omega) (by omega) (Nat.le_refl _) ?_
 intro v0 w0 O0 B0 k0 z0
 have S0:Sat w0 I (OwnB v0 (List.replicate ((x0:Int).toNat) (0:UInt8))::R):=S.newO B0 (own_rep O0)
 refine g6 ?_
 refine vl (.pointer (some (at_ v0 ((0:Int).toNat)))) rfl (r_index rfl (own_row (S0.own 0 rfl)) rfl (by omega) as' U33 (by kernel_rfl)) ?_
 refine EL_store (u:=byt (66:UInt8)) rfl rfl (S0.own 0 rfl) ao rfl (by kernel_rfl) ?_
 intro w1 O1 G0 z1
 have S1:=S0.gb0 G0 (own_set O1) (.inl rfl)
 refine g6 ?_
 refine yR (put_c _ _ n _ _ _ S1 au au) ?_
 rintro _ w2 ⟨rfl,S2⟩
 refine g4 ?_
 refine f1 Tryz.results148 ?_
 have ef:((List.replicate ((x0:Int).toNat) (0:UInt8)).set ((0:Int).toNat) (66:UInt8)).take (((List.replicate ((x0:Int).toNat) (0:UInt8)).set ((0:Int).toNat) (66:UInt8)).length-8)++be8 n=boxOf n m.toNat:=box_eq (k:=((x0:Int).toNat)) (by omega) rfl
 rw [ef] at S2
 exact ⟨v0,rfl,S2⟩
theorem joined_c (v0:Value) (ls:List (List UInt8)) (I:Gh) (R:List HP) (w:World) (S:Sat w I (R)) (Q0:RoX I v0 bytesR ls) (hb:ls.flatten.length≤1000000000):Ret Tryz.prog 119 [v0] w fun v w'=>.string (str ls.flatten)=v∧Sat w' I (R):=by
 have lq0:=XRow.le (Q0.row S.le)
 refine ret_E Tryz.func119 rfl Tryz.ntmps119 (by simp) ?_
 refine g14 ?_
 refine vl _ rfl (r_lenX rfl (Q0.row S.le) U52) ?_
 refine g4 ?_
 have S0:Sat w I (OwnB (.slice none 0 0) ((ls.take 0).flatten)::R):=S.nil 5 1
 refine EC_loop (fun m' E' w'=>∃ov:Value,∃j:Nat,m'=ls.length-j∧E' 3=ov∧E' 8=.int .i64 (j:Int)∧E' 2=.string (str ([]:List UInt8))∧E' 6=v0∧E' 7=.int .i64 (ls.length:Int)∧(j≤ls.length)∧Sat w' I (OwnB ov ((ls.take j).flatten)::R)) _ ⟨.slice none 0 0,0,rfl,rfl,rfl,rfl,rfl,rfl,Nat.zero_le _,S0⟩ ?_
 rintro _ E0 w0 ⟨ov,j,rfl,e0,e1,e2,e3,e4,hj,S1⟩
 refine g6 ?_
 refine EC_if rfl (fun h0=>?_) (fun h0=>?_)
 refine g6 ?_
 refine vl (ptr (blkOf v0) (offOf v0+((j:Int):Int).toNat*1)) rfl (r_indexX (by exact e3) (Q0.row S1.le) (by exact e1) (by omega) as' U52 (by kernel_rfl)) ?_
 obtain ⟨a0,ha0⟩:=get_some (l:=ls) (j:=((j:Int):Int).toNat) as'
 have fl:=flat_le (j:=j) ha0
 obtain ⟨cs0,hc0,he0⟩:=Q0.el ha0
 obtain ⟨v1,rfl,o0,H0⟩:=hc0
 refine vl _ rfl (r_load0 rfl (he0 _ S1.le) U33 rfl) ?_
 refine g6 ?_
 refine yP0 elB S1 (H0 _ S1.le) ?_
 intro v2 w1 S2
 refine g5 ?_
 refine EL_int ((j:Int)+1) rfl (r_addi (by exact e1) rfl (by omega)) ?_
 intro x0 hx36
 refine g3 ?_
 rw [take_flat (j:=j) ha0] at S2
 refine ⟨_,?_,v2,j+1,rfl,rfl,(Eq.trans (show _=Value.int .i64 x0 from rfl) (congrArg _ (by omega))),(by exact e2),(by exact e3),(by exact e4),by omega,S2⟩
 first | omega | (simp;omega)
 refine g8 ?_
 refine vl _ rfl (r_str rfl (own_row (S1.own 0 rfl)) U33 U5 U9) ?_
 refine g4 ?_
 refine f1 Tryz.results119 ?_
 have ej:j=ls.length:=by omega
 subst ej
 exact ⟨(by simp),S1.dr0⟩
end Go.Proofs.YthddplghlljdbaaGreat
