import Derived.Test.YthddplghlljdbaaGreatQWorldPostSuiB
set_option linter.unusedVariables false
set_option linter.unusedSimpArgs false
set_option maxRecDepth 100000
set_option maxHeartbeats 4000000
namespace Go.Proofs.YthddplghlljdbaaGreat
open Go.RowKit Go.Ecal
theorem SealOk_c (p:Value) (L:List Thing) (v0:Value) (k:List UInt8) (v1:Value) (n:List UInt8) (v2:Value) (o:List UInt8) (v3:Value) (x:List UInt8) (I:Gh) (R:List HP) (w:World) (S:Sat w I (Suite p L::R)) (Q0:RoB I v0 k) (Q1:RoB I v1 n) (Q2:RoB I v2 o) (Q3:RoB I v3 x) (hl:L.length≤1000000) (hk:k.length≤1000000000) (hn:n.length≤1000000000) (ho:o.length≤1000000000) (hx:x.length≤800000000) (hz:szOk k n=true):Ret Tryz.prog 109 [p,v0,v1,v2,v3] w fun v w'=>∃v4:Value,.tuple #[v4,.int .i64 0]=v∧Sat w' I (OwnB v4 (boxOf ((L.length:Int)+1) x.length)::Suite p (L++[tBox k n o x])::R):=
 (Seal_c p L v0 k v1 n v2 o v3 x I R w S Q0 Q1 Q2 Q3 hl hk hn ho hx).mono fun v w' h=>by
  obtain ⟨v4,e,S⟩:=h
  rw [show sealB L k n x=boxOf ((L.length:Int)+1) x.length from by simp [sealB,hz],show sealL L k n o x=L++[tBox k n o x] from by simp [sealL,hz]] at S
  exact ⟨v4,by rw [←e];simp [sealE,hz],S⟩
theorem OpenOk_c (p:Value) (L:List Thing) (v0:Value) (k:List UInt8) (v1:Value) (n:List UInt8) (v2:Value) (o:List UInt8) (v3:Value) (x:List UInt8) (y:List UInt8) (I:Gh) (R:List HP) (w:World) (S:Sat w I (Suite p L::R)) (Q0:RoB I v0 k) (Q1:RoB I v1 n) (Q2:RoB I v2 o) (Q3:RoB I v3 x) (hl:L.length≤1000000) (hk:k.length≤1000000000) (hn:n.length≤1000000000) (ho:o.length≤1000000000) (hx:x.length≤800000000) (hT:∀t∈L,t.text.length≤800000000) (hz:szOk k n=true) (hy:openOf L k n o x=some y):Ret Tryz.prog 169 [p,v0,v1,v2,v3] w fun v w'=>∃v4:Value,∃J:Gh,Gh.le I J∧.tuple #[v4,.int .i64 0]=v∧RoB J v4 y∧Sat w' J (Suite p L::R):=
 (Open_c p L v0 k v1 n v2 o v3 x I R w S Q0 Q1 Q2 Q3 hl hk hn ho hx hT).mono fun v w' h=>by
  obtain ⟨v4,J,le,e,H,S⟩:=h
  rw [show openB L k n o x=y from by simp [openB,hz,hy]] at H
  exact ⟨v4,J,le,by rw [←e];simp [openE,hz,hy],H,S⟩
theorem OpenNo_c (p:Value) (L:List Thing) (v0:Value) (k:List UInt8) (v1:Value) (n:List UInt8) (v2:Value) (o:List UInt8) (v3:Value) (x:List UInt8) (I:Gh) (R:List HP) (w:World) (S:Sat w I (Suite p L::R)) (Q0:RoB I v0 k) (Q1:RoB I v1 n) (Q2:RoB I v2 o) (Q3:RoB I v3 x) (hl:L.length≤1000000) (hk:k.length≤1000000000) (hn:n.length≤1000000000) (ho:o.length≤1000000000) (hx:x.length≤800000000) (hT:∀t∈L,t.text.length≤800000000) (hz:szOk k n=true) (hy:openOf L k n o x=none):Ret Tryz.prog 169 [p,v0,v1,v2,v3] w fun v w'=>∃v4:Value,∃J:Gh,Gh.le I J∧.tuple #[v4,.int .i64 20]=v∧RoB J v4 []∧Sat w' J (Suite p L::R):=
 (Open_c p L v0 k v1 n v2 o v3 x I R w S Q0 Q1 Q2 Q3 hl hk hn ho hx hT).mono fun v w' h=>by
  obtain ⟨v4,J,le,e,H,S⟩:=h
  rw [show openB L k n o x=[] from by simp [openB,hz,hy]] at H
  exact ⟨v4,J,le,by rw [←e];simp [openE,hz,hy],H,S⟩
end Go.Proofs.YthddplghlljdbaaGreat

set_option maxRecDepth 100000
set_option maxHeartbeats 4000000
namespace Go.Proofs.YthddplghlljdbaaGreat
open Go.RowKit Go.Ecal
theorem derived_c (p:Value) (L:List Thing) (v0:Value) (s:List UInt8) (use:List UInt8) (n:Int) (I:Gh) (R:List HP) (w:World) (S:Sat w I (Suite p L::R)) (Q0:RoB I v0 s) (hl:L.length≤1000000) (hs:s.length≤100000) (hu:use.length≤100) (hn:0≤n∧n≤1099511627776):Ret Tryz.prog 87 [p,v0,.string (str use),.int .i64 n] w fun v w'=>∃v1:Value,∃J:Gh,Gh.le I J∧v1=v∧Sat w' J (OwnB v1 (keyFor L s use n)::Suite p (onceL (derT s use n) L)::R):=by
 have lq0:=RoB.le Q0 S.le
 refine ret_E Tryz.func87 rfl Tryz.ntmps87 (by simp) ?_
 refine g8 ?_
 refine vl _ rfl (r_iface rfl U3 rfl) ?_
 refine EL_lit1 (l:=[(0,.iface 3 (.int .i64 n))]) w.heap.size [.iface 3 (.int .i64 n)] el_122 rfl (by decide) rfl (Nat.le_refl _) (parts1 rfl) (Eq.trans (show Instr.fill _ _ [(0,.iface 3 (.int .i64 n))]=_ from (fill_one rfl rfl (by kernel_rfl) fill_end)) (by kernel_rfl)) ?_
 intro v2 w0 O0 B0 k0
 have S0:Sat _ _ (OwnX 20 anyR v2 [(Any.int n)]::_):=OwnX.cls (xss:=[[.iface 3 (.int .i64 n)]]) (.cons ⟨rfl,(by first | assumption | omega)⟩ .nil) (S.newO B0 O0)
 have oH20:=(OwnX.one S0 0 rfl (by decide))
 obtain ⟨I0,le0,S1,H0⟩:=S0.fx0 (by decide)
 refine yR (Put_c _ _ _ _ _ S1 H0 (by simp)) ?_
 rintro _ w1 ⟨v3,rfl,S2⟩
 have q0:putB [(Any.int n)]=be6 n:=(put1 (by omega)).1
 have S3:=S2.ab0 q0
 refine g12 ?_
 refine EL_bytes (l:=use) rfl rfl U9 U33 U5 (by first | omega | (simp;omega)) ?_
 intro v4 w2 B1 V0 R0 V29l
 obtain ⟨I1,le1,S4,H1⟩:=S3.newR B1 V0 R0 V29l
 refine g1 ?_
 obtain ⟨I2,le2,S5,H2⟩:=S4.fb0
 refine EL_lit1 (l:=[(0,v4),(1,v3)]) w2.heap.size [v4,v3] el_52 rfl (by decide) rfl (Nat.le_refl _) (parts2 rfl rfl) (Eq.trans (show Instr.fill _ _ [(0,v4),(1,v3)]=_ from (fill_one rfl (row_cells (H1 _ (lT le2 S5.le))) (by kernel_rfl) (fill_one rfl (row_cells (H2 _ S5.le)) (by kernel_rfl) fill_end))) (by kernel_rfl)) ?_
 intro v5 w3 O1 B2 k1
 have S6:Sat _ _ (OwnX 33 bytesR v5 [use,be6 n]::_):=OwnX.cls (xss:=[[v4],[v3]]) (.cons ⟨_,rfl,(row_one (H1 _ (lT le2 S5.le))),(H1.up le2)⟩ (.cons ⟨_,rfl,(row_one (H2 _ S5.le)),H2⟩ .nil)) (S5.newO B2 O1)
 have oH48:=(OwnX.one S6 0 rfl (by decide))
 obtain ⟨I3,le3,S7,H3⟩:=S6.fx0 (by decide)
 refine yR (Code_c _ _ _ _ _ _ _ _ _ S7 (Q0.up (lT (lT (lT le0 le1) le2) le3)) H3 au (by omega) (by simp [be6];omega)) ?_
 rintro _ w4 ⟨v6,rfl,S8⟩
 have q1:signOf 77 (onceN (tCode s [use,be6 n].flatten) L)=signOf 77 (onceN (derT s use n) L):=by simp only [derT,List.flatten_cons,List.flatten_nil,List.append_nil]
 have S9:=S8.ab0 q1
 have q2:onceL (tCode s [use,be6 n].flatten) L=onceL (derT s use n) L:=by simp only [derT,List.flatten_cons,List.flatten_nil,List.append_nil]
 have S10:=Sat.ah1 (Suite p) S9 q2
 refine g4 ?_
 refine f1 Tryz.results87 ?_
 exact ⟨v6,I3,(lT (lT (lT le0 le1) le2) le3),rfl,S10⟩
theorem right_c (n:Int) (w:World):Ret Tryz.prog 145 [.int .i64 n] w fun v w'=>.bool (rightW n)=v∧Below w.heap.size w w':=by
 have S:=Sat.start w
 refine ret_E Tryz.func145 rfl Tryz.ntmps145 (by simp) ?_
 refine g17 ?_
 refine f1 Tryz.results145 ?_
 exact ⟨rfl,(Below.refl _ _)⟩
theorem spot_c (a:Int) (b:Int) (w:World):Ret Tryz.prog 107 [.int .i64 a,.int .i64 b] w fun v w'=>.bool (spotW a b)=v∧Below w.heap.size w w':=by
 have S:=Sat.start w
 refine ret_E Tryz.func107 rfl Tryz.ntmps107 (by simp) ?_
 refine g8 ?_
 refine yR (right_c a _) ?_
 rintro _ w0 ⟨rfl,B0⟩
 have S0:=S.below B0
 refine g12 ?_
 refine f1 Tryz.results107 ?_
 exact ⟨(by simp [spotW,Bool.and_assoc]),B0⟩
theorem Writer_c (p:Value) (L:List Thing) (v0:Value) (s:List UInt8) (n:Int) (I:Gh) (R:List HP) (w:World) (S:Sat w I (Suite p L::R)) (Q0:RoB I v0 s) (hl:L.length≤1000000) (hs:s.length≤100000):Ret Tryz.prog 164 [p,v0,.int .i64 n] w fun v w'=>∃v1:Value,∃J:Gh,Gh.le I J∧.tuple #[v1,.int .i64 (rightE n)]=v∧Sat w' J (OwnB v1 (rightB L s uWriter n)::Suite p (rightL L s uWriter n)::R):=by
 have lq0:=RoB.le Q0 S.le
 refine ret_E Tryz.func164 rfl Tryz.ntmps164 (by simp) ?_
 refine g10 ?_
 refine yQ S (right_c n _) ?_
 intro w0 S0
 refine g3 ?_
 refine EC_cond (t:=!(rightW n)) rfl (fun h0=>?_) (fun h0=>?_)
 have hr:rightW n=false:=(Bool.not_eq_true' _).mp h0
 refine g8 ?_
 refine f2 Tryz.results164 ?_
 rw [show rightB L s uWriter n=[] from by rw [rightB,hr];rfl,show rightL L s uWriter n=L from by rw [rightL,hr];rfl]
 have S1:=S0.nilB
 exact ⟨(.slice none 0 0),I,(Gh.le_refl _),(by rw [rightE,hr];rfl),S1⟩
 have hr:rightW n=true:=(Bool.not_eq_false' _).mp h0
 have hri:=rightW_iff.1 hr
 refine g7 ?_
 refine yR (derived_c _ _ _ _ uWriter n _ _ _ S0 Q0 au au (by decide) au) ?_
 rintro _ w1 ⟨v2,I0,le0,rfl,S2⟩
 refine g5 ?_
 refine f2 Tryz.results164 ?_
 have q0:keyFor L s uWriter n=rightB L s uWriter n:=by rw [rightB,if_pos hr]
 have S3:=S2.ab0 q0
 have q1:onceL (derT s uWriter n) L=rightL L s uWriter n:=by rw [rightL,if_pos hr]
 have S4:=Sat.ah1 (Suite p) S3 q1
 exact ⟨v2,I0,le0,(by rw [rightE,if_pos hr]),S4⟩
theorem Nonce_c (a:Int) (b:Int) (I:Gh) (R:List HP) (w:World) (S:Sat w I (R)):Ret Tryz.prog 108 [.int .i64 a,.int .i64 b] w fun v w'=>∃v1:Value,∃J:Gh,Gh.le I J∧.tuple #[v1,.int .i64 (nonceE a b)]=v∧Sat w' J (OwnB v1 (nonceB a b)::R):=by
 refine ret_E Tryz.func108 rfl Tryz.ntmps108 (by simp) ?_
 refine g25 ?_
 refine EC_cond (t:=(((decide (a<0))||(decide (4294967295<a)))||(decide (b<0)))||(decide (1099511627776<b))) rfl (fun h0=>?_) (fun h0=>?_)
 have hr:nonceOk a b=false:=by rw [←Bool.not_eq_true,nonceOk_iff];simp at h0;omega
 refine g8 ?_
 refine f2 Tryz.results108 ?_
 rw [show nonceB a b=[] from by rw [nonceB,hr];rfl]
 have S0:=S.nilB
 exact ⟨(.slice none 0 0),I,(Gh.le_refl _),(by rw [nonceE,hr];rfl),S0⟩
 have hr:nonceOk a b=true:=by rw [nonceOk_iff];simp at h0;omega
 have hri:=nonceOk_iff.1 hr
 refine g5 ?_
 refine vl _ rfl (r_iface rfl U3 rfl) ?_
 refine g1 ?_
 refine vl _ rfl (r_iface rfl U3 rfl) ?_
 refine EL_lit1 (l:=[(0,.iface 3 (.int .i64 a)),(1,.iface 3 (.int .i64 b))]) w.heap.size [.iface 3 (.int .i64 a),.iface 3 (.int .i64 b)] el_122 rfl (by decide) rfl (Nat.le_refl _) (parts2 rfl rfl) (Eq.trans (show Instr.fill _ _ [(0,.iface 3 (.int .i64 a)),(1,.iface 3 (.int .i64 b))]=_ from (fill_one rfl rfl (by kernel_rfl) (fill_one rfl rfl (by kernel_rfl) fill_end))) (by kernel_rfl)) ?_
 intro v0 w0 O0 B0 k0
 have S1:Sat w0 I (OwnX 20 anyR v0 [(Any.int a),(Any.int b)]::R):=OwnX.cls (xss:=[[.iface 3 (.int .i64 a)],[.iface 3 (.int .i64 b)]]) (.cons ⟨rfl,(by first | assumption | omega)⟩ (.cons ⟨rfl,(by first | assumption | omega)⟩ .nil)) (S.newO B0 O0)
 have oH29:=(OwnX.one S1 0 rfl (by decide))
 obtain ⟨I0,le0,S2,H0⟩:=S1.fx0 (by decide)
 refine yR (Put_c _ _ _ _ _ S2 H0 (by simp)) ?_
 rintro _ w1 ⟨v2,rfl,S3⟩
 have q0:putB [(Any.int a),(Any.int b)]=be6 a++be6 b:=(put2 (by omega) (by omega)).1
 have S4:=S3.ab0 q0
 refine g7 ?_
 refine f2 Tryz.results108 ?_
 have q1:be6 a++be6 b=nonceB a b:=by rw [nonceB,if_pos hr]
 have S5:=S4.ab0 q1
 exact ⟨v2,I0,le0,(by rw [nonceE,if_pos hr,(put2 (n:=a) (m:=b) (by omega) (by omega)).2]),S5⟩
theorem Wrap_c (p:Value) (L:List Thing) (v0:Value) (s:List UInt8) (who:Int) (ep:Int) (v1:Value) (key:List UInt8) (I:Gh) (R:List HP) (w:World) (S:Sat w I (Suite p L::R)) (Q0:RoB I v0 s) (Q1:RoB I v1 key) (hl:L.length≤900000) (hs:s.length≤100000):Ret Tryz.prog 75 [p,v0,.int .i64 who,.int .i64 ep,v1] w fun v w'=>∃v2:Value,∃J:Gh,Gh.le I J∧.tuple #[v2,.int .i64 (wrapE who ep key)]=v∧Sat w' J (OwnB v2 (wrapB L s who ep key)::Suite p (wrapL L s who ep key)::R):=by
 have lq0:=RoB.le Q0 S.le
 have lq1:=RoB.le Q1 S.le
 refine ret_E Tryz.func75 rfl Tryz.ntmps75 (by simp) ?_
 refine g12 ?_
 refine yQ S (spot_c who ep _) ?_
 intro w0 S0
 refine g4 ?_
 refine EC_cond (t:=!(spotW who ep)) rfl (fun h0=>?_) (fun h0=>?_)
 have hr:spotW who ep=false:=(Bool.not_eq_true' _).mp h0
 refine g9 ?_
 refine f2 Tryz.results75 ?_
 have hE:wrapE who ep key=12:=by rw [wrapE,hr];rfl --]
 rw [show wrapB L s who ep key=[] from by rw [wrapB,hE];rfl,show wrapL L s who ep key=L from by rw [wrapL,hE];rfl]
 have S1:=S0.nilB
 exact ⟨(.slice none 0 0),I,(Gh.le_refl _),(by rw [hE]),S1⟩
 have hr:spotW who ep=true:=(Bool.not_eq_false' _).mp h0
 have hri:=spotW_iff.1 hr
 refine g3 ?_
 refine vl _ rfl (lenB (r_len rfl (Q1 _ S0.le) U33)) ?_
 refine g4 ?_
 refine EC_if rfl (fun h1=>?_) (fun h1=>?_)
 have hk32:¬key.length=32:=by omega
 refine g9 ?_
 refine f2 Tryz.results75 ?_
 have hE:wrapE who ep key=11:=by rw [wrapE,if_pos hr,if_neg hk32]
 rw [show wrapB L s who ep key=[] from by rw [wrapB,hE];rfl,show wrapL L s who ep key=L from by rw [wrapL,hE];rfl]
 have S2:=S0.nilB
 exact ⟨(.slice none 0 0),I,(Gh.le_refl _),(by rw [hE]),S2⟩
 have hk32:key.length=32:=by omega
 refine g6 ?_
 refine yR (Nonce_c 0 ep _ _ _ S0) ?_
 rintro _ w1 ⟨v3,I0,le0,rfl,S3⟩
 refine g13 ?_
 refine yR (derived_c _ _ _ _ uMember who _ _ _ S3.fr1 (Q0.up le0) au (by omega) (by decide) au) ?_
 rintro _ w2 ⟨v4,I1,le1,rfl,S4⟩
 refine g1 ?_
 refine EL_lit w2.heap.size #[.int .u8 119,.int .u8 114,.int .u8 97,.int .u8 112] elB rfl (by decide) rfl (Nat.le_refl _) (by kernel_rfl) ?_
 intro v5 w3 O0 B0 k0 z0
 have S5:Sat _ _ (OwnB v5 [(119:UInt8),(114:UInt8),(97:UInt8),(112:UInt8)]::_):=S4.newO B0 (own_eq (l:=[(119:UInt8),(114:UInt8),(97:UInt8),(112:UInt8)]) O0 (by simp [bof_val,byt]))
 refine EL_mark (v:=v5) rfl rfl (S5.own 0 rfl) (by simp) U33 U5 ?_
 intro w4 R0 G0 z1
 obtain ⟨g47,q0⟩:∃g,v5.ownBlock=some g:=own_block (S5.own 0 rfl) (by simp)
 obtain ⟨I2,le2,S6,H0⟩:∃J:Gh,Gh.le I1 J∧Sat w4 J (OwnB v4 (keyFor L s uMember who)::Suite p (onceL (derT s uMember who) L)::OwnB v3 (nonceB 0 ep)::R)∧Ro J v5 ([(119:UInt8),(114:UInt8),(97:UInt8),(112:UInt8)].map byt):=S5.frzTo 0 rfl G0 q0 R0
 refine g1 ?_
 obtain ⟨I3,le3,S7,H1⟩:=S6.fb0
 obtain ⟨I4,le4,S8,H2⟩:=S7.fb1
 refine yR (SealOk_c _ _ _ _ _ _ _ _ _ _ _ _ _ S8 (H1.up le4) H2 (H0.up (lT le3 le4)) (Q1.up (lT (lT (lT (lT le0 le1) le2) le3) le4)) (Nat.le_trans (onceL_len _ _) (by omega)) (by rw [keyFor,sign_len];decide) (by rw [nonceB,if_pos (by simp [nonceOk];omega)];simp [be6]) (by decide) au (by rw [nonceB,if_pos (by simp [nonceOk];omega)];exact key_sz)) ?_
 rintro _ w5 ⟨v6,rfl,S9⟩
 refine g7 ?_
 refine f2 Tryz.results75 ?_
 have hE:wrapE who ep key=0:=by rw [wrapE,if_pos hr,if_pos hk32]
 have q1:boxOf (((onceL (derT s uMember who) L).length:Int)+1) key.length=wrapB L s who ep key:=by rw [wrapB,if_pos hE,hk32]
 have S10:=S9.ab0 q1
 have q2:(onceL (derT s uMember who) L)++[tBox (keyFor L s uMember who) (nonceB 0 ep) [(119:UInt8),(114:UInt8),(97:UInt8),(112:UInt8)] key]=wrapL L s who ep key:=by rw [wrapL,if_pos hE,wrapT,nonceB,if_pos (by simp [nonceOk];omega)]
 have S11:=Sat.ah1 (Suite p) S10 q2
 exact ⟨v6,I4,(lT (lT (lT (lT le0 le1) le2) le3) le4),(by rw [hE]),S11⟩
theorem Unwrap_c (p:Value) (L:List Thing) (v0:Value) (s:List UInt8) (who:Int) (ep:Int) (v1:Value) (b:List UInt8) (I:Gh) (R:List HP) (w:World) (S:Sat w I (Suite p L::R)) (Q0:RoB I v0 s) (Q1:RoB I v1 b) (hl:L.length≤900000) (hs:s.length≤100000) (hb:b.length≤800000000) (hT:∀t∈L,t.text.length≤800000000):Ret Tryz.prog 172 [p,v0,.int .i64 who,.int .i64 ep,v1] w fun v w'=>∃v2:Value,∃J:Gh,Gh.le I J∧.tuple #[v2,.int .i64 (unwrapE L s who ep b)]=v∧RoB J v2 (unwrapB L s who ep b)∧Sat w' J (Suite p (unwrapL L s who ep)::R):=by
 have lq0:=RoB.le Q0 S.le
 have lq1:=RoB.le Q1 S.le
 refine ret_E Tryz.func172 rfl Tryz.ntmps172 (by simp) ?_
 refine g11 ?_
 refine yQ S (spot_c who ep _) ?_
 intro w0 S0
 refine g3 ?_
 refine EC_cond (t:=!(spotW who ep)) rfl (fun h0=>?_) (fun h0=>?_)
 have hr:spotW who ep=false:=(Bool.not_eq_true' _).mp h0
 refine g8 ?_
 refine f2 Tryz.results172 ?_
 rw [show unwrapB L s who ep b=[] from by rw [unwrapB,hr];rfl,show unwrapL L s who ep=L from by rw [unwrapL,hr];rfl]
 exact ⟨(.slice none 0 0),I,(Gh.le_refl _),(by rw [unwrapE,hr];rfl),Ro.nil,S0⟩
 have hr:spotW who ep=true:=(Bool.not_eq_false' _).mp h0
 have hri:=spotW_iff.1 hr
 refine g5 ?_
 refine yR (Nonce_c 0 ep _ _ _ S0) ?_
 rintro _ w1 ⟨v3,I0,le0,rfl,S1⟩
 have q0:nonceB 0 ep=be6 0++be6 ep:=by rw [nonceB,if_pos (by simp [nonceOk];omega)]
 have S2:=S1.ab0 q0
 refine g13 ?_
 refine yR (derived_c _ _ _ _ uMember who _ _ _ S2.fr1 (Q0.up le0) au (by omega) (by decide) au) ?_
 rintro _ w2 ⟨v4,I1,le1,rfl,S3⟩
 refine g1 ?_
 refine EL_lit w2.heap.size #[.int .u8 119,.int .u8 114,.int .u8 97,.int .u8 112] elB rfl (by decide) rfl (Nat.le_refl _) (by kernel_rfl) ?_
 intro v5 w3 O0 B0 k0 z0
 have S4:Sat _ _ (OwnB v5 [(119:UInt8),(114:UInt8),(97:UInt8),(112:UInt8)]::_):=S3.newO B0 (own_eq (l:=[(119:UInt8),(114:UInt8),(97:UInt8),(112:UInt8)]) O0 (by simp [bof_val,byt]))
 refine EL_mark (v:=v5) rfl rfl (S4.own 0 rfl) (by simp) U33 U5 ?_
 intro w4 R0 G0 z1
 obtain ⟨g44,q1⟩:∃g,v5.ownBlock=some g:=own_block (S4.own 0 rfl) (by simp)
 obtain ⟨I2,le2,S5,H0⟩:∃J:Gh,Gh.le I1 J∧Sat w4 J (OwnB v4 (keyFor L s uMember who)::Suite p (onceL (derT s uMember who) L)::OwnB v3 (be6 0++be6 ep)::R)∧Ro J v5 ([(119:UInt8),(114:UInt8),(97:UInt8),(112:UInt8)].map byt):=S4.frzTo 0 rfl G0 q1 R0
 refine g1 ?_
 obtain ⟨I3,le3,S6,H1⟩:=S5.fb0
 obtain ⟨I4,le4,S7,H2⟩:=S6.fb1
 refine yR (Open_c _ _ _ _ _ _ _ _ _ _ _ _ _ S7 (H1.up le4) H2 (H0.up (lT le3 le4)) (Q1.up (lT (lT (lT (lT le0 le1) le2) le3) le4)) (Nat.le_trans (onceL_len _ _) (by omega)) (by rw [keyFor,sign_len];decide) (by simp [be6]) (by decide) au (small_once hT (by simp [be6]))) ?_
 rintro _ w5 ⟨v6,I5,le5,rfl,H3,S8⟩
 refine g14 ?_
 refine EL_gite 40 rfl rfl rfl (.int .i64 ((openB (onceL (derT s uMember who) L) (keyFor L s uMember who) (be6 0++be6 ep) [(119:UInt8),(114:UInt8),(97:UInt8),(112:UInt8)] b).length:Int)) rfl (fun g60=>lenB (r_len (cond_of g60 rfl) (H3 _ S8.le) U33)) ?_
 refine g4 ?_
 refine EC_cond (t:=(decide ((openE (onceL (derT s uMember who) L) (keyFor L s uMember who) (be6 0++be6 ep) [(119:UInt8),(114:UInt8),(97:UInt8),(112:UInt8)] b)≠0))||(decide (((openB (onceL (derT s uMember who) L) (keyFor L s uMember who) (be6 0++be6 ep) [(119:UInt8),(114:UInt8),(97:UInt8),(112:UInt8)] b).length:Int)≠32))) rfl (fun h1=>?_) (fun h1=>?_)
 have hun:=unw_no (L:=L) (s:=s) (w:=who) (e:=ep) (b:=b) ((Bool.or_eq_true_iff.1 h1).imp (fun h=>of_decide_eq_true h) (fun h=>of_decide_eq_true h))
 refine g8 ?_
 refine f2 Tryz.results172 ?_
 have q2:(onceL (derT s uMember who) L)=unwrapL L s who ep:=by rw [unwrapL,if_pos hr]
 have S9:=Sat.ah0 (Suite p) S8 q2
 rw [show unwrapB L s who ep b=[] from by rw [unwrapB,if_pos hr,hun];rfl]
 exact ⟨(.slice none 0 0),I5,(lT (lT (lT (lT (lT le0 le1) le2) le3) le4) le5),(by rw [unwrapE,if_pos hr,hun]),Ro.nil,S9⟩
 have hu2:=(Bool.or_eq_false_iff.1 h1)
 have hun:=unw_yes (L:=L) (s:=s) (w:=who) (e:=ep) (b:=b) (Decidable.not_not.mp (of_decide_eq_false hu2.1)) (Decidable.not_not.mp (of_decide_eq_false hu2.2))
 refine g10 ?_
 refine f2 Tryz.results172 ?_
 have q3:(onceL (derT s uMember who) L)=unwrapL L s who ep:=by rw [unwrapL,if_pos hr]
 have S10:=Sat.ah0 (Suite p) S8 q3
 rw [show unwrapB L s who ep b=openB (onceL (derT s uMember who) L) (keyFor L s uMember who) (be6 0++be6 ep) [(119:UInt8),(114:UInt8),(97:UInt8),(112:UInt8)] b from by rw [unwrapB,if_pos hr,hun];rfl]
 exact ⟨v6,I5,(lT (lT (lT (lT (lT le0 le1) le2) le3) le4) le5),(by rw [unwrapE,if_pos hr,hun]),H3,S10⟩
end Go.Proofs.YthddplghlljdbaaGreat
