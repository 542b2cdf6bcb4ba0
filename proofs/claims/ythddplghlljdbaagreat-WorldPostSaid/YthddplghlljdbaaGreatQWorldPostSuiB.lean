import Derived.Test.YthddplghlljdbaaGreatQWorldPostSuiA
set_option linter.unusedVariables false
set_option linter.unusedSimpArgs false
set_option maxRecDepth 100000
set_option maxHeartbeats 4000000
namespace Go.Proofs.YthddplghlljdbaaGreat
open Go.RowKit Go.Ecal
theorem add_c (b:Nat) (lv:Value) (mb:Nat) (L:List Thing) (t:Thing) (I:Gh) (R:List HP) (w:World) (S:Sat w I (Blk b 120 (sCells lv mb)::Own 208 5 lv L.length (things L).flatten::R)) (hl:L.length≤1000000):Ret Tryz.prog 106 [ptr b,Thing.val t] w fun v w'=>∃lv':Value,.int .i64 ((L.length:Int)+1)=v∧Sat w' I (Blk b 120 (sCells lv' mb)::Own 208 5 lv' ((L++[t]).length) (things (L++[t])).flatten::R):=by
 refine ret_E Tryz.func106 rfl Tryz.ntmps106 (by simp) ?_
 refine g2 ?_
 refine EL_box t.cells rfl rfl rfl ?_
 intro b0 w0 k0 A0 B0 z0
 have S0:=S.newB B0 A0 k0
 refine g4 ?_
 refine yJ 10 (fun w'=>Arr w' b 120 (sCells lv mb)∧Arr w' b0 208 t.cells) S0 ?_
 intro w1 S1
 refine yT 0 S1.le ⟨S1.a1,S1.a0⟩ ?_
 refine yT 1 S1.le ⟨S1.a1,S1.a0⟩ ?_
 refine yT 2 S1.le ⟨S1.a1,S1.a0⟩ ?_
 refine yT 3 S1.le ⟨S1.a1,S1.a0⟩ ?_
 refine yT 4 S1.le ⟨S1.a1,S1.a0⟩ ?_
 refine yT 5 S1.le ⟨S1.a1,S1.a0⟩ ?_
 refine y1 6 ?_
 refine EL_litW (z:=#[.int .u8 0,.string (str ([]:List UInt8)),.string (str ([]:List UInt8)),.string (str ([]:List UInt8)),.string (str ([]:List UInt8))]) (cs:=(t.cells).toArray) (sz:=5) (l:=[(0,.agg (t.cells).toArray)]) rfl U118 (by kernel_rfl) (parts1 rfl) (by kernel_rfl) rfl (by decide) ?_
 intro v0 w2 O0 B1 k1
 have S2:Sat _ _ (Own 208 5 v0 1 [t.cells].flatten::_):=S1.newO B1 (by simpa using O0)
 refine yn S2.le ⟨S2.a2,S2.a1⟩ ?_
 refine y1 7 ?_
 refine EL_appW (z:=#[.int .u8 0,.string (str ([]:List UInt8)),.string (str ([]:List UInt8)),.string (str ([]:List UInt8)),.string (str ([]:List UInt8))]) (bytes:=72) 0 rfl U118 (by kernel_rfl) rfl (by decide) rfl rfl (S2.own 3 rfl) (S2.own 0 rfl) (by decide) (by simpa using cells_one t) (by first | omega | (simp;omega)) (by first | omega | (simp;omega)) (Nat.zero_le _) ?_
 intro v1 w3 O1 G0 A1
 have O30':=own_thing O1
 have S3:=S2.gr3 G0 O30' A1
 refine yn S3.le ⟨S3.a2,S3.a1⟩ ?_
 refine yT 8 S3.le ⟨S3.a2,S3.a1⟩ ?_
 refine yT 9 S3.le ⟨S3.a2,S3.a1⟩ ?_
 refine y1 10 ?_
 refine yS2 S3 ?_ (hu:=own_one (S3.own 3 rfl))
 intro w4 S4
 refine ym S4.le ?_
 refine yd ?_
 refine g7 ?_
 refine vl (.int .i64 ((L.length:Int)+1)) rfl (r_asn (by simp [things_len]) (r_lenW rfl (S4.wrow 3 rfl (things_all _) (by decide)) U118)) ?_
 refine g4 ?_
 refine f1 Tryz.results106 ?_
 exact ⟨v1,rfl,S4.dr0.dr0⟩
theorem once_c (p:Value) (L:List Thing) (t:Thing) (I:Gh) (R:List HP) (w:World) (S:Sat w I (Suite p L::R)) (hl:L.length≤1000000) (ht:t.ok) (ho:t.once=true):Ret Tryz.prog 118 [p,Thing.val t] w fun v w'=>.int .i64 (onceN t L:Int)=v∧Sat w' I (Suite p (onceL t L)::R):=by
 obtain ⟨b,lv,mb,K,rfl,hL,hK,S⟩:=Suite.opn S
 refine ret_E Tryz.func118 rfl Tryz.ntmps118 (by simp) ?_
 refine g2 ?_
 refine EL_box t.cells rfl rfl rfl ?_
 intro b0 w0 k0 A0 B0 z0
 have S0:=S.newB B0 A0 k0
 refine g4 ?_
 refine EC_quietB (by kernel_rfl) (by kernel_rfl) ?_
 refine g5 ?_
 obtain ⟨ar,ck,hm,he⟩:=S0.map 3 rfl
 refine EQ_val (.tuple #[.int .i64 (lookN t L),.bool (decide (idx t L≠none))]) rfl (fun _ hw=>r_lookup (kv:=t.val) law_thing U117 (by kernel_rfl) rfl rfl (map_below hm hw) he (kv_thing ht) (ent_kv hK hL) (look_no hK ho) (look_yes hK)) ?_
 refine g5 ?_
 refine yE S0 ?_
 intro w1 S1
 refine g8 ?_
 refine EC_cond (t:=!(decide (idx t L≠none))) rfl (fun h0=>?_) (fun h0=>?_)
 have hn:idx t L=none:=by simpa using h0
 refine g4 ?_
 refine yR (add_c _ _ mb L t _ _ _ S1.fr2.fr2 au) ?_
 rintro _ w2 ⟨lv'0,rfl,S2⟩
 refine g3 ?_
 refine yJ 6 (fun w'=>Arr w' b 120 (sCells lv'0 mb)∧Arr w' b0 208 t.cells) S2 ?_
 intro w3 S3
 refine yT 0 S3.le ⟨S3.a0,S3.a2⟩ ?_
 refine yT 1 S3.le ⟨S3.a0,S3.a2⟩ ?_
 refine yT 2 S3.le ⟨S3.a0,S3.a2⟩ ?_
 refine yT 3 S3.le ⟨S3.a0,S3.a2⟩ ?_
 refine yT 4 S3.le ⟨S3.a0,S3.a2⟩ ?_
 refine yT 5 S3.le ⟨S3.a0,S3.a2⟩ ?_
 refine y1 6 ?_
 obtain ⟨ar2,ck2,hm2,he2⟩:=S3.map 3 rfl
 refine EL_mapNew (kv:=t.val) law_thing U117 rfl rfl rfl hm2 he2 (kv_thing ht) (ent_kv hK hL) (ent_no hK hn) ?_
 intro w4 ar3 ck3 hm3 he3 G3
 have S4:Sat w4 I (Blk b 120 (sCells lv'0 mb)::Own 208 5 lv'0 ((L++[t]).length) (things (L++[t])).flatten::Blk b0 208 t.cells::Mp mb (entE (K++[(t,L.length+1)]))::R):=S3.mapW 3 rfl G3 hm3 (he3.trans (ent_app K t (L.length+1)))
 refine ym S4.le ?_
 refine yd ?_
 refine g8 ?_
 refine f1 Tryz.results118 ?_
 rw [(once_no hn).1,(once_no hn).2]
 exact ⟨rfl,Suite.cls (app_ok hL ht) (hK.new hn) S4.dr2⟩
 have hn:idx t L≠none:=by simpa using h0
 refine g9 ?_
 refine f1 Tryz.results118 ?_
 rw [(once_yes hn).2,←(once_yes hn).1]
 exact ⟨rfl,Suite.cls hL hK S1.dr0⟩
theorem Signs_c (I:Gh) (R:List HP) (w:World) (S:Sat w I (R)):Ret Tryz.prog 23 [] w fun v w'=>∃p:Value,p=v∧Sat w' I (Suite p ([]:List Thing)::R):=by
 refine ret_E Tryz.func23 rfl Tryz.ntmps23 (by simp) ?_
 refine g7 ?_
 refine EL_map rfl ?_
 intro b0 w0 k0 A0 B0
 have S0:=S.newM B0 A0 k0
 refine vl _ rfl (gB [.bool false,.slice none 0 0,.int .i64 0,.slice none 0 0,.map (some b0)] st_120 (parts1 rfl) (fill_one rfl rfl rfl fill_end)) ?_
 refine yB (cs:=[.bool false,.slice none 0 0,.int .i64 0,.slice none 0 0,.map (some b0)]) S0 ?_
 intro b1 w1 S1
 refine g4 ?_
 refine f1 Tryz.results23 ?_
 have S2:Sat _ _ (Own 208 5 (.slice none 0 0) (([]:List Thing).length) (things []).flatten::_):=S1.nil 208 5
 exact ⟨_,rfl,Suite.cls (L:=[]) (K:=[]) (fun t h=>by cases h) KOf.nil S2.fr2.fr1.fr2⟩
theorem sizes_c (v0:Value) (k:List UInt8) (v1:Value) (n:List UInt8) (w:World) (H0:Bs w v0 k) (H1:Bs w v1 n):Ret Tryz.prog 147 [v0,v1] w fun v w'=>.bool (decide ((k.length:Int)=32)&&decide ((n.length:Int)=12))=v∧Below w.heap.size w w':=by
 have S:=Sat.start w
 have Q0:=Row.ro H0
 have Q1:=Row.ro H1
 have lq0:=RoB.le Q0 S.le
 have lq1:=RoB.le Q1 S.le
 refine ret_E Tryz.func147 rfl Tryz.ntmps147 (by simp) ?_
 refine g8 ?_
 refine vl _ rfl (lenB (r_len rfl (Q0 _ S.le) U33)) ?_
 refine g3 ?_
 refine EL_gite 8 rfl rfl rfl (.int .i64 (n.length:Int)) rfl (fun g12=>lenB (r_len (cond_of g12 rfl) (Q1 _ S.le) U33)) ?_
 refine g6 ?_
 refine f1 Tryz.results147 ?_
 exact ⟨rfl,(Below.refl _ _)⟩
theorem Sum_c (p:Value) (L:List Thing) (v0:Value) (ls:List (List UInt8)) (I:Gh) (R:List HP) (w:World) (S:Sat w I (Suite p L::R)) (Q0:RoX I v0 bytesR ls) (hl:L.length≤1000000) (hb:ls.flatten.length≤1000000000):Ret Tryz.prog 86 [p,v0] w fun v w'=>∃v1:Value,v1=v∧Sat w' I (OwnB v1 (signOf 72 (onceN (tSum ls.flatten) L))::Suite p (onceL (tSum ls.flatten) L)::R):=by
 have lq0:=XRow.le (Q0.row S.le)
 obtain ⟨b,lv,mb,K,rfl,hL,hK,S⟩:=Suite.opn S
 refine ret_E Tryz.func86 rfl Tryz.ntmps86 (by simp) ?_
 refine g21 ?_
 refine yR (joined_c _ _ _ _ _ S Q0 au) ?_
 rintro _ w0 ⟨rfl,S0⟩
 refine vl _ rfl (gB [.int .u8 72,.string (str ([]:List UInt8)),.string (str ([]:List UInt8)),.string (str ls.flatten),.string (str ([]:List UInt8))] st_208 (parts2 rfl rfl) (fill_one rfl rfl rfl (fill_one rfl rfl rfl fill_end))) ?_
 have S1:Sat w0 I (Suite (ptr b) L::R):=Suite.cls hL hK S0
 refine yR (once_c _ _ (⟨(72:UInt8),[],[],ls.flatten,[]⟩:Thing) _ _ _ S1 au (by refine ⟨?_,?_,?_,?_⟩<;>first | (simp;done) | assumption | (simp;omega)) rfl) ?_
 rintro _ w1 ⟨rfl,S2⟩
 refine yR (signed_c (72:UInt8) (onceN (⟨(72:UInt8),[],[],ls.flatten,[]⟩:Thing) L:Int) _ _ _ S2 (by have:=onceN_le (⟨(72:UInt8),[],[],ls.flatten,[]⟩:Thing) L;omega)) ?_
 rintro _ w2 ⟨v2,rfl,S3⟩
 refine g4 ?_
 refine f1 Tryz.results86 ?_
 exact ⟨v2,rfl,S3⟩
theorem Code_c (p:Value) (L:List Thing) (v0:Value) (k:List UInt8) (v1:Value) (ls:List (List UInt8)) (I:Gh) (R:List HP) (w:World) (S:Sat w I (Suite p L::R)) (Q0:RoB I v0 k) (Q1:RoX I v1 bytesR ls) (hl:L.length≤1000000) (hk:k.length≤1000000000) (hb:ls.flatten.length≤1000000000):Ret Tryz.prog 120 [p,v0,v1] w fun v w'=>∃v2:Value,v2=v∧Sat w' I (OwnB v2 (signOf 77 (onceN (tCode k ls.flatten) L))::Suite p (onceL (tCode k ls.flatten) L)::R):=by
 have lq0:=RoB.le Q0 S.le
 have lq1:=XRow.le (Q1.row S.le)
 obtain ⟨b,lv,mb,K,rfl,hL,hK,S⟩:=Suite.opn S
 refine ret_E Tryz.func120 rfl Tryz.ntmps120 (by simp) ?_
 refine g18 ?_
 refine yJ 7 (fun w'=>True) S ?_
 intro w0 S0
 refine yT 0 S0.le trivial ?_
 refine yT 1 S0.le trivial ?_
 refine jT 2 rfl (by kernel_rfl) (.string (str k)) rfl (fun _ hw ht=>r_str rfl (Q0 _ hw) U33 U5 U9) ⟨S0.le,fun h=>trivial⟩ ?_
 refine yT 3 S0.le trivial ?_
 refine y1 4 ?_
 refine yR (joined_c _ _ _ _ _ S0 Q1 au) ?_
 rintro _ w1 ⟨rfl,S1⟩
 refine yn S1.le trivial ?_
 refine jT 5 rfl (by kernel_rfl) (.agg ([.int .u8 77,.string (str k),.string (str ([]:List UInt8)),.string (str ls.flatten),.string (str ([]:List UInt8))]).toArray) rfl (fun _ hw ht=>r_buildS (l:=[(0,.int .u8 77),(1,.string (str k)),(3,.string (str ls.flatten))]) st_208 (parts3 rfl rfl rfl) (Eq.trans (show Instr.fill _ _ [(0,.int .u8 77),(1,.string (str k)),(3,.string (str ls.flatten))]=_ from (fill_one rfl rfl rfl (fill_one rfl rfl rfl (fill_one rfl rfl rfl fill_end)))) (by kernel_rfl))) ⟨S1.le,fun h=>trivial⟩ ?_
 refine y1 6 ?_
 have S2:Sat w1 I (Suite (ptr b) L::R):=Suite.cls hL hK S1
 refine yR (once_c _ _ (⟨(77:UInt8),k,[],ls.flatten,[]⟩:Thing) _ _ _ S2 au (by refine ⟨?_,?_,?_,?_⟩<;>first | (simp;done) | assumption | (simp;omega)) rfl) ?_
 rintro _ w2 ⟨rfl,S3⟩
 refine yn S3.le trivial ?_
 refine y1 7 ?_
 refine yR (signed_c (77:UInt8) (onceN (⟨(77:UInt8),k,[],ls.flatten,[]⟩:Thing) L:Int) _ _ _ S3 (by have:=onceN_le (⟨(77:UInt8),k,[],ls.flatten,[]⟩:Thing) L;omega)) ?_
 rintro _ w3 ⟨v3,rfl,S4⟩
 refine ym S4.le ?_
 refine yf 8 S4.le ?_
 refine yd ?_
 refine g2 ?_
 refine f1 Tryz.results120 ?_
 exact ⟨v3,rfl,S4⟩
theorem Key_c (p:Value) (L:List Thing) (I:Gh) (R:List HP) (w:World) (S:Sat w I (Suite p L::R)) (hl:L.length≤1000000):Ret Tryz.prog 73 [p] w fun v w'=>∃v1:Value,v1=v∧Sat w' I (OwnB v1 (signOf 75 ((L.length:Int)+1))::Suite p (L++[tKey])::R):=by
 obtain ⟨b,lv,mb,K,rfl,hL,hK,S⟩:=Suite.opn S
 refine ret_E Tryz.func73 rfl Tryz.ntmps73 (by simp) ?_
 refine g20 ?_
 refine vl _ rfl (gB [.int .u8 75,.string (str ([]:List UInt8)),.string (str ([]:List UInt8)),.string (str ([]:List UInt8)),.string (str ([]:List UInt8))] st_208 (parts1 rfl) (fill_one rfl rfl rfl fill_end)) ?_
 refine yR (add_c _ _ mb L (⟨(75:UInt8),[],[],[],[]⟩:Thing) _ _ _ S au) ?_
 rintro _ w0 ⟨lv'0,rfl,S0⟩
 refine yR (signed_c (75:UInt8) ((L.length:Int)+1) _ _ _ S0 (by omega)) ?_
 rintro _ w1 ⟨v0,rfl,S1⟩
 refine g4 ?_
 refine f1 Tryz.results73 ?_
 have S2:Sat _ _ (Suite (ptr b) (L++[(⟨(75:UInt8),[],[],[],[]⟩:Thing)])::_):=Suite.cls (app_ok hL (by refine ⟨?_,?_,?_,?_⟩<;>simp)) (hK.other rfl) S1.fr3.fr3.fr3
 exact ⟨v0,rfl,S2.fr1⟩
theorem Seal_c (p:Value) (L:List Thing) (v0:Value) (k:List UInt8) (v1:Value) (n:List UInt8) (v2:Value) (o:List UInt8) (v3:Value) (x:List UInt8) (I:Gh) (R:List HP) (w:World) (S:Sat w I (Suite p L::R)) (Q0:RoB I v0 k) (Q1:RoB I v1 n) (Q2:RoB I v2 o) (Q3:RoB I v3 x) (hl:L.length≤1000000) (hk:k.length≤1000000000) (hn:n.length≤1000000000) (ho:o.length≤1000000000) (hx:x.length≤800000000):Ret Tryz.prog 109 [p,v0,v1,v2,v3] w fun v w'=>∃v4:Value,.tuple #[v4,.int .i64 (sealE k n)]=v∧Sat w' I (OwnB v4 (sealB L k n x)::Suite p (sealL L k n o x)::R):=by
 have lq0:=RoB.le Q0 S.le
 have lq1:=RoB.le Q1 S.le
 have lq2:=RoB.le Q2 S.le
 have lq3:=RoB.le Q3 S.le
 obtain ⟨b,lv,mb,K,rfl,hL,hK,S⟩:=Suite.opn S
 have hx2:x.length≤1000000000:=by omega
 refine ret_E Tryz.func109 rfl Tryz.ntmps109 (by simp) ?_
 refine g22 ?_
 refine yQ S (sizes_c v0 k v1 n _ (Q0 _ S.le) (Q1 _ S.le)) ?_
 intro w0 S0
 refine g4 ?_
 refine EC_cond (t:=!(decide ((k.length:Int)=32)&&decide ((n.length:Int)=12))) rfl (fun h0=>?_) (fun h0=>?_)
 have hz:szOk k n=false:=(Bool.not_eq_true' _).mp h0
 refine g9 ?_
 refine f2 Tryz.results109 ?_
 have S1:Sat w0 I (Suite (ptr b) L::R):=Suite.cls hL hK S0
 rw [show sealB L k n x=[] from by simp [sealB,hz],show sealL L k n o x=L from by simp [sealL,hz]]
 have S2:=S1.nilB
 exact ⟨(.slice none 0 0),(by simp [sealE,hz]),S2⟩
 have hz:szOk k n=true:=(Bool.not_eq_false' _).mp h0
 refine g7 ?_
 refine vl _ rfl (r_str rfl (Q0 _ S0.le) U33 U5 U9) ?_
 refine g1 ?_
 refine vl _ rfl (r_str rfl (Q1 _ S0.le) U33 U5 U9) ?_
 refine g1 ?_
 refine vl _ rfl (r_str rfl (Q3 _ S0.le) U33 U5 U9) ?_
 refine g1 ?_
 refine vl _ rfl (r_str rfl (Q2 _ S0.le) U33 U5 U9) (vl _ rfl (gB [.int .u8 66,.string (str k),.string (str n),.string (str x),.string (str o)] st_208 (parts5 rfl rfl rfl rfl rfl) (fill_one rfl rfl rfl (fill_one rfl rfl rfl (fill_one rfl rfl rfl (fill_one rfl rfl rfl (fill_one rfl rfl rfl fill_end)))))) ?_)
 refine yR (add_c _ _ mb L (⟨(66:UInt8),k,n,x,o⟩:Thing) _ _ _ S0 au) ?_
 rintro _ w1 ⟨lv'0,rfl,S3⟩
 refine g7 ?_
 refine vl _ rfl (lenB (r_len rfl (Q3 _ S3.le) U33)) ?_
 refine yR (box_c ((L.length:Int)+1) (x.length:Int) _ _ _ S3 au au) ?_
 rintro _ w2 ⟨v5,rfl,S4⟩
 refine g5 ?_
 refine f2 Tryz.results109 ?_
 have S5:Sat _ _ (Suite (ptr b) (L++[(⟨(66:UInt8),k,n,x,o⟩:Thing)])::_):=Suite.cls (app_ok hL (show (tBox k n o x).ok from ⟨by assumption,by assumption,by assumption,by assumption⟩)) (hK.other rfl) S4.fr3.fr3.fr3
 rw [show sealB L k n x=boxOf ((L.length:Int)+1) x.length from by simp [sealB,hz],show sealL L k n o x=L++[tBox k n o x] from by simp [sealL,hz]]
 rw [show ((x.length:Int)).toNat=x.length from by omega] at S5
 exact ⟨v5,(by simp [sealE,hz]),S5.fr1⟩
theorem Open_c (p:Value) (L:List Thing) (v0:Value) (k:List UInt8) (v1:Value) (n:List UInt8) (v2:Value) (o:List UInt8) (v3:Value) (x:List UInt8) (I:Gh) (R:List HP) (w:World) (S:Sat w I (Suite p L::R)) (Q0:RoB I v0 k) (Q1:RoB I v1 n) (Q2:RoB I v2 o) (Q3:RoB I v3 x) (hl:L.length≤1000000) (hk:k.length≤1000000000) (hn:n.length≤1000000000) (ho:o.length≤1000000000) (hx:x.length≤800000000) (hT:∀t∈L,t.text.length≤800000000):Ret Tryz.prog 169 [p,v0,v1,v2,v3] w fun v w'=>∃v4:Value,∃J:Gh,Gh.le I J∧.tuple #[v4,.int .i64 (openE L k n o x)]=v∧RoB J v4 (openB L k n o x)∧Sat w' J (Suite p L::R):=by
 have lq0:=RoB.le Q0 S.le
 have lq1:=RoB.le Q1 S.le
 have lq2:=RoB.le Q2 S.le
 have lq3:=RoB.le Q3 S.le
 obtain ⟨b,lv,mb,K,rfl,hL,hK,S⟩:=Suite.opn S
 have hx2:x.length≤1000000000:=by omega
 refine ret_E Tryz.func169 rfl Tryz.ntmps169 (by simp) ?_
 refine g22 ?_
 refine yQ S (sizes_c v0 k v1 n _ (Q0 _ S.le) (Q1 _ S.le)) ?_
 intro w0 S0
 refine g4 ?_
 refine EC_cond (t:=!(decide ((k.length:Int)=32)&&decide ((n.length:Int)=12))) rfl (fun h0=>?_) (fun h0=>?_)
 have hz:szOk k n=false:=(Bool.not_eq_true' _).mp h0
 refine g9 ?_
 refine f2 Tryz.results169 ?_
 have S1:Sat w0 I (Suite (ptr b) L::R):=Suite.cls hL hK S0
 rw [show openB L k n o x=[] from by simp [openB,hz]]
 exact ⟨(.slice none 0 0),I,(Gh.le_refl _),(by simp [openE,hz]),Ro.nil,S1⟩
 have hz:szOk k n=true:=(Bool.not_eq_false' _).mp h0
 refine g3 ?_
 refine vl _ rfl (lenB (r_len rfl (Q3 _ S0.le) U33)) ?_
 refine g4 ?_
 refine EC_if rfl (fun h3=>?_) (fun h3=>?_)
 have hz2:=open_short (L:=L) (k:=k) (n:=n) (o:=o) (b:=x) (by omega)
 refine g9 ?_
 refine f2 Tryz.results169 ?_
 have S2:Sat w0 I (Suite (ptr b) L::R):=Suite.cls hL hK S0
 rw [show openB L k n o x=[] from by simp [openB,hz,hz2]]
 exact ⟨(.slice none 0 0),I,(Gh.le_refl _),(by simp [openE,hz,hz2]),Ro.nil,S2⟩
 have hb16:¬x.length<16:=by omega
 refine g13 ?_
 refine vl _ rfl (lenB (r_len rfl (Q3 _ S0.le) U33)) ?_
 refine EL_int ((x.length:Int)-8) rfl (r_subi rfl rfl (by omega)) ?_
 intro x0 hx18
 refine vl (cutV v3 ((x0:Int).toNat) ((x.map byt).length)) rfl (r_slice rfl (Q3 _ S0.le) U33 (by kernel_rfl) ((x0:Int).toNat) ((x.map byt).length) as' as' (.inr ⟨_,_,rfl,(show _=Value.int .i64 ((x0:Int).toNat:Int) from by rw [Int.toNat_of_nonneg (by omega)];exact rfl)⟩) (.inl ⟨rfl,rfl⟩)) ?_
 have H0:RoB I (cutV v3 ((x0:Int).toNat) ((x.map byt).length)) (x.drop ((x0:Int).toNat)):=rob_as (RoB.cut Q3 ((x0:Int).toNat) ((x.map byt).length) as' as') (by simp)
 have L0:(x.drop ((x0:Int).toNat)).length=x.length-((x0:Int).toNat):=by first | (simp;done) | (simp;omega)
 refine vl (.int .i64 8) rfl (r_asn (by simp;omega) (lenB (r_len rfl (H0 _ S0.le) U33))) ?_
 refine g4 ?_
 refine EC_loop (fun m' E' w'=>∃j:Nat,m'=8-j∧E' 12=.int .i64 (IntKind.i64.wrap (numOf ((x.drop (x.length-8)).take j):Int))∧E' 43=.int .i64 (j:Int)∧E' 0=ptr b∧E' 1=v0∧E' 2=v1∧E' 3=v2∧E' 4=v3∧E' 10=.slice none 0 0∧E' 11=.int .i64 0∧E' 41=(cutV v3 ((x0:Int).toNat) ((x.map byt).length))∧E' 42=.int .i64 8∧(j≤8)∧Sat w' I (Blk b 120 (sCells lv mb)::Own 208 5 lv L.length (things L).flatten::Mp mb (entE K)::R)) _ ⟨0,rfl,rfl,rfl,rfl,rfl,rfl,rfl,rfl,rfl,rfl,rfl,rfl,Nat.zero_le _,S0⟩ ?_
 rintro _ E0 w1 ⟨j,rfl,e0,e1,e2,e3,e4,e5,e6,e7,e8,e9,e10,hj,S3⟩
 refine g6 ?_
 refine EC_if rfl (fun h4=>?_) (fun h4=>?_)
 refine g6 ?_
 refine vl (.pointer (some (at_ (cutV v3 ((x0:Int).toNat) ((x.map byt).length)) (((j:Int):Int).toNat)))) rfl (r_index (by exact e9) (H0 _ S3.le) (by exact e1) (by omega) as' U33 (by kernel_rfl)) ?_
 obtain ⟨b0,hb0⟩:=get_some (l:=x.drop ((x0:Int).toNat)) (j:=((j:Int):Int).toNat) as'
 have hb1:=b0.toNat_lt
 refine vl _ rfl (r_load rfl ((H0 _ S3.le).cell (bs_get hb0)) U5 rfl) ?_
 refine g5 ?_
 refine vl (.int .i64 (IntKind.i64.wrap ((IntKind.i64.wrap (numOf ((x.drop (x.length-8)).take j):Int))*256))) rfl (r_shl8 rfl rfl) ?_
 refine g1 ?_
 refine vl (.int .i64 (b0.toNat:Int)) rfl (r_convi 5 3 rfl U5 U3 (by omega)) (vl (.int .i64 (IntKind.i64.wrap ((IntKind.i64.wrap (numOf ((x.drop (x.length-8)).take j):Int))*256+(b0.toNat:Int)))) rfl (r_or8 rfl rfl) ?_)
 refine g5 ?_
 refine EL_int ((j:Int)+1) rfl (r_addi (by exact e1) rfl (by omega)) ?_
 intro x1 hx39
 refine g3 ?_
 rw [show (x0:Int).toNat=x.length-8 by omega] at hb0
 refine ⟨_,?_,j+1,rfl,(Eq.trans (show _=Value.int .i64 (IntKind.i64.wrap (IntKind.i64.wrap (numOf ((x.drop (x.length-8)).take j):Int)*256+(b0.toNat:Int))) from rfl) (congrArg _ (num_step (j:=j) hb0))),(Eq.trans (show _=Value.int .i64 x1 from rfl) (congrArg _ (by omega))),(by exact e2),(by exact e3),(by exact e4),(by exact e5),(by exact e6),(by exact e7),(by exact e8),(by exact e9),(by exact e10),by omega,S3⟩
 first | omega | (simp;omega)
 refine g16 ?_
 refine EL_gite 55 rfl rfl rfl (.int .i64 (L.length:Int)) rfl (fun g45=>r_asn (by simp [things_len]) (r_lenW (cond_of g45 rfl) (S3.wrow 1 rfl (things_all _) (by decide)) U118)) ?_
 refine g4 ?_
 refine EC_cond (t:=(decide ((IntKind.i64.wrap (numOf ((x.drop (x.length-8)).take j):Int))<1))||(decide ((L.length:Int)<(IntKind.i64.wrap (numOf ((x.drop (x.length-8)).take j):Int))))) rfl (fun h5=>?_) (fun h5=>?_)
 have et:(x.drop (x.length-8)).take j=x.drop (x.length-8):=List.take_of_length_le (by simp;omega)
 rw [et] at h5
 have hz2:=open_out (k:=k) (n:=n) (o:=o) hb16 hl (by simpa using h5)
 refine g8 ?_
 refine f2 Tryz.results169 ?_
 have S4:Sat w1 I (Suite (ptr b) L::R):=Suite.cls hL hK S3
 rw [show openB L k n o x=[] from by simp [openB,hz,hz2]]
 exact ⟨(.slice none 0 0),I,(Gh.le_refl _),(by simp [openE,hz,hz2]),Ro.nil,S4⟩
 have et:(x.drop (x.length-8)).take j=x.drop (x.length-8):=List.take_of_length_le (by simp;omega)
 rw [et] at h5
 obtain ⟨t,hat,hN,hN1,hN2,hop⟩:=open_at (L:=L) (k:=k) (n:=n) (o:=o) hb16 (by simpa using h5)
 have htk:=hL t (List.mem_of_getElem? hat)
 have hu:(tBox k n o t.text).ok:=⟨by assumption,by assumption,htk.2.2.1,by assumption⟩
 have htx:t.text.length≤800000000:=hT t (List.mem_of_getElem? hat)
 refine g8 ?_
 refine vl (.int .i64 (numOf (x.drop (x.length-8)):Int)) rfl (r_asn (m:=IntKind.i64.wrap (numOf ((x.drop (x.length-8)).take j):Int)) (by rw [et];exact hN) (r_move (by exact e0))) ?_
 refine EL_int ((numOf (x.drop (x.length-8)):Int)-1) rfl (r_subi rfl rfl (by omega)) ?_
 intro x2 hx49
 refine vl (.pointer (some (atW lv 5 (x2:Int).toNat))) rfl (r_indexW rfl (S3.wrow 1 rfl (things_all _) (by decide)) rfl (by omega) (by rw [things_len];omega) U118 (by kernel_rfl)) (vl (.agg (t.cells).toArray) rfl (r_loadW rfl (S3.wrow 1 rfl (things_all _) (by decide)) (things_at (show L[(x2:Int).toNat]?=some t from by rw [show (x2:Int).toNat=numOf (x.drop (x.length-8))-1 by omega];exact hat)) U208 rfl (by rw [cells_len];kernel_rfl)) ?_)
 refine yN [.int .u8 0,.string (str ([]:List UInt8)),.string (str ([]:List UInt8)),.string (str ([]:List UInt8)),.string (str ([]:List UInt8))] S3 ?_
 intro b1 w2 S5
 refine yW0 S5 ?_ (h1:=fun u h=>cells_one t u (by simpa using h))
 intro w3 S6
 refine g4 ?_
 rcases Classical.em (t=tBox k n o t.text) with hA | hA
 refine yJ 16 (fun w'=>Arr w' b1 208 [.int .u8 (t.sort.toNat:Int),.string (str t.key),.string (str t.nonce),.string (str t.text),.string (str t.other)]) S6 ?_
 intro w4 S7
 refine yT 0 S7.le (S7.a0) ?_
 refine yT 1 S7.le (S7.a0) ?_
 refine jT 2 rfl (by kernel_rfl) (.string (str k)) rfl (fun _ hw ht=>r_str rfl (Q0 _ hw) U33 U5 U9) ⟨S7.le,fun h=>S7.a0⟩ ?_
 refine yT 3 S7.le (S7.a0) ?_
 refine jT 4 rfl (by kernel_rfl) (.string (str n)) rfl (fun _ hw ht=>r_str rfl (Q1 _ hw) U33 U5 U9) ⟨S7.le,fun h=>S7.a0⟩ ?_
 refine yT 5 S7.le (S7.a0) ?_
 refine yT 6 S7.le (S7.a0) ?_
 refine yT 7 S7.le (S7.a0) ?_
 refine jT 8 rfl (by kernel_rfl) (.string (str o)) rfl (fun _ hw ht=>r_str rfl (Q2 _ hw) U33 U5 U9) ⟨S7.le,fun h=>S7.a0⟩ ?_
 refine jT 9 rfl (by kernel_rfl) (.agg ([.int .u8 66,.string (str k),.string (str n),.string (str t.text),.string (str o)]).toArray) rfl (fun _ hw ht=>r_buildS (l:=[(0,.int .u8 66),(1,.string (str k)),(2,.string (str n)),(3,.string (str t.text)),(4,.string (str o))]) st_208 (parts5 rfl rfl rfl rfl rfl) (Eq.trans (show Instr.fill _ _ [(0,.int .u8 66),(1,.string (str k)),(2,.string (str n)),(3,.string (str t.text)),(4,.string (str o))]=_ from (fill_one rfl rfl rfl (fill_one rfl rfl rfl (fill_one rfl rfl rfl (fill_one rfl rfl rfl (fill_one rfl rfl rfl fill_end)))))) (by kernel_rfl))) ⟨S7.le,fun h=>S7.a0⟩ ?_
 refine jT 10 rfl (by kernel_rfl) (.bool false) rfl (fun _ hw ht=>r_neqS (xs:=t.cells.toArray) (ys:=(tBox k n o t.text).cells.toArray) (b:=true) (by kernel_rfl) (by kernel_rfl) (by kernel_rfl) (by kernel_rfl) rfl rfl (kv_thing htk) (kv_thing hu) (by rw [show ((Value.agg t.cells.toArray:Value)=.agg (tBox k n o t.text).cells.toArray)↔t=tBox k n o t.text from val_inj];first | exact ⟨fun _=>hA,fun _=>rfl⟩ | exact ⟨fun h=>(by cases h),fun h=>absurd h hA⟩)) ⟨S7.le,fun h=>S7.a0⟩ ?_
 refine yT 11 S7.le (S7.a0) ?_
 refine jG 12 rfl (by kernel_rfl) 83 rfl rfl rfl rfl (.int .i64 (numOf (x.drop (x.length-8)):Int)) rfl (fun _ hw ht=>r_asn (m:=IntKind.i64.wrap (numOf ((x.drop (x.length-8)).take j):Int)) (by rw [et];exact hN) (r_move (by exact e0))) ⟨S7.le,fun h=>S7.a0⟩ ?_
 refine yg 13 (yt S7.le (S7.a0)) ?_
 refine yg 14 (yt S7.le (S7.a0)) ?_
 refine jG 15 rfl (by kernel_rfl) 83 rfl rfl rfl rfl (.int .i64 (t.text.length:Int)) rfl (fun _ hw ht=>r_lenS rfl U9) ⟨S7.le,fun h=>S7.a0⟩ ?_
 refine yh 18 (yt S7.le (S7.a0)) ?_
 refine EJ_gfloat 19 rfl (by kernel_rfl) (by kernel_rfl) (by kernel_rfl) rfl 83 rfl rfl rfl rfl (.string (str x)) rfl (fun _ hw=>r_str rfl (Q3 _ hw) U33 U5 U9) ⟨S7.le,fun h=>S7.a0⟩ ?_
 refine y1 16 ?_
 refine yG (box_c (numOf (x.drop (x.length-8)):Int) (t.text.length:Int) _ _ _ S7 (by omega) au) ?_
 rintro _ w5 ⟨v5,rfl,S8⟩
 refine ym S8.le ?_
 obtain ⟨I0,le0,S9,H1⟩:=S8.fb0
 refine yu le0 ?_
 refine EJ_gfloat 17 rfl (by kernel_rfl) (by kernel_rfl) (by kernel_rfl) rfl 83 rfl rfl rfl rfl (.string (str (boxOf (numOf (x.drop (x.length-8)):Int) (t.text.length:Int).toNat))) rfl (fun _ hw=>r_str rfl (H1 _ hw) U33 U5 U9) ⟨S9.le,fun h=>by cases h⟩ ?_
 refine EJ_gfloat 20 rfl (by kernel_rfl) (by kernel_rfl) (by kernel_rfl) rfl 83 rfl rfl rfl rfl (.bool (decide ((boxOf (numOf (x.drop (x.length-8)):Int) (t.text.length:Int).toNat)≠x))) rfl (fun _ hw=>r_neqs rfl rfl) ⟨S9.le,fun h=>by cases h⟩ ?_
 refine yf 21 S9.le ?_
 refine yd ?_
 refine g1 ?_
 refine EC_if rfl (fun h6=>?_) (fun h6=>?_)
 have hz2:openOf L k n o x=none:=by rw [hop];exact if_neg (fun h2=>h6 h2.2)
 refine g8 ?_
 refine f2 Tryz.results169 ?_
 have S10:Sat w5 I0 (Suite (ptr b) L::R):=Suite.cls hL hK S9.dr0
 rw [show openB L k n o x=[] from by simp [openB,hz,hz2]]
 exact ⟨(.slice none 0 0),I0,le0,(by simp [openE,hz,hz2]),Ro.nil,S10⟩
 have hz2:openOf L k n o x=some t.text:=by rw [hop];exact if_pos ⟨hA,Decidable.not_not.mp h6⟩
 refine g6 ?_
 refine EL_bytes (l:=t.text) rfl rfl U9 U33 U5 (by first | omega | (simp;omega)) ?_
 intro v6 w6 B0 V0 R0 V80l
 obtain ⟨I1,le1,S11,H2⟩:=S9.newR B0 V0 R0 V80l
 refine g5 ?_
 refine f2 Tryz.results169 ?_
 have S12:Sat w6 I1 (Suite (ptr b) L::R):=Suite.cls hL hK S11.dr0
 rw [show openB L k n o x=t.text from by simp [openB,hz,hz2]]
 exact ⟨v6,I1,(lT le0 le1),(by simp [openE,hz,hz2]),H2,S12⟩
 have hz2:openOf L k n o x=none:=by rw [hop];exact if_neg (fun h=>hA h.1)
 refine EC_quietB (by kernel_rfl) (by kernel_rfl) ?_
 refine g2 ?_
 refine EQ_val (.string (str k)) rfl (fun _ hw=>r_str rfl ((Q0 _ S6.le).below hw) U33 U5 U9) ?_
 refine g1 ?_
 refine EQ_val (.string (str n)) rfl (fun _ hw=>r_str rfl ((Q1 _ S6.le).below hw) U33 U5 U9) ?_
 refine g3 ?_
 refine EQ_val (.string (str o)) rfl (fun _ hw=>r_str rfl ((Q2 _ S6.le).below hw) U33 U5 U9) (EQ_val (.agg ([.int .u8 66,.string (str k),.string (str n),.string (str t.text),.string (str o)]).toArray) rfl (fun _ hw=>r_buildS (l:=[(0,.int .u8 66),(1,.string (str k)),(2,.string (str n)),(3,.string (str t.text)),(4,.string (str o))]) st_208 (parts5 rfl rfl rfl rfl rfl) (Eq.trans (show Instr.fill _ _ [(0,.int .u8 66),(1,.string (str k)),(2,.string (str n)),(3,.string (str t.text)),(4,.string (str o))]=_ from (fill_one rfl rfl rfl (fill_one rfl rfl rfl (fill_one rfl rfl rfl (fill_one rfl rfl rfl (fill_one rfl rfl rfl fill_end)))))) (by kernel_rfl))) (EQ_val (.bool true) rfl (fun _ hw=>r_neqS (xs:=t.cells.toArray) (ys:=(tBox k n o t.text).cells.toArray) (b:=false) (by kernel_rfl) (by kernel_rfl) (by kernel_rfl) (by kernel_rfl) rfl rfl (kv_thing htk) (kv_thing hu) (by rw [show ((Value.agg t.cells.toArray:Value)=.agg (tBox k n o t.text).cells.toArray)↔t=tBox k n o t.text from val_inj];first | exact ⟨fun _=>hA,fun _=>rfl⟩ | exact ⟨fun h=>(by cases h),fun h=>absurd h hA⟩)) ?_))
 refine g11 ?_
 refine yE S6 ?_
 intro w7 S13
 refine g10 ?_
 refine f2 Tryz.results169 ?_
 have S14:Sat w7 I (Suite (ptr b) L::R):=Suite.cls hL hK S13.dr0
 rw [show openB L k n o x=[] from by simp [openB,hz,hz2]]
 exact ⟨(.slice none 0 0),I,(Gh.le_refl _),(by simp [openE,hz,hz2]),Ro.nil,S14⟩
end Go.Proofs.YthddplghlljdbaaGreat
