import Derived.Test.YthddplghlljdbaaGreatQWorldPostPolC
import Derived.Test.YthddplghlljdbaaGreatQWorldPostChnA
set_option linter.unusedVariables false
set_option linter.unusedSimpArgs false
set_option maxRecDepth 100000
set_option maxHeartbeats 4000000
namespace Go.Proofs.YthddplghlljdbaaGreat
open Go.RowKit Go.Ecal
theorem RKey_c (p:Value) (ks:List (List UInt8)) (e:Int) (I:Gh) (R:List HP) (w:World) (S:Sat w I (RingP p ks::R)) (hsm:∀k∈ks,k.length≤1000):Ret Tryz.prog 102 [p,.int .i64 e] w fun v w'=>∃v1:Value,.tuple #[v1,.bool (!(keyAt ks e).isEmpty)]=v∧Sat w' I (OwnB v1 (keyAt ks e)::RingP p ks::R):=by
 obtain ⟨b,vs,rfl,hk17,hA,S0⟩:=RingP.opn S
 have hvl:vs.length=17:=hA.len.trans hk17
 refine ret_E Tryz.func102 rfl Tryz.ntmps102 (by simp) ?_
 refine g8 ?_
 rcases (by omega:(0≤e∧e≤16)∨e<0∨16<e) with hre | hre | hre
 refine g2 ?_
 refine vl _ rfl (dcF (r_lss rfl rfl) (by simp;omega)) ?_
 refine g2 ?_
 refine gl 8 rfl rfl rfl rfl _ rfl (dcF (r_gtr rfl rfl) (by simp;omega)) ?_
 refine g6 ?_
 refine gl  12 rfl rfl rfl rfl (ptr b (0+(e:Int).toNat)) rfl (r_indexP (i:=e) rfl rfl (by omega) (by omega) U185 (by kernel_rfl)) ?_
 obtain ⟨u0,hu0,hc0⟩:=hA.get (keyAt_get (e:=e) hk17 (by omega))
 refine gl  12 rfl rfl rfl rfl u0 rfl (r_loadA rfl (S0.a0) (u:=u0) (by simpa using hu0) U33 rfl) (gl  12 rfl rfl rfl rfl (.bool ((keyAt ks e).isEmpty)) rfl (r_dec (show (isNil u0)=(keyAt ks e).isEmpty from by rw [hc0.2.2]) (r_eqnil rfl (hc0.2.1 _ S0.le) rfl U33)) ?_)
 refine g3 ?_
 refine EC_cond (t:=(keyAt ks e).isEmpty) rfl (fun h0=>?_) (fun h0=>?_)
 have hke:keyAt ks e=[]:=List.isEmpty_iff.1 h0
 refine g8 ?_
 refine f2 Tryz.results102 ?_
 have S1:Sat w I (RingP (ptr b) ks::R):=RingP.cls hk17 hA S0
 rw [hke]
 have S2:=S1.nilB
 exact ⟨(.slice none 0 0),rfl,S2⟩
 have hke:keyAt ks e≠[]:=fun h=>by rw [h] at h0;cases h0
 refine g8 ?_
 refine vl (ptr b (0+(e:Int).toNat)) rfl (r_indexP (i:=e) rfl rfl (by omega) (by omega) U185 (by kernel_rfl)) ?_
 obtain ⟨u1,hu1,hc1⟩:=hA.get (keyAt_get (e:=e) hk17 (by omega))
 refine vl u1 rfl (r_loadA rfl (S0.a0) (u:=u1) (by simpa using hu1) U33 rfl) ?_
 refine yR (Clone_c _ _ _ _ _ S0 hc1.2.1 (Nat.le_trans (hsm _ (List.mem_of_getElem? (keyAt_get hk17 hre))) (by decide))) ?_
 rintro _ w0 ⟨v0,rfl,h1,S3⟩
 refine g5 ?_
 refine f2 Tryz.results102 ?_
 have S4:Sat _ _ (RingP (ptr b) ks::_):=RingP.cls hk17 hA S3.fr1
 exact ⟨v0,(by simp [hke]),S4.fr1⟩
 refine g2 ?_
 refine vl _ rfl (dcT (r_lss rfl rfl) (by simp;omega)) ?_
 refine g24 ?_
 refine f2 Tryz.results102 ?_
 have S5:Sat w I (RingP (ptr b) ks::R):=RingP.cls hk17 hA S0
 have hke:keyAt ks e=[]:=if_neg (by omega)
 rw [hke]
 have S6:=S5.nilB
 exact ⟨(.slice none 0 0),rfl,S6⟩
 refine g2 ?_
 refine vl _ rfl (dcF (r_lss rfl rfl) (by simp;omega)) ?_
 refine g2 ?_
 refine gl 8 rfl rfl rfl rfl _ rfl (dcT (r_gtr rfl rfl) (by simp;omega)) ?_
 refine g21 ?_
 refine f2 Tryz.results102 ?_
 have S7:Sat w I (RingP (ptr b) ks::R):=RingP.cls hk17 hA S0
 have hke:keyAt ks e=[]:=if_neg (by omega)
 rw [hke]
 have S8:=S7.nilB
 exact ⟨(.slice none 0 0),rfl,S8⟩
theorem Learn_c (p:Value) (ks:List (List UInt8)) (e:Int) (v0:Value) (k:List UInt8) (I:Gh) (R:List HP) (w:World) (S:Sat w I (RingP p ks::R)) (Q0:RoB I v0 k):Ret Tryz.prog 173 [p,.int .i64 e,v0] w fun v w'=>∃J:Gh,Gh.le I J∧.int .i64 (learnE ks e k)=v∧Sat w' J (RingP p (learnK ks e k)::R):=by
 have lq0:=RoB.le Q0 S.le
 obtain ⟨b,vs,rfl,hk17,hA,S0⟩:=RingP.opn S
 have hvl:vs.length=17:=hA.len.trans hk17
 refine ret_E Tryz.func173 rfl Tryz.ntmps173 (by simp) ?_
 refine g8 ?_
 rcases (by omega:(1≤e∧e≤16)∨e<1∨16<e) with hre | hre | hre
 have hre0:0≤e∧e≤16:=by omega
 refine g2 ?_
 refine vl _ rfl (dcF (r_lss rfl rfl) (by simp;omega)) ?_
 refine g2 ?_
 refine gl 10 rfl rfl rfl rfl _ rfl (dcF (r_gtr rfl rfl) (by simp;omega)) ?_
 refine g8 ?_
 refine vl _ rfl (lenB (r_len rfl (Q0 _ S0.le) U33)) ?_
 refine g4 ?_
 refine EC_if rfl (fun h0=>?_) (fun h0=>?_)
 have hk32:¬k.length=32:=by omega
 refine g8 ?_
 refine f1 Tryz.results173 ?_
 have hE:learnE ks e k=11:=by rw [learnE,if_pos hre,if_neg hk32]
 have S1:Sat w I (RingP (ptr b) ks::R):=RingP.cls hk17 hA S0
 rw [show learnK ks e k=ks from by rw [learnK,hE];rfl]
 exact ⟨I,(Gh.le_refl _),(by rw [hE]),S1⟩
 have hk32:k.length=32:=by omega
 have hnk:isNil v0=k.isEmpty:=by rw [isNil_of Q0 S.le (fun h=>by rw [h] at hk32;cases hk32)];cases k with | nil=>cases hk32 | cons a r=>rfl
 refine g6 ?_
 refine vl (ptr b (0+(e:Int).toNat)) rfl (r_indexP (i:=e) rfl rfl (by omega) (by omega) U185 (by kernel_rfl)) ?_
 obtain ⟨u0,hu0,hc0⟩:=hA.get (keyAt_get (e:=e) hk17 (by omega))
 refine vl u0 rfl (r_loadA rfl (S0.a0) (u:=u0) (by simpa using hu0) U33 rfl) (vl (.bool (!((keyAt ks e).isEmpty))) rfl (r_dec (show (!isNil u0)=!((keyAt ks e).isEmpty) from by rw [hc0.2.2]) (r_neqnil rfl (hc0.2.1 _ S0.le) rfl U33)) ?_)
 refine g3 ?_
 refine EC_cond (t:=!((keyAt ks e).isEmpty)) rfl (fun h1=>?_) (fun h1=>?_)
 have hke:¬keyAt ks e=[]:=fun h=>by rw [h] at h1;cases h1
 refine g8 ?_
 refine f1 Tryz.results173 ?_
 have hE:learnE ks e k=31:=by rw [learnE,if_pos hre,if_pos hk32,if_neg (fun h=>hke (List.isEmpty_iff.1 h))]
 have S2:Sat w I (RingP (ptr b) ks::R):=RingP.cls hk17 hA S0
 rw [show learnK ks e k=ks from by rw [learnK,hE];rfl]
 exact ⟨I,(Gh.le_refl _),(by rw [hE]),S2⟩
 have hke:keyAt ks e=[]:=List.isEmpty_iff.1 ((Bool.not_eq_false' _).mp h1)
 refine g4 ?_
 refine yJ 7 (fun w'=>True) S0 ?_
 intro w0 S3
 refine yT 0 S3.le trivial ?_
 refine yT 1 S3.le trivial ?_
 refine yT 2 S3.le trivial ?_
 refine yT 4 S3.le trivial ?_
 refine yT 5 S3.le trivial ?_
 refine y1 3 ?_
 refine yR (Clone_c _ _ _ _ _ S3 Q0 (by omega)) ?_
 rintro _ w1 ⟨v1,rfl,h2,S4⟩
 refine yn S4.le trivial ?_
 refine jT 6 rfl (by kernel_rfl) (ptr b (0+(e:Int).toNat)) rfl (fun _ hw ht=>r_indexP (i:=e) rfl rfl (by omega) (by omega) U185 (by kernel_rfl)) ⟨S4.le,fun h=>trivial⟩ ?_
 refine y1 7 ?_
 refine EL_storeA (u:=v1) rfl rfl (S4.a1) (by first | decide | (simp;omega) | simp) (own_one (S4.own 0 rfl)) (by kernel_rfl) ?_
 intro w2 A0 K0 z0
 have S5:=S4.wr1 (ds:=(vs.set (0+(e:Int).toNat) v1)) K0 A0
 refine ym S5.le ?_
 refine yd ?_
 refine g7 ?_
 refine f1 Tryz.results173 ?_
 obtain ⟨I0,le0,S6,H0⟩:=S5.fb0
 have hE:learnE ks e k=0:=by rw [learnE,if_pos hre,if_pos hk32,if_pos (List.isEmpty_iff.2 hke)]
 have hA2:=(hA.imp fun _ _=>cellN.up le0).set (e:Int).toNat (a:=v1) (b:=k) ⟨(row_one (H0 _ S6.le)),H0,by rw [h2];exact hnk⟩
 have S7:Sat w2 I0 (RingP (ptr b) (ks.set e.toNat k)::R):=RingP.cls (by simpa using hk17) (by simpa using hA2) S6
 have q0:ks.set e.toNat k=learnK ks e k:=by rw [learnK,if_pos hE]
 have S8:=Sat.ah0 (RingP (ptr b)) S7 q0
 exact ⟨I0,le0,(by rw [hE]),S8⟩
 refine g2 ?_
 refine vl _ rfl (dcT (r_lss rfl rfl) (by simp;omega)) ?_
 refine g16 ?_
 refine f1 Tryz.results173 ?_
 have hE:learnE ks e k=12:=by rw [learnE,if_neg (by omega)]
 have S9:Sat w I (RingP (ptr b) ks::R):=RingP.cls hk17 hA S0
 rw [show learnK ks e k=ks from by rw [learnK,hE];rfl]
 exact ⟨I,(Gh.le_refl _),(by rw [hE]),S9⟩
 refine g2 ?_
 refine vl _ rfl (dcF (r_lss rfl rfl) (by simp;omega)) ?_
 refine g2 ?_
 refine gl 10 rfl rfl rfl rfl _ rfl (dcT (r_gtr rfl rfl) (by simp;omega)) ?_
 refine g13 ?_
 refine f1 Tryz.results173 ?_
 have hE:learnE ks e k=12:=by rw [learnE,if_neg (by omega)]
 have S10:Sat w I (RingP (ptr b) ks::R):=RingP.cls hk17 hA S0
 rw [show learnK ks e k=ks from by rw [learnK,hE];rfl]
 exact ⟨I,(Gh.le_refl _),(by rw [hE]),S10⟩
theorem RNew_c (p:Value) (L:List Thing) (v0:Value) (s:List UInt8) (I:Gh) (R:List HP) (w:World) (S:Sat w I (Suite p L::R)) (Q0:RoB I v0 s) (hl:L.length≤1000000) (hs:s.length≤100000):Ret Tryz.prog 62 [p,v0] w fun v w'=>∃r:Value,∃J:Gh,Gh.le I J∧r=v∧Sat w' J (RingP r (ring0 (keyFor L s uEpoch 0))::Suite p (onceL (derT s uEpoch 0) L)::R):=by
 have lq0:=RoB.le Q0 S.le
 refine ret_E Tryz.func62 rfl Tryz.ntmps62 (by simp) ?_
 refine g7 ?_
 refine vl _ rfl (gB [.slice none 0 0,.slice none 0 0,.slice none 0 0,.slice none 0 0,.slice none 0 0,.slice none 0 0,.slice none 0 0,.slice none 0 0,.slice none 0 0,.slice none 0 0,.slice none 0 0,.slice none 0 0,.slice none 0 0,.slice none 0 0,.slice none 0 0,.slice none 0 0,.slice none 0 0] st_187 rfl fill_end) ?_
 refine yB (cs:=[.slice none 0 0,.slice none 0 0,.slice none 0 0,.slice none 0 0,.slice none 0 0,.slice none 0 0,.slice none 0 0,.slice none 0 0,.slice none 0 0,.slice none 0 0,.slice none 0 0,.slice none 0 0,.slice none 0 0,.slice none 0 0,.slice none 0 0,.slice none 0 0,.slice none 0 0]) S ?_
 intro b0 w0 S0
 refine g4 ?_
 refine yJ 7 (fun w'=>True) S0 ?_
 intro w1 S1
 refine yT 0 S1.le trivial ?_
 refine yT 1 S1.le trivial ?_
 refine yT 2 S1.le trivial ?_
 refine yT 4 S1.le trivial ?_
 refine yT 5 S1.le trivial ?_
 refine y1 3 ?_
 refine yR (derived_c _ _ _ _ uEpoch 0 _ _ _ S1.fr1 Q0 au (by omega) (by decide) au) ?_
 rintro _ w2 ⟨v1,I0,le0,rfl,S2⟩
 have hnz:isNil v1=false:=isNil_own S2 0 rfl (by rw [keyFor];simp [signOf])
 refine yn (lT le0 S2.le) trivial ?_
 refine yu le0 ?_
 refine jT 6 rfl (by kernel_rfl) (ptr b0 0) rfl (fun _ hw ht=>r_indexP (i:=0) rfl rfl (by omega) (by omega) U185 (by kernel_rfl)) ⟨S2.le,fun h=>trivial⟩ ?_
 refine y1 7 ?_
 refine yS2 S2 ?_ (hu:=own_one (S2.own 0 rfl))
 intro w3 S3
 refine ym S3.le ?_
 refine yd ?_
 refine g8 ?_
 refine f1 Tryz.results62 ?_
 obtain ⟨I1,le1,S4,H0⟩:=S3.fb0
 have S5:=S4.fr1
 have hA2:All2 (cellN I1) (v1::List.replicate 16 (.slice none 0 0)) (ring0 (keyFor L s uEpoch 0)):=.cons ⟨(row_one (H0 _ S5.le)),H0,by rw [hnz];rfl⟩ (All2.rep ⟨rfl,Ro.nil,rfl⟩ 16)
 have S6:Sat _ _ (RingP (ptr b0) (ring0 (keyFor L s uEpoch 0))::_):=RingP.cls (by rfl) hA2 S5
 exact ⟨(ptr b0),I1,(lT le0 le1),rfl,S6⟩
end Go.Proofs.YthddplghlljdbaaGreat

namespace Go.Proofs.YthddplghlljdbaaGreat
open Go.RowKit Go.Ecal
structure Rpl.ok (s:Rpl):Prop where
 seen:s.seen.length=17
 seenN:∀n∈s.seen,0≤n∧n≤1099511627776
 ks:KsOk s.ks
 num:(1≤s.coll∧s.coll≤1099511627776)∧(1≤s.founder∧s.founder≤16)∧(1≤s.who∧s.who≤16)∧(1≤s.pol.founder∧s.pol.founder≤16)∧0≤s.pol.epoch∧s.pol.epoch≤16
def rplC (s:Rpl) (p sv cv vm dv rv:Value):List Value:=[p,.int .i64 s.coll,.int .i64 s.founder,.int .i64 s.who,sv,cv,.int .i64 s.pol.founder,.int .i64 s.pol.epoch,vm,dv,rv]++s.seen.map (Value.int .i64)
def RplP (q p:Value) (s:Rpl):HP:=.ex fun b=>.ex fun sv=>.ex fun cv=>.ex fun vm=>.ex fun dv=>.ex fun rv =>
 Sep [.prop (q=ptr b∧s.ok∧cv.oneCell'=true∧dv.oneCell'=true∧rv.oneCell'=true),.fact ⟨fun I=>RoB I sv s.sec∧RoX I vm memR s.pol.mem,fun h k=>⟨k.1.up h,k.2.up h⟩⟩,
  Blk b 107 (rplC s p sv cv vm dv rv),ChainP cv p s.ch,DocsP dv s.docs,RingP rv s.ks]
section
variable {w : World} {I : Gh} {R : List HP} {q p : Value} {s : Rpl}
theorem RplP.opn (S : Sat w I (RplP q p s :: R)) : ∃ b sv cv vm dv rv, q = ptr b ∧ s.ok ∧ cv.oneCell' = true ∧ dv.oneCell' = true ∧ rv.oneCell' = true ∧ RoB I sv s.sec ∧ RoX I vm memR s.pol.mem ∧
    Sat w I (Blk b 107 (rplC s p sv cv vm dv rv) :: ChainP cv p s.ch :: DocsP dv s.docs :: RingP rv s.ks :: R) := by
  obtain ⟨b, S⟩ := S.unex; obtain ⟨sv, S⟩ := S.unex; obtain ⟨cv, S⟩ := S.unex; obtain ⟨vm, S⟩ := S.unex; obtain ⟨dv, S⟩ := S.unex; obtain ⟨rv, S⟩ := S.unex
  obtain ⟨⟨h1, h2, h3, h4, h5⟩, S⟩ := S.split.unprop
  obtain ⟨⟨h6, h7⟩, S⟩ := S.unfact
  exact ⟨b, sv, cv, vm, dv, rv, h1, h2, h3, h4, h5, h6, h7, S⟩
theorem RplP.cls {b : Nat} {sv cv vm dv rv : Value} (h2 : s.ok) (h3 : cv.oneCell' = true) (h4 : dv.oneCell' = true) (h5 : rv.oneCell' = true) (h6 : RoB I sv s.sec) (h7 : RoX I vm memR s.pol.mem)
    (S : Sat w I (Blk b 107 (rplC s p sv cv vm dv rv) :: ChainP cv p s.ch :: DocsP dv s.docs :: RingP rv s.ks :: R)) : Sat w I (RplP (ptr b) p s :: R) :=
  Sat.toex b (Sat.toex sv (Sat.toex cv (Sat.toex vm (Sat.toex dv (Sat.toex rv (Sat.join [_, _, _, _, _, _] ((Sat.tofact (φ := ⟨fun I => RoB I sv s.sec ∧ RoX I vm memR s.pol.mem, fun h k => ⟨k.1.up h, k.2.up h⟩⟩) ⟨h6, h7⟩ S).toprop ⟨rfl, h2, h3, h4, h5⟩)))))))
theorem RplP.clsV {b : Nat} {sv cv vm dv rv : Value} (hq : q = ptr b) (h2 : s.ok) (h3 : cv.oneCell' = true) (h4 : dv.oneCell' = true) (h5 : rv.oneCell' = true) (h6 : RoB I sv s.sec) (h7 : RoX I vm memR s.pol.mem)
    (S : Sat w I (Blk b 107 (rplC s p sv cv vm dv rv) :: ChainP cv p s.ch :: DocsP dv s.docs :: RingP rv s.ks :: R)) : Sat w I (RplP q p s :: R) := by
  subst hq; exact RplP.cls h2 h3 h4 h5 h6 h7 S
theorem ChainP.oneV {c:Chn} (S:Sat w I (ChainP q p c::R)):q.oneCell'=true:=by obtain ⟨b,_,_,rfl,_⟩:=ChainP.opn S;rfl
theorem DocsP.oneV {K:List Doc} (S:Sat w I (DocsP q K::R)):q.oneCell'=true:=by obtain ⟨b,_,rfl,_⟩:=DocsP.opn S;rfl
theorem RingP.oneV {ks:List (List UInt8)} (S:Sat w I (RingP q ks::R)):q.oneCell'=true:=by obtain ⟨b,_,rfl,_⟩:=RingP.opn S;rfl
theorem rplC_len {sv cv vm dv rv:Value} (h:s.ok):(rplC s p sv cv vm dv rv).length=28:=by simp [rplC,h.seen]
theorem rplC_seen {sv cv vm dv rv:Value} {n:Int} (h:s.ok) (hn:0≤n∧n≤16):(rplC s p sv cv vm dv rv)[11+(n:Int).toNat]?=some (.int .i64 (seenAt s.seen n)):=by
 rw [rplC,List.getElem?_append_right (by simp),seenAt,if_pos hn]
 have hl:n.toNat<s.seen.length:=by rw [h.seen];omega
 simp [List.getD,List.getElem?_eq_getElem hl]
theorem seen_rng {n:Int} (h:s.ok):0≤seenAt s.seen n∧seenAt s.seen n≤1099511627776:=by
 unfold seenAt;split
 ·rename_i hn
  have hl:n.toNat<s.seen.length:=by rw [h.seen];omega
  simp only [List.getD,List.getElem?_eq_getElem hl,Option.getD_some]
  exact h.seenN _ (List.getElem_mem _)
 ·omega
theorem rplC_set {sv cv vm dv rv:Value} {e:Entry}:(rplC s p sv cv vm dv rv).set (11+(e.writer:Int).toNat) (.int .i64 e.seq)=rplC (s.sees e) p sv cv vm dv rv:=by
 rw [rplC,List.set_append_right _ _ (by simp)]
 simp [rplC,Rpl.sees,List.map_set]
theorem Rpl.ok.sees {e:Entry} (h:s.ok) (hs:0≤e.seq∧e.seq≤1099511627776):(s.sees e).ok:=by
 refine ⟨by simpa [Rpl.sees] using h.seen,fun n hn=>?_,h.ks,h.num⟩
 rcases List.mem_or_eq_of_mem_set hn with hn | rfl
 ·exact h.seenN n hn
 ·exact hs
end
end Go.Proofs.YthddplghlljdbaaGreat
