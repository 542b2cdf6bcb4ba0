import Derived.Test.YthddplghlljdbaaGreatQWorldPostSrvC
set_option linter.unusedVariables false
set_option linter.unusedSimpArgs false
namespace Go.Proofs.YthddplghlljdbaaGreat
open Go.RowKit Go.Ecal Go.Maps
section
variable {K K0 : List (Place × Value)} {arr arr' : Array MapEntry} {clock clock' c0 : Nat} {seen : Array Nat} {en : MapEntry} {k : Place} {u : Value}
theorem ent_of (he:arr.toList.map (fun e=>(e.key,e.val))=entM encP idV K) (hon:Once K) (hen:en∈arr.toList):∃k u,(k,u)∈K∧en.key=encP k∧en.val=u∧lkM K k=some u:=by
 have:(en.key,en.val)∈entM encP idV K:=by rw [←he];exact List.mem_map.2 ⟨en,hen,rfl⟩
 obtain ⟨⟨k,u⟩,hq,e1⟩:=List.mem_map.1 this
 obtain ⟨j,hj⟩:=List.getElem?_of_mem hq
 exact ⟨k,u,hq,(congrArg Prod.fst e1).symm,(congrArg Prod.snd e1).symm,lkM_get hon hj⟩
theorem of_ent (he:arr.toList.map (fun e=>(e.key,e.val))=entM encP idV K) (h:lkM K k=some u):∃e∈arr.toList,e.key=encP k:=by
 have hm:∃q∈K,q.1=k:=Classical.byContradiction fun hn=>by
  have:lkM K k=none:=lkM_none.2 fun p hp e=>hn ⟨p,hp,e⟩
  rw [this] at h;cases h
 obtain ⟨q,hq,rfl⟩:=hm
 have:(encP q.1,q.2)∈arr.toList.map (fun e=>(e.key,e.val)):=by rw [he];exact List.mem_map.2 ⟨q,hq,rfl⟩
 obtain ⟨e,h1,h2⟩:=List.mem_map.1 this
 exact ⟨e,h1,congrArg Prod.fst h2⟩
theorem born_eq {e f:MapEntry}:∀{l:List MapEntry},(l.map (·.born)).Nodup→e∈l→f∈l→e.born=f.born→e=f
 | [],_,he,_,_=>by simp at he
 | a::l,hn,he,hf,h=>by
  rw [List.map_cons,List.nodup_cons] at hn
  rcases List.mem_cons.1 he with e1 | h1
  ·rcases List.mem_cons.1 hf with e2 | h2
   ·rw [e1,e2]
   ·exact absurd (List.mem_map.2 ⟨f,h2,by rw [←h,e1]⟩) hn.1
  ·rcases List.mem_cons.1 hf with e2 | h2
   ·exact absurd (List.mem_map.2 ⟨e,h1,by rw [h,e2]⟩) hn.1
   ·exact born_eq hn.2 h1 h2 h
theorem Stmp.sub (h:Stmp arr clock) (hs:arr'.toList.Sublist arr.toList):Stmp arr' clock:=⟨h.1.sublist (hs.map _),fun e he=>h.2 e (hs.subset he)⟩
theorem next_ok (h:Stmp arr clock):seen=#[]∨arr=#[]∨∃e∈arr.toList,e.born<clock:=by
 rcases Nat.eq_zero_or_pos arr.size with h0 | h0
 ·exact .inr (.inl (Array.eq_empty_of_size_eq_zero h0))
 ·exact .inr (.inr ⟨arr[0],by simp,h.2 _ (by simp)⟩)
theorem muM_next (wt:Value→Nat) (he:en∈arr.toList) (hn:en.born∉seen.toList):muM wt arr (seen.push en.born)+wt en.key≤muM wt arr seen:=muL_next wt seen hn he
theorem muM_sub (wt:Value→Nat) (hs:arr'.toList.Sublist arr.toList):muM wt arr' seen≤muM wt arr seen:=muL_sub wt seen hs
theorem plok1 {k:Place} (h:PlOk k):PlOk (1,k.2):=⟨⟨Int.le_of_lt (by decide:(0:Int)<1),(by decide:(1:Int)<2)⟩,h.2⟩
theorem take_min {α:Type} {l:List α} {n x:Int} (hn:0≤n) (h:x=if (l.length:Int)<n then (l.length:Int) else n):l.take x.toNat=l.take n.toNat:=by
 rw [h];split
 ·rw [List.take_of_length_le (by omega),List.take_of_length_le (by omega)]
 ·rfl
structure Fk1 (K0 K:List (Place×Value)) (arr:Array MapEntry) (clock:Nat) (seen:Array Nat):Prop where
 st:Stmp arr clock
 he:arr.toList.map (fun e=>(e.key,e.val))=entM encP idV K
 pl:PlK K
 same:∀p:Place,p.1≠1→lkM K p=lkM K0 p
 done:∀e∈arr.toList,e.born∈seen.toList→∀p:Place,e.key=encP p→p.1≠1
theorem Fk1.start (h1:Stmp arr clock) (h2:arr.toList.map (fun e=>(e.key,e.val))=entM encP idV K) (h3:PlK K):Fk1 K K arr clock #[]:=⟨h1,h2,h3,fun _ _=>rfl,fun e _ h=>by simp at h⟩
theorem Fk1.drop (h : Fk1 K0 K arr clock seen) (hen : en ∈ arr.toList) (hk : en.key = encP k) (h1 : k.1 = 1) (hs : arr'.toList.Sublist arr.toList)
    (he : arr'.toList.map (fun e => (e.key, e.val)) = entM encP idV (K.filter fun p => !decide (p.1 = k))) : Fk1 K0 (K.filter fun p => !decide (p.1 = k)) arr' clock (seen.push en.born) := by
  refine ⟨Stmp.sub h.st hs, he, h.pl.drop, fun p hp => ?_, fun e hm hb p hp => ?_⟩
  · rw [lkM_drop, if_neg (fun q => hp (by rw [q]; exact h1))]; exact h.same p hp
  · rw [Array.toList_push] at hb
    rcases List.mem_append.1 hb with hb | hb
    · exact h.done e (hs.subset hm) hb p hp
    · have := born_eq h.st.1 (hs.subset hm) hen (List.mem_singleton.1 hb)
      subst this
      obtain ⟨k', u', hq, e1, _, _⟩ := ent_of he h.pl.drop.1 hm
      have := encP_inj (e1.symm.trans hk); subst this
      have := (List.mem_filter.1 hq).2; simp at this
theorem Fk1.keep (h : Fk1 K0 K arr clock seen) (hen : en ∈ arr.toList) (hk : en.key = encP k) (h1 : k.1 ≠ 1) : Fk1 K0 K arr clock (seen.push en.born) := by
  refine ⟨h.st, h.he, h.pl, h.same, fun e hm hb p hp => ?_⟩
  rw [Array.toList_push] at hb
  rcases List.mem_append.1 hb with hb | hb
  · exact h.done e hm hb p hp
  · have := born_eq h.st.1 hm hen (List.mem_singleton.1 hb)
    subst this; rw [encP_inj (hp.symm.trans hk)]; exact h1
theorem Fk1.stop (h:Fk1 K0 K arr clock seen) (hn:∀e∈arr.toList,e.born<clock→e.born∈seen.toList) {p:Place} (hp:p.1=1):lkM K p=none:=by
 cases hl:lkM K p with
 | none=>rfl
 | some u =>
  obtain ⟨e,h1,h2⟩:=of_ent h.he hl
  exact absurd hp (h.done e h1 (hn e h1 (h.st.2 e h1)) p h2)
def fkW (v:Value):Nat:=match v with
 | .agg xs=>match xs.toList with
  | .int _ n::_=>if n=0 then 2 else 1
  | _=>1
 | _=>1
theorem fkW_0 (h:k.1=0):fkW (encP k)=2:=by show (if k.1=0 then 2 else 1)=2;rw [if_pos h]
theorem fkW_1 (h:k.1≠0):fkW (encP k)=1:=by show (if k.1=0 then 2 else 1)=1;rw [if_neg h]
structure Fk2 (I:Gh) (s:Srv) (n:Nat) (K:List (Place×Value)) (arr:Array MapEntry) (c0 clock:Nat) (seen:Array Nat) (last:Nat) (H:Place→Log):Prop where
 st:Stmp arr clock
 he:arr.toList.map (fun e=>(e.key,e.val))=entM encP idV K
 pl:PlK K
 sk:SrvK I K H
 h0:∀p:Place,p.1≠1→H p=s.log p
 h1:∀c,H (1,c)=[]∨H (1,c)=(s.log (0,c)).take n
 done:∀e∈arr.toList,e.born∈seen.toList→∀p:Place,e.key=encP p→p.1=0→H (1,p.2)=(s.log p).take n
 old:∀e∈arr.toList,∀p:Place,e.key=encP p→p.1=0→e.born<c0
 la:last≤clock∧c0≤clock
 ok:seen=#[]∨∃e∈arr.toList,e.born<last
variable {I J : Gh} {s : Srv} {n : Nat} {H : Place → Log} {last : Nat}
theorem Fk2.up (h:Fk2 I s n K arr c0 clock seen last H) (k:I.le J):Fk2 J s n K arr c0 clock seen last H:=⟨h.st,h.he,h.pl,h.sk.up k,h.h0,h.h1,h.done,h.old,h.la,h.ok⟩
theorem Fk1.next (h:Fk1 K0 K arr clock seen) (hK:SrvK I K0 s.log) (hn:∀e∈arr.toList,e.born<clock→e.born∈seen.toList):Fk2 I s n K arr clock clock #[] clock (fun p=>if p.1=1 then [] else s.log p):=by
 refine ⟨h.st,h.he,h.pl,fun p=>?_,fun p hp=>if_neg hp,fun c=>.inl (if_pos rfl),fun e _ hb=>by simp at hb,fun e he p _ _=>h.st.2 e he,⟨Nat.le_refl _,Nat.le_refl _⟩,.inl rfl⟩
 by_cases hp:p.1=1
 ·rw [h.stop hn hp,if_pos hp];exact ⟨rfl,RoX.nil⟩
 ·rw [h.same p hp,if_neg hp];exact hK p
theorem Fk2.fine (h:Fk2 I s n K arr c0 clock seen last H):seen=#[]∨arr=#[]∨∃e∈arr.toList,e.born<last:=h.ok.imp_right .inr
theorem Fk2.keep (h : Fk2 I s n K arr c0 clock seen last H) (hen : en ∈ arr.toList) (hk : en.key = encP k) (h1 : k.1 ≠ 0) : Fk2 I s n K arr c0 clock (seen.push en.born) clock H := by
  refine ⟨h.st, h.he, h.pl, h.sk, h.h0, h.h1, fun e hm hb p hp hz => ?_, h.old, ⟨Nat.le_refl _, h.la.2⟩, .inr ⟨en, hen, h.st.2 en hen⟩⟩
  rw [Array.toList_push] at hb
  rcases List.mem_append.1 hb with hb | hb
  · exact h.done e hm hb p hp hz
  · have := born_eq h.st.1 hm hen (List.mem_singleton.1 hb)
    subst this; exact absurd hz (by rw [encP_inj (hp.symm.trans hk)]; exact h1)
theorem Fk2.put {u2 : Value} (h : Fk2 I s n K arr c0 clock seen last H) (hen : en ∈ arr.toList) (hk : en.key = encP k) (h1 : k.1 = 0) (ho : u2.oneCell' = true) (hu : RoX I u2 bytesR ((s.log k).take n)) (hpl : PlOk (1, k.2))
    (he : arr'.toList.map (fun e => (e.key, e.val)) = entM encP idV (putM K (1, k.2) u2)) (T : Turned arr clock arr' clock' (encP (1, k.2))) : Fk2 I s n (putM K (1, k.2) u2) arr' c0 clock' (seen.push en.born) clock (fun q => if q = (1, k.2) then (s.log k).take n else H q) := by
  have hk0 : k = (0, k.2) := by rw [← h1]
  have hne : ∀ p : Place, p.1 = 0 → encP p ≠ encP (1, k.2) := fun p hp e => by have := encP_inj e; rw [this] at hp; cases hp
  refine ⟨T.stmp h.st, he, h.pl.put hpl, fun q => ?_, fun p hp => ?_, fun c => ?_, fun e hm hb p hp hz => ?_, fun e hm p hp hz => ?_, ⟨T.le, Nat.le_trans h.la.2 T.le⟩, .inr (T.old clock (Nat.le_refl _) ⟨en, hen, h.st.2 en hen⟩)⟩
  · rw [lkM_put]
    by_cases e : q = (1, k.2)
    · rw [if_pos e, if_pos e]; exact ⟨ho, hu⟩
    · rw [if_neg e, if_neg e]; exact h.sk q
  · rw [if_neg (fun e => hp (by rw [e]))]; exact h.h0 p hp
  · by_cases e : ((1, c) : Place) = (1, k.2)
    · rw [if_pos e]; refine .inr ?_
      have : c = k.2 := by injection e
      rw [this, ← hk0]
    · rw [if_neg e]; exact h.h1 c
  · rcases T.mem e hm with q | hm
    · exact absurd (hp.symm.trans q) (hne p hz)
    · by_cases e2 : ((1, p.2) : Place) = (1, k.2)
      · rw [if_pos e2]
        have e3 : p.2 = k.2 := by injection e2
        have : p = k := Prod.ext (hz.trans h1.symm) e3
        rw [this]
      · rw [if_neg e2]
        rw [Array.toList_push] at hb
        rcases List.mem_append.1 hb with hb | hb
        · exact h.done e hm hb p hp hz
        · have := born_eq h.st.1 hm hen (List.mem_singleton.1 hb)
          subst this; exact absurd (by rw [encP_inj (hp.symm.trans hk)]) e2
  · rcases T.mem e hm with q | hm
    · exact absurd (hp.symm.trans q) (hne p hz)
    · exact h.old e hm p hp hz
theorem rox_nil {α:Type} {τ:Rep α} {l:List α} {w:World} (h:RoX I (.slice none 0 0) τ l) (hw:I.le (gh w)):l=[]:=by
 cases l with
 | nil=>rfl
 | cons a r=>have:=isNil_ofX h hw (by simp);cases this
theorem Fk2.stop {w:World} (h:Fk2 I s n K arr c0 clock seen last H) (hw:I.le (gh w)) (hn:∀e∈arr.toList,e.born<c0→e.born∈seen.toList):H=fun q=>if q.1=1 then (s.log (0,q.2)).take n else s.log q:=by
 funext q
 by_cases e:q.1=1
 ·rw [if_pos e]
  obtain ⟨a,c⟩:=q
  obtain rfl:a=1:=e
  cases hl:lkM K (0,c) with
  | none =>
   have hr:=(h.sk (0,c)).2
   rw [hl] at hr
   have h2:s.log (0,c)=[]:=by rw [←h.h0 (0,c) (show (0:Int)≠1 by decide)];exact rox_nil hr hw
   rcases h.h1 c with h3 | h3
   ·rw [h3];dsimp only;rw [h2,List.take_nil]
   ·exact h3
  | some u =>
   obtain ⟨en,h2,h3⟩:=of_ent h.he hl
   exact h.done en h2 (hn en h2 (h.old en h2 _ h3 rfl)) _ h3 rfl
 ·rw [if_neg e];exact h.h0 q e
theorem Fk2.mu (T:Turned arr clock arr' clock' (encP (1,k.2))) (hen:en∈arr.toList) (hns:en.born∉seen.toList) (hk:en.key=encP k) (h1:k.1=0):muM fkW arr' (seen.push en.born)<muM fkW arr seen:=by
 have a:=T.mu fkW (seen.push en.born)
 have b:=muM_next fkW hen hns
 have c:fkW (encP (1,k.2))=1:=fkW_1 (show (1:Int)≠0 by decide)
 rw [hk,fkW_0 h1] at b
 omega
theorem Fk2.mu1 (hen:en∈arr.toList) (hns:en.born∉seen.toList) (hk:en.key=encP k) (h1:k.1≠0):muM fkW arr (seen.push en.born)<muM fkW arr seen:=by
 have b:=muM_next fkW hen hns
 rw [hk,fkW_1 h1] at b
 omega
end
end Go.Proofs.YthddplghlljdbaaGreat

set_option maxRecDepth 100000
set_option maxHeartbeats 4000000
namespace Go.Proofs.YthddplghlljdbaaGreat
open Go.RowKit Go.Ecal
theorem SFork_c (q:Value) (s:Srv) (n:Int) (I:Gh) (R:List HP) (w:World) (S:Sat w I (SrvP q s::R)):Ret Tryz.prog 31 [q,.int .i64 n] w fun v w'=>∃J:Gh,Gh.le I J∧.int .i64 (Srv.forkE n)=v∧Sat w' J (SrvP q (s.forkS n)::R):=by
 obtain ⟨b,m,K,arr,clock,rfl,sok,hst,he,hPK,hK,S0⟩:=SrvP.opn S
 have hon:=hPK.1
 have hkv:=hPK.kv
 refine ret_E Tryz.func31 rfl Tryz.ntmps31 (by simp) ?_
 refine g12 ?_
 refine EC_if rfl (fun h0=>?_) (fun h0=>?_)
 have hn0:n<0:=h0
 refine g7 ?_
 refine f1 Tryz.results31 ?_
 have hS:s=s.forkS n:=(if_pos hn0).symm
 have S1:Sat w I (SrvP (ptr b) s::R):=SrvP.cls (s:=s) sok hst he hPK hK S0
 have q0:s=s.forkS n:=hS
 have S2:=Sat.ah0 (SrvP (ptr b)) S1 q0
 exact ⟨I,(Gh.le_refl _),(by rw [show Srv.forkE n=12 from if_pos hn0]),S2⟩
 have hn0:¬n<0:=h0
 refine g9 ?_
 refine EL_rangeI S0 1 rfl U114 rfl rfl ?_
 intro r0 w0 S3
 refine g3 ?_
 refine EC_loop (fun m' E' w'=>∃K1:List (Place×Value),∃ar1:Array MapEntry,∃seen:Array Nat,m'=muM (fun _=>1) ar1 seen∧E' 0=ptr b∧E' 1=.int .i64 n∧E' 4=.int .i64 0∧E' 14=ptr r0∧(Fk1 K K1 ar1 clock seen)∧Sat w' I (MRaw m ar1 clock::Itr r0 m clock seen clock::Blk b 116 [.map (some m)]::R)) _ ⟨K,arr,#[],rfl,rfl,rfl,rfl,rfl,(Fk1.start hst he hPK),S3.fr1.fr1.fr2⟩ ?_
 rintro _ E0 w1 ⟨K1,ar1,seen,rfl,e0,e1,e2,e3,hF1,S4⟩
 refine g2 ?_
 refine EL_nextI S4 1 0 rfl rfl (next_ok hF1.st) (by exact e3) rfl ?_
 intro ob w2 hob hnob S5
 have S6:Sat w2 I (MRaw m ar1 clock::Itr r0 m clock (nxS seen ob) (nxL clock clock ob)::Blk b 116 [.map (some m)]::R):=S5
 refine vl (.bool ob.isSome) rfl (r_nx0 rfl) ?_
 refine g3 ?_
 refine EC_cond (t:=ob.isSome) rfl (fun h1=>?_) (fun h1=>?_)
 obtain ⟨en,hen⟩:∃en,ob=some en:=Option.isSome_iff_exists.1 h1
 obtain ⟨hme,hns⟩:=hob en hen
 obtain ⟨k,u,hku,hk1,hk2,hlk⟩:=ent_of hF1.he hF1.pl.1 hme
 have hkp:=hF1.pl.2 _ hku
 refine g5 ?_
 refine vl (.tuple #[(encP k),u]) rfl (r_entI (S6.itr 1 rfl) (S6.raw 0 rfl) hen hme hF1.st.1 hk1 hk2 (by exact e3)) ?_
 refine g1 ?_
 refine yN [.int .i64 0,.int .i64 0] S6 ?_
 intro b0 w3 S7
 refine yW0 S7 ?_
 intro w4 S8
 refine g9 ?_
 refine EC_if rfl (fun h2=>?_) (fun h2=>?_)
 have hk97:k.1=1:=h2
 have hmu:=Nat.lt_of_lt_of_le (Nat.lt_succ_self _) (muM_next (fun _=>1) hme hns)
 refine yJ 5 (fun w'=>Arr w' b 116 [.map (some m)]∧Arr w' b0 129 [.int .i64 k.1,.int .i64 k.2]) S8 ?_
 intro w5 S9
 refine yT 0 S9.le ⟨S9.a3,S9.a0⟩ ?_
 refine yT 1 S9.le ⟨S9.a3,S9.a0⟩ ?_
 refine yT 2 S9.le ⟨S9.a3,S9.a0⟩ ?_
 refine yT 3 S9.le ⟨S9.a3,S9.a0⟩ ?_
 refine yT 4 S9.le ⟨S9.a3,S9.a0⟩ ?_
 refine y1 5 ?_
 refine EL_dropK (enc:=encP) (dec:=idV) (K:=K1) (kk:=k) law_place U114 rfl rfl (S9.raw 1 rfl) hF1.he hF1.pl.1 (kv_place hkp) hF1.pl.kv (fun _ _=>encP_inj) ?_
 intro w6 ar2 hm2 he2 G2 hsub
 have S10:Sat w6 I (Blk b0 129 [.int .i64 k.1,.int .i64 k.2]::MRaw m ar2 clock::Itr r0 m clock (nxS seen ob) (nxL clock clock ob)::Blk b 116 [.map (some m)]::R):=S9.rawW 1 rfl G2 hm2
 refine ym S10.le ?_
 refine yd ?_
 refine g2 ?_
 have q1:nxS seen ob=seen.push en.born:=by rw [hen];rfl
 have S11:Sat w6 I (Blk b0 129 [.int .i64 k.1,.int .i64 k.2]::MRaw m ar2 clock::Itr r0 m clock (seen.push en.born) (nxL clock clock ob)::Blk b 116 [.map (some m)]::R):=S10.as 2 rfl (congrArg (fun zz=>Itr r0 m clock zz (nxL clock clock ob)) q1)
 have q2:nxL clock clock ob=clock:=by rw [hen];rfl
 have S12:=Sat.ah2 (Itr r0 m clock (seen.push en.born)) S11 q2
 have hmd:=muM_sub (seen:=seen.push en.born) (fun _=>1) hsub
 refine ⟨_,?_,(K1.filter fun p=>!decide (p.1=k)),ar2,seen.push en.born,rfl,(by exact e0),(by exact e1),(by exact e2),(by exact e3),(hF1.drop hme hk1 hk97 hsub he2),S12.dr0⟩
 first | omega | (simp;omega)
 have hk97:k.1≠1:=h2
 have hmu:=Nat.lt_of_lt_of_le (Nat.lt_succ_self _) (muM_next (fun _=>1) hme hns)
 refine g3 ?_
 have q3:nxS seen ob=seen.push en.born:=by rw [hen];rfl
 have S13:Sat w4 I (Blk b0 129 [.int .i64 k.1,.int .i64 k.2]::MRaw m ar1 clock::Itr r0 m clock (seen.push en.born) (nxL clock clock ob)::Blk b 116 [.map (some m)]::R):=S8.as 2 rfl (congrArg (fun zz=>Itr r0 m clock zz (nxL clock clock ob)) q3)
 have q4:nxL clock clock ob=clock:=by rw [hen];rfl
 have S14:=Sat.ah2 (Itr r0 m clock (seen.push en.born)) S13 q4
 refine ⟨_,?_,K1,ar1,seen.push en.born,rfl,(by exact e0),(by exact e1),(by exact e2),(by exact e3),(hF1.keep hme hk1 hk97),S14.dr0⟩
 first | omega | (simp;omega)
 have hnone:=hnob (by cases ob<;>first | rfl | (exact absurd h1 (by simp)))
 refine g12 ?_
 refine EL_rangeI S6.dr1 0 rfl U114 rfl rfl ?_
 intro r1 w7 S15
 refine g3 ?_
 refine EC_loop (fun m' E' w'=>∃K2:List (Place×Value),∃ar3:Array MapEntry,∃ck3:Nat,∃seen3:Array Nat,∃la3:Nat,∃H3:Place→Log,∃J:Gh,m'=muM fkW ar3 seen3∧E' 0=ptr b∧E' 1=.int .i64 n∧E' 4=.int .i64 0∧E' 31=ptr r1∧(Fk2 J s n.toNat K2 ar3 clock ck3 seen3 la3 H3)∧Gh.le I J∧Sat w' J (MRaw m ar3 ck3::Itr r1 m clock seen3 la3::Blk b 116 [.map (some m)]::R)) _ ⟨K1,ar1,clock,#[],clock,(fun p=>if p.1=1 then [] else s.log p),I,rfl,(by exact e0),(by exact e1),(by exact e2),rfl,(hF1.next hK hnone),(Gh.le_refl _),S15.fr2.fr1.fr2⟩ ?_
 rintro _ E1 w8 ⟨K2,ar3,ck3,seen3,la3,H3,I0,rfl,e4,e5,e6,e7,hF2,le0,S16⟩
 refine g2 ?_
 refine EL_nextI S16 1 0 rfl rfl hF2.fine (by exact e7) rfl ?_
 intro ob w9 hob hnob S17
 have S18:Sat w9 I0 (MRaw m ar3 ck3::Itr r1 m clock (nxS seen3 ob) (nxL la3 ck3 ob)::Blk b 116 [.map (some m)]::R):=S17
 refine vl (.bool ob.isSome) rfl (r_nx0 rfl) ?_
 refine g3 ?_
 refine EC_cond (t:=ob.isSome) rfl (fun h3=>?_) (fun h3=>?_)
 obtain ⟨en,hen⟩:∃en,ob=some en:=Option.isSome_iff_exists.1 h3
 obtain ⟨hme,hns⟩:=hob en hen
 obtain ⟨k,u,hku,hk1,hk2,hlk⟩:=ent_of hF2.he hF2.pl.1 hme
 have hkp:=hF2.pl.2 _ hku
 refine g5 ?_
 refine vl (.tuple #[(encP k),u]) rfl (r_entI (S18.itr 1 rfl) (S18.raw 0 rfl) hen hme hF2.st.1 hk1 hk2 (by exact e7)) ?_
 refine g2 ?_
 refine yN [.int .i64 0,.int .i64 0] S18 ?_
 intro b1 w10 S19
 refine yW0 S19 ?_
 intro w11 S20
 refine g10 ?_
 have hsk:=hF2.sk k
 rw [hlk] at hsk
 refine EC_if rfl (fun h4=>?_) (fun h4=>?_)
 have hk102:k.1=0:=h4
 have hHk:H3 k=s.log k:=hF2.h0 k (by rw [hk102];decide)
 have H0:RoX I0 u bytesR (s.log k):=rox_as hsk.2 (hHk)
 have hl64:=sok.len k
 skip
 refine yJ 14 (fun w'=>Arr w' b 116 [.map (some m)]∧Arr w' b1 129 [.int .i64 k.1,.int .i64 k.2]) S20 ?_
 intro w12 S21
 refine yT 0 S21.le ⟨S21.a3,S21.a0⟩ ?_
 refine yT 1 S21.le ⟨S21.a3,S21.a0⟩ ?_
 refine yT 2 S21.le ⟨S21.a3,S21.a0⟩ ?_
 refine yT 3 S21.le ⟨S21.a3,S21.a0⟩ ?_
 refine yT 4 S21.le ⟨S21.a3,S21.a0⟩ ?_
 refine yT 5 S21.le ⟨S21.a3,S21.a0⟩ ?_
 refine jT 6 rfl (by kernel_rfl) (.agg ([.int .i64 1,.int .i64 k.2]).toArray) rfl (fun _ hw ht=>r_buildS (l:=[(0,.int .i64 1),(1,.int .i64 k.2)]) st_129 (parts2 rfl rfl) (Eq.trans (show Instr.fill _ _ [(0,.int .i64 1),(1,.int .i64 k.2)]=_ from (fill_one rfl rfl rfl (fill_one rfl rfl rfl fill_end))) (by kernel_rfl))) ⟨S21.le,fun h=>⟨S21.a3,S21.a0⟩⟩ ?_
 refine yT 7 S21.le ⟨S21.a3,S21.a0⟩ ?_
 refine yT 8 S21.le ⟨S21.a3,S21.a0⟩ ?_
 refine yT 9 S21.le ⟨S21.a3,S21.a0⟩ ?_
 refine jT 10 rfl (by kernel_rfl) (.int .i64 ((s.log k).length:Int)) rfl (fun _ hw ht=>r_lenX rfl (H0.row hw) U52) ⟨S21.le,fun h=>⟨S21.a3,S21.a0⟩⟩ ?_
 obtain ⟨x0,hx97⟩:∃z:Int,z=if ((s.log k).length:Int)<n then ((s.log k).length:Int) else n:=⟨_,rfl⟩
 refine jT 11 rfl (by kernel_rfl) (.int .i64 x0) rfl (fun _ hw ht=>by rw [hx97];exact r_min rfl rfl) ⟨S21.le,fun h=>⟨S21.a3,S21.a0⟩⟩ ?_
 refine jT 12 rfl (by kernel_rfl) (cutW u 1 0 ((x0:Int).toNat)) rfl (fun _ hw ht=>r_sliceX rfl (H0.row hw) U52 (by kernel_rfl) 0 ((x0:Int).toNat) as' as' (.inl ⟨rfl,rfl⟩) (.inr ⟨_,_,rfl,(show _=Value.int .i64 ((x0:Int).toNat:Int) from by rw [Int.toNat_of_nonneg (by omega)];exact rfl)⟩)) ⟨S21.le,fun h=>⟨S21.a3,S21.a0⟩⟩ ?_
 have H1:RoX I0 (cutW u 1 0 ((x0:Int).toNat)) bytesR ((s.log k).take ((x0:Int).toNat)):=rox_as (H0.cut 0 ((x0:Int).toNat) as' as') (by simp)
 refine y1 13 ?_
 refine yR (CloneL_c _ _ _ _ _ S21 H1 (by rw [List.length_take];omega)) ?_
 rintro _ w13 ⟨v0,rfl,S22⟩
 refine yn S22.le ⟨S22.a4,S22.a1⟩ ?_
 refine y1 14 ?_
 have oH105:=(OwnX.one S22 0 rfl (by decide))
 obtain ⟨I1,le1,S23,H2⟩:=S22.fx0 (by decide)
 refine EL_putK (enc:=encP) (dec:=idV) (K:=K2) (kk:=(1,k.2)) (u:=v0) law_place U114 rfl rfl rfl (S23.raw 1 rfl) hF2.he hF2.pl.1 (kv_place (plok1 hkp)) hF2.pl.kv (fun _ _=>encP_inj) ?_
 intro w14 ar4 ck4 hm4 he4 G4 T4
 have S24:Sat w14 I1 (Blk b1 129 [.int .i64 k.1,.int .i64 k.2]::MRaw m ar4 ck4::Itr r1 m clock (nxS seen3 ob) (nxL la3 ck3 ob)::Blk b 116 [.map (some m)]::R):=S23.rawW 1 rfl G4 hm4
 have hmu:=Fk2.mu T4 hme hns hk1 hk102
 have H4:RoX I1 v0 bytesR ((s.log k).take n.toNat):=rox_as H2 (take_min (by omega) (by assumption))
 refine ym (lT le1 S24.le) ?_
 refine yu le1 ?_
 refine yd ?_
 refine g2 ?_
 have q5:nxS seen3 ob=seen3.push en.born:=by rw [hen];rfl
 have S25:Sat w14 I1 (Blk b1 129 [.int .i64 k.1,.int .i64 k.2]::MRaw m ar4 ck4::Itr r1 m clock (seen3.push en.born) (nxL la3 ck3 ob)::Blk b 116 [.map (some m)]::R):=S24.as 2 rfl (congrArg (fun zz=>Itr r1 m clock zz (nxL la3 ck3 ob)) q5)
 have q6:nxL la3 ck3 ob=ck3:=by rw [hen];rfl
 have S26:=Sat.ah2 (Itr r1 m clock (seen3.push en.born)) S25 q6
 refine ⟨_,?_,(putM K2 (1,k.2) v0),ar4,ck4,seen3.push en.born,ck3,(fun q=>if q=(1,k.2) then (s.log k).take n.toNat else H3 q),I1,rfl,(by exact e4),(by exact e5),(by exact e6),(by exact e7),((hF2.up le1).put hme hk1 hk102 oH105 H4 (plok1 hkp) he4 T4),(lT le0 le1),S26.dr0⟩
 first | omega | (simp;omega)
 have hk102:k.1≠0:=h4
 have hmu:=Fk2.mu1 hme hns hk1 hk102
 refine g3 ?_
 have q7:nxS seen3 ob=seen3.push en.born:=by rw [hen];rfl
 have S27:Sat w11 I0 (Blk b1 129 [.int .i64 k.1,.int .i64 k.2]::MRaw m ar3 ck3::Itr r1 m clock (seen3.push en.born) (nxL la3 ck3 ob)::Blk b 116 [.map (some m)]::R):=S20.as 2 rfl (congrArg (fun zz=>Itr r1 m clock zz (nxL la3 ck3 ob)) q7)
 have q8:nxL la3 ck3 ob=ck3:=by rw [hen];rfl
 have S28:=Sat.ah2 (Itr r1 m clock (seen3.push en.born)) S27 q8
 refine ⟨_,?_,K2,ar3,ck3,seen3.push en.born,ck3,H3,I0,rfl,(by exact e4),(by exact e5),(by exact e6),(by exact e7),(hF2.keep hme hk1 hk102),le0,S28.dr0⟩
 first | omega | (simp;omega)
 have hnone:=hnob (by cases ob<;>first | rfl | (exact absurd h3 (by simp)))
 refine g11 ?_
 refine f1 Tryz.results31 ?_
 have hH:=hF2.stop S18.le hnone
 have hS:(s.forkS n).log=H3:=by rw [hH,Srv.forkS,if_neg hn0]
 have S29:Sat _ _ (SrvP (ptr b) (s.forkS n)::_):=SrvP.cls (s:=(s.forkS n)) sok.fork hF2.st hF2.he hF2.pl (by rw [hS];exact hF2.sk) S18.fr2
 exact ⟨I0,le0,(by rw [show Srv.forkE n=0 from if_neg hn0]),S29.dr1⟩
end Go.Proofs.YthddplghlljdbaaGreat
