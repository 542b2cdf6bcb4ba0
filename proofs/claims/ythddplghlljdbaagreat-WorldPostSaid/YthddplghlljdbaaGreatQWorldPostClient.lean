import Derived.Test.YthddplghlljdbaaGreatQWorldPostReplay
import Derived.Test.YthddplghlljdbaaGreatQWorldPostSealLaw
set_option linter.unusedVariables false
set_option linter.unusedSimpArgs false
namespace Go.Proofs.YthddplghlljdbaaGreat
open Go.RowKit Go.Ecal
def view1 (e:Entry) (x:Pol×List Doc):Pol×List Doc:=if x.1.mayE e=0 then (x.1.app e,applyD x.2 e) else x
def viewAll:List Entry→Pol×List Doc→Pol×List Doc
 | [],x=>x
 | e::l,x=>viewAll l (view1 e x)
theorem view_app {e:Entry}:∀{l:List Entry} {x:Pol×List Doc},viewAll (l++[e]) x=view1 e (viewAll l x)
 | [],_=>rfl
 | _::l,x=>by rw [List.cons_append,viewAll,viewAll,view_app (l:=l)]
theorem view_step {l:List Entry} {j:Nat} {a:Entry} {x:Pol×List Doc} (ha:l[j]?=some a):viewAll (l.take (j+1)) x=view1 a (viewAll (l.take j) x):=by
 rw [List.take_add_one,ha];exact view_app
theorem applyD_len (K:List Doc) (e:Entry):(applyD K e).length≤K.length+1:=by
 have hd:∀n,(delD K n).length≤K.length:=fun n=>List.length_filter_le _ _
 have hi:∀(x:Doc) (K:List Doc),(insD x K).length=K.length+1:=fun x K=>by
  induction K with
  | nil=>rfl
  | cons y r ih=>rw [insD];split<;>simp [ih]
 unfold applyD
 split
 ·omega
 ·split
  ·rw [putD,hi];have:=hd e.name;omega
  ·split
   ·have:=hd e.name;omega
   ·omega
theorem setM_len (l : List MemT) (w r : Int) : (setM l w r).length ≤ l.length + 1 := by
  induction l with
  | nil => simp [setM]
  | cons m t ih => rw [setM]; split
                   · simp; omega
                   · split <;> simp
theorem app_mem (p:Pol) (e:Entry):(p.app e).mem.length≤p.mem.length+1:=by
 unfold Pol.app
 split
 ·simp
 ·split
  ·show (delM p.mem e.who).length≤_;have:=List.length_filter_le (fun m:MemT=>!decide (m.who=e.who)) p.mem;rw [delM];omega
  ·split
   ·exact setM_len _ _ _
   ·omega
theorem view1_len (e:Entry) (x:Pol×List Doc):(view1 e x).1.mem.length≤x.1.mem.length+1∧(view1 e x).2.length≤x.2.length+1:=by
 unfold view1;split
 ·exact ⟨app_mem _ _,applyD_len _ _⟩
 ·omega
theorem view_len:∀(l:List Entry) (x:Pol×List Doc),(viewAll l x).1.mem.length≤x.1.mem.length+l.length∧(viewAll l x).2.length≤x.2.length+l.length
 | [],x=>by simp [viewAll]
 | e::l,x=>by
  have h1:=view1_len e x
  have h2:=view_len l (view1 e x)
  rw [viewAll,List.length_cons];omega
/-- Numbers that stay in their bounds. -/
def polN (p:Pol):Prop:=(1≤p.founder∧p.founder≤16)∧0≤p.epoch∧p.epoch≤16
theorem view1_num {e:Entry} {x:Pol×List Doc} (h:polN x.1):polN (view1 e x).1:=by
 unfold view1;split
 ·rename_i hm;exact app_num (may_0 hm).2 h
 ·exact h
theorem view_num:∀{l:List Entry} {x:Pol×List Doc},polN x.1→polN (viewAll l x).1
 | [],_,h=>h
 | e::l,x,h=>view_num (l:=l) (view1_num h)
structure WaitT where
 e:Entry
 raw:List UInt8
structure Cli where
 coll:Int
 founder:Int
 who:Int
 sec:List UInt8
 r:Rpl
 pend:List WaitT
 count:Int
 last:Int
 alarm:Bool
def newC (L:List Thing) (coll founder who:Int) (sec:List UInt8):Cli:=⟨coll,founder,who,sec,(newR L coll founder who sec).2,[],0,0,false⟩
def Cli.pendE (c:Cli):List Entry:=c.pend.map WaitT.e
def Cli.view (c:Cli):Pol×List Doc:=viewAll c.pendE (c.r.pol,c.r.docs)
def Cli.seq (c:Cli):Int:=(if c.last<seenAt c.r.seen c.who then seenAt c.r.seen c.who else c.last)+1
def Cli.key (c:Cli) (ep:Int):List UInt8:=keyAt c.r.ks ep
def Cli.rec0 (c:Cli) (ep:Int):Record:=⟨c.coll,ep,c.who,c.count+1,[]⟩
def Cli.sealE (c:Cli) (ep:Int) (e:Entry):Int:=if (c.key ep).isEmpty then 21 else sealRE (c.key ep) (c.rec0 ep) e
def Cli.sealL (c:Cli) (L:List Thing) (ep:Int) (e:Entry):List Thing:=if (c.key ep).isEmpty then L else sealRL L c.sec (c.key ep) (c.rec0 ep) e
def Cli.sealB (c:Cli) (L:List Thing) (ep:Int) (e:Entry):List UInt8:=(sealRR L c.sec (c.key ep) (c.rec0 ep) e).encB
def Cli.waits (c:Cli) (L:List Thing) (ep:Int) (e:Entry):Cli:={ c with count:=c.count+1,last:=e.seq,pend:=c.pend++[⟨e,c.sealB L ep e⟩] }
def Cli.sealS (c:Cli) (L:List Thing) (ep:Int) (e:Entry):Cli:=if c.sealE ep e=0 then c.waits L ep e else c
/-- An entry that is to be issued;what bars it. -/
def Cli.own (c:Cli) (e:Entry):Entry:={ e with writer:=c.who,seq:=c.seq }
def Cli.bars (c:Cli) (e:Entry):Int:=
 if c.alarm then 42 else if c.view.1.mayE (c.own e)=10 then 10 else if e.kind=5 then 13 else if (c.pend.length:Int)=8 then 33 else c.view.1.mayE (c.own e)
def Cli.issueE (c:Cli) (e:Entry):Int:=if c.bars e=0 then c.sealE c.view.1.epoch (c.own e) else c.bars e
def Cli.issueL (c:Cli) (L:List Thing) (e:Entry):List Thing:=if c.bars e=0 then c.sealL L c.view.1.epoch (c.own e) else L
def Cli.issueS (c:Cli) (L:List Thing) (e:Entry):Cli:=if c.bars e=0 then c.sealS L c.view.1.epoch (c.own e) else c
/-- A rotate: what bars it,its wraps,the entry. -/
def wrapStep (sec key:List UInt8) (ep:Int) (x:List Thing×List WrapT) (w:Int):List Thing×List WrapT:=(wrapL x.1 sec w ep key,x.2++[⟨w,wrapB x.1 sec w ep key⟩])
def newKey (L:List Thing):List UInt8:=signOf 75 ((L.length:Int)+1)
def Cli.rotates (c:Cli):Bool:=c.pend.any fun w=>decide (w.e.kind=5)
def Cli.rotBars (c:Cli):Int:=
 if c.alarm then 42 else if c.view.1.epoch=16 then 34 else if (c.pend.length:Int)=8 then 33 else if andI (rightsOf c.view.1.mem c.who) 4=0 then 30 else if c.rotates then 31 else if (c.key c.view.1.epoch).isEmpty then 21 else 0
def Cli.rotX (c:Cli) (L:List Thing) (l:List Int):List Thing×List WrapT:=l.foldl (wrapStep c.sec (newKey L) (c.view.1.epoch+1)) (L++[tKey],[])
def Cli.rotW (c:Cli) (L:List Thing):List Thing×List WrapT:=c.rotX L (readersOf c.view.1.mem)
def Cli.rotEnt (c:Cli) (L:List Thing):Entry:=⟨5,c.who,c.seq,[],[],0,0,c.view.1.epoch+1,(c.rotW L).2⟩
def Cli.rotE (c:Cli) (L:List Thing):Int:=if c.rotBars=0 then c.sealE c.view.1.epoch (c.rotEnt L) else c.rotBars
def Cli.rotL (c:Cli) (L:List Thing):List Thing:=if c.rotBars=0 then c.sealL (c.rotW L).1 c.view.1.epoch (c.rotEnt L) else L
def Cli.rotS (c:Cli) (L:List Thing):Cli:=if c.rotBars=0 then c.sealS (c.rotW L).1 c.view.1.epoch (c.rotEnt L) else c
theorem rotX_step {c:Cli} {L:List Thing} {l:List Int} {j:Nat} {a:Int} (ha:l[j]?=some a):c.rotX L (l.take (j+1))=wrapStep c.sec (newKey L) (c.view.1.epoch+1) (c.rotX L (l.take j)) a:=by
 rw [Cli.rotX,List.take_add_one,ha,Option.toList_some,List.foldl_append];rfl
theorem wrapL_len (L:List Thing) (s:List UInt8) (w e:Int) (k:List UInt8):(wrapL L s w e k).length≤L.length+2:=by
 unfold wrapL;split
 ·have:=onceL_len (derT s uMember w) L;simp;omega
 ·omega
/-- What is pushed. -/
def Cli.pushF (c:Cli):FrameT:=⟨1,c.coll,0,c.pend.map WaitT.raw,[]⟩
def Cli.pushL (c:Cli):List (List UInt8):=if c.pend.length=0 then [] else [c.pushF.encB]
def Cli.pushE (c:Cli):Int:=if c.alarm then 42 else 0
def Cli.pushR (c:Cli):List (List UInt8):=if c.alarm then [] else c.pushL
def Cli.pullF (c:Cli):FrameT:=⟨2,c.coll,(c.r.ch.links.length:Int),[],[]⟩
def Cli.pullE (c:Cli):Int:=if c.alarm then 42 else c.pullF.encE
def Cli.pullB (c:Cli):List UInt8:=if c.alarm then [] else c.pullF.encB
/-- A batch is taken. -/
def comAll:List (List UInt8)→World2→World2
 | [],x=>x
 | b::l,x=>comAll l (x.2.comS x.1 b)
def comOuts:List (List UInt8)→World2→List Int
 | [],_=>[]
 | b::l,x=>x.2.comO x.1 b::comOuts l (x.2.comS x.1 b)
def linkBad (coll:Int) (b:List UInt8):Bool:=!(decide (recE b=0)&&decide ((recV b).coll=coll))
def Cli.checkE (c:Cli) (f:FrameT):Int:=
 if f.kind≠3 then 13 else if f.coll≠c.coll then 40 else if c.alarm then 42 else if f.index≠(c.r.ch.links.length:Int) then 41
 else if f.links.any (linkBad c.coll) then 10 else if 64<(c.r.ch.links.length:Int)+(f.links.length:Int) then 33 else 0
def Cli.takeE (c:Cli) (b:List UInt8):Int:=if frE b=0 then c.checkE (frV b) else frE b
def Cli.rest (c:Cli) (s:Rpl):List WaitT:=c.pend.filter fun w=>decide (seenAt s.seen c.who<w.e.seq)
def Cli.takeS (c:Cli) (L:List Thing) (b:List UInt8):List Thing×Cli:=
 if c.takeE b=0 then ((comAll (frV b).links (L,c.r)).1,{ c with r:=(comAll (frV b).links (L,c.r)).2,pend:=c.rest (comAll (frV b).links (L,c.r)).2 }) else (L,c)
def Cli.takeO (c:Cli) (L:List Thing) (b:List UInt8):List Int:=if c.takeE b=0 then comOuts (frV b).links (L,c.r) else []
/-- A head is held against the chain. -/
def Cli.cmpE (c:Cli) (i:Int) (sum:List UInt8):Int:=chkE c.r.ch i sum
def Cli.cmpS (c:Cli) (i:Int) (sum:List UInt8):Cli:={ c with alarm:=c.alarm||decide (c.cmpE i sum=24) }
structure Rpl.small (s:Rpl):Prop where
 links:s.ch.links.length≤64
 docs:s.docs.length≤s.ch.links.length
 val:∀d∈s.docs,d.1.length≤64∧d.2.length≤512
 mem:s.pol.mem.length≤1+s.ch.links.length
 sums:∀x∈s.ch.sums,x.length=32
 sec:s.sec.length≤100000
 ks:KsOk s.ks
/-- There is room for one more. -/
structure Rpl.room (s:Rpl):Prop where
 links:s.ch.links.length≤64
 docs:s.docs.length+1≤s.ch.links.length
 val:∀d∈s.docs,d.1.length≤64∧d.2.length≤512
 mem:s.pol.mem.length≤s.ch.links.length
 sums:∀x∈s.ch.sums,x.length=32
 sec:s.sec.length≤100000
 ks:KsOk s.ks
section
variable {s : Rpl} {L : List Thing} {b : List UInt8} {e : Entry} {x : Record}
theorem Rpl.room.small (h:s.room):s.small:=⟨h.links,by have:=h.docs;omega,h.val,by have:=h.mem;omega,h.sums,h.sec,h.ks⟩
theorem Rpl.room.sees (h:s.room):(s.sees e).room:=⟨h.links,h.docs,h.val,h.mem,h.sums,h.sec,h.ks⟩
theorem ins_mem {x d:Doc} {K:List Doc} (h:d∈insD x K):d=x∨d∈K:=by
 induction K with
 | nil=>simpa [insD] using h
 | cons y r ih =>
  rw [insD] at h;split at h
  ·simpa using h
  ·rcases List.mem_cons.1 h with h | h
   ·exact .inr (by simp [h])
   ·rcases ih h with h | h
    ·exact .inl h
    ·exact .inr (List.mem_cons_of_mem _ h)
theorem applyD_val {K:List Doc} (hr:e.right=true) (h:∀d∈K,d.1.length≤64∧d.2.length≤512):∀d∈applyD K e,d.1.length≤64∧d.2.length≤512:=by
 have hd:∀n,∀d∈delD K n,d.1.length≤64∧d.2.length≤512:=fun n d hd=>h d (List.mem_filter.1 hd).1
 unfold applyD
 split
 ·exact h
 ·split
  ·intro d hm
   rcases ins_mem hm with rfl | hm
   ·exact right_nv hr
   ·exact hd _ d hm
  ·split
   ·exact hd _
   ·exact h
theorem Rpl.room.take (h:s.room) (hr:e.right=true) (hT:TxtOk L):(s.take L e).2.small∧TxtOk (s.take L e).1∧(s.take L e).1.length≤L.length+16:=by
 have hl:=learn_ok (who:=s.who) (ep:=e.epoch) (sec:=s.sec) (l:=e.wraps) (x:=(L,s.ks)) hT h.ks
 have hw:=right_wl hr
 refine ⟨⟨h.links,?_,applyD_val hr h.val,?_,h.sums,h.sec,hl.2.1⟩,hl.1,by have:=hl.2.2;dsimp only at this;show (learnAll _ _ _ _ _).1.length≤_;omega⟩
 ·show (applyD s.docs e).length≤_;have:=applyD_len s.docs e;have:=h.docs;show _≤s.ch.links.length;omega
 ·show (s.pol.app e).mem.length≤_;have:=app_mem s.pol e;have:=h.mem;show _≤1+s.ch.links.length;omega
theorem Rpl.room.out (h : s.room) (hT : TxtOk L) : (s.outS L x).2.small ∧ TxtOk (s.outS L x).1 ∧ (s.outS L x).1.length ≤ L.length + 18 := by
  have h0 : TxtOk (openRL L s.sec (keyAt s.ks x.epoch) x) := hT.open
  have h1 := openRL_le L s.sec (keyAt s.ks x.epoch) x
  unfold Rpl.outS
  split
  · exact ⟨h.small, hT, by dsimp only; omega⟩
  · split
    · exact ⟨h.small, hT, by dsimp only; omega⟩
    · split
      · exact ⟨h.small, h0, by dsimp only; omega⟩
      · rename_i hE
        have hr := open_right (Classical.byContradiction hE)
        unfold Rpl.entryS
        split
        · exact ⟨h.small, h0, by dsimp only; omega⟩
        · split
          · have := (h.sees (e := openRV L s.sec (keyAt s.ks x.epoch) x)).take hr h0
            exact ⟨this.1, this.2.1, by have := this.2.2; omega⟩
          · exact ⟨h.sees.small, h0, by dsimp only; omega⟩
theorem Rpl.small.linked (h : s.small) (hc : chE s.ch b = 0) : (s.linked L b).room := by
  have h64 : s.ch.links.length ≠ 64 := by
    intro q; unfold chE at hc; split at hc
    · cases hc
    · simp [q] at hc
  have hch : (s.linked L b).ch = ⟨s.ch.links ++ [b], s.ch.sums ++ [signOf 72 (onceN (chNext s.ch b) L : Int)]⟩ := if_pos hc
  have hl : (s.linked L b).ch.links.length = s.ch.links.length + 1 := by rw [hch]; simp
  have := h.links; have := h.docs; have := h.mem
  refine ⟨by omega, ?_, h.val, ?_, ?_, h.sec, h.ks⟩
  · rw [hl]; show s.docs.length + 1 ≤ _; omega
  · rw [hl]; show s.pol.mem.length ≤ _; omega
  · rw [hch]; intro y hy
    rcases List.mem_append.1 hy with hy | hy
    · exact h.sums y hy
    · rw [List.mem_singleton.1 hy]; rfl
theorem Rpl.small.com (h:s.small) (hT:TxtOk L):(s.comS L b).2.small∧TxtOk (s.comS L b).1∧(s.comS L b).1.length≤L.length+19:=by
 unfold Rpl.comS
 split
 ·rename_i hE
  have hc:chE s.ch b=0:=by
   unfold Rpl.comE at hE;split at hE
   ·exact hE
   ·cases hE
  have hcl:=chL_len L s.ch b
  have:=(h.linked (L:=L) hc).out (x:=recV b) (hT.ch h.sums (b:=b))
  exact ⟨this.1,this.2.1,by have:=this.2.2;omega⟩
 ·exact ⟨h,hT,by dsimp only;omega⟩
theorem comAll_ok:∀{l:List (List UInt8)} {x:World2},x.2.small→TxtOk x.1→(comAll l x).2.small∧TxtOk (comAll l x).1∧(comAll l x).1.length≤x.1.length+19*l.length
 | [],x,h,hT=>⟨h,hT,by simp [comAll]⟩
 | b::l,x,h,hT=>by
  have h1:=h.com (b:=b) hT
  have h2:=comAll_ok (l:=l) h1.1 h1.2.1
  refine ⟨h2.1,h2.2.1,?_⟩
  have:=h2.2.2
  rw [comAll,List.length_cons];omega
theorem comAll_app {a:List UInt8}:∀{l:List (List UInt8)} {x:World2},comAll (l++[a]) x=(comAll l x).2.comS (comAll l x).1 a
 | [],_=>rfl
 | _::l,x=>by rw [List.cons_append,comAll,comAll,comAll_app (l:=l)]
theorem comOuts_app {a:List UInt8}:∀{l:List (List UInt8)} {x:World2},comOuts (l++[a]) x=comOuts l x++[(comAll l x).2.comO (comAll l x).1 a]
 | [],_=>rfl
 | _::l,x=>by rw [List.cons_append,comOuts,comOuts,comOuts_app (l:=l),List.cons_append,comAll]
theorem comAll_step {l:List (List UInt8)} {j:Nat} {a:List UInt8} {x:World2} (ha:l[j]?=some a):comAll (l.take (j+1)) x=(comAll (l.take j) x).2.comS (comAll (l.take j) x).1 a∧comOuts (l.take (j+1)) x=comOuts (l.take j) x++[(comAll (l.take j) x).2.comO (comAll (l.take j) x).1 a]:=by
 rw [List.take_add_one,ha];exact ⟨comAll_app,comOuts_app⟩
end
theorem rising_low:∀{l:List MemT} {n k:Int},risingM k l=true→n≤k→risingM n l=true
 | [],_,_,_,_=>rfl
 | m::r,n,k,h,hn=>by
  simp only [risingM,Bool.and_eq_true,Bool.not_eq_true',Bool.or_eq_false_iff,decide_eq_false_iff_not] at h ⊢
  exact ⟨⟨⟨⟨by omega,h.1.1.1.2⟩,h.1.1.2⟩,h.1.2⟩,h.2⟩
theorem setM_rising:∀{l:List MemT} {n w r:Int},risingM n l=true→n<w→w≤16→1≤r∧r≤7→risingM n (setM l w r)=true
 | [],n,w,r,_,h1,h2,h3=>by simp [setM,risingM];omega
 | m::t,n,w,r,h,h1,h2,h3=>by
  simp only [risingM,Bool.and_eq_true,Bool.not_eq_true',Bool.or_eq_false_iff,decide_eq_false_iff_not] at h
  rw [setM];split
  ·rename_i q
   simp only [risingM,Bool.and_eq_true,Bool.not_eq_true',Bool.or_eq_false_iff,decide_eq_false_iff_not]
   exact ⟨h.1,setM_rising h.2 q h2 h3⟩
  ·split
   ·rename_i q1 q2
    simp only [risingM,Bool.and_eq_true,Bool.not_eq_true',Bool.or_eq_false_iff,decide_eq_false_iff_not]
    exact ⟨⟨⟨⟨by omega,by omega⟩,by omega⟩,by omega⟩,by rw [←q2];exact h.2⟩
   ·rename_i q1 q2
    simp only [risingM,Bool.and_eq_true,Bool.not_eq_true',Bool.or_eq_false_iff,decide_eq_false_iff_not]
    exact ⟨⟨⟨⟨by omega,by omega⟩,by omega⟩,by omega⟩,⟨⟨⟨by omega,h.1.1.1.2⟩,h.1.1.2⟩,h.1.2⟩,h.2⟩
theorem delM_rising : ∀ {l : List MemT} {n w : Int}, risingM n l = true → risingM n (delM l w) = true
  | [], _, _, _ => rfl
  | m :: t, n, w, h => by
    simp only [risingM, Bool.and_eq_true, Bool.not_eq_true', Bool.or_eq_false_iff, decide_eq_false_iff_not] at h
    have ih := delM_rising (w := w) h.2
    rw [delM] at ih ⊢
    by_cases q : m.who = w
    · rw [List.filter_cons_of_neg (by simp [q])]; exact rising_low ih (by omega)
    · rw [List.filter_cons_of_pos (by simp [q])]
      simp only [risingM, Bool.and_eq_true, Bool.not_eq_true', Bool.or_eq_false_iff, decide_eq_false_iff_not]
      exact ⟨h.1, ih⟩
theorem right_grant {e:Entry} (h:e.right=true) (hk:e.kind=3):(1≤e.who∧e.who≤16)∧1≤e.rights∧e.rights≤7:=by
 simp only [Entry.right,Bool.and_eq_true] at h
 have:=h.2
 rw [Entry.body,if_neg (by omega),if_pos hk] at this
 simpa only [Bool.and_eq_true,within_iff] using this
theorem app_rising {p:Pol} {e:Entry} (hr:e.right=true) (h:risingM 0 p.mem=true):risingM 0 (p.app e).mem=true:=by
 unfold Pol.app
 split
 ·exact h
 ·split
  ·exact delM_rising h
  ·split
   ·rename_i hk;have:=right_grant hr hk;exact setM_rising h (by omega) this.1.2 this.2
   ·exact h
abbrev Rise (s:Rpl):Prop:=risingM 0 s.pol.mem=true
theorem take_rise {s:Rpl} {L:List Thing} {e:Entry} (hr:e.right=true) (h:Rise s):Rise (s.take L e).2:=app_rising hr h
theorem out_rise {s:Rpl} {L:List Thing} {x:Record} (h:Rise s):Rise (s.outS L x).2:=by
 unfold Rpl.outS
 split
 ·exact h
 split
 ·exact h
 split
 ·exact h
 rename_i hE
 have hr:=open_right (Classical.byContradiction hE)
 unfold Rpl.entryS
 split
 ·exact h
 split
 ·exact take_rise hr h
 ·exact h
theorem com_rise {s:Rpl} {L:List Thing} {b:List UInt8} (h:Rise s):Rise (s.comS L b).2:=by
 unfold Rpl.comS;split
 ·exact out_rise h
 ·exact h
theorem comAll_rise:∀{l:List (List UInt8)} {x:World2},Rise x.2→Rise (comAll l x).2
 | [],_,h=>h
 | _::l,x,h=>by rw [comAll];exact comAll_rise (l:=l) (com_rise h)
theorem view_rise:∀{l:List Entry} {x:Pol×List Doc},risingM 0 x.1.mem=true→risingM 0 (viewAll l x).1.mem=true
 | [],_,h=>h
 | e::l,x,h=>by
  rw [viewAll];refine view_rise ?_
  unfold view1;split
  ·rename_i hm;exact app_rising (may_0 hm).2 h
  ·exact h
structure Cli.ok (c:Cli):Prop where
 pend8:c.pend.length≤8
 pendR:∀w∈c.pend,w.e.right=true∧1≤w.raw.length∧w.raw.length≤3000
 num:(1≤c.coll∧c.coll≤1099511627776)∧(1≤c.founder∧c.founder≤16)∧1≤c.who∧c.who≤16
 cnt:0≤c.count∧c.count≤1099511627776
 lst:0≤c.last∧c.last≤1099511627776
 sec:c.sec.length≤100000
 r:c.r.small
 rise:Rise c.r
theorem fr_ok {b:List UInt8} (h:frE b=0):(frV b).right=true:=by
 rw [frV,if_pos h];unfold frE at h;split at h
 ·cases h
 ·split at h
  ·rename_i q;simp only [frOk,Bool.and_eq_true] at q;exact q.2
  ·cases h
section
variable {c : Cli} {L : List Thing} {k sc : List UInt8} {r : Record} {e : Entry} {ep : Int}
theorem seal_raw (h:sealRE k r e=0):1≤(sealRR L sc k r e).encB.length∧(sealRR L sc k r e).encB.length≤3000∧(sealRR L sc k r e).right=true:=by
 have ho:=seals_ok h
 have hpl:(twoT e.encB (markB L sc r.coll r.writer e.encB)).length≤2046:=by rw [twoT_len,markB_len];have:=ho.enc;omega
 have hr:(sealRR L sc k r e).right=true:=by rw [sealRR_ok ho];exact box_right ho.nums hpl
 have h2:=enc_len hr
 have h3:=(right_iff.1 hr).2
 exact ⟨by omega,by omega,hr⟩
theorem Cli.ok.waits (h:c.ok) (h8:c.pend.length<8) (hE:sealRE (c.key ep) (c.rec0 ep) e=0):(c.waits L ep e).ok:=by
 have ho:=seals_ok hE
 have hraw:=seal_raw (L:=L) (sc:=c.sec) hE
 have hn:=nums_iff.1 ho.nums
 have hq:=right_rng ho.right
 have hc:(c.rec0 ep).count=c.count+1:=rfl
 refine ⟨?_,?_,h.num,?_,?_,h.sec,h.r,h.rise⟩
 ·show (c.pend++[_]).length≤8;rw [List.length_append,List.length_singleton];omega
 ·intro w hw
  rcases List.mem_append.1 hw with hw | hw
  ·exact h.pendR w hw
  ·rw [List.mem_singleton.1 hw];exact ⟨ho.right,hraw.1,hraw.2.1⟩
 ·show 0≤c.count+1∧c.count+1≤_;omega
 ·show 0≤e.seq∧e.seq≤_;omega
theorem Cli.ok.taken (h:c.ok) {s:Rpl} (hs:s.small) (hr:Rise s):({ c with r:=s,pend:=c.rest s }:Cli).ok:=
 ⟨Nat.le_trans (List.length_filter_le _ _) h.pend8,fun w hw=>h.pendR w (List.mem_filter.1 hw).1,h.num,h.cnt,h.lst,h.sec,hs,hr⟩
theorem Cli.ok.alarmed (h:c.ok) {a:Bool}:({ c with alarm:=a }:Cli).ok:=⟨h.pend8,h.pendR,h.num,h.cnt,h.lst,h.sec,h.r,h.rise⟩
end
theorem newR_small {L:List Thing} {coll founder who:Int} {sec:List UInt8} (hs:sec.length≤100000) (hk:rplOk coll founder who=true):(newR L coll founder who sec).2.small:=by
 refine ⟨by simp [newR,chNew],by simp [newR,chNew],by simp [newR],by simp [newR,firstP],?_,hs,?_⟩
 ·simp [newR,chNew,sign_len]
 ·exact (newR_ok (L:=L) (x:=⟨coll,founder,who,sec⟩) hk).2.2
theorem newC_ok {L:List Thing} {coll founder who:Int} {sec:List UInt8} (hk:rplOk coll founder who=true) (hs:sec.length≤100000):(newC L coll founder who sec).ok:=by
 have hn:=rplOk_iff.1 hk
 exact ⟨by simp [newC],by simp [newC],⟨by show 1≤coll∧coll≤_;omega,by show 1≤founder∧founder≤_;omega,by show 1≤who;omega,by show who≤_;omega⟩,by simp [newC],by simp [newC],hs,newR_small hs hk,by show risingM 0 [⟨founder,7⟩]=true;simp [risingM];omega⟩
end Go.Proofs.YthddplghlljdbaaGreat
