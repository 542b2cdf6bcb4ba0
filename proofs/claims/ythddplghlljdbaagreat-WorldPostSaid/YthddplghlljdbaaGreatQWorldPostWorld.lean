import Derived.Test.YthddplghlljdbaaGreatQWorldPostClient
import Derived.Test.YthddplghlljdbaaGreatQWorldPostMaps
set_option linter.unusedVariables false
set_option linter.unusedSimpArgs false
namespace Go.Proofs.YthddplghlljdbaaGreat
open Go.RowKit Go.Ecal
abbrev Place:=Int×Int
abbrev Log:=List (List UInt8)
structure Srv where
 log:Place→Log
def Srv.new:Srv:=⟨fun _=>[]⟩
/-- Links that aren't there yet stand last. -/
def addLog:Log→List (List UInt8)→Log
 | g,[]=>g
 | g,b::r=>addLog (if b∈g then g else g++[b]) r
theorem addLog_app {a : List UInt8} : ∀ {l : List (List UInt8)} {g : Log}, addLog g (l ++ [a]) = if a ∈ addLog g l then addLog g l else addLog g l ++ [a]
  | [], _ => rfl
  | b :: r, g => by rw [List.cons_append, addLog, addLog, addLog_app (l := r)]
theorem addLog_step {l:List (List UInt8)} {j:Nat} {a:List UInt8} {g:Log} (ha:l[j]?=some a):addLog g (l.take (j+1))=if a∈addLog g (l.take j) then addLog g (l.take j) else addLog g (l.take j)++[a]:=by
 rw [List.take_add_one,ha];exact addLog_app
def Srv.put (s:Srv) (p:Place) (g:Log):Srv:=⟨fun q=>if q=p then g else s.log q⟩
def Srv.pushE (s:Srv) (p:Place) (l:List (List UInt8)):Int:=if 64<(addLog (s.log p) l).length then 33 else 0
def Srv.pushS (s:Srv) (p:Place) (l:List (List UInt8)):Srv:=if s.pushE p l=0 then s.put p (addLog (s.log p) l) else s
/-- A batch from a length on: as1 many as1 fit. -/
def batchF (coll i:Int) (g:Log) (n:Nat):FrameT:=⟨3,coll,i,(g.drop i.toNat).take n,[]⟩
def batchN (coll i:Int) (g:Log):Nat→Nat
 | 0=>0
 | n+1=>if (batchF coll i g (n+1)).encE=11 then batchN coll i g n else n+1
def Srv.pullF (s:Srv) (p:Place) (i:Int):FrameT:=batchF p.2 i (s.log p) (batchN p.2 i (s.log p) (min 8 ((s.log p).length-i.toNat)))
def Srv.pullE (s:Srv) (p:Place) (i:Int):Int:=if ((s.log p).length:Int)<i then 14 else (s.pullF p i).encE
def Srv.pullB (s:Srv) (p:Place) (i:Int):List UInt8:=if ((s.log p).length:Int)<i then [] else (s.pullF p i).encB
def Srv.handE (s:Srv) (br:Int) (b:List UInt8):Int:=
 if br<0∨2≤br then 12 else if frE b≠0 then frE b else if (frV b).kind=1 then s.pushE (br,(frV b).coll) (frV b).links else if (frV b).kind=2 then s.pullE (br,(frV b).coll) (frV b).index else 13
def Srv.handB (s:Srv) (br:Int) (b:List UInt8):List UInt8:=
 if br<0∨2≤br then [] else if frE b≠0 then [] else if (frV b).kind=2 then s.pullB (br,(frV b).coll) (frV b).index else []
def Srv.handS (s:Srv) (br:Int) (b:List UInt8):Srv:=
 if br<0∨2≤br then s else if frE b≠0 then s else if (frV b).kind=1 then s.pushS (br,(frV b).coll) (frV b).links else s
/-- A fork: the branch 1 becomes a beginning of the branch 0. -/
def Srv.forkE (n:Int):Int:=if n<0 then 12 else 0
def Srv.forkS (s:Srv) (n:Int):Srv:=if n<0 then s else ⟨fun q=>if q.1=1 then (s.log (0,q.2)).take n.toNat else s.log q⟩
abbrev PlOk (p:Place):Prop:=(0≤p.1∧p.1<2)∧1≤p.2∧p.2≤1099511627776
/-- What holds of a server's logs. -/
structure Srv.ok (s:Srv):Prop where
 len:∀p,(s.log p).length≤64
 link:∀p,∀b∈s.log p,1≤b.length∧b.length≤4096
theorem addLog_link:∀{l:List (List UInt8)} {g:Log},(∀b∈g,1≤b.length∧b.length≤4096)→(∀b∈l,1≤b.length∧b.length≤4096)→∀b∈addLog g l,1≤b.length∧b.length≤4096
 | [],_,h,_=>h
 | a::r,g,h,hl=>by
  rw [addLog];refine addLog_link ?_ fun b hb=>hl b (by simp [hb])
  split
  ·exact h
  ·intro b hb
   rcases List.mem_append.1 hb with hb | hb
   ·exact h b hb
   ·rw [List.mem_singleton.1 hb];exact hl a (by simp)
theorem Srv.ok.put {s : Srv} (h : s.ok) {p : Place} {g : Log} (h64 : g.length ≤ 64) (hl : ∀ b ∈ g, 1 ≤ b.length ∧ b.length ≤ 4096) : (s.put p g).ok := by
  refine ⟨fun q => ?_, fun q => ?_⟩
  · unfold Srv.put; dsimp only; split
    · exact h64
    · exact h.len q
  · unfold Srv.put; dsimp only; split
    · exact hl
    · exact h.link q
theorem Srv.ok.new:Srv.new.ok:=⟨fun _=>by simp [Srv.new],fun _ b hb=>by simp [Srv.new] at hb⟩
theorem Srv.ok.fork {s : Srv} (h : s.ok) {n : Int} : (s.forkS n).ok := by
  unfold Srv.forkS; split
  · exact h
  refine ⟨fun q => ?_, fun q => ?_⟩
  · dsimp only; split
    · exact Nat.le_trans (List.length_take_le' _ _) (h.len _)
    · exact h.len q
  · dsimp only; split
    · exact fun b hb => h.link _ b (List.mem_of_mem_take hb)
    · exact h.link q
section
variable {coll i : Int} {g : Log} {n : Nat}
theorem batch_right (hc:1≤coll∧coll≤1099511627776) (hi:0≤i∧i≤64) (hl:∀b∈g,1≤b.length∧b.length≤4096) (h8:n≤8):(batchF coll i g n).right=true:=by
 have hn:(batchF coll i g n).nums=true:=nums_fr.2 ⟨hc,hi⟩
 have hk:linksOk (batchF coll i g n).links 0=true:=by
  rw [links_iff]
  refine ⟨by show (0:Int)≤_;omega,Nat.le_trans (List.length_take_le _ _) h8,fun b hb=>?_⟩
  exact hl b (List.mem_of_mem_drop (List.mem_of_mem_take hb))
 rw [FrameT.right,hn,FrameT.body,if_neg (by show ¬(3:Int)=1;decide),if_neg (by show ¬(3:Int)=2;decide),if_pos (by show (3:Int)=3;rfl),hk];rfl
theorem batch_0 (hc:1≤coll∧coll≤1099511627776) (hi:0≤i∧i≤64):(batchF coll i g (0:Int).toNat).encE=0:=by
 have hl0:(batchF coll i g (0:Int).toNat).links=[]:=rfl
 have hn:(batchF coll i g (0:Int).toNat).nums=true:=nums_fr.2 ⟨hc,hi⟩
 have hr:(batchF coll i g (0:Int).toNat).right=true:=by
  rw [FrameT.right,hn,FrameT.body,if_neg (by show ¬(3:Int)=1;decide),if_neg (by show ¬(3:Int)=2;decide),if_pos (by show (3:Int)=3;rfl),hl0];rfl
 have hlen:(putB (batchF coll i g (0:Int).toNat).parts).length≤32768:=by
  rw [fr_bytes hr,hl0]
  have hs:(batchF coll i g (0:Int).toNat).sum=[]:=rfl
  rw [hs];simp [be6,be2,lnB]
 rw [FrameT.encE,if_neg (by rw [hr];decide),if_neg (by omega)]
theorem batchN_step {n:Int} (hn:0<n) (hE:(batchF coll i g n.toNat).encE=11):batchN coll i g n.toNat=batchN coll i g (n-1).toNat:=by
 obtain ⟨k,hk⟩:∃k,n.toNat=k+1:=⟨n.toNat-1,by omega⟩
 rw [hk] at hE ⊢
 rw [batchN,if_pos hE,show (n-1).toNat=k by omega]
theorem batchN_end (hE:¬(batchF coll i g n).encE=11):batchN coll i g n=n:=by
 cases n with
 | zero=>rfl
 | succ k=>rw [batchN,if_neg hE]
theorem cut_batch {n:Int} (hi:0≤i) (hn:0≤n):(g.take (i+n).toNat).drop i.toNat=(batchF coll i g n.toNat).links:=by
 show _=(g.drop i.toNat).take n.toNat
 rw [List.drop_take,show (i+n).toNat-i.toNat=n.toNat by omega]
end
structure PackT where
 c:Int
 up:Bool
 data:List UInt8
structure Seat where
 c:Cli
 branch:Int
structure Wld where
 seats:List Seat
 srv:Srv
 post:List PackT
 sent:List (List UInt8)
structure OpT where
 kind:Int
 c:Int
 n:Int
 entry:Entry
 data:List UInt8
structure AnsT where
 e:Int
 outs:List Int
abbrev World3:=List Thing×Wld
def Wld.seat (w:Wld) (i:Int):Option Seat:=if 0≤i∧i<w.seats.length then w.seats[i.toNat]? else none
def Wld.set (w:Wld) (i:Int) (s:Seat):Wld:={ w with seats:=w.seats.set i.toNat s }
def Wld.upE (w:Wld) (e:Int) (l:List (List UInt8)):Int:=if e≠0 then e else if 512<w.post.length+l.length then 33 else 0
def Wld.upS (w:Wld) (i e:Int) (l:List (List UInt8)):Wld:=if w.upE e l=0 then { w with post:=w.post++l.map fun b=>⟨i,true,b⟩,sent:=w.sent++l } else w
/-- A packet arrives. -/
def Wld.arrA (w:Wld) (L:List Thing) (p:PackT):AnsT:=match w.seat p.c with
 | none=>⟨0,[]⟩
 | some s=>if p.up then ⟨w.srv.handE s.branch p.data,[]⟩ else ⟨s.c.takeE p.data,s.c.takeO L p.data⟩
def Wld.arrS (w : Wld) (L : List Thing) (p : PackT) : World3 := match w.seat p.c with
  | none => (L, w)
  | some s => if p.up then (L, { w with srv := w.srv.handS s.branch p.data, post := if w.srv.handB s.branch p.data ≠ [] ∧ w.post.length < 512 then w.post ++ [⟨p.c, false, w.srv.handB s.branch p.data⟩] else w.post })
    else ((s.c.takeS L p.data).1, w.set p.c { s with c := (s.c.takeS L p.data).2 })
/-- A step of the post. -/
def Wld.postA (w:Wld) (L:List Thing) (o:OpT):AnsT:=
 if o.n<0∨(w.post.length:Int)≤o.n then ⟨60,[]⟩ else match w.post[o.n.toNat]? with
 | none=>⟨60,[]⟩
 | some p=>if o.kind=7 then (if w.post.length=512 then ⟨33,[]⟩ else ⟨0,[]⟩) else if o.kind=6 then ⟨0,[]⟩ else ({ w with post:=w.post.eraseIdx o.n.toNat }:Wld).arrA L p
def Wld.postS (w:Wld) (L:List Thing) (o:OpT):World3:=
 if o.n<0∨(w.post.length:Int)≤o.n then (L,w) else match w.post[o.n.toNat]? with
 | none=>(L,w)
 | some p=>if o.kind=7 then (if w.post.length=512 then (L,w) else (L,{ w with post:=w.post++[p] })) else if o.kind=6 then (L,{ w with post:=w.post.eraseIdx o.n.toNat }) else ({ w with post:=w.post.eraseIdx o.n.toNat }:Wld).arrS L p
/-- One's chain is held against another one's head. -/
def Wld.cmpA (w:Wld) (s:Seat) (n:Int):Int:=match w.seat n with
 | none=>32
 | some x=>if x.c.coll≠s.c.coll then 40 else s.c.cmpE (atV x.c.r.ch (x.c.r.ch.links.length:Int)).index (atV x.c.r.ch (x.c.r.ch.links.length:Int)).sum
def Wld.cmpS (w:Wld) (i:Int) (s:Seat) (n:Int):Wld:=match w.seat n with
 | none=>w
 | some x=>if x.c.coll≠s.c.coll then w else w.set i { s with c:=s.c.cmpS (atV x.c.r.ch (x.c.r.ch.links.length:Int)).index (atV x.c.r.ch (x.c.r.ch.links.length:Int)).sum }
/-- The tallies. -/
def tls (l:List Seat):List (Int×Int):=l.map fun s=>((s.c.r.ch.links.length:Int),(s.c.pend.length:Int))
/-- A step of a client. -/
def Wld.ownA (w:Wld) (L:List Thing) (s:Seat) (o:OpT):AnsT:=
 if o.kind=1 then ⟨s.c.issueE o.entry,[]⟩ else if o.kind=2 then ⟨s.c.rotE L,[]⟩
 else if o.kind=3 then ⟨w.upE s.c.pushE s.c.pushR,[]⟩ else if o.kind=4 then ⟨w.upE s.c.pullE [s.c.pullB],[]⟩
 else if o.kind=8 then ⟨w.cmpA s o.n,[]⟩
 else if o.kind=9 then (if o.n<0∨2≤o.n then ⟨12,[]⟩ else ⟨0,[]⟩) else ⟨s.c.takeE o.data,s.c.takeO L o.data⟩
def Wld.ownS (w:Wld) (L:List Thing) (s:Seat) (o:OpT):World3:=
 if o.kind=1 then (s.c.issueL L o.entry,w.set o.c { s with c:=s.c.issueS L o.entry }) else if o.kind=2 then (s.c.rotL L,w.set o.c { s with c:=s.c.rotS L })
 else if o.kind=3 then (L,w.upS o.c s.c.pushE s.c.pushR) else if o.kind=4 then (L,w.upS o.c s.c.pullE [s.c.pullB])
 else if o.kind=8 then (L,w.cmpS o.c s o.n)
 else if o.kind=9 then (L,if o.n<0∨2≤o.n then w else w.set o.c { s with branch:=o.n }) else ((s.c.takeS L o.data).1,w.set o.c { s with c:=(s.c.takeS L o.data).2 })
/-- A step. -/
def Wld.doA (w:Wld) (L:List Thing) (o:OpT):AnsT:=
 if o.kind<1∨11<o.kind then ⟨13,[]⟩ else if 5≤o.kind∧o.kind≤7 then w.postA L o else if o.kind=10 then ⟨Srv.forkE o.n,[]⟩ else match w.seat o.c with | none=>⟨32,[]⟩ | some s=>w.ownA L s o
def Wld.doS (w:Wld) (L:List Thing) (o:OpT):World3:=
 if o.kind<1∨11<o.kind then (L,w) else if 5≤o.kind∧o.kind≤7 then w.postS L o else if o.kind=10 then (L,{ w with srv:=w.srv.forkS o.n }) else match w.seat o.c with | none=>(L,w) | some s=>w.ownS L s o
structure MembT where
 mc:Int
 mf:Int
 mw:Int
structure SetT where
 real:Bool
 mems:List MembT
def clash1 (m:MembT) (x:Seat):Bool:=decide (x.c.coll=m.mc)&&(decide (x.c.who=m.mw)||decide (x.c.founder≠m.mf))
def newOne (y:List Thing×List Seat) (m:MembT):Option (List Thing×List Seat):=
 if y.2.any (clash1 m) then none else if rplOk m.mc m.mf m.mw then some ((newR y.1 m.mc m.mf m.mw (putB [.int m.mc])).1,y.2++[⟨newC y.1 m.mc m.mf m.mw (putB [.int m.mc]),0⟩]) else none
def newAll:List MembT→List Thing×List Seat→Option (List Thing×List Seat)
 | [],y=>some y
 | m::r,y=>match newOne y m with
  | none=>none
  | some z=>newAll r z
def newW (ms:List MembT):Option World3:=if ms.length<1∨6<ms.length then none else (newAll ms ([],[])).map fun x=>(x.1,⟨x.2,Srv.new,[],[]⟩)
theorem newAll_app : ∀ {a b : List MembT} {y : List Thing × List Seat}, newAll (a ++ b) y = match newAll a y with | none => none | some z => newAll b z
  | [], _, _ => rfl
  | m :: r, b, y => by
    rw [List.cons_append, newAll, newAll]
    cases newOne y m with
    | none => rfl
    | some z => exact newAll_app
theorem newAll_step {ms:List MembT} {j:Nat} {m:MembT} {y z x:List Thing×List Seat} (h:newAll (ms.take j) x=some y) (hm:ms[j]?=some m) (h1:newOne y m=some z):newAll (ms.take (j+1)) x=some z:=by
 rw [List.take_add_one,hm,newAll_app,h]
 show newAll [m] y=_
 rw [newAll,h1];rfl
theorem newW_no {ms:List MembT} {j:Nat} {m:MembT} {y:List Thing×List Seat} (h5:¬(ms.length<1∨6<ms.length)) (h:newAll (ms.take j) ([],[])=some y) (hm:ms[j]?=some m) (h1:newOne y m=none):newW ms=none:=by
 have hs:newAll (ms.take (j+1)) ([],[])=none:=by
  rw [List.take_add_one,hm,newAll_app,h]
  show newAll [m] y=_
  rw [newAll,h1]
 have h2:newAll ms ([],[])=none:=by
  rw [←List.take_append_drop (j+1) ms,newAll_app,hs]
 rw [newW,if_neg h5,h2];rfl
theorem newOne_clash {m:MembT} {y:List Thing×List Seat} (h:y.2.any (clash1 m)=true):newOne y m=none:=if_pos h
theorem newOne_bad {m:MembT} {y:List Thing×List Seat} (h:rplOk m.mc m.mf m.mw=false):newOne y m=none:=by
 unfold newOne;split
 ·rfl
 ·rw [h];rfl
theorem newOne_ok {m:MembT} {y:List Thing×List Seat} (h1:y.2.any (clash1 m)=false) (h:rplOk m.mc m.mf m.mw=true):newOne y m=some ((newR y.1 m.mc m.mf m.mw (putB [.int m.mc])).1,y.2++[⟨newC y.1 m.mc m.mf m.mw (putB [.int m.mc]),0⟩]):=by
 unfold newOne;rw [h1,h];rfl
theorem newR_len {L:List Thing} {a b c:Int} {s:List UInt8}:(newR L a b c s).1.length≤L.length+2:=by
 have h1:=onceL_len (chT a) L
 have h2:=onceL_len (derT s uEpoch 0) (onceL (chT a) L)
 show (onceL (derT s uEpoch 0) (onceL (chT a) L)).length≤_;omega
theorem newAll_brs:∀{ms:List MembT} {y z:List Thing×List Seat},newAll ms y=some z→(∀s∈y.2,0≤s.branch∧s.branch≤1)→∀s∈z.2,0≤s.branch∧s.branch≤1
 | [],y,z,h,hy=>by cases h;exact hy
 | m::r,y,z,h,hy=>by
  rw [newAll] at h
  cases h1:newOne y m with
  | none=>rw [h1] at h;cases h
  | some w =>
   rw [h1] at h
   refine newAll_brs h fun s hs=>?_
   unfold newOne at h1
   split at h1
   ·cases h1
   ·split at h1
    ·cases h1
     rcases List.mem_append.1 hs with hs | hs
     ·exact hy s hs
     ·rw [List.mem_singleton.1 hs];exact ⟨Int.le_refl _,Int.le_of_lt (by decide:(0:Int)<1)⟩
    ·cases h1
theorem newAll_br {ms:List MembT} {L:List Thing} {l:List Seat} (h:newAll ms ([],[])=some (L,l)):∀s∈l,0≤s.branch∧s.branch≤1:=newAll_brs h fun s hs=>by cases hs
theorem rpl_no {c f w:Int} (h:rplOk c f w=false):firstE f≠0∨w<1∨16<w∨c<1∨1099511627776<c:=by
 refine Classical.byContradiction fun q=>?_
 have hf:firstE f=0:=Classical.byContradiction fun e=>q (.inl e)
 have hw:within f 1 16=true:=by
  unfold firstE at hf;split at hf
  ·assumption
  ·cases hf
 have:rplOk c f w=true:=rplOk_iff.2 ⟨by omega,within_iff.1 hw,by omega⟩
 rw [this] at h;cases h
end Go.Proofs.YthddplghlljdbaaGreat
