import Derived.Test.YthddplghlljdbaaGreatQWorldPostSrvC
set_option linter.unusedVariables false
set_option linter.unusedSimpArgs false
namespace Go.Proofs.YthddplghlljdbaaGreat
open Go.RowKit Go.Ecal
/-- What holds of a world. -/
structure Wld.ok (W:Wld):Prop where
 seats:W.seats.length≤6
 post:W.post.length≤512
 pk:∀p∈W.post,(0≤p.c∧p.c<(W.seats.length:Int))∧p.data.length≤32768
 sent:∀b∈W.sent,b.length≤32768
 br:∀s∈W.seats,0≤s.branch∧s.branch≤1
abbrev SeatsQ (bs:List (Nat×Nat)) (p:Value) (l:List Seat):HP:=SeatsP 79 p bs l
def WldO (q:Value) (bs:List (Nat×Nat)) (p:Value) (W:Wld):HP:=.ex fun b=>.ex fun lv=>.ex fun sv=>.ex fun pv=>.ex fun ev =>
 Sep [.prop (q=ptr b∧W.ok∧bs.length=W.seats.length),.fact ⟨fun I=>RoX I lv ptrR (bs.map Prod.fst),fun h k=>k.up h⟩,
  Blk b 72 [lv,sv,pv,ev],SeatsQ bs p W.seats,SrvP sv W.srv,OwnX 46 packR pv W.post,OwnX 33 bytesR ev W.sent]
/-- A world without the seat i. -/
def WldB (q:Value) (i:Nat) (bs:List (Nat×Nat)) (p:Value) (W:Wld):HP:=.ex fun b=>.ex fun lv=>.ex fun sv=>.ex fun pv=>.ex fun ev =>
 Sep [.prop (q=ptr b∧W.ok∧bs.length=W.seats.length),.fact ⟨fun I=>RoX I lv ptrR (bs.map Prod.fst),fun h k=>k.up h⟩,
  Blk b 72 [lv,sv,pv,ev],SeatsQ (bs.eraseIdx i) p (W.seats.eraseIdx i),SrvP sv W.srv,OwnX 46 packR pv W.post,OwnX 33 bytesR ev W.sent]
section
variable {w : World} {I : Gh} {R : List HP} {q p : Value} {W : Wld} {bs : List (Nat × Nat)}
theorem SeatsP.len {T:TypeId}:∀{bs:List (Nat×Nat)} {l:List Seat} {R:List HP},Sat w I (SeatsP T p bs l::R)→bs.length=l.length
 | _::_,_::_,_,S=>by
  have S1:=(S.split).fr1
  rw [List.length_cons,List.length_cons,SeatsP.len S1]
 | [],[],_,_=>rfl
 | _::_,[],_,S=>by exact (S.unprop).1.elim
 | [],_::_,_,S=>by exact (S.unprop).1.elim
theorem WldO.opn (S : Sat w I (WldO q bs p W :: R)) : ∃ b lv sv pv ev, q = ptr b ∧ W.ok ∧ bs.length = W.seats.length ∧ RoX I lv ptrR (bs.map Prod.fst) ∧
    Sat w I (Blk b 72 [lv, sv, pv, ev] :: SeatsQ bs p W.seats :: SrvP sv W.srv :: OwnX 46 packR pv W.post :: OwnX 33 bytesR ev W.sent :: R) := by
  obtain ⟨b, S⟩ := S.unex; obtain ⟨lv, S⟩ := S.unex; obtain ⟨sv, S⟩ := S.unex; obtain ⟨pv, S⟩ := S.unex; obtain ⟨ev, S⟩ := S.unex
  obtain ⟨⟨h1, h2, h3⟩, S⟩ := S.split.unprop
  obtain ⟨h4, S⟩ := S.unfact
  exact ⟨b, lv, sv, pv, ev, h1, h2, h3, h4, S⟩
theorem WldO.cls {b : Nat} {lv sv pv ev : Value} (h2 : W.ok) (h3 : bs.length = W.seats.length) (h4 : RoX I lv ptrR (bs.map Prod.fst))
    (S : Sat w I (Blk b 72 [lv, sv, pv, ev] :: SeatsQ bs p W.seats :: SrvP sv W.srv :: OwnX 46 packR pv W.post :: OwnX 33 bytesR ev W.sent :: R)) : Sat w I (WldO (ptr b) bs p W :: R) :=
  Sat.toex b (Sat.toex lv (Sat.toex sv (Sat.toex pv (Sat.toex ev (Sat.join [_, _, _, _, _, _, _] ((Sat.tofact (φ := ⟨fun I => RoX I lv ptrR (bs.map Prod.fst), fun h k => k.up h⟩) h4 S).toprop ⟨rfl, h2, h3⟩))))))
theorem WldO.wok (S:Sat w I (WldO q bs p W::R)):W.ok:=by obtain ⟨b,_,_,_,_,_,h,_⟩:=WldO.opn S;exact h
/-- A seat is opened. -/
theorem WldO.at {i : Nat} {a : Nat × Nat} {x : Seat} (hb : bs[i]? = some a) (hx : W.seats[i]? = some x) (S : Sat w I (WldO q bs p W :: R)) :
    Sat w I (Blk a.1 79 [ptr a.2, .int .i64 x.c.coll, .int .i64 x.c.founder, .int .i64 x.c.who, .int .i64 x.branch] :: CliP (ptr a.2) p x.c :: WldB q i bs p W :: R) := by
  obtain ⟨b, lv, sv, pv, ev, h1, h2, h3, h4, S⟩ := WldO.opn S
  have S1 := SeatsP.at hb hx S.fr1
  have S2 : Sat w I (Blk a.1 79 [ptr a.2, .int .i64 x.c.coll, .int .i64 x.c.founder, .int .i64 x.c.who, .int .i64 x.branch] :: CliP (ptr a.2) p x.c :: SeatsQ (bs.eraseIdx i) p (W.seats.eraseIdx i) :: Blk b 72 [lv, sv, pv, ev] :: SrvP sv W.srv :: OwnX 46 packR pv W.post :: OwnX 33 bytesR ev W.sent :: R) := Sat.split (m := [_, _]) S1
  have S4 := ((((S2.fr6).fr6).fr6).fr5).fr6
  have S5 : Sat w I (WldB q i bs p W :: _) := Sat.toex b (Sat.toex lv (Sat.toex sv (Sat.toex pv (Sat.toex ev (Sat.join [_, _, _, _, _, _, _] ((Sat.tofact (φ := ⟨fun I => RoX I lv ptrR (bs.map Prod.fst), fun h k => k.up h⟩) h4 S4).toprop ⟨h1, h2, h3⟩))))))
  exact (S5.fr2).fr2
theorem WldB.opn {i : Nat} (S : Sat w I (WldB q i bs p W :: R)) : ∃ b lv sv pv ev, q = ptr b ∧ W.ok ∧ bs.length = W.seats.length ∧ RoX I lv ptrR (bs.map Prod.fst) ∧
    Sat w I (Blk b 72 [lv, sv, pv, ev] :: SeatsQ (bs.eraseIdx i) p (W.seats.eraseIdx i) :: SrvP sv W.srv :: OwnX 46 packR pv W.post :: OwnX 33 bytesR ev W.sent :: R) := by
  obtain ⟨b, S⟩ := S.unex; obtain ⟨lv, S⟩ := S.unex; obtain ⟨sv, S⟩ := S.unex; obtain ⟨pv, S⟩ := S.unex; obtain ⟨ev, S⟩ := S.unex
  obtain ⟨⟨h1, h2, h3⟩, S⟩ := S.split.unprop
  obtain ⟨h4, S⟩ := S.unfact
  exact ⟨b, lv, sv, pv, ev, h1, h2, h3, h4, S⟩
theorem Wld.ok.set {i:Int} {x:Seat} (h:W.ok) (hb:0≤x.branch∧x.branch≤1):(W.set i x).ok:=
 ⟨by simpa [Wld.set] using h.seats,h.post,fun p hp=>by simpa [Wld.set] using h.pk p hp,h.sent,fun s hs=>by
  rcases List.mem_or_eq_of_mem_set hs with hs | rfl
  ·exact h.br s hs
  ·exact hb⟩
theorem Wld.seat_br {i:Int} {x:Seat} (h:W.ok) (hx:W.seat i=some x):0≤x.branch∧x.branch≤1:=by
 unfold Wld.seat at hx;split at hx
 ·exact h.br x (List.mem_of_getElem? hx)
 ·cases hx
/-- .. and closed. -/
theorem WldB.back {i : Int} {a : Nat × Nat} {x y : Seat} (hb : bs[i.toNat]? = some a) (hx : W.seats[i.toNat]? = some y) (hbr : 0 ≤ x.branch ∧ x.branch ≤ 1)
    (S : Sat w I (Blk a.1 79 [ptr a.2, .int .i64 x.c.coll, .int .i64 x.c.founder, .int .i64 x.c.who, .int .i64 x.branch] :: CliP (ptr a.2) p x.c :: WldB q i.toNat bs p W :: R)) : Sat w I (WldO q bs p (W.set i x) :: R) := by
  obtain ⟨b, lv, sv, pv, ev, rfl, h2, h3, h4, S⟩ := WldB.opn S.fr2
  have S1 : Sat w I (SeatB 79 p a x :: _) := Sat.join [_, _] ((S.fr6).fr6)
  have S2 := SeatsP.back hb hx ((S1.fr2).fr1)
  exact WldO.cls (h2.set hbr) (by simpa [Wld.set] using h3) h4 (S2.fr1)
theorem seat_get {j:Nat} {c:Nat} (h:(bs.map Prod.fst)[j]?=some c):∃cb,bs[j]?=some (c,cb):=by
 rw [List.getElem?_map] at h
 obtain ⟨⟨a,cb⟩,h1,h2⟩:=Option.map_eq_some_iff.1 h
 exact ⟨cb,by rw [h1];congr 2⟩
theorem Wld.seat_at {i:Int} {x:Seat} (hx:W.seat i=some x):0≤i∧i<(W.seats.length:Int)∧W.seats[i.toNat]?=some x:=by
 unfold Wld.seat at hx;split at hx
 ·rename_i h;exact ⟨h.1,h.2,hx⟩
 ·cases hx
theorem Wld.seat_some {i:Int} (h:0≤i∧i<(W.seats.length:Int)):∃x,W.seat i=some x:=by
 refine ⟨W.seats[i.toNat]'(by omega),?_⟩
 unfold Wld.seat;rw [if_pos h];exact List.getElem?_eq_getElem (by omega)
theorem Wld.seat_none {i:Int} (h:W.seat i=none):¬(0≤i∧i<(W.seats.length:Int)):=fun q=>by
 obtain ⟨x,hx⟩:=Wld.seat_some q;rw [hx] at h;cases h
theorem SeatsQ.open {l : List Seat} {i : Nat} {a cb : Nat} {x : Seat} (hb : bs[i]? = some (a, cb)) (hx : l[i]? = some x) (S : Sat w I (SeatsQ bs p l :: R)) :
    Sat w I (Blk a 79 [ptr cb, .int .i64 x.c.coll, .int .i64 x.c.founder, .int .i64 x.c.who, .int .i64 x.branch] :: CliP (ptr cb) p x.c :: SeatsQ (bs.eraseIdx i) p (l.eraseIdx i) :: R) :=
  Sat.split (m := [_, _]) (SeatsP.at hb hx S)
theorem SeatsQ.shut {l : List Seat} {i : Nat} {a cb : Nat} {x y : Seat} (hb : bs[i]? = some (a, cb)) (hx : l[i]? = some y)
    (S : Sat w I (Blk a 79 [ptr cb, .int .i64 x.c.coll, .int .i64 x.c.founder, .int .i64 x.c.who, .int .i64 x.branch] :: CliP (ptr cb) p x.c :: SeatsQ (bs.eraseIdx i) p (l.eraseIdx i) :: R)) : Sat w I (SeatsQ bs p (l.set i x) :: R) :=
  SeatsP.back hb hx (Sat.join [_, _] S)
theorem SeatsQ.same {l : List Seat} {i : Nat} {a cb : Nat} {x : Seat} (hb : bs[i]? = some (a, cb)) (hx : l[i]? = some x)
    (S : Sat w I (Blk a 79 [ptr cb, .int .i64 x.c.coll, .int .i64 x.c.founder, .int .i64 x.c.who, .int .i64 x.branch] :: CliP (ptr cb) p x.c :: SeatsQ (bs.eraseIdx i) p (l.eraseIdx i) :: R)) : Sat w I (SeatsQ bs p l :: R) := by
  have h : l.set i x = l := by
    refine List.ext_getElem? fun j => ?_
    by_cases e : i = j
    · subst e; rw [List.getElem?_set_self (List.getElem?_eq_some_iff.1 hx).1, hx]
    · rw [List.getElem?_set_ne e]
  have := SeatsQ.shut hb hx S; rwa [h] at this
theorem CliP.bd {q:Value} {c:Cli} (S:Sat w I (CliP q p c::R)):c.r.ch.links.length≤64∧c.pend.length≤8:=by
 obtain ⟨b,wv,rv,pv,rfl,hok,_⟩:=CliP.opn S
 exact ⟨hok.r.links,hok.pend8⟩
theorem CliP.cok {q:Value} {c:Cli} (S:Sat w I (CliP q p c::R)):c.ok:=by obtain ⟨b,wv,rv,pv,rfl,hok,_⟩:=CliP.opn S;exact hok
theorem SeatsP.bds {T:TypeId}:∀{bs:List (Nat×Nat)} {l:List Seat} {R:List HP},Sat w I (SeatsP T p bs l::R)→∀x∈l,x.c.r.ch.links.length≤64∧x.c.pend.length≤8
 | _::_,y::_,_,S,x,hx=>by
  have S1:=S.split
  rcases List.mem_cons.1 hx with rfl | hx
  ·exact CliP.bd (Sat.split (m:=[_,_]) S1).fr1
  ·exact SeatsP.bds (S1.fr1) x hx
 | [],[],_,_,x,hx=>by simp at hx
 | _::_,[],_,S,_,_=>by exact (S.unprop).1.elim
 | [],_::_,_,S,_,_=>by exact (S.unprop).1.elim
theorem tls_bd {l:List Seat} (h:∀x∈l,x.c.r.ch.links.length≤64∧x.c.pend.length≤8):∀c∈tls l,0≤c.1∧c.1≤1000∧0≤c.2∧c.2≤1000:=fun c hc=>by
 obtain ⟨x,hx,rfl⟩:=List.mem_map.1 hc
 have:=h x hx;dsimp only;omega
theorem tls_step {l:List Seat} {j:Nat} {x:Seat} (h:l[j]?=some x):(tls l).take j++[((x.c.r.ch.links.length:Int),(x.c.pend.length:Int))]=(tls l).take (j+1):=by
 rw [List.take_add_one,tls,List.getElem?_map,h];rfl
theorem Wld.ok.mail {l:List PackT} (h:W.ok) (hl:l.length≤512) (hp:∀p∈l,(0≤p.c∧p.c<(W.seats.length:Int))∧p.data.length≤32768):({ W with post:=l }:Wld).ok:=⟨h.seats,hl,hp,h.sent,h.br⟩
theorem Wld.ok.sends {c:Int} {l:List (List UInt8)} (h:W.ok) (hc:0≤c∧c<(W.seats.length:Int)) (hl:∀b∈l,b.length≤32768) (h5:W.post.length+l.length≤512):({ W with post:=W.post++l.map fun b=>⟨c,true,b⟩,sent:=W.sent++l }:Wld).ok:=by
 refine ⟨h.seats,by simpa using h5,fun p hp=>?_,fun b hb=>?_,h.br⟩
 ·rcases List.mem_append.1 hp with hp | hp
  ·exact h.pk p hp
  ·obtain ⟨b,hb,rfl⟩:=List.mem_map.1 hp;exact ⟨hc,hl b hb⟩
 ·rcases List.mem_append.1 hb with hb | hb
  ·exact h.sent b hb
  ·exact hl b hb
theorem encB_small {f:FrameT}:f.encB.length≤32768:=by
 unfold FrameT.encB;split
 ·rename_i h
  unfold FrameT.encE at h;split at h
  ·cases h
  ·split at h
   ·cases h
   ·omega
 ·simp
theorem SeatsQ.arr {l:List Seat} {l0:List HP} {k i:Nat} {a cb:Nat} {x:Seat} (S:Sat w I l0) (hk:l0[k]?=some (SeatsQ bs p l)) (hb:bs[i]?=some (a,cb)) (hx:l[i]?=some x):Arr w a 79 [ptr cb,.int .i64 x.c.coll,.int .i64 x.c.founder,.int .i64 x.c.who,.int .i64 x.branch]:=
 (SeatsQ.open hb hx (S.cons_front hk)).a0
theorem hand_small {s : Srv} {br : Int} {b : List UInt8} : (s.handB br b).length ≤ 32768 := by
  unfold Srv.handB
  split
  · simp
  split
  · simp
  split
  · unfold Srv.pullB; split
    · simp
    · exact encB_small
  · simp
variable {L : List Thing} {k : PackT} {x : Seat}
theorem arr_down (hx:W.seat k.c=some x) (hup:k.up=false):W.arrA L k=⟨x.c.takeE k.data,x.c.takeO L k.data⟩∧W.arrS L k=((x.c.takeS L k.data).1,W.set k.c { x with c:=(x.c.takeS L k.data).2 }):=by
 unfold Wld.arrA Wld.arrS;rw [hx];dsimp only;rw [hup];exact ⟨rfl,rfl⟩
theorem arr_up (hx:W.seat k.c=some x) (hup:k.up=true):W.arrA L k=⟨W.srv.handE x.branch k.data,[]⟩∧W.arrS L k=(L,{ W with srv:=W.srv.handS x.branch k.data,post:=if W.srv.handB x.branch k.data≠[]∧W.post.length<512 then W.post++[⟨k.c,false,W.srv.handB x.branch k.data⟩] else W.post }):=by
 unfold Wld.arrA Wld.arrS;rw [hx];dsimp only;rw [hup];exact ⟨rfl,rfl⟩
theorem nn_of {v:Value} {l:List UInt8} {n:Nat} (hn:isNil v=l.isEmpty):(!isNil v&&decide ((n:Int)<512))=true↔(l≠[]∧n<512):=by
 rw [hn,Bool.and_eq_true,decide_eq_true_eq,Bool.not_eq_true',List.isEmpty_eq_false_iff]
 constructor
 ·exact fun h=>⟨h.1,by omega⟩
 ·exact fun h=>⟨h.1,by omega⟩
theorem Wld.ok.handed {s:Srv} {l:List PackT} (h:W.ok) (hl:l.length≤512) (hp:∀p∈l,(0≤p.c∧p.c<(W.seats.length:Int))∧p.data.length≤32768):({ W with srv:=s,post:=l }:Wld).ok:=⟨h.seats,hl,hp,h.sent,h.br⟩
theorem Wld.ok.back1 {c:Int} {b:List UInt8} (h:W.ok) (hc:0≤c∧c<(W.seats.length:Int)) (hb:b.length≤32768):∀p∈W.post++[(⟨c,false,b⟩:PackT)],(0≤p.c∧p.c<(W.seats.length:Int))∧p.data.length≤32768:=fun p hp=>by
 rcases List.mem_append.1 hp with hp | hp
 ·exact h.pk p hp
 ·rw [List.mem_singleton.1 hp];exact ⟨hc,hb⟩
theorem Wld.ok.less {i:Nat} (h:W.ok):({ W with post:=W.post.eraseIdx i }:Wld).ok:=
 h.mail (Nat.le_trans (List.length_eraseIdx_le _ _) h.post) fun p hp=>h.pk p (List.mem_of_mem_eraseIdx hp)
theorem Wld.ok.twice (h:W.ok) (h5:W.post.length≠512) (hk:k∈W.post):({ W with post:=W.post++[k] }:Wld).ok:=by
 refine h.mail (by have:=h.post;simp;omega) fun p hp=>?_
 rcases List.mem_append.1 hp with hp | hp
 ·exact h.pk p hp
 ·rw [List.mem_singleton.1 hp];exact h.pk k hk
theorem push_len {c:Cli}:c.pushR.length≤1∧∀b∈c.pushR,b.length≤32768:=by
 unfold Cli.pushR Cli.pushL
 split
 ·simp
 split
 ·simp
 ·exact ⟨by simp,fun b hb=>by rw [List.mem_singleton.1 hb];exact encB_small⟩
theorem pull_len {c:Cli}:c.pullB.length≤32768:=by
 unfold Cli.pullB;split
 ·simp
 ·exact encB_small
variable {o : OpT}
theorem post_bad (h:o.n<0∨(W.post.length:Int)≤o.n):W.postA L o=⟨60,[]⟩∧W.postS L o=(L,W):=⟨if_pos h,if_pos h⟩
theorem post_at (h : ¬ (o.n < 0 ∨ (W.post.length : Int) ≤ o.n)) (hk : W.post[o.n.toNat]? = some k) :
    W.postA L o = (if o.kind = 7 then (if W.post.length = 512 then ⟨33, []⟩ else ⟨0, []⟩) else if o.kind = 6 then ⟨0, []⟩ else ({ W with post := W.post.eraseIdx o.n.toNat } : Wld).arrA L k) ∧
    W.postS L o = (if o.kind = 7 then (if W.post.length = 512 then (L, W) else (L, { W with post := W.post ++ [k] })) else if o.kind = 6 then (L, { W with post := W.post.eraseIdx o.n.toNat }) else ({ W with post := W.post.eraseIdx o.n.toNat } : Wld).arrS L k) := by
  unfold Wld.postA Wld.postS; rw [if_neg h, if_neg h, hk]; exact ⟨rfl, rfl⟩
/-- Who a client is stays as1 it is. -/
def Cli.Id (c d:Cli):Prop:=c.coll=d.coll∧c.founder=d.founder∧c.who=d.who
theorem issue_id {c:Cli} {e:Entry}:(c.issueS L e).Id c:=by
 unfold Cli.issueS Cli.sealS Cli.waits;split
 ·split<;>exact ⟨rfl,rfl,rfl⟩
 ·exact ⟨rfl,rfl,rfl⟩
theorem rot_id {c:Cli}:(c.rotS L).Id c:=by
 unfold Cli.rotS Cli.sealS Cli.waits;split
 ·split<;>exact ⟨rfl,rfl,rfl⟩
 ·exact ⟨rfl,rfl,rfl⟩
theorem take_id {c:Cli} {b:List UInt8}:(c.takeS L b).2.Id c:=by unfold Cli.takeS;split<;>exact ⟨rfl,rfl,rfl⟩
theorem cmp_id {c:Cli} {i:Int} {s:List UInt8}:(c.cmpS i s).Id c:=⟨rfl,rfl,rfl⟩
theorem SeatsQ.shutC {l : List Seat} {i : Nat} {a cb : Nat} {c2 : Cli} (hb : bs[i]? = some (a, cb)) (hx : l[i]? = some x) (hid : c2.Id x.c)
    (S : Sat w I (Blk a 79 [ptr cb, .int .i64 x.c.coll, .int .i64 x.c.founder, .int .i64 x.c.who, .int .i64 x.branch] :: CliP (ptr cb) p c2 :: SeatsQ (bs.eraseIdx i) p (l.eraseIdx i) :: R)) : Sat w I (SeatsQ bs p (l.set i { x with c := c2 }) :: R) := by
  rw [← hid.1, ← hid.2.1, ← hid.2.2] at S
  exact SeatsQ.shut (x := { x with c := c2 }) hb hx S
theorem SeatsQ.nil (S:Sat w I R) (p:Value):Sat w I (SeatsQ [] p []::R):=Sat.join [] S
theorem SeatsQ.snoc {l:List Seat} {a cb:Nat} {x:Seat} (S:Sat w I (SeatsQ bs p l::Blk a 79 [ptr cb,.int .i64 x.c.coll,.int .i64 x.c.founder,.int .i64 x.c.who,.int .i64 x.branch]::CliP (ptr cb) p x.c::R)):Sat w I (SeatsQ (bs++[(a,cb)]) p (l++[x])::R):=by
 have S1:Sat w I (SeatB 79 p (a,cb) x::SeatsQ bs p l::R):=Sat.join [_,_] (S.fr2.fr2)
 exact SeatsP.snoc S1
def NewP (v:Value):Option World3→HP
 | some x=>.ex fun p=>.ex fun bs=>Sep [WldO v bs p x.2,Suite p x.1]
 | none=>.prop (v=.pointer none)
theorem SeatsP.coks {T:TypeId}:∀{bs:List (Nat×Nat)} {l:List Seat} {R:List HP},Sat w I (SeatsP T p bs l::R)→∀x∈l,x.c.ok
 | _::_,y::_,_,S,x,hx=>by
  have S1:=S.split
  rcases List.mem_cons.1 hx with rfl | hx
  ·exact CliP.cok (Sat.split (m:=[_,_]) S1).fr1
  ·exact SeatsP.coks (S1.fr1) x hx
 | [],[],_,_,x,hx=>by simp at hx
 | _::_,[],_,S,_,_=>by exact (S.unprop).1.elim
 | [],_::_,_,S,_,_=>by exact (S.unprop).1.elim
theorem WldO.coks (S:Sat w I (WldO q bs p W::R)):∀x∈W.seats,x.c.ok:=by obtain ⟨b,lv,sv,pv,ev,_,_,_,_,S⟩:=WldO.opn S;exact SeatsP.coks S.fr1
theorem WldB.same {i : Int} {a : Nat × Nat} {x : Seat} (hb : bs[i.toNat]? = some a) (hx : W.seat i = some x)
    (S : Sat w I (Blk a.1 79 [ptr a.2, .int .i64 x.c.coll, .int .i64 x.c.founder, .int .i64 x.c.who, .int .i64 x.branch] :: CliP (ptr a.2) p x.c :: WldB q i.toNat bs p W :: R)) : Sat w I (WldO q bs p W :: R) := by
  obtain ⟨_, _, h1⟩ := Wld.seat_at hx
  have hW : W.ok := (WldB.opn S.fr2).elim fun _ h => h.elim fun _ h => h.elim fun _ h => h.elim fun _ h => h.elim fun _ h => h.2.1
  have S1 := WldB.back hb h1 (Wld.seat_br hW hx) S
  have h : W.set i x = W := by
    unfold Wld.set
    have : W.seats.set i.toNat x = W.seats := by
      refine List.ext_getElem? fun j => ?_
      by_cases e : i.toNat = j
      · subst e; rw [List.getElem?_set_self (List.getElem?_eq_some_iff.1 h1).1, h1]
      · rw [List.getElem?_set_ne e]
    rw [this]
  rwa [h] at S1
end
end Go.Proofs.YthddplghlljdbaaGreat
