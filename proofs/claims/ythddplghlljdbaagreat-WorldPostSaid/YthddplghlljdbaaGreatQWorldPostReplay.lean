import Derived.Test.YthddplghlljdbaaGreatQWorldPostRing2
set_option linter.unusedVariables false
set_option linter.unusedSimpArgs false
namespace Go.Proofs.YthddplghlljdbaaGreat
open Go.RowKit Go.Ecal
def thereD (K:List Doc) (n:List UInt8):Bool:=(lkD K n).isSome
def applyE (K:List Doc) (e:Entry):Int:=if e.right=false then 10 else if e.kind=2∧thereD K e.name=false then 32 else 0
def applyD (K:List Doc) (e:Entry):List Doc:=
 if e.right=false then K else if e.kind=1 then putD K e.name e.value else if e.kind=2 then delD K e.name else K
theorem del_none {K:List Doc} {n:List UInt8} (h:(lkD K n).isSome=false):delD K n=K:=by
 induction K with
 | nil=>rfl
 | cons p r ih =>
  rw [lkD] at h
  split at h
  ·simp at h
  ·rename_i hp
   rw [delD,List.filter_cons_of_pos (by simp [hp])]
   exact congrArg (p::·) (ih h)
theorem lkD_len {K:List Doc} {n:List UInt8} (h:∀d∈K,d.2.length≤1000000):((lkD K n).getD []).length≤1000000:=by
 induction K with
 | nil=>simp [lkD]
 | cons p r ih =>
  rw [lkD]
  split
  ·exact h p (List.mem_cons_self ..)
  ·exact ih fun d hd=>h d (List.mem_cons_of_mem _ hd)
theorem right_nv {e : Entry} (h : e.right = true) : e.name.length ≤ 64 ∧ e.value.length ≤ 512 := by
  have hr := h
  simp only [Entry.right, Bool.and_eq_true, decide_eq_true_eq] at hr
  obtain ⟨⟨_, hb⟩, hd⟩ := hr
  by_cases k : e.kind = 1 ∨ e.kind = 2
  · rw [Entry.body, if_pos k] at hd; simp only [Bool.and_eq_true, within_iff, decide_eq_true_eq] at hd; omega
  · have h1 : e.name = [] := by rw [hb]; simp [Entry.bare, k]
    have h2 : e.value = [] := by rw [hb]; simp only [Entry.bare]; rw [if_neg (fun q => k (.inl q))]
    rw [h1, h2]; simp
structure Rpl where
 coll:Int
 founder:Int
 who:Int
 sec:List UInt8
 ch:Chn
 pol:Pol
 docs:List Doc
 ks:List (List UInt8)
 seen:List Int
abbrev World2:=List Thing×Rpl
structure WhoT where
 coll:Int
 founder:Int
 who:Int
 sec:List UInt8
def seenAt (l:List Int) (w:Int):Int:=if 0≤w∧w≤16 then l.getD w.toNat 0 else 0
/-- What a rotate's wraps teach: the suite's list and the keys behind. -/
def learnAll (who:Int) (sec:List UInt8) (ep:Int):List WrapT→List Thing×List (List UInt8)→List Thing×List (List UInt8)
 | [],x=>x
 | a::r,x=>learnAll who sec ep r (if a.who=who then (unwrapL x.1 sec who ep,if unwrapE x.1 sec who ep a.box=0 then learnK x.2 ep (unwrapB x.1 sec who ep a.box) else x.2) else x)
/-- What an entry that may be does. -/
def Rpl.take (s:Rpl) (L:List Thing) (e:Entry):World2:=
 ((learnAll s.who s.sec e.epoch e.wraps (L,s.ks)).1,{ s with pol:=s.pol.app e,docs:=applyD s.docs e,ks:=(learnAll s.who s.sec e.epoch e.wraps (L,s.ks)).2 })
def Rpl.entryE (s:Rpl) (ep:Int) (e:Entry):Int:=
 if e.seq≤seenAt s.seen e.writer then 31 else if e.kind≠5∧ep≠s.pol.epoch then 40 else s.pol.mayE e
def Rpl.sees (s:Rpl) (e:Entry):Rpl:={ s with seen:=s.seen.set e.writer.toNat e.seq }
def Rpl.entryS (s:Rpl) (L:List Thing) (ep:Int) (e:Entry):World2:=
 if e.seq≤seenAt s.seen e.writer then (L,s) else if s.entryE ep e=0 then (s.sees e).take L e else (L,s.sees e)
def Rpl.outE (s:Rpl) (L:List Thing) (x:Record):Int:=
 if s.pol.epoch<x.epoch then 34 else if (keyAt s.ks x.epoch).isEmpty then 21
 else if openRE L s.sec (keyAt s.ks x.epoch) x≠0 then openRE L s.sec (keyAt s.ks x.epoch) x
 else s.entryE x.epoch (openRV L s.sec (keyAt s.ks x.epoch) x)
def Rpl.outS (s:Rpl) (L:List Thing) (x:Record):World2:=
 if s.pol.epoch<x.epoch then (L,s) else if (keyAt s.ks x.epoch).isEmpty then (L,s)
 else if openRE L s.sec (keyAt s.ks x.epoch) x≠0 then (openRL L s.sec (keyAt s.ks x.epoch) x,s)
 else s.entryS (openRL L s.sec (keyAt s.ks x.epoch) x) x.epoch (openRV L s.sec (keyAt s.ks x.epoch) x)
/-- Bytes are committed: the error,the outcome,what is behind. -/
def Rpl.isRec (s:Rpl) (b:List UInt8):Bool:=decide (recE b=0)&&decide ((recV b).coll=s.coll)
def Rpl.comE (s:Rpl) (b:List UInt8):Int:=if s.isRec b then chE s.ch b else 10
def Rpl.linked (s:Rpl) (L:List Thing) (b:List UInt8):Rpl:={ s with ch:=chApp L s.ch b }
def Rpl.comO (s:Rpl) (L:List Thing) (b:List UInt8):Int:=if s.comE b=0 then (s.linked L b).outE (chL L s.ch b) (recV b) else 0
def Rpl.comS (s:Rpl) (L:List Thing) (b:List UInt8):World2:=if s.comE b=0 then (s.linked L b).outS (chL L s.ch b) (recV b) else (L,s)
def rplOk (coll founder who:Int):Bool:=within coll 1 1099511627776&&within founder 1 16&&within who 1 16
/-- A replay of nothing. -/
def newR (L:List Thing) (coll founder who:Int) (sec:List UInt8):World2:=
 (onceL (derT sec uEpoch 0) (onceL (chT coll) L),⟨coll,founder,who,sec,chNew L coll,firstP founder,[],ring0 (keyFor (onceL (chT coll) L) sec uEpoch 0),List.replicate 17 0⟩)
abbrev TxtOk (L:List Thing):Prop:=∀t∈L,t.text.length≤800000000
theorem TxtOk.once {t:Thing} {L:List Thing} (h:TxtOk L) (ht:t.text.length≤800000000):TxtOk (onceL t L):=by
 unfold onceL;split
 ·exact h
 ·intro u hu
  rcases List.mem_append.1 hu with hu | hu
  ·exact h u hu
  ·rw [List.mem_singleton.1 hu];exact ht
theorem TxtOk.unwrap {L:List Thing} {s:List UInt8} {w e:Int} (h:TxtOk L):TxtOk (unwrapL L s w e):=by
 unfold unwrapL;split
 ·exact h.once (by simp [be6_len])
 ·exact h
theorem TxtOk.right {L:List Thing} {s use:List UInt8} {n:Int} (hu:use.length≤1000) (h:TxtOk L):TxtOk (rightL L s use n):=by
 unfold rightL;split
 ·exact h.once (by simp [be6_len];omega)
 ·exact h
theorem TxtOk.mark {L:List Thing} {s b:List UInt8} {c w:Int} (hb:b.length≤4096) (h:TxtOk L):TxtOk (markL L s c w b):=by
 refine (h.right (by decide)).once ?_
 have:=putB_le [Any.int c,Any.bytes b]
 show (putB [Any.int c,Any.bytes b]).length≤_
 simp at this;omega
theorem TxtOk.open {L : List Thing} {s k : List UInt8} {r : Record} (h : TxtOk L) : TxtOk (openRL L s k r) := by
  unfold openRL
  split
  · split
    · split
      · unfold openYL; split
        · exact h.mark (txt4096 _)
        · exact h
      · exact h
    · exact h
  · exact h
theorem unwrapL_len (L:List Thing) (s:List UInt8) (w e:Int):(unwrapL L s w e).length≤L.length+1:=by
 unfold unwrapL;split
 ·exact onceL_len _ _
 ·omega
theorem openRL_le (L : List Thing) (s k : List UInt8) (r : Record) : (openRL L s k r).length ≤ L.length + 2 := by
  unfold openRL
  split
  · split
    · split
      · unfold openYL; split
        · exact markL_len _ _ _ _ _
        · omega
      · omega
    · omega
  · omega
/-- One wrap. -/
def learn1 (who:Int) (sec:List UInt8) (ep:Int) (a:WrapT) (x:List Thing×List (List UInt8)):List Thing×List (List UInt8):=
 if a.who=who then (unwrapL x.1 sec who ep,if unwrapE x.1 sec who ep a.box=0 then learnK x.2 ep (unwrapB x.1 sec who ep a.box) else x.2) else x
theorem learn_app {who ep:Int} {sec:List UInt8} {a:WrapT}:∀{l:List WrapT} {x:List Thing×List (List UInt8)},learnAll who sec ep (l++[a]) x=learn1 who sec ep a (learnAll who sec ep l x)
 | [],_=>rfl
 | _::l,x=>by rw [List.cons_append,learnAll,learnAll,learn_app (l:=l)]
theorem learn_step {who ep:Int} {sec:List UInt8} {l:List WrapT} {j:Nat} {a:WrapT} {x:List Thing×List (List UInt8)} (ha:l[j]?=some a):learnAll who sec ep (l.take (j+1)) x=learn1 who sec ep a (learnAll who sec ep (l.take j) x):=by
 rw [List.take_add_one,ha];exact learn_app
def KsOk (ks:List (List UInt8)):Prop:=ks.length=17∧∀k∈ks,k.length≤1000
theorem KsOk.learn {ks : List (List UInt8)} {e : Int} {k : List UInt8} (h : KsOk ks) : KsOk (learnK ks e k) := by
  refine ⟨learnK_len.trans h.1, ?_⟩
  unfold learnK; split
  · rename_i he
    intro x hx
    rcases List.mem_or_eq_of_mem_set hx with hx | rfl
    · exact h.2 x hx
    · have : x.length = 32 := by
        unfold learnE at he
        split at he
        · split at he
          · assumption
          · cases he
        · cases he
      omega
  · exact h.2
theorem learn1_ok {who ep:Int} {sec:List UInt8} {a:WrapT} {x:List Thing×List (List UInt8)} (hT:TxtOk x.1) (hk:KsOk x.2):TxtOk (learn1 who sec ep a x).1∧KsOk (learn1 who sec ep a x).2∧(learn1 who sec ep a x).1.length≤x.1.length+1:=by
 unfold learn1;split
 ·refine ⟨hT.unwrap,?_,unwrapL_len _ _ _ _⟩
  split
  ·exact hk.learn
  ·exact hk
 ·exact ⟨hT,hk,by omega⟩
theorem learn_ok {who ep:Int} {sec:List UInt8}:∀{l:List WrapT} {x:List Thing×List (List UInt8)},TxtOk x.1→KsOk x.2→TxtOk (learnAll who sec ep l x).1∧KsOk (learnAll who sec ep l x).2∧(learnAll who sec ep l x).1.length≤x.1.length+l.length
 | [],_,hT,hk=>⟨hT,hk,by simp [learnAll]⟩
 | a::l,x,hT,hk=>by
  have h1:=learn1_ok (who:=who) (ep:=ep) (sec:=sec) (a:=a) hT hk
  have h2:=learn_ok (l:=l) (who:=who) (ep:=ep) (sec:=sec) h1.1 h1.2.1
  refine ⟨h2.1,h2.2.1,?_⟩
  have:=h2.2.2
  rw [show learnAll who sec ep (a::l) x=learnAll who sec ep l (learn1 who sec ep a x) from rfl,List.length_cons];omega
theorem dec_right {b:List UInt8} (h:decE b=0):(decV b).right=true:=by
 unfold decE at h
 by_cases hk:decOk b=true
 ·rw [decV,if_pos hk];simp only [decOk,Bool.and_eq_true] at hk;exact hk.2
 ·rw [if_neg hk] at h;cases h
theorem open_right {L:List Thing} {s k:List UInt8} {r:Record} (h:openRE L s k r=0):(openRV L s k r).right=true:=by
 have h0:=h
 unfold openRE at h
 rw [openRV,if_pos h0]
 split at h
 ·split at h
  ·split at h
   ·rename_i y hy
    unfold openYE at h
    split at h
    ·rename_i hk
     simp only [yOk,Bool.and_eq_true,decide_eq_true_eq] at hk
     exact dec_right hk.2
    ·cases h
   ·cases h
  ·cases h
 ·cases h
theorem right_rng {e:Entry} (h:e.right=true):(1≤e.kind∧e.kind≤5)∧(1≤e.writer∧e.writer≤16)∧1≤e.seq∧e.seq≤1099511627776:=by
 simp only [Entry.right,Entry.head,Bool.and_eq_true,within_iff] at h;exact ⟨h.1.1.1.1,h.1.1.1.2,h.1.1.2⟩
theorem right_ep {e:Entry} (h:e.right=true) (hk:e.kind=5):1≤e.epoch∧e.epoch≤16:=by
 simp only [Entry.right,Bool.and_eq_true] at h
 have:=h.2
 rw [Entry.body,if_neg (by omega),if_neg (by omega),if_neg (by omega)] at this
 simp only [Bool.and_eq_true,within_iff] at this;exact this.1
theorem wraps_box:∀{l:List WrapT} {n:Int},wrapsGo n l=true→∀a∈l,a.box.length=48
 | [],_,_,a,ha=>by cases ha
 | w::l,n,h,a,ha=>by
  simp only [wrapsGo,Bool.and_eq_true,decide_eq_true_eq] at h
  rcases List.mem_cons.1 ha with rfl | ha
  ·exact h.1.1.2
  ·exact wraps_box h.2 a ha
theorem right_box48 {e : Entry} (h : e.right = true) : ∀ a ∈ e.wraps, a.box.length ≤ 800000000 := by
  simp only [Entry.right, Bool.and_eq_true, decide_eq_true_eq] at h
  obtain ⟨⟨h1, h2⟩, h3⟩ := h
  by_cases hk : e.kind = 5
  · rw [Entry.body, if_neg (by omega), if_neg (by omega), if_neg (by omega)] at h3
    simp only [Bool.and_eq_true, wrapsOk] at h3
    intro a ha; have := wraps_box h3.2.1 a ha; omega
  · have : e.wraps = [] := by have := congrArg Entry.wraps h2; simpa [Entry.bare, hk] using this
    rw [this]; intro a ha; cases ha
section
variable {s : Rpl} {L : List Thing} {x : Record} {e : Entry} {ep : Int}
theorem out_1 (h:s.pol.epoch<x.epoch):s.outE L x=34∧s.outS L x=(L,s):=by rw [Rpl.outE,Rpl.outS,if_pos h,if_pos h];exact ⟨rfl,rfl⟩
theorem out_2 (h:¬s.pol.epoch<x.epoch) (h2:(keyAt s.ks x.epoch).isEmpty=true):s.outE L x=21∧s.outS L x=(L,s):=by rw [Rpl.outE,Rpl.outS,if_neg h,if_neg h,if_pos h2,if_pos h2];exact ⟨rfl,rfl⟩
theorem out_3 (h:¬s.pol.epoch<x.epoch) (h2:¬(keyAt s.ks x.epoch).isEmpty=true) (h3:openRE L s.sec (keyAt s.ks x.epoch) x≠0):s.outE L x=openRE L s.sec (keyAt s.ks x.epoch) x∧s.outS L x=(openRL L s.sec (keyAt s.ks x.epoch) x,s):=by
 rw [Rpl.outE,Rpl.outS,if_neg h,if_neg h,if_neg h2,if_neg h2,if_pos h3,if_pos h3];exact ⟨rfl,rfl⟩
theorem out_4 (h:¬s.pol.epoch<x.epoch) (h2:¬(keyAt s.ks x.epoch).isEmpty=true) (h3:openRE L s.sec (keyAt s.ks x.epoch) x=0) (h4:e=openRV L s.sec (keyAt s.ks x.epoch) x):s.outE L x=s.entryE x.epoch e∧s.outS L x=s.entryS (openRL L s.sec (keyAt s.ks x.epoch) x) x.epoch e:=by
 rw [Rpl.outE,Rpl.outS,if_neg h,if_neg h,if_neg h2,if_neg h2,if_neg (fun q=>q h3),if_neg (fun q=>q h3),h4];exact ⟨rfl,rfl⟩
theorem ent_1 (h:e.seq≤seenAt s.seen e.writer):s.entryE ep e=31∧s.entryS L ep e=(L,s):=by rw [Rpl.entryE,Rpl.entryS,if_pos h,if_pos h];exact ⟨rfl,rfl⟩
theorem ent_2 (h:¬e.seq≤seenAt s.seen e.writer) (h2:e.kind≠5∧ep≠s.pol.epoch):s.entryE ep e=40∧s.entryS L ep e=(L,s.sees e):=by
 have h3:s.entryE ep e=40:=by rw [Rpl.entryE,if_neg h,if_pos h2]
 rw [Rpl.entryS,if_neg h,h3,if_neg (by decide)];exact ⟨rfl,rfl⟩
theorem ent_3 (h:¬e.seq≤seenAt s.seen e.writer) (h2:¬(e.kind≠5∧ep≠s.pol.epoch)):s.entryE ep e=s.pol.mayE e∧(¬s.pol.mayE e=0→s.entryS L ep e=(L,s.sees e))∧(s.pol.mayE e=0→s.entryS L ep e=(s.sees e).take L e):=by
 have h3:s.entryE ep e=s.pol.mayE e:=by rw [Rpl.entryE,if_neg h,if_neg h2]
 refine ⟨h3,fun h4=>?_,fun h4=>?_⟩
 ·rw [Rpl.entryS,if_neg h,h3,if_neg h4]
 ·rw [Rpl.entryS,if_neg h,h3,if_pos h4]
theorem app_num {p:Pol} (hr:e.right=true) (h:(1≤p.founder∧p.founder≤16)∧0≤p.epoch∧p.epoch≤16):(1≤(p.app e).founder∧(p.app e).founder≤16)∧0≤(p.app e).epoch∧(p.app e).epoch≤16:=by
 unfold Pol.app
 split
 ·rename_i hk;have:=right_ep hr hk;exact ⟨h.1,by show 0≤e.epoch;omega,this.2⟩
 ·split
  ·exact h
  ·split<;>exact h
theorem chL_len (L:List Thing) (c:Chn) (b:List UInt8):(chL L c b).length≤L.length+1:=by
 unfold chL;split
 ·exact onceL_len _ _
 ·omega
theorem TxtOk.ch {c:Chn} {b:List UInt8} (h:TxtOk L) (h32:∀x∈c.sums,x.length=32):TxtOk (chL L c b):=by
 unfold chL;split
 ·rename_i hE
  refine h.once ?_
  have hb:b.length≤4096:=by
   unfold chE at hE
   split at hE
   ·cases hE
   ·omega
  have hl:c.head.length≤32:=by
   unfold Chn.head
   cases hq:c.sums[c.links.length]? with
   | none=>simp [List.getD,hq]
   | some y=>simp [List.getD,hq,h32 y (List.mem_of_getElem? hq)]
  simp [chNext];omega
 ·exact h
theorem com_1 {b:List UInt8} (h:¬s.isRec b=true):s.comE b=10∧s.comO L b=0∧s.comS L b=(L,s):=by
 have h1:s.comE b=10:=by rw [Rpl.comE,if_neg h]
 exact ⟨h1,by rw [Rpl.comO,h1,if_neg (by decide)],by rw [Rpl.comS,h1,if_neg (by decide)]⟩
theorem com_2 {b:List UInt8} (h:s.isRec b=true) (h2:¬chE s.ch b=0):s.comE b=chE s.ch b∧s.comO L b=0∧s.comS L b=(L,s):=by
 have h1:s.comE b=chE s.ch b:=by rw [Rpl.comE,if_pos h]
 exact ⟨h1,by rw [Rpl.comO,h1,if_neg h2],by rw [Rpl.comS,h1,if_neg h2]⟩
theorem com_3 {b:List UInt8} (h:s.isRec b=true) (h2:chE s.ch b=0):s.comE b=0∧s.comO L b=(s.linked L b).outE (chL L s.ch b) (recV b)∧s.comS L b=(s.linked L b).outS (chL L s.ch b) (recV b):=by
 have h1:s.comE b=0:=by rw [Rpl.comE,if_pos h,h2]
 exact ⟨h1,by rw [Rpl.comO,h1,if_pos rfl],by rw [Rpl.comS,h1,if_pos rfl]⟩
end
theorem ring0_ok {k:List UInt8} (h:k.length≤1000):KsOk (ring0 k):=by
 refine ⟨by simp [ring0],fun x hx=>?_⟩
 rcases List.mem_cons.1 hx with rfl | hx
 ·exact h
 ·rw [List.eq_of_mem_replicate hx];simp
theorem newR_ok {L:List Thing} {x:WhoT} (h:rplOk x.coll x.founder x.who=true):(newR L x.coll x.founder x.who x.sec).2.seen.length=17∧(∀n∈(newR L x.coll x.founder x.who x.sec).2.seen,0≤n∧n≤1099511627776)∧KsOk (newR L x.coll x.founder x.who x.sec).2.ks:=by
 refine ⟨by simp [newR],fun n hn=>?_,ring0_ok (by rw [keyFor,sign_len];decide)⟩
 rw [List.eq_of_mem_replicate hn];omega
theorem rplOk_iff {c f w:Int}:rplOk c f w=true↔(1≤c∧c≤1099511627776)∧(1≤f∧f≤16)∧1≤w∧w≤16:=by simp [rplOk,within,and_assoc]
end Go.Proofs.YthddplghlljdbaaGreat
