import Derived.Test.YthddplghlljdbaaGreatQWorldPostEcal
set_option linter.unusedVariables false
set_option linter.unusedSimpArgs false
namespace Go.Ecal
open Go.RowKit
/-- A part of the memory. -/
abbrev PH:=Nat→Option Obj
def hp (w:World):PH:=fun k=>w.heap[k]?
def PH.le (a b:PH):Prop:=∀k o,a k=some o→b k=some o
def PH.dis (a b:PH):Prop:=∀k o,a k=some o→b k=none
def PH.uni (a b:PH):PH:=fun k=>match a k with | some o=>some o | none=>b k
def PH.one (b:Nat) (o:Obj):PH:=fun k=>if k=b then some o else none
def PH.emp:PH:=fun _=>none
section
variable {a b c h r : PH}
theorem PH.le_refl (a:PH):a.le a:=fun _ _ h=>h
theorem PH.le_trans (h:a.le b) (k:b.le c):a.le c:=fun x o e=>k x o (h x o e)
theorem PH.dis_symm (h:a.dis b):b.dis a:=fun k o e=>by
 cases ha:a k with
 | none=>rfl
 | some x=>rw [h k x ha] at e;cases e
theorem PH.uni_l (a b:PH):a.le (a.uni b):=fun k o h=>by simp [PH.uni,h]
theorem PH.uni_r (h:a.dis b):b.le (a.uni b):=fun k o e=>by
 cases ha:a k with
 | none=>simp [PH.uni,ha,e]
 | some x=>rw [h k x ha] at e;cases e
theorem PH.uni_le (h : a.le c) (k : b.le c) : (a.uni b).le c := fun x o e => by
  cases ha : a x with
  | none => exact k x o (by simpa [PH.uni, ha] using e)
  | some y => have e2 : y = o := by simpa [PH.uni, ha] using e
              subst e2; exact h x _ ha
theorem PH.dis_uni (h:a.dis b) (k:a.dis c):a.dis (b.uni c):=fun x o e=>by simp [PH.uni,h x o e,k x o e]
theorem PH.dis_mono (h:a.dis b) (k:c.le b):a.dis c:=fun x o e=>by
 cases hc:c x with
 | none=>rfl
 | some y=>have h2:=k x y hc;rw [h x o e] at h2;cases h2
theorem PH.uni_swap (h:a.dis b):a.uni (b.uni c)=b.uni (a.uni c):=by
 funext k
 cases ha:a k with
 | none=>simp [PH.uni,ha]
 | some x=>simp [PH.uni,ha,h k x ha]
theorem PH.uni_assoc:a.uni (b.uni c)=(a.uni b).uni c:=by
 funext k;cases ha:a k<;>simp [PH.uni,ha]
theorem PH.emp_uni:PH.emp.uni a=a:=by funext k;simp [PH.uni,PH.emp]
theorem PH.emp_dis:PH.emp.dis a:=fun k o e=>by simp [PH.emp] at e
end
/-- What is never written again: a part of the memory,and what lies outside. -/
structure Gh where
 h:PH
 os:Os
 tape:Nat→Question→Nat
 out:Array (Nat×ByteArray)
def gh (w:World):Gh:=⟨hp w,w.os,w.tape,w.output⟩
def Gh.le (a b:Gh):Prop:=a.h.le b.h∧b.os=a.os∧b.tape=a.tape∧b.out=a.out
theorem Gh.le_refl (a:Gh):a.le a:=⟨PH.le_refl _,rfl,rfl,rfl⟩
theorem Gh.le_trans {a b c:Gh} (h:a.le b) (k:b.le c):a.le c:=⟨PH.le_trans h.1 k.1,k.2.1.trans h.2.1,k.2.2.1.trans h.2.2.1,k.2.2.2.trans h.2.2.2⟩
/-- Outside all is as1 it was. -/
def Nx (w w':World):Prop:=w'.os=w.os∧w'.tape=w.tape∧w'.output=w.output
theorem Nx.below {B:Nat} {w w':World} (h:Below B w w'):Nx w w':=⟨h.os,h.tape,h.output⟩
theorem Nx.grown {r:Option Nat} {w w':World} (h:w.grownBy w' r):Nx w w':=⟨h.os,h.tape,h.output⟩
/-- What is said of a part of the memory;it holds on as1 what is never written again grows. -/
structure HP where
 p:Gh→PH→Prop
 mono:∀{I J:Gh} {h:PH},I.le J→p I h→p J h
/-- The part u is B,and a part for each of the list,all apart. -/
def SatH (I:Gh) (B:PH):List HP→PH→Prop
 | [],u=>u=B
 | P::l,u=>∃h r,P.p I h∧SatH I B l r∧h.dis r∧u=h.uni r
/-- The world holds I,which is never written again,and apart from it a part for each of the list. -/
def Sat (w:World) (I:Gh) (l:List HP):Prop:=∃u,SatH I I.h l u∧u.le (hp w)∧w.os=I.os∧w.tape=I.tape∧w.output=I.out
section
variable {I J : Gh} {B : PH} {l : List HP} {u : PH} {P : HP} {i : Nat} {w w' : World}
theorem SatH.focus : ∀ {l : List HP} {i : Nat} {u : PH}, SatH I B l u → l[i]? = some P → ∃ h r, P.p I h ∧ h.dis r ∧ u = h.uni r ∧ SatH I B (l.eraseIdx i) r ∧ ∀ (P' : HP) h', P'.p I h' → h'.dis r → SatH I B (l.set i P') (h'.uni r)
  | [], i, u, _, hi => by simp at hi
  | Q :: l, 0, u, ⟨h, r, hQ, hl, hd, hu⟩, hi => by
    simp only [List.getElem?_cons_zero, Option.some.injEq] at hi
    subst hi
    exact ⟨h, r, hQ, hd, hu, hl, fun P' h' hP' hd' => ⟨h', r, hP', hl, hd', rfl⟩⟩
  | Q :: l, i + 1, u, ⟨h0, r0, hQ, hl, hd, hu⟩, hi => by
    simp only [List.getElem?_cons_succ] at hi
    obtain ⟨h, r, hP, hdr, hr0, her, hset⟩ := SatH.focus hl hi
    subst hr0 hu
    have d0h : h0.dis h := PH.dis_mono hd (PH.uni_l _ _)
    have d0r : h0.dis r := PH.dis_mono hd (PH.uni_r hdr)
    refine ⟨h, h0.uni r, hP, PH.dis_uni (PH.dis_symm d0h) hdr, ?_, ⟨h0, r, hQ, her, d0r, rfl⟩, fun P' h' hP' hd' => ?_⟩
    · exact PH.uni_swap d0h
    · have d' : h'.dis r := PH.dis_mono hd' (PH.uni_r d0r)
      have d0 : h0.dis h' := PH.dis_symm (PH.dis_mono hd' (PH.uni_l _ _))
      refine ⟨h0, h'.uni r, hQ, hset P' h' hP' d', PH.dis_uni d0 d0r, ?_⟩
      exact (PH.uni_swap d0).symm
theorem SatH.base:∀{l:List HP} {u:PH},SatH I B l u→B.le u
 | [],u,h=>by rw [show u=B from h];exact PH.le_refl _
 | Q::l,u,⟨h,r,_,hl,hd,hu⟩=>by subst hu;exact PH.le_trans (SatH.base hl) (PH.uni_r hd)
/-- A part is no longer written. -/
theorem SatH.more {h:PH} (hIJ:I.le J):∀{l:List HP} {r:PH},SatH I B l r→h.dis r→SatH J (h.uni B) l (h.uni r)
 | [],r,e,_=>by rw [show r=B from e];rfl
 | Q::l,u,⟨h0,r,hQ,hl,hd,hu⟩,hdis=>by
  subst hu
  have d0:h.dis h0:=PH.dis_mono hdis (PH.uni_l _ _)
  have dr:h.dis r:=PH.dis_mono hdis (PH.uni_r hd)
  exact ⟨h0,h.uni r,Q.mono hIJ hQ,SatH.more hIJ hl dr,PH.dis_uni (PH.dis_symm d0) hd,PH.uni_swap d0⟩
theorem SatH.mono (hIJ:I.le J):∀{l:List HP} {r:PH},SatH I B l r→SatH J B l r
 | [],_,e=>e
 | Q::l,u,⟨h0,r,hQ,hl,hd,hu⟩=>⟨h0,r,Q.mono hIJ hQ,SatH.mono hIJ hl,hd,hu⟩
theorem SatH.of_sep:∀{m:List HP} {h:PH},SatH I PH.emp m h→∀{l:List HP} {r:PH},SatH I B l r→h.dis r→SatH I B (m++l) (h.uni r)
 | [],h,e,l,r,hl,hd=>by rw [show h=PH.emp from e,PH.emp_uni];exact hl
 | Q::m,u,⟨h0,r0,hQ,hm,hd0,hu⟩,l,r,hl,hd=>by
  subst hu
  have d1:h0.dis r:=PH.dis_symm (PH.dis_mono (PH.dis_symm hd) (PH.uni_l _ _))
  have d2:r0.dis r:=PH.dis_symm (PH.dis_mono (PH.dis_symm hd) (PH.uni_r hd0))
  exact ⟨h0,r0.uni r,hQ,SatH.of_sep hm hl d2,PH.dis_uni hd0 d1,PH.uni_assoc.symm⟩
theorem SatH.to_sep:∀{m l:List HP} {u:PH},SatH I B (m++l) u→∃h r,SatH I PH.emp m h∧SatH I B l r∧h.dis r∧u=h.uni r
 | [],l,u,hu=>⟨PH.emp,u,rfl,hu,PH.emp_dis,PH.emp_uni.symm⟩
 | Q::m,l,u,⟨h0,r0,hQ,hm,hd0,hu⟩=>by
  obtain ⟨h,r,a1,a2,a3,a4⟩:=SatH.to_sep hm
  subst a4 hu
  have d1:h0.dis h:=PH.dis_mono hd0 (PH.uni_l _ _)
  have d2:h0.dis r:=PH.dis_mono hd0 (PH.uni_r a3)
  exact ⟨h0.uni h,r,⟨h0,h,hQ,a1,d1,rfl⟩,a2,PH.dis_symm (PH.dis_uni (PH.dis_symm d2) (PH.dis_symm a3)),PH.uni_assoc⟩
end
section
variable {I : Gh} {l : List HP} {u : PH} {P : HP} {i : Nat} {w w' : World}
theorem Sat.le (S:Sat w I l):I.le (gh w):=let ⟨_,h,k,e⟩:=S;⟨PH.le_trans h.base k,e⟩
theorem Sat.focus (S:Sat w I l) (hi:l[i]?=some P):∃h r,P.p I h∧h.dis r∧h.le (hp w)∧r.le (hp w)∧SatH I I.h (l.eraseIdx i) r∧∀(P':HP) h' w',Nx w w'→P'.p I h'→h'.dis r→h'.le (hp w')→r.le (hp w')→Sat w' I (l.set i P'):=by
 obtain ⟨u,hu,hw,he0⟩:=S
 obtain ⟨h,r,hP,hd,rfl,he,hs⟩:=hu.focus hi
 exact ⟨h,r,hP,hd,PH.le_trans (PH.uni_l _ _) hw,PH.le_trans (PH.uni_r hd) hw,he,fun P' h' w' nx h1 h2 h3 h4=>⟨_,hs P' h' h1 h2,PH.uni_le h3 h4,nx.1.trans he0.1,nx.2.1.trans he0.2.1,nx.2.2.trans he0.2.2⟩⟩
theorem hp_below (hb:Below w.heap.size w w'):(hp w).le (hp w'):=fun k o e=>by
 have:k<w.heap.size:=(Array.getElem?_eq_some_iff.1 e).1
 exact (hb.block k this).trans e
theorem Sat.below (S:Sat w I l) (hb:Below w.heap.size w w'):Sat w' I l:=let ⟨u,h,k,e⟩:=S;⟨u,h,PH.le_trans k (hp_below hb),hb.os.trans e.1,hb.tape.trans e.2.1,hb.output.trans e.2.2⟩
theorem Sat.drop (S:Sat w I l) (i:Nat) (hi:l[i]?=some P):Sat w I (l.eraseIdx i):=by
 obtain ⟨h,r,_,_,_,h4,h5,_⟩:=S.focus hi
 obtain ⟨_,_,_,e⟩:=S
 exact ⟨r,h5,h4,e⟩
/-- What is told of the i-th part is told otherwise. -/
theorem Sat.weak (S:Sat w I l) (hi:l[i]?=some P) {P':HP} (hP:∀h,P.p I h→P'.p I h):Sat w I (l.set i P'):=by
 obtain ⟨h,r,h1,h2,h3,h4,_,h6⟩:=S.focus hi
 exact h6 P' h w ⟨rfl,rfl,rfl⟩ (hP h h1) h2 h3 h4
theorem Sat.as (S:Sat w I l) (i:Nat) {P':HP} (hi:l[i]?=some P) (e:P=P'):Sat w I (l.set i P'):=S.weak hi (fun h hh=>e ▸ hh)
theorem Sat.cons_front (S:Sat w I l) (hi:l[i]?=some P):Sat w I (P::l.eraseIdx i):=by
 obtain ⟨h,r,h1,h2,h3,h4,h5,_⟩:=S.focus hi
 obtain ⟨_,_,_,e⟩:=S
 exact ⟨h.uni r,⟨h,r,h1,h5,h2,rfl⟩,PH.uni_le h3 h4,e⟩
theorem Sat.add (S:Sat w I l) {h:PH} {P:HP} (nx:Nx w w') (hP:P.p I h) (hb:(hp w).le (hp w')) (hn:∀k o,h k=some o→w.heap.size≤k) (hw:h.le (hp w')):Sat w' I (P::l):=by
 obtain ⟨u,hu,hk,he⟩:=S
 refine ⟨h.uni u,⟨h,u,hP,hu,fun k o e=>?_,rfl⟩,PH.uni_le hw (PH.le_trans hk hb),nx.1.trans he.1,nx.2.1.trans he.2.1,nx.2.2.trans he.2.2⟩
 cases hx:u k with
 | none=>rfl
 | some x =>
  have:=hn k o e
  have h2:k<w.heap.size:=(Array.getElem?_eq_some_iff.1 (hk k x hx)).1
  omega
/-- Block b holds the cells cs of type T. -/
def Blk (b:Nat) (T:TypeId) (cs:List Value):HP:=⟨fun _ h=>h=PH.one b (.cells cs.toArray T (0,0)),fun _ h=>h⟩
def OwnP (e:TypeId) (sz:Nat) (v:Value) (n:Nat) (xs:List Value) (h:PH):Prop:=xs.length=n*sz ∧
 ((v=.slice none 0 0∧n=0∧h=PH.emp)∨∃g cap cur,v=.slice (some ⟨g,0,none⟩) n cap∧h=PH.one g (.cells cur e (0,0))∧n≤cap∧cap≤maxLen∧cur.size=cap*sz∧cur.toList.take (n*sz)=xs)
/-- v is a row of n elements,each of sz cells: xs. -/
def Own (e:TypeId) (sz:Nat) (v:Value) (n:Nat) (xs:List Value):HP:=⟨fun _ h=>OwnP e sz v n xs h,fun _ h=>h⟩
/-- Block b holds a map of these entries. -/
def Mp (b:Nat) (es:List (Value×Value)):HP:=⟨fun _ h=>∃arr clock,h=PH.one b (.map arr clock)∧arr.toList.map (fun e=>(e.key,e.val))=es,fun _ h=>h⟩
/-- All these,apart. -/
def Sep (m:List HP):HP:=⟨fun I h=>SatH I PH.emp m h,fun k h=>h.mono k⟩
def HP.ex {α:Type} (f:α→HP):HP:=⟨fun I h=>∃x,(f x).p I h,fun k ⟨x,h⟩=>⟨x,(f x).mono k h⟩⟩
/-- No memory,but what holds. -/
def HP.prop (φ:Prop):HP:=⟨fun _ h=>φ∧h=PH.emp,fun _ h=>h⟩
/-- No memory,but what holds of that which is never written again. -/
structure GP where
 p:Gh→Prop
 mono:∀{I J:Gh},I.le J→p I→p J
def HP.fact (φ:GP):HP:=⟨fun I h=>φ.p I∧h=PH.emp,fun k h=>⟨φ.mono k h.1,h.2⟩⟩
abbrev OwnB (v:Value) (l:List UInt8):HP:=Own 5 1 v l.length (l.map byt)
theorem one_le {b:Nat} {o:Obj} (h:w.heap[b]?=some o):(PH.one b o).le (hp w):=fun k x e=>by
 unfold PH.one at e;split at e
 ·rename_i hk;subst hk;rw [←Option.some.inj e];exact h
 ·cases e
theorem le_one {b:Nat} {o:Obj} (h:(PH.one b o).le (hp w)):w.heap[b]?=some o:=h b o (by simp [PH.one])
theorem one_dis {b:Nat} {o:Obj} {r:PH} (h:r b=none):(PH.one b o).dis r:=fun k x e=>by
 unfold PH.one at e;split at e
 ·rename_i hk;rw [hk];exact h
 ·cases e
theorem dis_one {b:Nat} {o:Obj} {r:PH} (h:(PH.one b o).dis r):r b=none:=h b o (by simp [PH.one])
variable {b T e sz n : Nat} {cs cs' xs xs' : List Value} {v v' : Value}
theorem Sat.arr (S:Sat w I l) (i:Nat) (hi:l[i]?=some (Blk b T cs)):Arr w b T cs:=by
 obtain ⟨h,r,h1,h2,h3,h4,h5,h6⟩:=S.focus hi
 rw [show h=_ from h1] at h3
 exact le_one h3
theorem rest_kept {r:PH} {row:Option Nat} (hr:r.le (hp w)) (hg:w.grownBy w' row) (hne:∀g,row=some g→r g=none):r.le (hp w'):=fun k o ek=>by
 have e:=hr k o ek
 have hk:k<w.heap.size:=(Array.getElem?_eq_some_iff.1 e).1
 refine (hg.block k hk (fun he=>?_)).trans e
 rw [hne k he.symm] at ek;cases ek
theorem Sat.wrote (S:Sat w I l) (i:Nat) (hi:l[i]?=some (Blk b T cs)) (hk:Kept w w' b) (ha:Arr w' b T cs'):Sat w' I (l.set i (Blk b T cs')):=by
 obtain ⟨h,r,h1,h2,h3,h4,h5,h6⟩:=S.focus hi
 rw [show h=_ from h1] at h2 h3
 exact h6 _ _ w' (Nx.grown hk) rfl (one_dis (dis_one h2)) (one_le ha) (rest_kept h4 hk (fun g hg=>by cases hg;exact dis_one h2))
theorem Sat.newB (S:Sat w I l) (hb:Below w.heap.size w w') (ha:Arr w' b T cs) (he:b=w.heap.size):Sat w' I (Blk b T cs::l):=
 S.add (P:=Blk b T cs) (Nx.below hb) rfl (hp_below hb) (fun k o e=>by
  unfold PH.one at e;split at e
  ·omega
  ·cases e) (one_le ha)
theorem own_of {base:Nat} (h:w.ownsRow base e sz v n xs):∃hh,OwnP e sz v n xs hh∧hh.le (hp w)∧(∀k o,hh k=some o→v.ownBlock=some k∧base≤k):=by
 rcases h.2 with ⟨hv,h0⟩ | ⟨g,cap,cur,hv,hb,hg,h1,h2,h3,h4⟩
 ·exact ⟨PH.emp,⟨h.1,.inl ⟨hv,h0,rfl⟩⟩,(fun k o e=>by cases e),(fun k o e=>by cases e)⟩
 ·refine ⟨PH.one g (.cells cur e (0,0)),⟨h.1,.inr ⟨g,cap,cur,hv,rfl,h1,h2,h3,h4⟩⟩,one_le hg,fun k o e=>?_⟩
  unfold PH.one at e;split at e
  ·rename_i hk;subst hk hv;exact ⟨rfl,hb⟩
  ·cases e
theorem Own.row {h:PH} (H:OwnP e sz v n xs h) (hw:h.le (hp w)):w.ownsRow 0 e sz v n xs:=by
 refine ⟨H.1,?_⟩
 rcases H.2 with ⟨hv,h0,_⟩ | ⟨g,cap,cur,hv,rfl,h1,h2,h3,h4⟩
 ·exact .inl ⟨hv,h0⟩
 ·exact .inr ⟨g,cap,cur,hv,Nat.zero_le _,le_one hw,h1,h2,h3,h4⟩
theorem Sat.own (S:Sat w I l) (i:Nat) (hi:l[i]?=some (Own e sz v n xs)):w.ownsRow 0 e sz v n xs:=by
 obtain ⟨h,r,h1,h2,h3,h4,h5,h6⟩:=S.focus hi
 exact Own.row h1 h3
theorem Sat.newO (S:Sat w I l) (hb:Below w.heap.size w w') (ho:w'.ownsRow w.heap.size e sz v n xs):Sat w' I (Own e sz v n xs::l):=by
 obtain ⟨hh,h1,h2,h3⟩:=own_of ho
 exact S.add (Nx.below hb) h1 (hp_below hb) (fun k o e=>(h3 k o e).2) h2
theorem Sat.nil (S:Sat w I l) (e:TypeId) (sz:Nat):Sat w I (Own e sz (.slice none 0 0) 0 []::l):=
 S.add (h:=PH.emp) (P:=Own e sz (.slice none 0 0) 0 []) ⟨rfl,rfl,rfl⟩ ⟨by simp,.inl ⟨rfl,rfl,rfl⟩⟩ (PH.le_refl _) (fun k o e=>by cases e) (fun k o e=>by cases e)
theorem Own.block {h:PH} (H:OwnP e sz v n xs h):(v.ownBlock=none∧h=PH.emp)∨∃g o,v.ownBlock=some g∧h=PH.one g o:=by
 rcases H.2 with ⟨hv,h0,he⟩ | ⟨g,cap,cur,hv,he,_⟩
 ·subst hv;exact .inl ⟨rfl,he⟩
 ·subst hv;exact .inr ⟨g,_,rfl,he⟩
/-- The i-th row was written, or has grown. -/
theorem Sat.grow {base e' sz' n' : Nat} (S : Sat w I l) (i : Nat) (hi : l[i]? = some (Own e sz v n xs)) (hg : w.grownBy w' v.ownBlock) (ho : w'.ownsRow base e' sz' v' n' xs') (hA : v'.ownBlock = v.ownBlock ∨ v'.ownBlock = some w.heap.size) : Sat w' I (l.set i (Own e' sz' v' n' xs')) := by
  obtain ⟨h, r, h1, h2, h3, h4, h5, h6⟩ := S.focus hi
  obtain ⟨hh, o1, o2, o3⟩ := own_of ho
  have hrn : ∀ g, v.ownBlock = some g → r g = none := fun g eg => by
    rcases Own.block h1 with ⟨hv, _⟩ | ⟨g', o, hv, he⟩
    · rw [hv] at eg; cases eg
    · rw [hv] at eg; cases eg; rw [he] at h2; exact dis_one h2
  refine h6 _ hh w' (Nx.grown hg) o1 (fun k o ek => ?_) o2 (rest_kept h4 hg hrn)
  have hk := (o3 k o ek).1
  rcases hA with hA | hA
  · exact hrn k (by rw [← hA]; exact hk)
  · rw [hA] at hk; cases hk
    cases hr : r w.heap.size with
    | none => rfl
    | some x => have h9 := h4 _ x hr; have : w.heap.size < w.heap.size := (Array.getElem?_eq_some_iff.1 h9).1; omega
/-- What is never written again reads as1 xs. -/
def Ro (I:Gh) (v:Value) (xs:List Value):Prop:=∀w,I.le (gh w)→Row w v xs
abbrev RoB (I:Gh) (v:Value) (l:List UInt8):Prop:=Ro I v (l.map byt)
theorem Ro.up {J:Gh} (H:Ro I v xs) (h:I.le J):Ro J v xs:=fun w k=>H w (Gh.le_trans h k)
theorem Ro.nil:Ro I (.slice none 0 0) []:=fun w _=>Row.nil w
theorem row_mono (h:Row w v xs) (hb:(hp w).le (hp w')):Row w' v xs:=by
 obtain ⟨A,c,hv,h1,h2,h3,h4⟩:=h
 refine ⟨A,c,hv,h1,h2,h3,fun hp=>?_⟩
 obtain ⟨b,o,ha,hc⟩:=h4 hp
 refine ⟨b,o,ha,fun j hj=>?_⟩
 have:=hc j hj
 rw [List.getElem?_eq_getElem hj] at this ⊢
 have hlt:=World.block_lt_of_cell? w _ this
 have e1:w.heap[b]?=some w.heap[b]:=by simp
 have e2:w'.heap[b]?=some w.heap[b]:=hb b _ e1
 rw [World.cell?_of_block (e2.trans e1.symm)]
 exact this
theorem Row.ro (h:Row w v xs):Ro (gh w) v xs:=fun w' hb=>row_mono h hb.1
theorem Sat.start (w:World):Sat w (gh w) []:=⟨hp w,rfl,PH.le_refl _,rfl,rfl,rfl⟩
theorem Sat.fin {w0 : World} (S : Sat w I l) (h : (gh w0).le I) : Below w0.heap.size w0 w := by
  have hl := Gh.le_trans h S.le
  have hb : ∀ k, k < w0.heap.size → w.heap[k]? = w0.heap[k]? := fun k hk => by
    have e1 : w0.heap[k]? = some w0.heap[k] := by simp
    exact (hl.1 k _ e1).trans e1.symm
  refine ⟨hl.2.1, hl.2.2.1, hl.2.2.2, ?_, hb⟩
  rcases Nat.eq_zero_or_pos w0.heap.size with h0 | h0
  · omega
  · have := hb (w0.heap.size - 1) (by omega)
    have e1 : w0.heap[w0.heap.size - 1]? = some w0.heap[w0.heap.size - 1] := by simp
    have := (Array.getElem?_eq_some_iff.1 (this.trans e1)).1
    omega
/-- The i-th row is written no more. -/
theorem Sat.frz (S:Sat w I l) (i:Nat) (hi:l[i]?=some (Own e 1 v n xs)):∃J:Gh,I.le J∧Sat w J (l.eraseIdx i)∧Ro J v xs:=by
 obtain ⟨h,r,h1,h2,h3,h4,h5,h6⟩:=S.focus hi
 obtain ⟨_,_,_,e0⟩:=S
 have hd:h.dis I.h:=PH.dis_mono h2 h5.base
 have hIJ:I.le ⟨h.uni I.h,I.os,I.tape,I.out⟩:=⟨PH.uni_r hd,rfl,rfl,rfl⟩
 refine ⟨⟨h.uni I.h,I.os,I.tape,I.out⟩,hIJ,⟨h.uni r,h5.more hIJ h2,PH.uni_le h3 h4,e0⟩,fun w' k=>?_⟩
 exact own_row (Own.row h1 (PH.le_trans (PH.uni_l _ _) k.1))
/-- The i-th row is written for the last time. -/
theorem Sat.frzTo {g:Nat} {ys:List Value} (S:Sat w I l) (i:Nat) (hi:l[i]?=some (Own e sz v n xs)) (hg:w.grownBy w' v.ownBlock) (hv:v.ownBlock=some g) (hr:Row w' v ys):∃J:Gh,I.le J∧Sat w' J (l.eraseIdx i)∧Ro J v ys:=by
 obtain ⟨h,r,h1,h2,h3,h4,h5,h6⟩:=S.focus hi
 obtain ⟨_,_,_,e0⟩:=S
 have hlt:g<w.heap.size:=by
  rcases Own.block h1 with ⟨hb,_⟩ | ⟨g',o,hb,he⟩
  ·rw [hv] at hb;cases hb
  ·rw [hv] at hb;cases hb;subst he;exact (Array.getElem?_eq_some_iff.1 (le_one h3)).1
 have hrn:r g=none:=by
  rcases Own.block h1 with ⟨hb,_⟩ | ⟨g',o,hb,he⟩
  ·rw [hv] at hb;cases hb
  ·rw [hv] at hb;cases hb;subst he;exact dis_one h2
 have hlt':g<w'.heap.size:=Nat.lt_of_lt_of_le hlt hg.size
 have ho:w'.heap[g]?=some w'.heap[g]:=by simp
 have hd2:(PH.one g w'.heap[g]).dis r:=one_dis hrn
 have hd:(PH.one g w'.heap[g]).dis I.h:=PH.dis_mono hd2 h5.base
 have hIJ:I.le ⟨(PH.one g w'.heap[g]).uni I.h,I.os,I.tape,I.out⟩:=⟨PH.uni_r hd,rfl,rfl,rfl⟩
 refine ⟨⟨(PH.one g w'.heap[g]).uni I.h,I.os,I.tape,I.out⟩,hIJ,⟨(PH.one g w'.heap[g]).uni r,h5.more hIJ hd2,PH.uni_le (one_le ho) (rest_kept h4 hg (fun g' hg'=>by rw [hv] at hg';cases hg';exact hrn)),hg.os.trans e0.1,hg.tape.trans e0.2.1,hg.output.trans e0.2.2⟩,fun w2 k=>?_⟩
 refine hr.keep fun b hb=>?_
 rw [hv] at hb;cases hb
 have:=k.1 g w'.heap[g] (PH.uni_l _ _ g _ (by simp [PH.one]))
 exact Eq.trans this ho.symm
/-- The first part is taken apart;put together. -/
theorem Sat.split {m:List HP} (S:Sat w I (Sep m::l)):Sat w I (m++l):=by
 obtain ⟨u,⟨h,r,h1,h2,h3,h4⟩,hw,e⟩:=S
 subst h4
 exact ⟨_,SatH.of_sep h1 h2 h3,hw,e⟩
theorem Sat.join (m:List HP) (S:Sat w I (m++l)):Sat w I (Sep m::l):=by
 obtain ⟨u,hu,hw,e⟩:=S
 obtain ⟨h,r,h1,h2,h3,h4⟩:=SatH.to_sep hu
 exact ⟨u,⟨h,r,h1,h2,h3,h4⟩,hw,e⟩
theorem Sat.unex {α:Type} {f:α→HP} (S:Sat w I (HP.ex f::l)):∃x,Sat w I (f x::l):=by
 obtain ⟨u,⟨h,r,⟨x,h1⟩,h2,h3,h4⟩,hw,e⟩:=S
 exact ⟨x,u,⟨h,r,h1,h2,h3,h4⟩,hw,e⟩
theorem Sat.toex {α:Type} {f:α→HP} (x:α) (S:Sat w I (f x::l)):Sat w I (HP.ex f::l):=by
 obtain ⟨u,⟨h,r,h1,h2,h3,h4⟩,hw,e⟩:=S
 exact ⟨u,⟨h,r,⟨x,h1⟩,h2,h3,h4⟩,hw,e⟩
theorem Sat.unprop {φ:Prop} (S:Sat w I (HP.prop φ::l)):φ∧Sat w I l:=by
 obtain ⟨u,⟨h,r,⟨h0,rfl⟩,h2,h3,rfl⟩,hw,e⟩:=S
 exact ⟨h0,r,h2,by rw [PH.emp_uni] at hw;exact hw,e⟩
theorem Sat.toprop {φ:Prop} (h:φ) (S:Sat w I l):Sat w I (HP.prop φ::l):=by
 obtain ⟨u,hu,hw,e⟩:=S
 exact ⟨u,⟨PH.emp,u,⟨h,rfl⟩,hu,PH.emp_dis,PH.emp_uni.symm⟩,hw,e⟩
theorem Sat.unfact {φ:GP} (S:Sat w I (HP.fact φ::l)):φ.p I∧Sat w I l:=by
 obtain ⟨u,⟨h,r,⟨h0,rfl⟩,h2,h3,rfl⟩,hw,e⟩:=S
 exact ⟨h0,r,h2,by rw [PH.emp_uni] at hw;exact hw,e⟩
theorem Sat.tofact {φ:GP} (h:φ.p I) (S:Sat w I l):Sat w I (HP.fact φ::l):=by
 obtain ⟨u,hu,hw,e⟩:=S
 exact ⟨u,⟨PH.emp,u,⟨h,rfl⟩,hu,PH.emp_dis,PH.emp_uni.symm⟩,hw,e⟩
end
section
variable {P : Program} {N : Nat} {Q : Exit → Env → World → Prop} {E : Env} {w : World} {ops : Array Oper} {L : List Oper} {dst : Option Tmp} {op : Op} {ty : TypeId} {pos : String} {aft : Array Edge} {j : Nat} {t b : Bool}
end
section
variable {P : Program} {N : Nat} {E : Env} {w : World} {ops : Array Oper} {L : List Oper} {dst : Option Tmp} {op : Op} {ty : TypeId} {pos : String} {aft : Array Edge} {j : Nat} {t b : Bool} {C : World → Prop} {K : Env → Prop}
end
section
variable {P : Program} {ops : Array Oper} {md : Region.Mode}
def SJ (g:Nat) (S T:World→Prop) (l:Array Bool) (w:World):Prop:=S w∧(l.getD g false=false→T w)
def wpAnyJ (P:Program) (md:Region.Mode) (ops:Array Oper) (Q:Exit→Act→World→Prop) (g:Nat) (S T:World→Prop):Nat→Array Bool→Act→World→Prop
 | 0,listed,a,w=>Region.ready md ops listed=[]∧Q .normal a w
 | fuel+1,listed,a,w =>
  (Region.ready md ops listed=[]→Q .normal a w) ∧
  ∀i∈Region.ready md ops listed,wpOp P ops Q i (fun a' w'=>SJ g S T (listed.setIfInBounds i true) w'∧wpAnyJ P md ops Q g S T fuel (listed.setIfInBounds i true) a' w') a w
variable {Q : Exit → Act → World → Prop} {g : Nat} {S T : World → Prop}
theorem wpAny_of_J:∀(fuel:Nat) (listed:Array Bool) (a:Act) (w:World),wpAnyJ P md ops Q g S T fuel listed a w→wpAny P md ops Q fuel listed a w
 | 0,_,_,_,h=>h
 | fuel+1,_,_,_,h=>⟨h.1,fun i hi=>wpOp_mono (fun a' w' h'=>wpAny_of_J fuel _ a' w' h'.2) (h.2 i hi)⟩
theorem anyJ_strong {S' T':World→Prop} (hS:∀w,S' w→S w) (hT:∀w,S' w→T' w→T w):∀(fuel:Nat) (listed:Array Bool) (a:Act) (w:World),wpAnyJ P md ops Q g S' T' fuel listed a w→wpAnyJ P md ops Q g S T fuel listed a w
 | 0,_,_,_,h=>h
 | fuel+1,_,_,_,h=>⟨h.1,fun i hi=>wpOp_mono (fun a' w' h'=>⟨⟨hS _ h'.1.1,fun e=>hT _ h'.1.1 (h'.1.2 e)⟩,anyJ_strong hS hT fuel _ a' w' h'.2⟩) (h.2 i hi)⟩
theorem wpAnyJ_first {i : Nat} {oi : Oper} {v : Value} (Y : World → Prop) (hi : ops[i]? = some oi) (hsel : ∀ (j : Nat) (o : Oper) cs b, ops[j]? = some o → o.op ≠ .select cs b)
    (hQ : ∀ c a w, Q (.panic c) (a.put oi.dst v) w → Q (.panic c) a w) (hig : i ≠ g) (f0 : Nat) (hr0 : (reachB md ops f0 g i = true ∧ ∀ w, S w → T w → Y w) ∨ ∀ w, S w → Y w) :
    ∀ (fuel : Nat) (listed : Array Bool) (a : Act) (w : World),
      (∀ j oj, ops[j]? = some oj → j ≠ i → listed.getD j true = false → (∀ e ∈ oj.after, Region.binds md e = true → e.on ≠ i) → oi.apart ops oj = true) →
      Closed md ops listed → i ∈ Region.ready md ops listed → YieldsIf P ops Y oi v a → SJ g S T listed w →
      wpAnyJ P md ops Q g S T fuel (listed.setIfInBounds i true) (a.put oi.dst v) w → wpAnyJ P md ops Q g S T (fuel + 1) listed a w := by
  have hY : ∀ (l : Array Bool) (w : World), Closed md ops l → i ∈ Region.ready md ops l → SJ g S T l w → Y w := fun l w hc hr hS => by
    rcases hr0 with ⟨h, hTY⟩ | h
    · refine hTY w hS.1 (hS.2 ?_)
      cases hg : l.getD g false with
      | false => rfl
      | true =>
        have h1 := reach_closed hc i f0 g h hg
        have h0 := (mem_ready.1 hr).1
        rcases Nat.lt_or_ge i l.size with h' | h'
        · simp [h'] at h0 h1; rw [h0] at h1; cases h1
        · simp [Array.getElem?_eq_none h'] at h1
    · exact h w hS.1
  have hSi : ∀ (l : Array Bool) (w : World), SJ g S T l w → SJ g S T (l.setIfInBounds i true) w := fun l w h => ⟨h.1, fun hl => h.2 (by rwa [getD_ne hig] at hl)⟩
  have hSi' : ∀ (l : Array Bool) (w : World), SJ g S T (l.setIfInBounds i true) w → SJ g S T l w := fun l w h => ⟨h.1, fun hl => h.2 (by rwa [getD_ne hig])⟩
  intro fuel
  induction fuel with
  | zero =>
    intro listed a w _ hc hr hy hS H
    refine ⟨fun h => (by rw [h] at hr; cases hr), fun j hj => ?_⟩
    by_cases hji : j = i
    · subst hji; exact hy.wpOp hi (hY _ _ hc hr hS) ⟨hSi _ _ hS, H⟩
    · have := ready_mono hj hji
      rw [H.1] at this
      cases this
  | succ fuel ih =>
    intro listed a w hfree hc hr hy hS H
    refine ⟨fun h => (by rw [h] at hr; cases hr), fun j hj => ?_⟩
    by_cases hji : j = i
    · subst hji; exact hy.wpOp hi (hY _ _ hc hr hS) ⟨hSi _ _ hS, H⟩
    · have h1 := H.2 j (ready_mono hj hji)
      obtain ⟨hjun, oj, hoj, hall⟩ := mem_ready.1 hj
      have hnot : ∀ e ∈ oj.after, Region.binds md e = true → e.on ≠ i := fun e he hb heq => by
        have h1 := hall e he hb
        have h0 := (mem_ready.1 hr).1
        rw [heq] at h1
        rcases Nat.lt_or_ge i listed.size with h' | h'
        · simp [h'] at h0 h1; rw [h0] at h1; cases h1
        · simp [Array.getElem?_eq_none h'] at h1
      have h2 := wpOp_putIf hoj (hfree j oj hoj hji hjun hnot) (fun cs b => hsel i oi cs b hi) (fun cs b => hsel j oj cs b hoj) hQ hy h1
      have hfree' : ∀ k ok, ops[k]? = some ok → k ≠ i → (listed.setIfInBounds j true).getD k true = false →
          (∀ e ∈ ok.after, Region.binds md e = true → e.on ≠ i) → oi.apart ops ok = true := fun k ok hk hki hun hno => by
        refine hfree k ok hk hki ?_ hno
        by_cases hjk : j = k
        · subst hjk; exact hjun
        · rw [getD_set_ne true hjk] at hun; exact hun
      refine wpOp_mono (fun a' w' h3 => ?_) h2
      have hs3 : SJ g S T (listed.setIfInBounds j true) w' := hSi' _ _ (by rw [Array.setIfInBounds_comm _ _ hji]; exact h3.2.1)
      refine ⟨hs3, ih (listed.setIfInBounds j true) a' w' hfree' (closed_set hc hj) (ready_mono hr (Ne.symm hji)) h3.1 hs3 ?_⟩
      rw [Array.setIfInBounds_comm _ _ hji]
      exact h3.2.2
end
section
variable {P : Program} {N : Nat} {Q : Exit → Env → World → Prop} {E : Env} {w : World} {ops : Array Oper}
variable {d : Nat} {op : Op} {ty : TypeId} {pos : String} {aft : Array Edge} {gd : Option (Nat × Bool)} {j g fuel : Nat} {t b : Bool} {listed : Array Bool} {S T : World → Prop}
def EJ (P:Program) (N:Nat) (ops:Array Oper) (g:Nat) (S T:World→Prop) (Q:Exit→Env→World→Prop) (fuel:Nat) (listed:Array Bool) (E:Env) (w:World):Prop:=
 Closed .any ops listed→∀a,Sim N a E→wpAnyJ P .any ops (lft N Q) g S T fuel listed a w
theorem EC_any {id:Nat} {l:List Oper} (g:Nat) (S T:World→Prop) (hm:P.follows .mixedOrders=true) (h:∀w1,Below w.heap.size w w1→EJ P N l.toArray g S T Q l.length (Array.replicate l.length false) E w1):EC P N (.region id l.toArray true) Q E w:=fun a hs =>
 wp_region_any hm (wpAny_of_J _ _ _ _ (by simpa using h w.drew (Below.refl _ _).drew (closed_none _) a hs))
theorem EJ_done (hr:Region.ready .any ops listed=[]) (h:Q .normal E w):EJ P N ops g S T Q fuel listed E w:=fun _ a hs=>by
 cases fuel with
 | zero=>exact ⟨hr,E,hs,h⟩
 | succ n=>exact ⟨fun _=>⟨E,hs,h⟩,fun i hi=>by rw [hr] at hi;cases hi⟩
theorem EJ_strong (S' T':World→Prop) (hS:∀w,S' w→S w) (hT:∀w,S' w→T' w→T w) (h:EJ P N ops g S' T' Q fuel listed E w):EJ P N ops g S T Q fuel listed E w:=fun hc a ha=>anyJ_strong hS hT fuel listed a w (h hc a ha)
/-- An operation that reads what S and T tell of, and for which g waits. -/
theorem EJ_take (i : Nat) (hi : ops[i]? = some ⟨some d, op, ty, pos, aft, none⟩) (hs : Region.noSelect ops = true) (hf : Region.free .any ops listed i = true) (hr : (Region.ready .any ops listed).contains i = true) (hig : Nat.beq i g = false)
    (hw : reachB .any ops 40 g i = true) (v : Value) (hd : Nat.blt d N = true) (hrun : ∀ w, S w → T w → Gives P E w ⟨some d, op, ty, pos, aft, none⟩ v w) (hST : SJ g S T listed w)
    (h : EJ P N ops g S T Q fuel (listed.setIfInBounds i true) (upd E d v) w) : EJ P N ops g S T Q (fuel + 1) listed E w := fun hc a ha => by
  have hne : i ≠ g := fun h1 => by rw [h1, Nat.beq_refl] at hig; cases hig
  refine wpAnyJ_first (fun w => S w ∧ T w) hi (Region.noSelect_spec hs) (fun _ _ _ h => h) hne 40 (.inl ⟨hw, fun w h1 h2 => ⟨h1, h2⟩⟩) fuel listed a w (Region.free_spec hi hf) hc (by simpa using hr) (.inl ⟨rfl, fun w' hw' => by rw [ha.eval]; exact hrun w' hw'.1 hw'.2⟩) hST ?_
  exact h (closed_set hc (by simpa using hr)) _ (ha.put hd v)
/-- One that reads what S tells of. -/
theorem EJ_float (i : Nat) (hi : ops[i]? = some ⟨some d, op, ty, pos, aft, none⟩) (hs : Region.noSelect ops = true) (hf : Region.free .any ops listed i = true) (hr : (Region.ready .any ops listed).contains i = true) (hig : Nat.beq i g = false)
    (v : Value) (hd : Nat.blt d N = true) (hrun : ∀ w, S w → Gives P E w ⟨some d, op, ty, pos, aft, none⟩ v w) (hST : SJ g S T listed w)
    (h : EJ P N ops g S T Q fuel (listed.setIfInBounds i true) (upd E d v) w) : EJ P N ops g S T Q (fuel + 1) listed E w := fun hc a ha => by
  have hne : i ≠ g := fun h1 => by rw [h1, Nat.beq_refl] at hig; cases hig
  refine wpAnyJ_first S hi (Region.noSelect_spec hs) (fun _ _ _ h => h) hne 0 (.inr fun w h1 => h1) fuel listed a w (Region.free_spec hi hf) hc (by simpa using hr) (.inl ⟨rfl, fun w' hw' => by rw [ha.eval]; exact hrun w' hw'⟩) hST ?_
  exact h (closed_set hc (by simpa using hr)) _ (ha.put hd v)
/-- One that is passed over. -/
theorem EJ_pass (i : Nat) (hi : ops[i]? = some ⟨some d, op, ty, pos, aft, some (j, t)⟩) (hs : Region.noSelect ops = true) (hf : Region.free .any ops listed i = true) (hr : (Region.ready .any ops listed).contains i = true) (hig : Nat.beq i g = false)
    (e : Nat) (hdst : (ops[j]?).bind (·.dst) = some e) (he : E e = .bool b) (heN : Nat.blt e N = true) (hb : (b == t) = false) (hd : Nat.blt d N = true) (hST : SJ g S T listed w)
    (h : EJ P N ops g S T Q fuel (listed.setIfInBounds i true) (upd E d undef) w) : EJ P N ops g S T Q (fuel + 1) listed E w := fun hc a ha => by
  have hne : i ≠ g := fun h1 => by rw [h1, Nat.beq_refl] at hig; cases hig
  refine wpAnyJ_first S hi (Region.noSelect_spec hs) (fun _ _ _ h => h) hne 0 (.inr fun w h1 => h1) fuel listed a w (Region.free_spec hi hf) hc (by simpa using hr) (.inr ⟨by rw [wanted_of ha rfl hdst he heN, hb], rfl⟩) hST ?_
  exact h (closed_set hc (by simpa using hr)) _ (ha.put hd undef)
theorem EJ_gfloat (i : Nat) (hi : ops[i]? = some ⟨some d, op, ty, pos, aft, some (j, t)⟩) (hs : Region.noSelect ops = true) (hf : Region.free .any ops listed i = true) (hr : (Region.ready .any ops listed).contains i = true) (hig : Nat.beq i g = false)
    (e : Nat) (hdst : (ops[j]?).bind (·.dst) = some e) (he : E e = .bool b) (heN : Nat.blt e N = true) (hb : (b == t) = true) (v : Value) (hd : Nat.blt d N = true) (hrun : ∀ w, S w → Gives P E w ⟨some d, op, ty, pos, aft, some (j, t)⟩ v w) (hST : SJ g S T listed w)
    (h : EJ P N ops g S T Q fuel (listed.setIfInBounds i true) (upd E d v) w) : EJ P N ops g S T Q (fuel + 1) listed E w := fun hc a ha => by
  have hne : i ≠ g := fun h1 => by rw [h1, Nat.beq_refl] at hig; cases hig
  refine wpAnyJ_first S hi (Region.noSelect_spec hs) (fun _ _ _ h => h) hne 0 (.inr fun w h1 => h1) fuel listed a w (Region.free_spec hi hf) hc (by simpa using hr) (.inl ⟨by rw [wanted_of ha rfl hdst he heN, hb], fun w' hw' => by rw [ha.eval]; exact hrun w' hw'⟩) hST ?_
  exact h (closed_set hc (by simpa using hr)) _ (ha.put hd v)
theorem EJ_gtake (i : Nat) (hi : ops[i]? = some ⟨some d, op, ty, pos, aft, some (j, t)⟩) (hs : Region.noSelect ops = true) (hf : Region.free .any ops listed i = true) (hr : (Region.ready .any ops listed).contains i = true) (hig : Nat.beq i g = false)
    (hw : reachB .any ops 40 g i = true) (e : Nat) (hdst : (ops[j]?).bind (·.dst) = some e) (he : E e = .bool b) (heN : Nat.blt e N = true) (hb : (b == t) = true) (v : Value) (hd : Nat.blt d N = true) (hrun : ∀ w, S w → T w → Gives P E w ⟨some d, op, ty, pos, aft, some (j, t)⟩ v w) (hST : SJ g S T listed w)
    (h : EJ P N ops g S T Q fuel (listed.setIfInBounds i true) (upd E d v) w) : EJ P N ops g S T Q (fuel + 1) listed E w := fun hc a ha => by
  have hne : i ≠ g := fun h1 => by rw [h1, Nat.beq_refl] at hig; cases hig
  refine wpAnyJ_first (fun w => S w ∧ T w) hi (Region.noSelect_spec hs) (fun _ _ _ h => h) hne 40 (.inl ⟨hw, fun w h1 h2 => ⟨h1, h2⟩⟩) fuel listed a w (Region.free_spec hi hf) hc (by simpa using hr) (.inl ⟨by rw [wanted_of ha rfl hdst he heN, hb], fun w' hw' => by rw [ha.eval]; exact hrun w' hw'.1 hw'.2⟩) hST ?_
  exact h (closed_set hc (by simpa using hr)) _ (ha.put hd v)
def EJn (P:Program) (N:Nat) (ops:Array Oper) (g:Nat) (S T:World→Prop) (Q:Exit→Env→World→Prop) (fuel:Nat) (listed:Array Bool) (E:Env) (w:World) (i:Nat):Prop:=
 ∃o,ops[i]?=some o∧EL P N ops (fun e E' w'=>e=.normal∧SJ g S T (listed.setIfInBounds i true) w'∧EJ P N ops g S T Q fuel (listed.setIfInBounds i true) E' w') [o] E w
theorem EJ_many {rs:List Nat} (hr:Region.ready .any ops listed=rs) (hne:rs≠[]) (h:∀i∈rs,EJn P N ops g S T Q fuel listed E w i):EJ P N ops g S T Q (fuel+1) listed E w:=fun hc a ha=>by
 have hne':Region.ready .any ops listed≠[]:=by rw [hr];exact hne
 show (_→_)∧_
 refine ⟨fun h0=>absurd h0 hne',fun k hk=>?_⟩
 have hk':=hk
 rw [hr] at hk
 obtain ⟨o,ho,hl⟩:=h k hk
 refine op_of_list k ho (R:=fun E' w'=>SJ g S T (listed.setIfInBounds k true) w'∧EJ P N ops g S T Q fuel (listed.setIfInBounds k true) E' w') (fun a' w' hh=>?_) (hl a ha)
 obtain ⟨E',s',h1,h2⟩:=hh
 exact ⟨h1,h2 (closed_set hc hk') a' s'⟩
theorem EJ_one (i:Nat) (hr:Region.ready .any ops listed=[i]) (h1:EJn P N ops g S T Q fuel listed E w i):EJ P N ops g S T Q (fuel+1) listed E w:=
 EJ_many hr (by simp) fun k hk=>by
  simp only [List.mem_cons,List.not_mem_nil,or_false] at hk
  subst hk;exact h1
theorem EJ_two (i j:Nat) (hr:Region.ready .any ops listed=[i,j]) (h1:EJn P N ops g S T Q fuel listed E w i) (h2:EJn P N ops g S T Q fuel listed E w j):EJ P N ops g S T Q (fuel+1) listed E w:=
 EJ_many hr (by simp) fun k hk=>by
  simp only [List.mem_cons,List.not_mem_nil,or_false] at hk
  rcases hk with rfl | rfl<;>assumption
end
end Go.Ecal
