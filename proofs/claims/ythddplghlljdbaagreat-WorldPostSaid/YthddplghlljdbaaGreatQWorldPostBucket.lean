import Derived.Test.YthddplghlljdbaaGreatProg
import Derived.Test.YthddplghlljdbaaGreatQWorldPostRep
set_option linter.unusedVariables false
set_option linter.unusedSimpArgs false
namespace Go.Proofs.YthddplghlljdbaaGreat
open Go.RowKit Go.Ecal
/-- A part: a number,or a text. -/
inductive Any where
 | int (n:Int)
 | bytes (l:List UInt8)
 deriving DecidableEq
def anyP (I:Gh) (cs:List Value):Any→Prop
 | .int n=>cs=[.iface 3 (.int .i64 n)]∧(-9223372036854775808≤n∧n≤9223372036854775807)
 | .bytes l=>∃u,cs=[.iface 33 u]∧u.oneCell'=true∧RoB I u l
def anyR : Rep Any := ⟨1, anyP, fun {I J cs a} k h => by
    cases a with
    | int n => exact h
    | bytes l => obtain ⟨u, a, b, c⟩ := h; exact ⟨u, a, b, c.up k⟩,
  fun {I cs a} h => by
    cases a with
    | int n => rw [h.1]; rfl
    | bytes l => obtain ⟨u, a, _⟩ := h; rw [a]; rfl,
  fun {I cs a} h u hu => by
    cases a with
    | int n => rw [h.1] at hu; simp at hu; rw [hu]; rfl
    | bytes l => obtain ⟨q, a, _⟩ := h; rw [a] at hu; simp at hu; rw [hu]; rfl⟩
theorem any_open {I:Gh} {cs:List Value} {a:Any} (h:anyR.r I cs a):∃u,cs=[u]∧u.oneCell'=true∧anyR.r I [u] a:=by
 cases a with
 | int n=>obtain ⟨rfl,r⟩:=h;exact ⟨_,rfl,rfl,rfl,r⟩
 | bytes l=>obtain ⟨u,rfl,o,r⟩:=h;exact ⟨_,rfl,rfl,u,rfl,o,r⟩
/-- A number in six bytes,the highest first. -/
def be6 (n:Int):List UInt8:=[bof (n / 1099511627776),bof (n / 4294967296),bof (n / 16777216),bof (n / 65536),bof (n / 256),bof n]
def be2 (n:Int):List UInt8:=[bof (n / 256),bof n]
def numE (n:Int):Int:=if 0≤n∧n≤1099511627776 then 0 else 12
def numB (n:Int):List UInt8:=if 0≤n∧n≤1099511627776 then be6 n else []
def textE (l:List UInt8):Int:=if l.length≤4096 then 0 else 11
def textB (l:List UInt8):List UInt8:=if l.length≤4096 then be2 (l.length:Int)++l else []
def partE:Any→Int
 | .int n=>numE n
 | .bytes l=>textE l
def partB:Any→List UInt8
 | .int n=>numB n
 | .bytes l=>textB l
def putE:List Any→Int
 | []=>0
 | a::l=>if partE a=0 then putE l else partE a
def putB (l:List Any):List UInt8:=if putE l=0 then (l.map partB).flatten else []
theorem be6_len (n:Int):(be6 n).length=6:=rfl
theorem partB_le (a:Any):(partB a).length≤4098:=by
 cases a with
 | int n=>simp only [partB,numB];split<;>simp [be6]
 | bytes l=>simp only [partB,textB];split<;>simp [be2];omega
theorem putE_iff {l:List Any}:putE l=0↔∀a∈l,partE a=0:=by
 induction l with
 | nil=>simp [putE]
 | cons a r ih =>
  simp only [putE,List.mem_cons,forall_eq_or_imp]
  split
  ·rename_i h;rw [ih];simp [h]
  ·rename_i h;simp [h]
/-- The first j are right. -/
def PutTo (l:List Any) (j:Nat):Prop:=∀a∈l.take j,partE a=0
theorem PutTo.zero {l:List Any}:PutTo l 0:=by intro a h;simp at h
theorem PutTo.next {l:List Any} {j:Nat} {a:Any} (h:PutTo l j) (ha:l[j]?=some a) (h0:partE a=0):PutTo l (j+1):=by
 intro u hu
 rw [List.take_add_one,ha] at hu
 rcases List.mem_append.1 hu with h1 | h1
 ·exact h u h1
 ·simp at h1;rw [h1];exact h0
theorem PutTo.stop {l:List Any} {j:Nat} {a:Any} (h:PutTo l j) (ha:l[j]?=some a) (h0:¬partE a=0):putE l=partE a:=by
 induction l generalizing j with
 | nil=>simp at ha
 | cons b r ih =>
  cases j with
  | zero=>simp at ha;subst ha;simp [putE,h0]
  | succ j =>
   have hb:partE b=0:=h b (by simp)
   simp only [putE,hb,if_true]
   exact ih (j:=j) (fun u hu=>h u (by simp [hu])) (by simpa using ha)
theorem PutTo.all {l:List Any} (h:PutTo l l.length):putE l=0:=putE_iff.2 (by simpa [PutTo] using h)
theorem put_step {l:List Any} {j:Nat} {a:Any} (ha:l[j]?=some a):((l.take j).map partB).flatten++partB a=((l.take (j+1)).map partB).flatten:=by
 rw [List.take_add_one,ha];simp
theorem put_le {l:List Any} (j:Nat):((l.take j).map partB).flatten.length≤4098*j:=by
 induction j with
 | zero=>simp
 | succ j ih =>
  cases ha:l[j]? with
  | none=>rw [List.take_add_one,ha];simp at ih ⊢;omega
  | some a=>rw [←put_step ha,List.length_append];have:=partB_le a;omega
theorem putB_ok {l:List Any} (h:putE l=0):putB l=(l.map partB).flatten:=by simp [putB,h]
theorem numE_ok {n:Int} (h:0≤n∧n≤1099511627776):numE n=0:=by simp [numE,h]
theorem numB_ok {n:Int} (h:0≤n∧n≤1099511627776):numB n=be6 n:=by simp [numB,h]
theorem put1 {n:Int} (h:0≤n∧n≤1099511627776):putB [.int n]=be6 n∧putE [.int n]=0:=by
 simp [putB,putE,partE,partB,numE_ok h,numB_ok h]
theorem put2 {n m:Int} (h:0≤n∧n≤1099511627776) (k:0≤m∧m≤1099511627776):putB [.int n,.int m]=be6 n++be6 m∧putE [.int n,.int m]=0:=by
 simp [putB,putE,partE,partB,numE_ok h,numB_ok h,numE_ok k,numB_ok k]
end Go.Proofs.YthddplghlljdbaaGreat

namespace Go.Proofs.YthddplghlljdbaaGreat
open Go.RowKit Go.Ecal
/-- What is still to be read,and is it bad? -/
structure Rd where
 l:List UInt8
 bad:Bool
def rdShort (r:Rd) (n:Int):Bool:=r.bad||decide ((r.l.length:Int)<n)
def rdTake (r:Rd) (n:Int):List UInt8:=if rdShort r n then [] else r.l.take n.toNat
def rdTakeS (r:Rd) (n:Int):Rd:=if rdShort r n then ⟨r.l,true⟩ else ⟨r.l.drop n.toNat,r.bad⟩
/-- A number,the highest byte first. -/
def beN (l:List UInt8):Int:=l.foldl (fun n c=>256*n+(c.toNat:Int)) 0
def rdGet (r:Rd) (n:Int):Int:=beN (rdTake r n)
/-- A number of n bytes,from lo to hi: what is left behind it. -/
def rdMid (r:Rd) (n lo hi:Int):Rd:=⟨(rdTakeS r n).l,(rdTakeS r n).bad||decide (rdGet r n<lo)||decide (hi<rdGet r n)⟩
abbrev rdNumS (r:Rd) (lo hi:Int):Rd:=rdMid r 6 lo hi
def rdNum (r:Rd) (lo hi:Int):Int:=if (rdNumS r lo hi).bad then 0 else rdGet r 6
def rdTxt (r:Rd) (lo hi:Int):List UInt8:=if (rdMid r 2 lo hi).bad then [] else rdTake (rdMid r 2 lo hi) (rdGet r 2)
def rdTxtS (r:Rd) (lo hi:Int):Rd:=if (rdMid r 2 lo hi).bad then rdMid r 2 lo hi else rdTakeS (rdMid r 2 lo hi) (rdGet r 2)
def rdEnd (r:Rd):Bool:=!r.bad&&decide ((r.l.length:Int)=0)
theorem beN_app (l:List UInt8) (c:UInt8):beN (l++[c])=256*beN l+(c.toNat:Int):=by simp [beN]
theorem beN_step {l:List UInt8} {j q:Nat} {c:UInt8} (h:(q:Int)=beN (l.take j)) (hc:l[j]?=some c):((q*256+c.toNat:Nat):Int)=beN (l.take (j+1)):=by
 rw [List.take_add_one,hc];simp only [Option.toList_some];rw [beN_app,←h];omega
theorem beN_from (l:List UInt8):∀a:Nat,∃q:Nat,l.foldl (fun n c=>256*n+(c.toNat:Int)) (a:Int)=(q:Int)∧q+1≤(a+1)*256 ^ l.length:=by
 induction l with
 | nil=>exact fun a=>⟨a,rfl,by simp⟩
 | cons c l ih =>
  intro a
  obtain ⟨q,h1,h2⟩:=ih (256*a+c.toNat)
  refine ⟨q,by simpa using h1,Nat.le_trans h2 ?_⟩
  rw [List.length_cons,Nat.pow_succ,Nat.mul_comm (256 ^ l.length) 256,←Nat.mul_assoc]
  exact Nat.mul_le_mul_right _ (by have:=c.toNat_lt;omega)
theorem beN_nn (l:List UInt8):0≤beN l∧beN l<((256 ^ l.length:Nat):Int):=by
 obtain ⟨q,h1,h2⟩:=beN_from l 0
 have h3:beN l=(q:Int):=h1
 rw [h3];simp at h2;omega
theorem rdTake_len {r:Rd} {n:Int} (hn:0≤n):(rdTake r n).length≤n.toNat:=by unfold rdTake;split<;>simp;omega
theorem rdGet2 (r:Rd):0≤rdGet r 2∧rdGet r 2<65536:=by
 obtain ⟨h1,h2⟩:=beN_nn (rdTake r 2)
 have h3:(rdTake r 2).length≤2:=rdTake_len (by decide)
 have h4:256 ^ (rdTake r 2).length≤256 ^ 2:=Nat.pow_le_pow_right (by decide) h3
 rw [rdGet];exact ⟨h1,by omega⟩
theorem rdGet6 (r:Rd):0≤rdGet r 6∧rdGet r 6<281474976710656:=by
 obtain ⟨h1,h2⟩:=beN_nn (rdTake r 6)
 have h3:(rdTake r 6).length≤6:=rdTake_len (by decide)
 have h4:256 ^ (rdTake r 6).length≤256 ^ 6:=Nat.pow_le_pow_right (by decide) h3
 rw [rdGet];exact ⟨h1,by omega⟩
theorem rdNum_rng (r:Rd) (lo:Int) {hi:Int} (h:0≤hi):0≤rdNum r lo hi∧rdNum r lo hi≤hi:=by
 unfold rdNum
 split
 ·omega
 ·rename_i hb
  have h1:=rdGet6 r
  simp only [rdMid,Bool.or_eq_true,not_or,decide_eq_true_eq] at hb
  omega
theorem rdTxt_len (r:Rd) (lo hi:Int):((rdTxt r lo hi).length:Int)≤hi∨rdTxt r lo hi=[]:=by
 unfold rdTxt
 split
 ·exact .inr rfl
 ·rename_i hb
  have h1:=rdGet2 r
  have h2:(rdTake (rdMid r 2 lo hi) (rdGet r 2)).length≤(rdGet r 2).toNat:=rdTake_len h1.1
  simp only [rdMid,Bool.or_eq_true,not_or,decide_eq_true_eq] at hb
  simp only [rdMid] at h2 ⊢
  left;omega
/-- A reader in the memory. -/
def RdP (p:Value) (r:Rd):HP:=.ex fun b=>.ex fun v=>Sep [.prop (p=ptr b∧v.oneCell'=true),.fact ⟨fun I=>RoB I v r.l,fun k h=>h.up k⟩,Blk b 228 [v,.bool r.bad]]
theorem RdP.opn {w:World} {I:Gh} {R:List HP} {p:Value} {r:Rd} (S:Sat w I (RdP p r::R)):∃b v,p=ptr b∧v.oneCell'=true∧RoB I v r.l∧Sat w I (Blk b 228 [v,.bool r.bad]::R):=by
 obtain ⟨b,S⟩:=S.unex;obtain ⟨v,S⟩:=S.unex
 obtain ⟨⟨h1,h2⟩,S⟩:=S.split.unprop
 obtain ⟨h3,S⟩:=S.unfact
 exact ⟨b,v,h1,h2,h3,S⟩
theorem RdP.cls {w:World} {I:Gh} {R:List HP} {b:Nat} {v:Value} {r:Rd} {l:List UInt8} {t:Bool} (ho:v.oneCell'=true) (hA:RoB I v l) (hr:(⟨l,t⟩:Rd)=r) (S:Sat w I (Blk b 228 [v,.bool t]::R)):Sat w I (RdP (ptr b) r::R):=by
 subst hr;exact Sat.toex b (Sat.toex v (Sat.join [_,_,_] ((S.tofact hA).toprop ⟨rfl,ho⟩)))
theorem RdP.ptr {w:World} {I:Gh} {R:List HP} {p:Value} {r:Rd} (S:Sat w I (RdP p r::R)):∃b,p=Go.Ecal.ptr b:=let ⟨b,_,h,_⟩:=RdP.opn S;⟨b,h⟩
theorem RdP.at {w:World} {I:Gh} {R:List HP} {b:Nat} {r:Rd} (S:Sat w I (RdP (Go.Ecal.ptr b) r::R)):∃v,v.oneCell'=true∧RoB I v r.l∧Sat w I (Blk b 228 [v,.bool r.bad]::R):=by
 obtain ⟨b',v,h,h1,h2,S⟩:=RdP.opn S
 have:b=b':=by simpa [Go.Ecal.ptr] using h
 subst this;exact ⟨v,h1,h2,S⟩
end Go.Proofs.YthddplghlljdbaaGreat

namespace Go.Proofs.YthddplghlljdbaaGreat
open Go.RowKit Go.Ecal
structure WrapT where
 who:Int
 box:List UInt8
 deriving DecidableEq
structure Entry where
 kind:Int
 writer:Int
 seq:Int
 name:List UInt8
 value:List UInt8
 who:Int
 rights:Int
 epoch:Int
 wraps:List WrapT
 deriving DecidableEq
def within (n lo hi:Int):Bool:=decide (lo≤n)&&decide (n≤hi)
theorem within_iff {n lo hi:Int}:within n lo hi=true↔lo≤n∧n≤hi:=by simp [within]
/-- Each goes to a member,behind the one ahead of it. -/
def wrapsGo:Int→List WrapT→Bool
 | _,[]=>true
 | p,w::l=>within w.who 1 16&&decide (w.box.length=48)&&decide (p<w.who)&&wrapsGo w.who l
def wrapsOk (l:List WrapT):Bool:=wrapsGo 0 l&&decide (l.length≤16)
/-- An entry with just what its kind may have. -/
def Entry.bare (e:Entry):Entry:=⟨e.kind,e.writer,e.seq,if e.kind=1∨e.kind=2 then e.name else [],if e.kind=1 then e.value else [],if e.kind=3∨e.kind=4 then e.who else 0,if e.kind=3 then e.rights else 0,if e.kind=5 then e.epoch else 0,if e.kind=5 then e.wraps else []⟩
def Entry.body (e:Entry):Bool:=
 if e.kind=1∨e.kind=2 then within e.name.length 1 64&&decide ((e.value.length:Int)≤512)
 else if e.kind=3 then within e.who 1 16&&within e.rights 1 7
 else if e.kind=4 then within e.who 1 16
 else within e.epoch 1 16&&wrapsOk e.wraps
def Entry.head (e:Entry):Bool:=within e.kind 1 5&&within e.writer 1 16&&within e.seq 1 1099511627776
def Entry.right (e:Entry):Bool:=e.head&&decide (e=e.bare)&&e.body
def wrapParts (l:List WrapT):List Any:=(l.map fun w=>[Any.int w.who,Any.bytes w.box]).flatten
def Entry.parts (e : Entry) : List Any := [Any.int e.kind, Any.int e.writer, Any.int e.seq] ++
  (if e.kind = 1 then [Any.bytes e.name, Any.bytes e.value] else if e.kind = 2 then [Any.bytes e.name] else if e.kind = 3 then [Any.int e.who, Any.int e.rights] else if e.kind = 4 then [Any.int e.who]
   else if e.kind = 5 then [Any.int e.epoch, Any.int e.wraps.length] ++ wrapParts e.wraps else [])
def Entry.encE (e:Entry):Int:=if e.right then putE e.parts else 10
def Entry.encB (e:Entry):List UInt8:=if e.right then putB e.parts else []
def entry0:Entry:=⟨0,0,0,[],[],0,0,0,[]⟩
/-- Wraps that are read: so many,as1 long as1 it isn't bad. -/
def rdWraps:Nat→Rd→List WrapT→List WrapT×Rd
 | 0,r,a=>(a,r)
 | n+1,r,a=>if r.bad then (a,r) else rdWraps n (rdTxtS (rdNumS r 1 16) 48 48) (a++[⟨rdNum r 1 16,rdTxt (rdNumS r 1 16) 48 48⟩])
def rdBody (k w q:Int) (r:Rd):Entry×Rd:=
 if k=1 then (⟨k,w,q,rdTxt r 1 64,rdTxt (rdTxtS r 1 64) 0 512,0,0,0,[]⟩,rdTxtS (rdTxtS r 1 64) 0 512)
 else if k=2 then (⟨k,w,q,rdTxt r 1 64,[],0,0,0,[]⟩,rdTxtS r 1 64)
 else if k=3 then (⟨k,w,q,[],[],rdNum r 1 16,rdNum (rdNumS r 1 16) 1 7,0,[]⟩,rdNumS (rdNumS r 1 16) 1 7)
 else if k=4 then (⟨k,w,q,[],[],rdNum r 1 16,0,0,[]⟩,rdNumS r 1 16)
 else if k=5 then
  let x:=rdWraps (rdNum (rdNumS r 1 16) 0 16).toNat (rdNumS (rdNumS r 1 16) 0 16) []
  (⟨k,w,q,[],[],0,0,rdNum r 1 16,x.1⟩,x.2)
 else (⟨k,w,q,[],[],0,0,0,[]⟩,r)
def rdEntry (r:Rd):Entry×Rd:=rdBody (rdNum r 1 5) (rdNum (rdNumS r 1 5) 1 16) (rdNum (rdNumS (rdNumS r 1 5) 1 16) 1 1099511627776) (rdNumS (rdNumS (rdNumS r 1 5) 1 16) 1 1099511627776)
def decOk (b:List UInt8):Bool:=rdEnd (rdEntry ⟨b,false⟩).2&&(rdEntry ⟨b,false⟩).1.right
def decE (b:List UInt8):Int:=if decOk b then 0 else 10
def decV (b:List UInt8):Entry:=if decOk b then (rdEntry ⟨b,false⟩).1 else entry0
theorem wrap_eq {x y:WrapT}:x=y↔x.who=y.who∧x.box=y.box:=by cases x;cases y;simp
theorem entry_eq {a b:Entry}:a=b↔a.kind=b.kind∧a.writer=b.writer∧a.seq=b.seq∧a.name=b.name∧a.value=b.value∧a.who=b.who∧a.rights=b.rights∧a.epoch=b.epoch∧a.wraps=b.wraps:=by cases a;cases b;simp
/-- The first of some that doesn't hold. -/
theorem first9 (p1 p2 p3 p4 p5 p6 p7 p8 p9:Prop):¬p1∨(p1∧¬p2)∨(p1∧p2∧¬p3)∨(p1∧p2∧p3∧¬p4)∨(p1∧p2∧p3∧p4∧¬p5)∨(p1∧p2∧p3∧p4∧p5∧¬p6)∨(p1∧p2∧p3∧p4∧p5∧p6∧¬p7)∨(p1∧p2∧p3∧p4∧p5∧p6∧p7∧¬p8)∨(p1∧p2∧p3∧p4∧p5∧p6∧p7∧p8∧¬p9)∨(p1∧p2∧p3∧p4∧p5∧p6∧p7∧p8∧p9):=by
 by_cases h1:p1<;>simp only [h1,not_true,not_false_eq_true,true_and,false_and,false_or,true_or,or_false,or_true]
 by_cases h2:p2<;>simp only [h2,not_true,not_false_eq_true,true_and,false_and,false_or,true_or,or_false,or_true]
 by_cases h3:p3<;>simp only [h3,not_true,not_false_eq_true,true_and,false_and,false_or,true_or,or_false,or_true]
 by_cases h4:p4<;>simp only [h4,not_true,not_false_eq_true,true_and,false_and,false_or,true_or,or_false,or_true]
 by_cases h5:p5<;>simp only [h5,not_true,not_false_eq_true,true_and,false_and,false_or,true_or,or_false,or_true]
 by_cases h6:p6<;>simp only [h6,not_true,not_false_eq_true,true_and,false_and,false_or,true_or,or_false,or_true]
 by_cases h7:p7<;>simp only [h7,not_true,not_false_eq_true,true_and,false_and,false_or,true_or,or_false,or_true]
 by_cases h8:p8<;>simp only [h8,not_true,not_false_eq_true,true_and,false_and,false_or,true_or,or_false,or_true]
 by_cases h9:p9<;>simp only [h9,not_true,not_false_eq_true,true_and,false_and,false_or,true_or,or_false,or_true]
theorem first2 (p1 p2:Prop):¬p1∨(p1∧¬p2)∨(p1∧p2):=by by_cases h1:p1<;>by_cases h2:p2<;>simp [h1,h2]
theorem first4 (p1 p2 p3 p4:Prop):¬p1∨(p1∧¬p2)∨(p1∧p2∧¬p3)∨(p1∧p2∧p3∧¬p4)∨(p1∧p2∧p3∧p4):=by
 by_cases h1:p1<;>by_cases h2:p2<;>by_cases h3:p3<;>by_cases h4:p4<;>simp [h1,h2,h3,h4]
/-- The member of the one ahead. -/
def prevW (l:List WrapT) (j:Nat):Int:=if j=0 then 0 else ((l[j-1]?).map WrapT.who).getD 0
theorem prevW_eq {l:List WrapT} {j:Nat} {x:Int} {p:WrapT} (hp:l[x.toNat]?=some p) (hj:j≠0) (hx:x=(j:Int)-1):prevW l j=p.who:=by
 rw [prevW,if_neg hj,show j-1=x.toNat by omega,hp];rfl
theorem wraps_step {l:List WrapT} {j:Nat} {a:WrapT} (ha:l[j]?=some a) (h:wrapsGo 0 l=wrapsGo (prevW l j) (l.drop j)) (h1:within a.who 1 16=true) (h2:a.box.length=48) (h3:prevW l j<a.who):wrapsGo 0 l=wrapsGo (prevW l (j+1)) (l.drop (j+1)):=by
 have hd:l.drop j=a::l.drop (j+1):=by
  obtain ⟨hj,e⟩:=List.getElem?_eq_some_iff.1 ha
  rw [List.drop_eq_getElem_cons hj,e]
 have hp:prevW l (j+1)=a.who:=by rw [prevW,if_neg (by omega),show j+1-1=j by omega,ha];rfl
 rw [h,hd,hp];simp [wrapsGo,h1,h2,h3]
theorem wraps_stop {l:List WrapT} {j:Nat} {a:WrapT} (ha:l[j]?=some a) (h:wrapsGo 0 l=wrapsGo (prevW l j) (l.drop j)) (hn:within a.who 1 16=false∨¬a.box.length=48∨¬prevW l j<a.who):wrapsOk l=false:=by
 have hd:l.drop j=a::l.drop (j+1):=by
  obtain ⟨hj,e⟩:=List.getElem?_eq_some_iff.1 ha
  rw [List.drop_eq_getElem_cons hj,e]
 rw [wrapsOk,h,hd]
 rcases hn with h | h | h<;>simp [wrapsGo,h]
abbrev baseW (e:Entry):List Any:=[Any.int e.kind,Any.int e.writer,Any.int e.seq]++[Any.int e.epoch,Any.int e.wraps.length]
theorem wp_step {b:List Any} {l:List WrapT} {j:Nat} {a:WrapT} (ha:l[j]?=some a):(b++wrapParts (l.take j))++[Any.int a.who,Any.bytes a.box]=b++wrapParts (l.take (j+1)):=by
 rw [List.take_add_one,ha,List.append_assoc];simp [wrapParts]
theorem wp_len (l:List WrapT):(wrapParts l).length=2*l.length:=by
 induction l with
 | nil=>rfl
 | cons a l ih=>simp only [wrapParts,List.map_cons,List.flatten_cons,List.length_append,List.length_cons,List.length_nil] at ih ⊢;omega
theorem right_kind {e:Entry} (h:e.right=true):1≤e.kind∧e.kind≤5:=by
 simp only [Entry.right,Entry.head,Bool.and_eq_true] at h;exact within_iff.1 h.1.1.1.1
theorem right_wraps {e : Entry} (h : e.right = true) : e.wraps.length ≤ 16 := by
  have hb : e = e.bare := by simp only [Entry.right, Bool.and_eq_true, decide_eq_true_eq] at h; exact h.1.2
  by_cases hk : e.kind = 5
  · simp only [Entry.right, Entry.body, Bool.and_eq_true] at h
    have h2 := h.2
    rw [if_neg (by omega), if_neg (by omega), if_neg (by omega)] at h2
    simp only [wrapsOk, Bool.and_eq_true, decide_eq_true_eq] at h2; exact h2.2.2
  · have : e.wraps = [] := by rw [hb]; simp [Entry.bare, hk]
    simp [this]
theorem parts_len {e:Entry} (h:e.right=true):e.parts.length≤40:=by
 have h1:=right_wraps h
 unfold Entry.parts
 repeat' split
 all_goals (simp [wp_len];try omega)
theorem rdw_step {n:Nat} {r:Rd} {ws:List WrapT} (hn:0<n) (hb:r.bad=false):rdWraps n r ws=rdWraps (n-1) (rdTxtS (rdNumS r 1 16) 48 48) (ws++[⟨rdNum r 1 16,rdTxt (rdNumS r 1 16) 48 48⟩]):=by
 obtain ⟨m,rfl⟩:∃m,n=m+1:=⟨n-1,by omega⟩
 rw [rdWraps,if_neg (by rw [hb];decide)];rfl
theorem rdw_bad {n:Nat} {r:Rd} {ws:List WrapT} (hb:r.bad=true):rdWraps n r ws=(ws,r):=by
 cases n with
 | zero=>rfl
 | succ n=>rw [rdWraps,if_pos hb]
end Go.Proofs.YthddplghlljdbaaGreat

namespace Go.Proofs.YthddplghlljdbaaGreat
open Go.Ecal
def bsize (n:Int):Int:=if n<0∨2046<n then 0 else if n≤62 then 64 else if n≤126 then 128 else if n≤254 then 256 else if n≤510 then 512 else if n≤1022 then 1024 else 2048
def bsizeE (n:Int):Int:=if n<0∨2046<n then 11 else 0
theorem bsize_facts (n:Int) (h0:0≤n) (h:n≤2046):∃z,bsize n=z∧bsizeE n=0∧64≤z∧n+2≤z∧z≤2048∧z<2*n+66:=by
 refine ⟨_,rfl,by simp [bsizeE];omega,?_⟩
 simp only [bsize]
 repeat' split
 all_goals omega
theorem bsize_no (n:Int) (h:n<0∨2046<n):bsize n=0∧bsizeE n=11:=by
 simp [bsize,bsizeE,h]
def bpad (b:List UInt8):List UInt8:=bof ((b.length:Int) / 256)::bof (b.length:Int)::(b++List.replicate ((bsize b.length).toNat-2-b.length) 0)
theorem bpad_list (b : List UInt8) (z : Int) (hz : bsize b.length = z) (x y : UInt8) (hx : x = bof ((b.length : Int) / 256)) (hy : y = bof (b.length : Int)) (h : b.length + 2 ≤ z) :
    (((List.replicate z.toNat 0).set 0 x).set 1 y).take 2 ++ b ++ (((List.replicate z.toNat 0).set 0 x).set 1 y).drop (2 + b.length) = bpad b := by
  subst hx hy
  obtain ⟨n, hn⟩ : ∃ n, z.toNat = n + 2 := ⟨z.toNat - 2, by omega⟩
  rw [hn, List.replicate_succ, List.replicate_succ]
  simp only [bpad, hz, hn]
  simp [List.drop_replicate, Nat.add_comm 2 b.length]
theorem bpad_length (b:List UInt8) (z:Int) (hz:bsize b.length=z) (h:b.length+2≤z):(bpad b).length=z.toNat:=by
 simp [bpad,hz];omega
def bnum (b:List UInt8):Nat:=(b.getD 0 0).toNat*256+(b.getD 1 0).toNat
def bstrip (b:List UInt8):Option (List UInt8):=
 if 64≤b.length∧bsize (bnum b)=b.length∧(b.drop (2+bnum b)).all (· == 0)=true then some ((b.drop 2).take (bnum b)) else none
theorem bnum_eq {b:List UInt8} {x y:UInt8} (h0:b[(0:Int).toNat]?=some x) (h1:b[(1:Int).toNat]?=some y):(bnum b:Int)=(x.toNat:Int)*256+(y.toNat:Int):=by
 have h0':b[0]?=some x:=h0
 have h1':b[1]?=some y:=h1
 simp [bnum,List.getD,h0',h1']
theorem strip_short {b:List UInt8} (h:(b.length:Int)<64):bstrip b=none:=by
 unfold bstrip;rw [if_neg];omega
theorem strip_size {b : List UInt8} {n : Int} (hn : n = bnum b) (h : bsizeE n ≠ 0 ∨ bsize n ≠ b.length) : bstrip b = none := by
  subst hn
  unfold bstrip; rw [if_neg]
  intro ⟨h1, h2, _⟩
  rcases h with h | h
  · have : bsize (bnum b) = 0 := by
      simp only [bsizeE] at h; simp only [bsize]
      split at h <;> simp_all
    omega
  · exact h h2
theorem size_fits {b:List UInt8} {n:Int} (h0:0≤n) (h64:64≤b.length) (h:bsizeE n=0) (h2:bsize n=b.length):n≤2046∧n+2≤b.length:=by
 have h3:n≤2046:=by
  simp only [bsizeE] at h;split at h<;>omega
 obtain ⟨z,hz,_,_,h4,_⟩:=bsize_facts n h0 h3
 omega
theorem strip_tail {b:List UInt8} {k j:Nat} {c:UInt8} (hk:k=2+bnum b) (hc:(b.drop k)[j]?=some c) (hne:(c.toNat:Int)≠0):bstrip b=none:=by
 subst hk
 unfold bstrip;rw [if_neg]
 intro ⟨_,_,h3⟩
 rw [List.all_eq_true] at h3
 have:=h3 c (List.mem_of_getElem? hc)
 have hc0:c=0:=by simpa using this
 subst hc0
 exact hne rfl
theorem strip_good {b : List UInt8} {n : Int} {k : Nat} {i : Int} (hn : n = bnum b) (h64 : 64 ≤ b.length) (h2 : bsize n = b.length) (hk : k = 2 + bnum b) (hi : ((b.drop k).length : Int) ≤ i) (h : ((b.drop k).take i.toNat).all (· == 0) = true) :
    bstrip b = some ((b.drop 2).take (bnum b)) := by
  subst hn hk
  unfold bstrip; rw [if_pos]
  refine ⟨h64, h2, ?_⟩
  rwa [List.take_of_length_le (by omega)] at h
theorem bpad_most {b:List UInt8} (h:b.length≤2046):(bpad b).length≤2048:=by
 obtain ⟨z,hz,_,h1,h2,h3,_⟩:=bsize_facts b.length (by omega) (by omega)
 have:=bpad_length b z hz h2
 omega
theorem bpad_len {b:List UInt8} (h:b.length≤2046):((bpad b).length:Int)=bsize b.length∧64≤(bpad b).length∧b.length+2≤(bpad b).length:=by
 obtain ⟨z,hz,_,h1,h2,_⟩:=bsize_facts b.length (by omega) (by omega)
 have:=bpad_length b z hz h2
 omega
theorem bsize_at {n z:Int} (hn:0≤n∧n≤2046) (hz:z=64∨(z=128∧62<n)∨(z=256∧126<n)∨(z=512∧254<n)∨(z=1024∧510<n)∨(z=2048∧1022<n)) (h:n+2≤z):bsize n=z:=by
 unfold bsize
 repeat' split
 all_goals omega
def padB (l:List UInt8):List UInt8:=if l.length≤2046 then bpad l else []
theorem mq_or {x a b:UInt8}:x ||| (a ^^^ b)=0↔x=0∧a=b:=by
 have h:∀y:UInt8,x ||| y=0↔x=0∧y=0:=fun y=>by
  rw [←UInt8.toNat_inj,←UInt8.toNat_inj (a:=x),←UInt8.toNat_inj (a:=y),UInt8.toNat_or]
  exact Nat.or_eq_zero_iff
 rw [h,UInt8.xor_eq_zero_iff]
theorem mq_next {l m:List UInt8} {j:Nat} {x a b:UInt8} (h:x=0↔l.take j=m.take j) (ha:l[j]?=some a) (hb:m[j]?=some b):x ||| (a ^^^ b)=0↔l.take (j+1)=m.take (j+1):=by
 have h1:(l.take j).length=(m.take j).length:=by
  have:=(List.getElem?_eq_some_iff.1 ha).1;have:=(List.getElem?_eq_some_iff.1 hb).1
  simp;omega
 rw [mq_or,h,List.take_add_one,List.take_add_one,ha,hb]
 constructor
 ·rintro ⟨h2,rfl⟩;rw [h2]
 ·intro h2
  obtain ⟨h3,h4⟩:=List.append_inj h2 h1
  exact ⟨h3,by simpa using h4⟩
theorem mq_fin {l m:List UInt8} {j:Nat} {x:UInt8} (h:x=0↔l.take j=m.take j) (h1:l.length≤j) (h2:m.length≤j):l=m↔(x.toNat:Int)=0:=by
 rw [List.take_of_length_le h1,List.take_of_length_le h2] at h
 rw [←h,←UInt8.toNat_inj];simp
def stripE (l:List UInt8):Int:=if (bstrip l).isSome then 0 else 10
def stripB (l:List UInt8):List UInt8:=(bstrip l).getD []
theorem strip_next {l:List UInt8} {j:Nat} {c:UInt8} (h:(l.take j).all (· == 0)=true) (hc:l[j]?=some c) (hz:¬(c.toNat:Int)≠0):(l.take (j+1)).all (· == 0)=true:=by
 have hcz:c=0:=by
  apply UInt8.toNat.inj
  have:(c.toNat:Int)=0:=by omega
  simpa using this
 rw [List.take_add_one,hc,List.all_append,h,hcz];rfl
end Go.Proofs.YthddplghlljdbaaGreat
