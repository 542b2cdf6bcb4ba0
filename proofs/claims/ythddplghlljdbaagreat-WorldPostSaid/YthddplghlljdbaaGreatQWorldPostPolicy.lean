import Derived.Test.YthddplghlljdbaaGreatQWorldPostSealed
set_option linter.unusedVariables false
set_option linter.unusedSimpArgs false
namespace Go.Proofs.YthddplghlljdbaaGreat
open Go.RowKit Go.Ecal
theorem beN6 (a b c d e f:UInt8):beN [a,b,c,d,e,f]=256*(256*(256*(256*(256*(a.toNat:Int)+b.toNat)+c.toNat)+d.toNat)+e.toNat)+f.toNat:=by simp [beN]
theorem beN2 (a b:UInt8):beN [a,b]=256*(a.toNat:Int)+b.toNat:=by simp [beN]
theorem beN_be6 {n:Int} (h:0≤n∧n≤1099511627776):beN (be6 n)=n:=by
 rw [be6,beN6];simp only [bof_nat];omega
theorem beN_be2 {n:Int} (h:0≤n∧n<65536):beN (be2 n)=n:=by
 rw [be2,beN2];simp only [bof_nat];omega
theorem take_app {a x:List UInt8} {n:Int} (h:(a.length:Int)=n):rdTake ⟨a++x,false⟩ n=a∧rdTakeS ⟨a++x,false⟩ n=⟨x,false⟩:=by
 have hs:rdShort ⟨a++x,false⟩ n=false:=by simp [rdShort];omega
 subst h
 constructor
 ·rw [rdTake,if_neg (by rw [hs];decide)];simp
 ·rw [rdTakeS,if_neg (by rw [hs];decide)];simp
theorem rd_num {n lo hi:Int} {x:List UInt8} (h:0≤n∧n≤1099511627776) (h1:lo≤n∧n≤hi):rdNum ⟨be6 n++x,false⟩ lo hi=n∧rdNumS ⟨be6 n++x,false⟩ lo hi=⟨x,false⟩:=by
 obtain ⟨t1,t2⟩:=take_app (a:=be6 n) (x:=x) (n:=6) rfl
 have hg:rdGet ⟨be6 n++x,false⟩ 6=n:=by rw [rdGet,t1,beN_be6 h]
 have hm:rdNumS ⟨be6 n++x,false⟩ lo hi=⟨x,false⟩:=by
  rw [rdNumS,rdMid,t2,hg];simp;omega
 exact ⟨by rw [rdNum,hm,hg];rfl,hm⟩
theorem rd_txt {t x:List UInt8} {lo hi:Int} (h:t.length<65536) (h1:lo≤(t.length:Int)∧(t.length:Int)≤hi):rdTxt ⟨be2 (t.length:Int)++(t++x),false⟩ lo hi=t∧rdTxtS ⟨be2 (t.length:Int)++(t++x),false⟩ lo hi=⟨x,false⟩:=by
 obtain ⟨t1,t2⟩:=take_app (a:=be2 (t.length:Int)) (x:=t++x) (n:=2) rfl
 have hg:rdGet ⟨be2 (t.length:Int)++(t++x),false⟩ 2=(t.length:Int):=by rw [rdGet,t1,beN_be2 (by omega)]
 have hm:rdMid ⟨be2 (t.length:Int)++(t++x),false⟩ 2 lo hi=⟨t++x,false⟩:=by
  rw [rdMid,t2,hg];simp;omega
 obtain ⟨t3,t4⟩:=take_app (a:=t) (x:=x) (n:=(t.length:Int)) rfl
 exact ⟨by rw [rdTxt,hm,hg,if_neg Bool.false_ne_true,t3],by rw [rdTxtS,hm,hg,if_neg Bool.false_ne_true,t4]⟩
def Record.flat (r:Record):List UInt8:=be6 r.coll++(be6 r.epoch++(be6 r.writer++(be6 r.count++(be2 (r.box.length:Int)++r.box))))
theorem right_iff {r:Record}:r.right=true↔r.nums=true∧80≤(r.box.length:Int)∧(r.box.length:Int)≤2064:=by
 simp only [Record.right,Bool.and_eq_true,decide_eq_true_eq,and_assoc]
theorem rec_put {r:Record} (h:r.right=true):putE r.allParts=0∧r.encB=r.flat:=by
 have hp:=h
 rw [right_iff,nums_iff] at hp
 have h0:putE r.allParts=0:=by
  rw [putE_iff];intro a ha
  simp only [Record.allParts,List.mem_cons,List.not_mem_nil,or_false] at ha
  rcases ha with rfl | rfl | rfl | rfl | rfl
  ·exact numE_ok (by omega)
  ·exact numE_ok (by omega)
  ·exact numE_ok (by omega)
  ·exact numE_ok (by omega)
  ·exact if_pos (by omega)
 refine ⟨h0,?_⟩
 rw [Record.encB,if_pos h,putB_ok h0]
 simp only [Record.allParts,List.map_cons,List.map_nil,partB,List.flatten_cons,List.flatten_nil,List.append_nil]
 rw [numB_ok (by omega),numB_ok (by omega),numB_ok (by omega),numB_ok (by omega),textB,if_pos (by omega)];rfl
theorem rflat_len (r:Record):r.flat.length=26+r.box.length:=by simp [Record.flat,be6,be2];omega
theorem enc_len {r:Record} (hr:r.right=true):r.encB.length=26+r.box.length:=by rw [(rec_put hr).2,rflat_len]
end Go.Proofs.YthddplghlljdbaaGreat

namespace Go.Ecal
open Go.RowKit
section
variable {P : Program} {N : Nat} {Q : Exit → Env → World → Prop} {E : Env} {w : World} {ops : Array Oper} {L : List Oper}
variable {d : Nat} {ty : TypeId} {pos : String} {aft : Array Edge} {dst : Option Tmp} {gd : Option (Nat × Bool)}
/-- A method's value: what it is bound to comes first. -/
theorem r_mkfunB {f:FuncId} {first captured:Array Operand} {fs cap:List Value} (h0:first.toList.map (ev E)=fs) (hx:captured.toList.map (ev E)=cap):Gives P E w ⟨dst,.makeFunc (.func f) first captured,ty,pos,aft,gd⟩ (.func (.func f) fs.toArray cap.toArray) w:=by
 subst hx h0
 simp [Gives,execOp,Instr.makeFunc]
 rw [←Array.toList_map,Array.toArray_toList,←Array.toList_map,Array.toArray_toList];exact ⟨rfl,rfl⟩
theorem EL_retB {f : FuncId} {fn : Func} {c : Operand} {fs cap : List Value} {args : Array Operand} {ats : Array TypeId} {R : Value → World → Prop} (l : List Value) (hd : Nat.blt d N = true) (hcv : ev E c = .func (.func f) fs.toArray cap.toArray) (hf : P.funcs[f]? = some fn) (hb : fn.body.isNone = false) (hnm : (fn.name == "runtime.NumGoroutine") = false)
    (ha : fs ++ args.toList.map (ev E) ++ cap = l) (hc : Ret P f l w R) (h : ∀ v w', R v w' → EL P N ops Q L (upd E d v) w') :
    EL P N ops Q (⟨some d, .call { callee := .value c, args, argTypes := ats }, ty, pos, aft, none⟩ :: L) E w := by
  subst ha
  refine EL_call (f := f) (args := fs.toArray ++ args.map (ev E) ++ cap.toArray) (R := fun e w' => ∃ v, e = .returned v ∧ R v w') hd ?_ ?_ (fun e w' ⟨v, he, _⟩ => ⟨v, he⟩) (fun v w' ⟨v', he, hr⟩ => ?_)
  · have h1 : fn.name ≠ "runtime.NumGoroutine" := by simpa using hnm
    have h2 : fn.body ≠ none := by intro h; rw [h] at hb; cases hb
    simp [execOp, resolve, hcv, Deferred.ofValue, invoke, callFunc, hf, h1, h2]
  · have : fs.toArray ++ args.map (ev E) ++ cap.toArray = (fs ++ args.toList.map (ev E) ++ cap).toArray := by apply Array.toList_inj.1; simp
    rw [this]; exact hc
  · injection he with he; subst he; exact h _ _ hr
end
end Go.Ecal
namespace Go.Proofs.YthddplghlljdbaaGreat
open Go.RowKit Go.Ecal
structure FrameT where
 kind:Int
 coll:Int
 index:Int
 links:List (List UInt8)
 sum:List UInt8
def frame0:FrameT:=⟨0,0,0,[],[]⟩
def badLink (b:List UInt8):Bool:=decide ((b.length:Int)<1)||decide (4096<(b.length:Int))
def linksOk (l:List (List UInt8)) (least:Int):Bool:=decide (least≤(l.length:Int))&&(decide ((l.length:Int)≤8)&&!l.any badLink)
def FrameT.nums (f:FrameT):Bool:=decide (1≤f.coll)&&decide (f.coll≤1099511627776)&&decide (0≤f.index)&&decide (f.index≤64)
def FrameT.body (f:FrameT):Bool:=
 if f.kind=1 then linksOk f.links 1&&(decide (f.index=0)&&decide ((f.sum.length:Int)=0))
 else if f.kind=2 then decide ((f.links.length:Int)=0)&&decide ((f.sum.length:Int)=0)
 else if f.kind=3 then linksOk f.links 0&&decide ((f.sum.length:Int)=0)
 else if f.kind=4 then decide ((f.links.length:Int)=0)&&decide ((f.sum.length:Int)=32)
 else false
def FrameT.right (f:FrameT):Bool:=f.nums&&f.body
def FrameT.head (f:FrameT):List Any:=[Any.int f.kind,Any.int f.coll,Any.int f.index,Any.int f.links.length]
def FrameT.parts (f:FrameT):List Any:=f.head++f.links.map Any.bytes++[Any.bytes f.sum]
def FrameT.encE (f:FrameT):Int:=if f.right=false then 10 else if 32768<((putB f.parts).length:Int) then 11 else 0
def FrameT.encB (f:FrameT):List UInt8:=if f.encE=0 then putB f.parts else []
def rdLinks:Nat→Rd→List (List UInt8)→List (List UInt8)×Rd
 | 0,r,a=>(a,r)
 | n+1,r,a=>if r.bad then (a,r) else rdLinks n (rdTxtS r 1 4096) (a++[rdTxt r 1 4096])
def rdFrame (r:Rd):FrameT×Rd:=
 let a:=rdNumS r 1 4
 let b:=rdNumS a 1 1099511627776
 let c:=rdNumS b 0 64
 let d:=rdNumS c 0 8
 let x:=rdLinks (rdNum c 0 8).toNat d []
 (⟨rdNum r 1 4,rdNum a 1 1099511627776,rdNum b 0 64,x.1,rdTxt x.2 0 32⟩,rdTxtS x.2 0 32)
def frOk (b:List UInt8):Bool:=rdEnd (rdFrame ⟨b,false⟩).2&&(rdFrame ⟨b,false⟩).1.right
def frE (b:List UInt8):Int:=if 32768<(b.length:Int) then 11 else if frOk b then 0 else 10
def frV (b:List UInt8):FrameT:=if frE b=0 then (rdFrame ⟨b,false⟩).1 else frame0
theorem rdl_step {n:Nat} {r:Rd} {ls:List (List UInt8)} (hn:0<n) (hb:r.bad=false):rdLinks n r ls=rdLinks (n-1) (rdTxtS r 1 4096) (ls++[rdTxt r 1 4096]):=by
 obtain ⟨m,rfl⟩:∃m,n=m+1:=⟨n-1,by omega⟩
 rw [rdLinks,if_neg (by rw [hb];decide)];rfl
theorem rdl_bad {n:Nat} {r:Rd} {ls:List (List UInt8)} (hb:r.bad=true):rdLinks n r ls=(ls,r):=by
 cases n with
 | zero=>rfl
 | succ n=>rw [rdLinks,if_pos hb]
theorem nums_fr {f:FrameT}:f.nums=true↔(1≤f.coll∧f.coll≤1099511627776)∧0≤f.index∧f.index≤64:=by
 simp only [FrameT.nums,Bool.and_eq_true,decide_eq_true_eq];omega
theorem links_iff {l:List (List UInt8)} {least:Int}:linksOk l least=true↔least≤(l.length:Int)∧l.length≤8∧∀b∈l,1≤b.length∧b.length≤4096:=by
 simp only [linksOk,Bool.and_eq_true,decide_eq_true_eq,Bool.not_eq_true',List.any_eq_false,badLink,Bool.or_eq_true,not_or]
 constructor
 ·rintro ⟨h1,h2,h3⟩;exact ⟨h1,by omega,fun b hb=>by have:=h3 b hb;omega⟩
 ·rintro ⟨h1,h2,h3⟩;exact ⟨h1,by omega,fun b hb=>by have:=h3 b hb;omega⟩
/-- What is right: few links,none empty,none too long. -/
theorem right_fr {f:FrameT} (h:f.right=true):((1≤f.kind∧f.kind≤4)∧(1≤f.coll∧f.coll≤1099511627776)∧0≤f.index∧f.index≤64)∧f.links.length≤8∧(∀b∈f.links,1≤b.length∧b.length≤4096)∧f.sum.length≤32:=by
 simp only [FrameT.right,Bool.and_eq_true] at h
 obtain ⟨h1,h2⟩:=h
 rw [nums_fr] at h1
 have nil:((f.links.length:Int)=0)→f.links.length≤8∧(∀b∈f.links,1≤b.length∧b.length≤4096):=fun h0=>by
  have:f.links=[]:=List.eq_nil_of_length_eq_zero (by omega)
  rw [this];exact ⟨by decide,fun b hb=>by cases hb⟩
 unfold FrameT.body at h2
 split at h2
 ·rename_i hk
  simp only [Bool.and_eq_true,decide_eq_true_eq,links_iff] at h2
  exact ⟨⟨by omega,h1⟩,h2.1.2.1,h2.1.2.2,by omega⟩
 ·split at h2
  ·simp only [Bool.and_eq_true,decide_eq_true_eq] at h2
   have:=nil h2.1
   exact ⟨⟨by omega,h1⟩,this.1,this.2,by omega⟩
  ·split at h2
   ·simp only [Bool.and_eq_true,decide_eq_true_eq,links_iff] at h2
    exact ⟨⟨by omega,h1⟩,h2.1.2.1,h2.1.2.2,by omega⟩
   ·split at h2
    ·simp only [Bool.and_eq_true,decide_eq_true_eq] at h2
     have:=nil h2.1
     exact ⟨⟨by omega,h1⟩,this.1,this.2,by omega⟩
    ·cases h2
theorem fr_put {f:FrameT} (h:f.right=true):putE f.parts=0:=by
 obtain ⟨⟨h1,h2,h3⟩,h4,h5,h6⟩:=right_fr h
 rw [putE_iff]
 intro a ha
 have N:∀n:Int,0≤n∧n≤1099511627776→partE (.int n)=0:=fun n hn=>numE_ok hn
 simp only [FrameT.parts,FrameT.head,List.mem_append,List.mem_cons,List.not_mem_nil,or_false,List.mem_map] at ha
 rcases ha with ((rfl | rfl | rfl | rfl) | ⟨b,hb,rfl⟩) | rfl
 ·exact N _ (by omega)
 ·exact N _ (by omega)
 ·exact N _ (by omega)
 ·exact N _ (by omega)
 ·exact if_pos (h5 b hb).2
 ·exact if_pos (by omega)
/-- The links' bytes. -/
def lnB (l:List (List UInt8)):List UInt8:=(l.map fun b=>be2 (b.length:Int)++b).flatten
theorem fr_bytes {f:FrameT} (h:f.right=true):putB f.parts=be6 f.kind++(be6 f.coll++(be6 f.index++(be6 (f.links.length:Int)++(lnB f.links++(be2 (f.sum.length:Int)++(f.sum++[])))))):=by
 obtain ⟨⟨h1,h2,h3⟩,h4,h5,h6⟩:=right_fr h
 rw [putB_ok (fr_put h)]
 have hl:∀l:List (List UInt8),(∀b∈l,1≤b.length∧b.length≤4096)→((l.map Any.bytes).map partB).flatten=lnB l:=fun l hl=>by
  induction l with
  | nil=>rfl
  | cons b r ih =>
   have hb:=hl b (by simp)
   have ih2:=ih fun c hc=>hl c (by simp [hc])
   simp only [List.map_cons,List.flatten_cons,lnB] at ih2 ⊢
   rw [ih2,show partB (.bytes b)=be2 (b.length:Int)++b from if_pos hb.2]
 simp only [FrameT.parts,FrameT.head,List.map_append,List.flatten_append,hl _ h5]
 simp only [List.map_cons,List.map_nil,List.flatten_cons,List.flatten_nil,partB,numB_ok (show 0≤f.kind∧f.kind≤1099511627776 by omega),numB_ok (show 0≤f.coll∧f.coll≤1099511627776 by omega),numB_ok (show 0≤f.index∧f.index≤1099511627776 by omega),numB_ok (show 0≤(f.links.length:Int)∧(f.links.length:Int)≤1099511627776 by omega),List.append_assoc,List.append_nil]
 rw [show textB f.sum=be2 (f.sum.length:Int)++f.sum from if_pos (by omega)]
theorem enc_ne {f:FrameT} (hE:f.encE=0):f.encB≠[]:=by
 have hr:f.right=true:=by
  unfold FrameT.encE at hE;split at hE
  ·cases hE
  ·rename_i h;simpa using h
 rw [FrameT.encB,if_pos hE,fr_bytes hr];simp [be6]
theorem nil_is {v:Value} {l:List UInt8} (h1:isNil v=false) (hne:l≠[]):isNil v=l.isEmpty:=by
 rw [h1];cases l with
 | nil=>exact absurd rfl hne
 | cons a r=>rfl
end Go.Proofs.YthddplghlljdbaaGreat

namespace Go.Ecal
/-- & of numbers. -/
def andI (m n:Int):Int:=IntKind.i64.wrap ((BitVec.ofInt IntKind.i64.bits m &&& BitVec.ofInt IntKind.i64.bits n).toNat:Nat)
theorem r_andI {P : Program} {E : Env} {w : World} {dst : Option Tmp} {ty t t2 : TypeId} {pos : String} {aft : Array Edge} {gd : Option (Nat × Bool)} {x y : Operand} {m n : Int} (hx : ev E x = .int .i64 m) (hy : ev E y = .int .i64 n) :
    Gives P E w ⟨dst, .binOp .and t x y t2, ty, pos, aft, gd⟩ (.int .i64 (andI m n)) w := r_bits (.inl rfl) hx hy
theorem andI_7 {r:Int} (h:0≤r∧r≤7):(andI r 1=0↔¬r % 2=1)∧(andI r 4=0↔r<4)∧(andI r 6=0↔r<2):=by
 rcases (by omega:r=0∨r=1∨r=2∨r=3∨r=4∨r=5∨r=6∨r=7) with rfl | rfl | rfl | rfl | rfl | rfl | rfl | rfl<;>decide
end Go.Ecal
namespace Go.Proofs.YthddplghlljdbaaGreat
open Go.RowKit Go.Ecal
structure MemT where
 who:Int
 rights:Int
deriving DecidableEq
structure Pol where
 founder:Int
 epoch:Int
 mem:List MemT
def pol0:Pol:=⟨0,0,[]⟩
/-- What somebody may do. -/
def rightsOf:List MemT→Int→Int
 | [],_=>0
 | m::r,w=>if m.who=w then m.rights else rightsOf r w
def risingM:Int→List MemT→Bool
 | _,[]=>true
 | n,m::r=>!(decide (m.who≤n)||decide (16<m.who)||decide (m.rights<1)||decide (7<m.rights))&&risingM m.who r
def Pol.right (p:Pol):Bool:=risingM 0 p.mem&&(decide (0≤p.epoch)&&decide (p.epoch≤16)&&decide (rightsOf p.mem p.founder=7))
def readsM (m:MemT):Bool:=decide (m.rights % 2=1)
def readersOf (l:List MemT):List Int:=(l.filter readsM).map MemT.who
def Pol.fits (p:Pol) (e:Entry):Bool:=decide (e.epoch=p.epoch+1)&&decide (e.wraps.map WrapT.who=readersOf p.mem)
def Pol.mayE (p:Pol) (e:Entry):Int:=
 if (p.right&&e.right)=false then 10
 else if e.kind≤2 then (if rightsOf p.mem e.writer<2 then 30 else 0)
 else if e.kind≠5∧e.who=p.founder then 30
 else if rightsOf p.mem e.writer<4 then 30
 else if e.kind=5∧p.fits e=false then 34 else 0
/-- A member's rights are set. -/
def setM:List MemT→Int→Int→List MemT
 | [],w,r=>[⟨w,r⟩]
 | m::t,w,r=>if m.who<w then m::setM t w r else if m.who=w then ⟨w,r⟩::t else ⟨w,r⟩::m::t
def delM (l:List MemT) (w:Int):List MemT:=l.filter fun m=>!decide (m.who=w)
def Pol.app (p:Pol) (e:Entry):Pol:=
 if e.kind=5 then { p with epoch:=e.epoch }
 else if e.kind=4 then { p with mem:=delM p.mem e.who }
 else if e.kind=3 then { p with mem:=setM p.mem e.who e.rights }
 else p
def Pol.app0 (p:Pol) (e:Entry):Pol:=if p.mayE e=0 then p.app e else pol0
def firstP (f:Int):Pol:=⟨f,0,[⟨f,7⟩]⟩
def firstE (f:Int):Int:=if within f 1 16 then 0 else 10
def firstV (f:Int):Pol:=if within f 1 16 then firstP f else pol0
/-- Where the first one from w on stands. -/
def atM (l:List MemT) (w:Int):Nat:=l.findIdx fun m=>decide (w≤m.who)
theorem drop_at {α:Type} {l:List α} {j:Nat} {a:α} (ha:l[j]?=some a):l.drop j=a::l.drop (j+1):=by
 obtain ⟨hj,e⟩:=List.getElem?_eq_some_iff.1 ha
 rw [List.drop_eq_getElem_cons hj,e]
theorem rights_step {l:List MemT} {j:Nat} {a:MemT} {w:Int} (ha:l[j]?=some a) (h:rightsOf l w=rightsOf (l.drop j) w) (hn:¬a.who=w):rightsOf l w=rightsOf (l.drop (j+1)) w:=by
 rw [h,drop_at ha,rightsOf,if_neg hn]
theorem rights_stop {l:List MemT} {j:Nat} {a:MemT} {w:Int} (ha:l[j]?=some a) (h:rightsOf l w=rightsOf (l.drop j) w) (hn:a.who=w):rightsOf l w=a.rights:=by
 rw [h,drop_at ha,rightsOf,if_pos hn]
theorem rising_step {l:List MemT} {j:Nat} {a:MemT} {n:Int} (ha:l[j]?=some a) (h:risingM 0 l=risingM n (l.drop j)) (hn:¬(a.who≤n∨16<a.who∨a.rights<1∨7<a.rights)):risingM 0 l=risingM a.who (l.drop (j+1)):=by
 simp only [not_or] at hn
 rw [h,drop_at ha,risingM];simp [hn]
theorem rising_stop {l:List MemT} {j:Nat} {a:MemT} {n:Int} (ha:l[j]?=some a) (h:risingM 0 l=risingM n (l.drop j)) (hn:a.who≤n∨16<a.who∨a.rights<1∨7<a.rights):risingM 0 l=false:=by
 rw [h,drop_at ha,risingM]
 rcases hn with h | h | h | h<;>simp [h]
theorem readers_step {l:List MemT} {j:Nat} {a:MemT} (ha:l[j]?=some a) (hn:readsM a=true):readersOf (l.take j)++[a.who]=readersOf (l.take (j+1)):=by
 rw [List.take_add_one,ha];simp [readersOf,List.filter_append,hn]
theorem readers_skip {l:List MemT} {j:Nat} {a:MemT} (ha:l[j]?=some a) (hn:readsM a=false):readersOf (l.take j)=readersOf (l.take (j+1)):=by
 rw [List.take_add_one,ha];simp [readersOf,List.filter_append,hn]
theorem whos_step {l:List WrapT} {j:Nat} {a:WrapT} (ha:l[j]?=some a):(l.take j).map WrapT.who++[a.who]=(l.take (j+1)).map WrapT.who:=by
 rw [List.take_add_one,ha];simp
theorem rising_all {l:List MemT} {n:Int} (h:risingM n l=true):∀m∈l,n<m.who∧m.who≤16∧1≤m.rights∧m.rights≤7:=by
 induction l generalizing n with
 | nil=>intro m hm;cases hm
 | cons a t ih =>
  simp only [risingM,Bool.and_eq_true,Bool.not_eq_true',Bool.or_eq_false_iff,decide_eq_false_iff_not] at h
  intro m hm
  rcases List.mem_cons.1 hm with rfl | hm
  ·omega
  ·have:=ih h.2 m hm;omega
theorem rising_len {l:List MemT} {n:Int} (h0:0≤n) (h:risingM n l=true):(l.length:Int)≤16-n∨l=[]:=by
 induction l generalizing n with
 | nil=>exact .inr rfl
 | cons a t ih =>
  have h2:=rising_all h a (List.mem_cons_self ..)
  simp only [risingM,Bool.and_eq_true] at h
  refine .inl ?_
  rcases ih (by omega) h.2 with h3 | h3
  ·simp only [List.length_cons];omega
  ·subst h3;simp;omega
theorem readers_len {l:List MemT} (hr:risingM 0 l=true) (j:Nat):(readersOf (l.take j)).length≤16:=by
 have h1:(readersOf (l.take j)).length≤(l.take j).length:=by rw [readersOf,List.length_map];exact List.length_filter_le _ _
 have h2:(l.take j).length≤l.length:=by simp;omega
 rcases rising_len (Int.le_refl 0) hr with h | h
 ·omega
 ·rw [h] at h2 ⊢;simp [readersOf] at h2 ⊢
theorem rightsOf_mem {l:List MemT} {w:Int}:rightsOf l w=0∨∃m∈l,m.who=w∧rightsOf l w=m.rights:=by
 induction l with
 | nil=>exact .inl rfl
 | cons a t ih =>
  by_cases h:a.who=w
  ·exact .inr ⟨a,List.mem_cons_self ..,h,by rw [rightsOf,if_pos h]⟩
  ·rw [rightsOf,if_neg h]
   rcases ih with h2 | ⟨m,hm,h3⟩
   ·exact .inl h2
   ·exact .inr ⟨m,List.mem_cons_of_mem _ hm,h3⟩
theorem rights_7 {l:List MemT} {n w:Int} (h:risingM n l=true):0≤rightsOf l w∧rightsOf l w≤7:=by
 rcases rightsOf_mem (l:=l) (w:=w) with h2 | ⟨m,hm,_,h3⟩
 ·omega
 ·have:=rising_all h m hm;omega
theorem reads_yes {l:List MemT} {j:Nat} {a:MemT} (hr:risingM 0 l=true) (ha:l[j]?=some a) (h:andI a.rights 1≠0):readsM a=true:=by
 have h2:=rising_all hr a (List.mem_of_getElem? ha)
 have h3:=(andI_7 (r:=a.rights) (by omega)).1
 exact decide_eq_true (Classical.byContradiction fun h4=>h (h3.2 h4))
theorem reads_no {l:List MemT} {j:Nat} {a:MemT} (hr:risingM 0 l=true) (ha:l[j]?=some a) (h:¬andI a.rights 1≠0):readsM a=false:=by
 have h2:=rising_all hr a (List.mem_of_getElem? ha)
 have h3:=(andI_7 (r:=a.rights) (by omega)).1
 exact decide_eq_false (h3.1 (Classical.byContradiction fun h4=>h h4))
theorem Pol.right_epoch {p:Pol} (h:p.right=true):0≤p.epoch∧p.epoch≤16:=by
 simp only [Pol.right,Bool.and_eq_true,decide_eq_true_eq] at h;exact h.2.1
theorem Pol.right_rising {p:Pol} (h:p.right=true):risingM 0 p.mem=true:=by
 simp only [Pol.right,Bool.and_eq_true] at h;exact h.1
theorem right_wl {e : Entry} (h : e.right = true) : e.wraps.length ≤ 16 := by
  simp only [Entry.right, Bool.and_eq_true, decide_eq_true_eq] at h
  obtain ⟨⟨h1, h2⟩, h3⟩ := h
  by_cases hk : e.kind = 5
  · simp only [Entry.body, hk] at h3
    simp [wrapsOk] at h3; omega
  · have : e.wraps = [] := by have := congrArg Entry.wraps h2; simpa [Entry.bare, hk] using this
    rw [this]; simp
theorem may_10 {p:Pol} {e:Entry} (h:p.right=false∨e.right=false):p.mayE e=10:=by
 rw [Pol.mayE,if_pos (by rcases h with h | h<;>simp [h])]
theorem may_w {p:Pol} {e:Entry} (h:p.right=true∧e.right=true) (hk:e.kind=1∨e.kind=2):p.mayE e=if andI (rightsOf p.mem e.writer) 6=0 then 30 else 0:=by
 rw [Pol.mayE,if_neg (by simp [h]),if_pos (by omega)]
 have h2:=(andI_7 (rights_7 (w:=e.writer) (Pol.right_rising h.1))).2.2
 by_cases h3:rightsOf p.mem e.writer<2
 ·rw [if_pos h3,if_pos (h2.2 h3)]
 ·rw [if_neg h3,if_neg (fun h4=>h3 (h2.1 h4))]
theorem may_f {p:Pol} {e:Entry} (h:p.right=true∧e.right=true) (hk:e.kind=3∨e.kind=4) (hf:e.who=p.founder):p.mayE e=30:=by
 rw [Pol.mayE,if_neg (by simp [h]),if_neg (by omega),if_pos (by omega)]
theorem may_a {p : Pol} {e : Entry} (h : p.right = true ∧ e.right = true) (hk : ¬ (e.kind = 1 ∨ e.kind = 2)) (hf : (e.kind = 3 ∨ e.kind = 4) → ¬ e.who = p.founder) :
    p.mayE e = if andI (rightsOf p.mem e.writer) 4 = 0 then 30 else if e.kind = 5 ∧ p.fits e = false then 34 else 0 := by
  have hk2 := right_kind h.2
  rw [Pol.mayE, if_neg (by simp [h]), if_neg (by omega), if_neg (by intro h5; exact hf (by omega) h5.2)]
  have h2 := (andI_7 (rights_7 (w := e.writer) (Pol.right_rising h.1))).2.1
  by_cases h3 : rightsOf p.mem e.writer < 4
  · rw [if_pos h3, if_pos (h2.2 h3)]
  · rw [if_neg h3, if_neg (fun h4 => h3 (h2.1 h4))]
theorem first_right {f:Int} (h:within f 1 16=true):Pol.right ⟨f,0,[⟨f,7⟩]⟩=true:=by
 have:=within_iff.1 h
 have h1:¬f≤0:=by omega
 have h2:¬16<f:=by omega
 simp [Pol.right,risingM,rightsOf,h1,h2]
theorem first_wrong {f:Int} (h:within f 1 16=false):Pol.right ⟨f,0,[⟨f,7⟩]⟩=false:=by
 have h1:f≤0∨16<f:=Classical.byContradiction fun h2=>by
  rw [within_iff.2 (by omega)] at h;cases h
 rcases h1 with h1 | h1<;>simp [Pol.right,risingM,rightsOf,h1]
theorem at_le (l:List MemT) (w:Int):atM l w≤l.length:=List.findIdx_le_length
/-- slices.IndexFunc's answer. -/
def ixM (l:List MemT) (w:Int):Int:=if atM l w<l.length then (atM l w:Int) else -1
theorem at_cons (m:MemT) (l:List MemT) (w:Int):atM (m::l) w=if w≤m.who then 0 else atM l w+1:=by
 by_cases h:w≤m.who<;>simp [atM,List.findIdx_cons,h]
theorem at_step {w:Int}:∀{l:List MemT} {j:Nat} {a:MemT},l[j]?=some a→j≤atM l w→¬w≤a.who→j+1≤atM l w
 | [],_,_,h,_,_=>by simp at h
 | m::l,0,a,h,_,hn=>by
  simp at h;subst h
  rw [at_cons,if_neg hn];omega
 | m::l,j+1,a,h,hj,hn=>by
  rw [at_cons] at hj ⊢
  split at hj
  ·omega
  ·rename_i h2;rw [if_neg h2];have:=at_step (l:=l) (j:=j) (by simpa using h) (by omega) hn;omega
theorem at_here {w:Int}:∀{l:List MemT} {j:Nat} {a:MemT},l[j]?=some a→w≤a.who→atM l w≤j
 | [],_,_,h,_=>by simp at h
 | m::l,0,a,h,hn=>by
  simp at h;subst h
  rw [at_cons,if_pos hn];omega
 | m::l,j+1,a,h,hn=>by
  rw [at_cons]
  split
  ·omega
  ·have:=at_here (l:=l) (j:=j) (by simpa using h) hn;omega
theorem ix_stop {l:List MemT} {w:Int} {j:Nat} {a:MemT} (ha:l[j]?=some a) (hj:j≤atM l w) (hn:w≤a.who):ixM l w=j:=by
 have h1:=at_here ha hn
 have h2:=(List.getElem?_eq_some_iff.1 ha).1
 rw [ixM,if_pos (by omega),show atM l w=j by omega]
theorem ix_end {l:List MemT} {w:Int} (hj:l.length≤atM l w):ixM l w=-1:=if_neg (by omega)
theorem ix_cases (l : List MemT) (w : Int) : (∃ j m, l[j]? = some m ∧ m.who = w ∧ ixM l w = ((j : Nat) : Int) ∧ j < l.length ∧ atM l w = j) ∨ (∃ j m, l[j]? = some m ∧ w < m.who ∧ ixM l w = ((j : Nat) : Int) ∧ j < l.length ∧ atM l w = j) ∨ (ixM l w = -1 ∧ atM l w = l.length) := by
  have hle := at_le l w
  by_cases h : atM l w < l.length
  · have hix : ixM l w = (atM l w : Int) := if_pos h
    have hg : l[atM l w]? = some l[atM l w] := List.getElem?_eq_getElem h
    have hw : w ≤ (l[atM l w]).who := Classical.byContradiction fun hn => by have := at_step hg (Nat.le_refl _) hn; omega
    by_cases he : (l[atM l w]).who = w
    · exact .inl ⟨_, _, hg, he, hix, h, rfl⟩
    · exact .inr (.inl ⟨_, _, hg, by omega, hix, h, rfl⟩)
  · exact .inr (.inr ⟨if_neg h, by omega⟩)
theorem set_there {w r : Int} : ∀ {l : List MemT} {j : Nat} {m : MemT}, l[j]? = some m → m.who = w → atM l w = j → l.set j ⟨w, r⟩ = setM l w r
  | [], _, _, h, _, _ => by simp at h
  | x :: l, j, m, h, he, ha => by
    rw [at_cons] at ha
    split at ha
    · subst ha; simp at h; subst h
      rw [setM, if_neg (by omega), if_pos he]; rfl
    · rename_i h2
      obtain ⟨j, rfl⟩ : ∃ i, j = i + 1 := ⟨j - 1, by omega⟩
      rw [setM, if_pos (by omega), List.set_cons_succ, set_there (l := l) (j := j) (by simpa using h) he (by omega)]
theorem set_new {w r:Int}:∀{l:List MemT} {j:Nat},atM l w=j→(∀m,l[j]?=some m→w<m.who)→l.take j++[⟨w,r⟩]++l.drop j=setM l w r
 | [],j,ha,_=>by simp [atM] at ha;subst ha;rfl
 | x::l,j,ha,hm=>by
  rw [at_cons] at ha
  split at ha
  ·subst ha
   have:=hm x (by simp)
   rw [setM,if_neg (by omega),if_neg (by omega)];rfl
  ·rename_i h2
   obtain ⟨j,rfl⟩:∃i,j=i+1:=⟨j-1,by omega⟩
   rw [setM,if_pos (by omega),←set_new (l:=l) (j:=j) (by omega) (fun m h=>hm m (by simpa using h))];rfl
theorem del_all {l:List MemT} {n w:Int} (h:risingM n l=true) (hw:w≤n):delM l w=l:=by
 refine List.filter_eq_self.2 fun m hm=>?_
 have:=rising_all h m hm
 simp;omega
theorem del_there {w : Int} : ∀ {l : List MemT} {n : Int} {j : Nat} {m : MemT}, risingM n l = true → l[j]? = some m → m.who = w → atM l w = j → l.take j ++ l.drop (j + 1) = delM l w
  | [], _, _, _, _, h, _, _ => by simp at h
  | x :: l, n, j, m, hr, h, he, ha => by
    have hr2 : risingM x.who l = true := by simp only [risingM, Bool.and_eq_true] at hr; exact hr.2
    rw [at_cons] at ha
    split at ha
    · subst ha; simp at h; subst h
      rw [delM, List.filter_cons_of_neg (by simp [he])]
      exact (del_all hr2 (by omega)).symm
    · rename_i h2
      obtain ⟨j, rfl⟩ : ∃ i, j = i + 1 := ⟨j - 1, by omega⟩
      rw [delM, List.filter_cons_of_pos (by simp; omega)]
      exact congrArg (x :: ·) (del_there (l := l) (j := j) hr2 (by simpa using h) he (by omega))
theorem del_not {w:Int}:∀{l:List MemT} {n:Int} {j:Nat},risingM n l=true→atM l w=j→(∀m,l[j]?=some m→w<m.who)→delM l w=l
 | [],_,_,_,_,_=>rfl
 | x::l,n,j,hr,ha,hm=>by
  have hr2:risingM x.who l=true:=by simp only [risingM,Bool.and_eq_true] at hr;exact hr.2
  rw [at_cons] at ha
  split at ha
  ·subst ha
   have:=hm x (by simp)
   rw [delM,List.filter_cons_of_pos (by simp;omega)]
   exact congrArg (x::·) (del_all hr2 (by omega))
  ·rename_i h2
   obtain ⟨j,rfl⟩:∃i,j=i+1:=⟨j-1,by omega⟩
   rw [delM,List.filter_cons_of_pos (by simp;omega)]
   exact congrArg (x::·) (del_not (l:=l) (j:=j) hr2 (by omega) (fun m h=>hm m (by simpa using h)))
theorem set_mid {α:Type} {l:List α} {a b:α} {j:Nat} (h:j≤l.length):(l.take j++[a]++l.drop j).set j b=l.take j++[b]++l.drop j∧(l.take j++[a]++l.drop j)[j]?=some a:=by
 have hl:(l.take j).length=j:=by rw [List.length_take];omega
 constructor
 ·rw [List.append_assoc,List.set_append_right _ _ (by omega),hl,Nat.sub_self];simp
 ·rw [List.append_assoc,List.getElem?_append_right (by omega),hl,Nat.sub_self];simp
theorem may_0 {p:Pol} {e:Entry} (h:p.mayE e=0):p.right=true∧e.right=true:=by
 rw [Pol.mayE] at h
 split at h
 ·cases h
 ·rename_i h2;simpa using h2
theorem right_mem {p:Pol} (h:p.right=true):0<p.mem.length:=by
 simp only [Pol.right,Bool.and_eq_true,decide_eq_true_eq] at h
 cases hm:p.mem with
 | nil=>rw [hm] at h;simp [rightsOf] at h
 | cons a t=>simp
theorem right_len {p:Pol} (h:p.right=true):p.mem.length≤16:=by
 rcases rising_len (Int.le_refl 0) (Pol.right_rising h) with h | h
 ·omega
 ·rw [h];simp
end Go.Proofs.YthddplghlljdbaaGreat
