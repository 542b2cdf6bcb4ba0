import Derived.Test.YthddplghlljdbaaGreatQWorldPostShort
set_option linter.unusedVariables false
set_option linter.unusedSimpArgs false
namespace Go.Ecal
open Go.RowKit
structure Bx (p:Prop):Prop where
 h:p
/-- A type of one cell. -/
class One (P:Program) (t:TypeId):Prop where
 h:∃ds,P.underlying t=some ds∧oneB ds=true
/-- A struct's fields: where they lie. -/
class Flds (P:Program) (t:TypeId) (l:outParam (List Nat)):Prop where
 h:∃fs:Array Field,P.underlying t=some (.struct fs)∧(fs.toList.map fun fd=>((P.info? fd.type).map fun i=>(Nat.beq i.size 0,fd.offset)))=l.map fun o=>some (false,o)
/-- A type of more cells. -/
class Many (P:Program) (t:TypeId) (n:outParam Nat):Prop where
 h:∃ds,P.underlying t=some ds∧oneB ds=false∧(P.info? t).map (·.size)=some n
section
variable {P : Program} {N : Nat} {Q : Exit → Env → World → Prop} {E : Env} {w w0 w' : World} {ops : Array Oper} {L : List Oper} {I : Gh} {l : List HP}
variable {d : Nat} {op : Op} {ty : TypeId} {pos : String} {aft : Array Edge} {dst : Option Tmp} {gd : Option (Nat × Bool)}
variable {t t2 T e : TypeId} {x y c : Operand} {b i j q : Nat} {cs : List Value} {tt bb b2 : Bool} {u u2 v : Value} {m n : Int} {k : IntKind}
theorem go_m (hx:ev E x=u) (hv:u=v):Gives P E w ⟨dst,.move x,ty,pos,aft,gd⟩ v w:=r_move (hx.trans hv)
theorem go_a (hx:ev E x=u) (hv:u=v):Gives P E w ⟨dst,.assign x,ty,pos,aft,gd⟩ v w:=r_assign (hx.trans hv)
theorem go_n (hx:ev E x=u) (hv:u=ptr b j):Gives P E w ⟨dst,.nilCheck x,ty,pos,aft,gd⟩ (ptr b j) w:=r_nil (hx.trans hv)
theorem go_f {f:Nat} {l:List Nat} [F:Flds P t l] (hx:ev E x=u) (hv:u=ptr b i) (hq:(l[f]?).map (i+·)=some j):Gives P E w ⟨dst,.fieldAddr t x f,ty,pos,aft,gd⟩ (ptr b j) w:=by
 obtain ⟨fs,h1,h2⟩:=F.h
 obtain ⟨o,h3,h4⟩:=Option.map_eq_some_iff.1 hq
 have h5:((fs.toList.map fun fd=>((P.info? fd.type).map fun i=>(Nat.beq i.size 0,fd.offset))))[f]?=some (some (false,o)):=by rw [h2];simp [h3]
 simp only [List.getElem?_map,Option.map_eq_some_iff] at h5
 obtain ⟨fd,h6,inf,h7,h8⟩:=h5
 injection h8 with h9 h10
 refine r_fieldP (s:=inf.size) (hx.trans hv) h1 (by simpa using h6) (by rw [h7];rfl) (fun h=>by rw [h] at h9;cases h9) (by rw [h10];exact h4)
theorem go_l [O:One P t] (hx:ev E x=u) (hv:u=ptr b i) (hA:Arr w b T cs) (hu:cs[i]?=some v):Gives P E w ⟨dst,.load t x,ty,pos,aft,gd⟩ v w:=by
 obtain ⟨ds,h1,h2⟩:=O.h
 exact r_loadA (hx.trans hv) hA hu h1 h2
theorem go_L {n:Nat} [O:Many P t n] (hx:ev E x=u) (hv:u=ptr b) (hA:Arr w b T cs) (hn:n=cs.length):Gives P E w ⟨dst,.load t x,ty,pos,aft,gd⟩ (.agg cs.toArray) w:=by
 obtain ⟨ds,h1,h2,h3⟩:=O.h
 exact r_loadAll (hx.trans hv) hA h1 h2 (by rw [h3,hn])
theorem go_x {vs:Array Value} (hx:ev E x=u) (hv:u=.tuple vs) (hu:vs[i]?=some v):Gives P E w ⟨dst,.extract x i,ty,pos,aft,gd⟩ v w:=r_extract (hx.trans hv) hu
theorem go_not (hx:ev E x=u) (hv:u=.bool bb) (hb:(!bb)=b2):Gives P E w ⟨dst,.unOp .not t x,ty,pos,aft,gd⟩ (.bool b2) w:=by subst hb;exact r_not (hx.trans hv)
theorem go_eql (hx:ev E x=u) (hy:ev E y=u2) (hv:u=.int k m) (hw:u2=.int k n):Gives P E w ⟨dst,.binOp .eql t x y t2,ty,pos,aft,gd⟩ (.bool (decide (m=n))) w:=r_eql (hx.trans hv) (hy.trans hw)
theorem go_neq (hx:ev E x=u) (hy:ev E y=u2) (hv:u=.int k m) (hw:u2=.int k n):Gives P E w ⟨dst,.binOp .neq t x y t2,ty,pos,aft,gd⟩ (.bool (decide (m≠n))) w:=r_neq (hx.trans hv) (hy.trans hw)
theorem go_lss (hx:ev E x=u) (hy:ev E y=u2) (hv:u=.int k m) (hw:u2=.int k n):Gives P E w ⟨dst,.binOp .lss t x y t2,ty,pos,aft,gd⟩ (.bool (decide (m<n))) w:=r_lss (hx.trans hv) (hy.trans hw)
theorem go_leq (hx:ev E x=u) (hy:ev E y=u2) (hv:u=.int k m) (hw:u2=.int k n):Gives P E w ⟨dst,.binOp .leq t x y t2,ty,pos,aft,gd⟩ (.bool (decide (m≤n))) w:=r_leq (hx.trans hv) (hy.trans hw)
theorem go_gtr (hx:ev E x=u) (hy:ev E y=u2) (hv:u=.int k m) (hw:u2=.int k n):Gives P E w ⟨dst,.binOp .gtr t x y t2,ty,pos,aft,gd⟩ (.bool (decide (n<m))) w:=r_gtr (hx.trans hv) (hy.trans hw)
theorem go_geq (hx:ev E x=u) (hy:ev E y=u2) (hv:u=.int k m) (hw:u2=.int k n):Gives P E w ⟨dst,.binOp .geq t x y t2,ty,pos,aft,gd⟩ (.bool (decide (n≤m))) w:=r_geq (hx.trans hv) (hy.trans hw)
theorem go_T (hc:ev E c=.bool true) (hx:ev E x=u) (hv:u=v):Gives P E w ⟨dst,.pick c x y,ty,pos,aft,gd⟩ v w:=r_pickT hc (hx.trans hv)
theorem go_F (hc:ev E c=.bool false) (hx:ev E y=u) (hv:u=v):Gives P E w ⟨dst,.pick c x y,ty,pos,aft,gd⟩ v w:=r_pickF hc (hx.trans hv)
theorem go_and (hc:ev E c=.bool bb) (hx:ev E x=(bif bb == true then .bool b2 else undef)) (hy:ev E y=.bool false):Gives P E w ⟨dst,.pick c x y,ty,pos,aft,gd⟩ (.bool (bb&&b2)) w:=r_and hc hx hy
theorem go_or (hc:ev E c=.bool bb) (hx:ev E x=.bool true) (hy:ev E y=(bif bb == false then .bool b2 else undef)):Gives P E w ⟨dst,.pick c x y,ty,pos,aft,gd⟩ (.bool (bb||b2)) w:=r_or hc hx hy
theorem Sat.a0 (S:Sat w I (Blk b T cs::l)):Arr w b T cs:=S.arr 0 rfl
theorem Sat.a1 {p0:HP} (S:Sat w I (p0::Blk b T cs::l)):Arr w b T cs:=S.arr 1 rfl
theorem Sat.a2 {p0 p1:HP} (S:Sat w I (p0::p1::Blk b T cs::l)):Arr w b T cs:=S.arr 2 rfl
theorem Sat.a3 {p0 p1 p2:HP} (S:Sat w I (p0::p1::p2::Blk b T cs::l)):Arr w b T cs:=S.arr 3 rfl
theorem Sat.a4 {p0 p1 p2 p3:HP} (S:Sat w I (p0::p1::p2::p3::Blk b T cs::l)):Arr w b T cs:=S.arr 4 rfl
theorem Sat.a5 {p0 p1 p2 p3 p4:HP} (S:Sat w I (p0::p1::p2::p3::p4::Blk b T cs::l)):Arr w b T cs:=S.arr 5 rfl
theorem Sat.a6 {p0 p1 p2 p3 p4 p5:HP} (S:Sat w I (p0::p1::p2::p3::p4::p5::Blk b T cs::l)):Arr w b T cs:=S.arr 6 rfl
theorem Sat.a7 {p0 p1 p2 p3 p4 p5 p6:HP} (S:Sat w I (p0::p1::p2::p3::p4::p5::p6::Blk b T cs::l)):Arr w b T cs:=S.arr 7 rfl
theorem Sat.a8 {p0 p1 p2 p3 p4 p5 p6 p7:HP} (S:Sat w I (p0::p1::p2::p3::p4::p5::p6::p7::Blk b T cs::l)):Arr w b T cs:=S.arr 8 rfl
theorem Sat.a9 {p0 p1 p2 p3 p4 p5 p6 p7 p8:HP} (S:Sat w I (p0::p1::p2::p3::p4::p5::p6::p7::p8::Blk b T cs::l)):Arr w b T cs:=S.arr 9 rfl
theorem Sat.a10 {p0 p1 p2 p3 p4 p5 p6 p7 p8 p9:HP} (S:Sat w I (p0::p1::p2::p3::p4::p5::p6::p7::p8::p9::Blk b T cs::l)):Arr w b T cs:=S.arr 10 rfl
theorem Sat.a11 {p0 p1 p2 p3 p4 p5 p6 p7 p8 p9 p10:HP} (S:Sat w I (p0::p1::p2::p3::p4::p5::p6::p7::p8::p9::p10::Blk b T cs::l)):Arr w b T cs:=S.arr 11 rfl
theorem Sat.a12 {p0 p1 p2 p3 p4 p5 p6 p7 p8 p9 p10 p11:HP} (S:Sat w I (p0::p1::p2::p3::p4::p5::p6::p7::p8::p9::p10::p11::Blk b T cs::l)):Arr w b T cs:=S.arr 12 rfl
/-- The cells of a variable,wherever it stands. -/
theorem goA {p:Prop} (h:p:=by
 first
 | with_reducible exact Sat.a0 (by assumption)
 | with_reducible exact Sat.a1 (by assumption)
 | with_reducible exact Sat.a2 (by assumption)
 | with_reducible exact Sat.a3 (by assumption)
 | with_reducible exact Sat.a4 (by assumption)
 | with_reducible exact Sat.a5 (by assumption)
 | with_reducible exact Sat.a6 (by assumption)
 | with_reducible exact Sat.a7 (by assumption)
 | with_reducible exact Sat.a8 (by assumption)
 | with_reducible exact Sat.a9 (by assumption)
 | with_reducible exact Sat.a10 (by assumption)
 | with_reducible exact Sat.a11 (by assumption)
 | with_reducible exact Sat.a12 (by assumption)
 | with_reducible exact (Sat.a0 (by assumption)).below (by assumption)
 | with_reducible exact (Sat.a1 (by assumption)).below (by assumption)
 | with_reducible exact (Sat.a2 (by assumption)).below (by assumption)
 | with_reducible exact (Sat.a3 (by assumption)).below (by assumption)
 | with_reducible exact (Sat.a4 (by assumption)).below (by assumption)
 | with_reducible exact (Sat.a5 (by assumption)).below (by assumption)
 | with_reducible exact (Sat.a6 (by assumption)).below (by assumption)
 | with_reducible exact (Sat.a7 (by assumption)).below (by assumption)
 | with_reducible exact (Sat.a8 (by assumption)).below (by assumption)
 | with_reducible exact (Sat.a9 (by assumption)).below (by assumption)
 | with_reducible exact (Sat.a10 (by assumption)).below (by assumption)
 | with_reducible exact (Sat.a11 (by assumption)).below (by assumption)
 | with_reducible exact (Sat.a12 (by assumption)).below (by assumption)
 | exact Sat.a0 (by assumption)
 | assumption
 | exact And.left (by assumption)
 | exact And.left (And.right (by assumption))
 | exact And.right (And.right (by assumption))
 | exact And.left (And.right (And.right (by assumption)))
 | exact And.right (by assumption)):p:=h
/-- What a value reads as1. -/
theorem goE {p:Prop} (h:p:=by conv=>lhs;whnf):p:=h
theorem goV {p:Prop} (h:p:=by first | assumption | exact cond_of (by assumption) rfl | exact rfl):p:=h
theorem goW {p:Prop} (h:p:=by first | exact rfl | assumption | exact cond_of (by assumption) rfl | exact cond_of (by assumption) (by assumption)):p:=h
theorem goG {p:Prop} (h:p:=by
 first
 | ((with_reducible apply go_m);exact goE;exact goV)
 | ((with_reducible apply go_a);exact goE;exact goV)
 | ((with_reducible apply go_n);exact goE;exact goW)
 | ((with_reducible apply go_f);exact goE;exact goW;exact rfl)
 | ((with_reducible apply go_l);exact goE;exact goW;exact goA;exact rfl)
 | ((with_reducible apply go_L);exact goE;exact goW;exact goA;exact rfl)
 | ((with_reducible apply go_x);exact goE;exact goW;exact rfl)
 | ((with_reducible apply go_not);exact goE;exact goW;exact goE)
 | ((with_reducible apply go_eql);exact goE;exact goE;exact goW;exact goW)
 | ((with_reducible apply go_neq);exact goE;exact goE;exact goW;exact goW)
 | ((with_reducible apply go_lss);exact goE;exact goE;exact goW;exact goW)
 | ((with_reducible apply go_leq);exact goE;exact goE;exact goW;exact goW)
 | ((with_reducible apply go_gtr);exact goE;exact goE;exact goW;exact goW)
 | ((with_reducible apply go_geq);exact goE;exact goE;exact goW;exact goW)
 | ((with_reducible apply go_T);exact rfl;exact goE;exact goV)
 | ((with_reducible apply go_F);exact rfl;exact goE;exact goV)
 | ((with_reducible apply go_and);exact rfl;exact rfl;exact rfl)
 | ((with_reducible apply go_or);exact rfl;exact rfl;exact rfl)):p:=h
theorem dT {p:Prop} {i:Decidable p} {o:Oper} (g:Gives P E w o (.bool (decide p)) w') (h:p:=by omega):Gives P E w o (.bool true) w':=by rwa [decide_eq_true h] at g
theorem dF {p:Prop} {i:Decidable p} {o:Oper} (g:Gives P E w o (.bool (decide p)) w') (h:¬p:=by omega):Gives P E w o (.bool false) w':=by rwa [decide_eq_false h] at g
theorem dcT {o:Oper} (g:Gives P E w o (.bool bb) w') (h:bb=true):Gives P E w o (.bool true) w':=h ▸ g
theorem dcF {o:Oper} (g:Gives P E w o (.bool bb) w') (h:bb=false):Gives P E w o (.bool false) w':=h ▸ g
theorem nT (hx:ev E x=.bool bb) (h:bb=false):Gives P E w ⟨dst,.unOp .not t x,ty,pos,aft,gd⟩ (.bool true) w:=by subst h;exact r_not hx
theorem nF (hx:ev E x=.bool bb) (h:bb=true):Gives P E w ⟨dst,.unOp .not t x,ty,pos,aft,gd⟩ (.bool false) w:=by subst h;exact r_not hx
theorem au {p:Prop} (h:p:=by first | assumption | omega | (simp;done) | (simp;omega)):p:=h
theorem ao {p:Prop} (h:p:=by first | omega | (simp;done) | (simp;omega)):p:=h
theorem as' {p:Prop} (h:p:=by first | omega | (simp;omega) | simp):p:=h
theorem ad {p:Prop} (h:p:=by first | assumption | omega | (dsimp only;omega)):p:=h
theorem ap {p:Prop} (h:p:=by first | (simp only [List.length_map,List.length_nil,List.length_append];omega) | (simp;done) | (simp;omega)):p:=h
theorem ac {p:Prop} (h:p:=by first | omega | (simp;done) | (simp only [List.length_cons,List.length_nil];omega) | (rw [List.length_append];simp only [List.length_cons,List.length_nil];omega) | (simp;omega)):p:=h
/-- The ends of a function. -/
theorem f1 {fn:Func} {R:Value→World→Prop} (hr:fn.results=#[.tmp t]) (h:R v w) (hv:E t=u:=by exact goE) (hu:u=v:=by exact goV):fin P fn (fun e w'=>∃v,e=.returned v∧R v w') .ret E w:=fin1 hr (hv.trans hu) ⟨_,rfl,h⟩
theorem f2 {fn:Func} {R:Value→World→Prop} {v2:Value} (hr:fn.results=#[.tmp t,.tmp t2]) (h:R (.tuple #[v,v2]) w) (hv:E t=u:=by exact goE) (hu:u=v:=by exact goV) (hw:E t2=u2:=by exact goE) (hz:u2=v2:=by exact goV):fin P fn (fun e w'=>∃v,e=.returned v∧R v w') .ret E w:=fin2 hr (hv.trans hu) (hw.trans hz) ⟨_,rfl,h⟩
theorem f1c {fn:Func} {R:Value→World→Prop} {n:Nat} [O:Many P t2 n] (hr:fn.results=#[.cell q t2]) (h:R (.agg cs.toArray) w) (hv:E q=u:=by exact goE) (hu:u=ptr b:=by exact goW) (hA:Arr w b T cs:=by exact goA) (hn:n=cs.length:=by exact rfl):fin P fn (fun e w'=>∃v,e=.returned v∧R v w') .ret E w:=by
 obtain ⟨ds,h1,h2,h3⟩:=O.h
 exact fin1c hr (hv.trans hu) hA h1 h2 (by rw [h3,hn]) ⟨_,rfl,h⟩
theorem f2c {fn:Func} {R:Value→World→Prop} {n:Nat} [O:Many P t2 n] (hr:fn.results=#[.cell q t2,.tmp t]) (h:R (.tuple #[.agg cs.toArray,v]) w) (hv:E q=u:=by exact goE) (hu:u=ptr b:=by exact goW) (hw:E t=u2:=by exact goE) (hz:u2=v:=by exact goV) (hA:Arr w b T cs:=by exact goA) (hn:n=cs.length:=by exact rfl):fin P fn (fun e w'=>∃v,e=.returned v∧R v w') .ret E w:=by
 obtain ⟨ds,h1,h2,h3⟩:=O.h
 exact fin2c hr (hv.trans hu) (hw.trans hz) hA h1 h2 (by rw [h3,hn]) ⟨_,rfl,h⟩
/-- A struct that is built. -/
theorem gB {pl:Array (Nat×Nat)} {z c2:Array Value} {ps:Array (Nat×Operand)} {l:List (Nat×Value)} (cs:List Value) (hT:StructT P t pl z) (hl:ps.toList.map (fun p=>(p.1,ev E p.2))=l) (hf:Instr.fill (fun i=>pl[i]?) z l=some c2) (hc:some c2=some cs.toArray:=by kernel_rfl):Gives P E w ⟨dst,.build t ps,ty,pos,aft,gd⟩ (.agg cs.toArray) w:=r_buildS hT hl (hf.trans hc)
theorem Sat.nilB (S:Sat w I l):Sat w I (OwnB (.slice none 0 0) ([]:List UInt8)::l):=S.nil 5 1
/-- Calls. -/
theorem goO {p:Prop} (h:p:=by first | exact rfl | exact Eq.trans goE goV):p:=h
theorem goX {p:Prop} (h:p:=by first | exact rfl | exact args1 goO | exact args2 goO goO | exact args3 goO goO goO | exact args4 goO goO goO goO | exact args5 goO goO goO goO goO | exact args6 goO goO goO goO goO goO):p:=h
theorem yR {f : FuncId} {args : Array Operand} {ats : Array TypeId} {R : Value → World → Prop} {l : List Value} [hF : IsF P f] (hc : Ret P f l w R) (h : ∀ v w', R v w' → EL P N ops Q L (upd E d v) w') (hd : Nat.blt d N = true := by exact rfl) (ha : args.toList.map (ev E) = l := by exact goX) :
    EL P N ops Q (⟨some d, .call { callee := .value (.func f), args, argTypes := ats }, ty, pos, aft, none⟩ :: L) E w := eR hd hF ha hc h
theorem yG {f : FuncId} {args : Array Operand} {ats : Array TypeId} {R : Value → World → Prop} {l : List Value} [hF : IsF P f] (hc : Ret P f l w R) (h : ∀ v w', R v w' → EL P N ops Q L (upd E d v) w') (hdst : (ops[j]?).bind (·.dst) = some q := by exact rfl) (he : E q = .bool bb := by exact rfl) (heN : Nat.blt q N = true := by exact rfl) (hb' : (bb == tt) = true := by exact rfl) (hd : Nat.blt d N = true := by exact rfl) (ha : args.toList.map (ev E) = l := by exact goX) :
    EL P N ops Q (⟨some d, .call { callee := .value (.func f), args, argTypes := ats }, ty, pos, aft, some (j, tt)⟩ :: L) E w := eG q hdst he heN hb' hd hF ha hc h
/-- Writing,making. -/
theorem ones_nil:∀u∈([]:List Value),u.oneCell'=true:=fun _ h=>nomatch h
theorem goS {p:Prop} (h:p:=by first | (simp only [List.set_cons_zero,List.set_cons_succ];exact rfl) | (simp only [List.set_cons_zero,List.set_cons_succ];done) | exact rfl):p:=h
theorem yS0 {ds:List Value} (S:Sat w I (Blk b T cs::l)) (h:∀w',Sat w' I (Blk b T ds::l)→EL P N ops Q L E w') (hx:ev E x=u:=by exact goE) (hv:u=ptr b j:=by exact goW) (hy:ev E y=u2:=by exact goE) (hw:u2=v:=by exact goV) (hj:j<cs.length:=by first | decide | (simp;omega) | simp) (hu:v.oneCell'=true:=by exact rfl) (hd:cs.set j v=ds:=by exact goS) (hs:(P.info? t).map (·.size)=some 1:=by kernel_rfl):EL P N ops Q (⟨none,.store t x y,ty,pos,aft,none⟩::L) E w:=EL_storeA (hx.trans hv) (hy.trans hw) (S.arr 0 rfl) hj hu hs (fun w' A K _=>h w' (S.wr0 K (hd ▸ A)))
theorem yW0 {ds:List Value} (S:Sat w I (Blk b T cs::l)) (h:∀w',Sat w' I (Blk b T ds::l)→EL P N ops Q L E w') (hx:ev E x=u:=by exact goE) (hv:u=ptr b:=by exact goW) (hy:ev E y=u2:=by exact goE) (hw:u2=.agg ds.toArray:=by exact goW) (hn:ds.length=cs.length:=by exact rfl) (h1:∀u∈ds,u.oneCell'=true:=by simp [Value.oneCell']) (hs:(P.info? t).map (·.size)=some ds.length:=by kernel_rfl):EL P N ops Q (⟨none,.store t x y,ty,pos,aft,none⟩::L) E w:=sA ds (hx.trans hv) (hy.trans hw) (S.arr 0 rfl) hn hs h1 (fun w' A K _=>h w' (S.wr0 K A))
theorem yP0 {z:Value} {m ys:List UInt8} (hE:Elem P t 5 z 1) (S:Sat w I (OwnB v m::l)) (hr:Row w u2 (ys.map byt)) (h:∀v' w',Sat w' I (OwnB v' (m++ys)::l)→EL P N ops Q L (upd E d v') w') (hd:Nat.blt d N=true:=by exact rfl) (hx:ev E x=v:=by exact goO) (hy:ev E y=u2:=by exact goO) (hb:((m.map byt).length+(ys.map byt).length)*1≤140737488355328:=by exact ap):EL P N ops Q (⟨some d,.call { callee:=.builtin .append,args:=#[x,y],argTypes:=#[t,t] },ty,pos,aft,none⟩::L) E w:=EL_append (v:=v) (xs:=m.map byt) 0 hE hd hx hy (own_len (S.own 0 rfl)) hr (byt_one _) hb (by decide) (Nat.zero_le _) (fun v' w' O G A=>h v' w' (S.gb0 G (own_app O) A))
theorem yS1 {p0:HP} {ds:List Value} (S:Sat w I (p0::Blk b T cs::l)) (h:∀w',Sat w' I (p0::Blk b T ds::l)→EL P N ops Q L E w') (hx:ev E x=u:=by exact goE) (hv:u=ptr b j:=by exact goW) (hy:ev E y=u2:=by exact goE) (hw:u2=v:=by exact goV) (hj:j<cs.length:=by first | decide | (simp;omega) | simp) (hu:v.oneCell'=true:=by exact rfl) (hd:cs.set j v=ds:=by exact goS) (hs:(P.info? t).map (·.size)=some 1:=by kernel_rfl):EL P N ops Q (⟨none,.store t x y,ty,pos,aft,none⟩::L) E w:=EL_storeA (hx.trans hv) (hy.trans hw) (S.arr 1 rfl) hj hu hs (fun w' A K _=>h w' (S.wr1 K (hd ▸ A)))
theorem yW1 {p0:HP} {ds:List Value} (S:Sat w I (p0::Blk b T cs::l)) (h:∀w',Sat w' I (p0::Blk b T ds::l)→EL P N ops Q L E w') (hx:ev E x=u:=by exact goE) (hv:u=ptr b:=by exact goW) (hy:ev E y=u2:=by exact goE) (hw:u2=.agg ds.toArray:=by exact goW) (hn:ds.length=cs.length:=by exact rfl) (h1:∀u∈ds,u.oneCell'=true:=by simp [Value.oneCell']) (hs:(P.info? t).map (·.size)=some ds.length:=by kernel_rfl):EL P N ops Q (⟨none,.store t x y,ty,pos,aft,none⟩::L) E w:=sA ds (hx.trans hv) (hy.trans hw) (S.arr 1 rfl) hn hs h1 (fun w' A K _=>h w' (S.wr1 K A))
theorem yP1 {p0:HP} {z:Value} {m ys:List UInt8} (hE:Elem P t 5 z 1) (S:Sat w I (p0::OwnB v m::l)) (hr:Row w u2 (ys.map byt)) (h:∀v' w',Sat w' I (p0::OwnB v' (m++ys)::l)→EL P N ops Q L (upd E d v') w') (hd:Nat.blt d N=true:=by exact rfl) (hx:ev E x=v:=by exact goO) (hy:ev E y=u2:=by exact goO) (hb:((m.map byt).length+(ys.map byt).length)*1≤140737488355328:=by exact ap):EL P N ops Q (⟨some d,.call { callee:=.builtin .append,args:=#[x,y],argTypes:=#[t,t] },ty,pos,aft,none⟩::L) E w:=EL_append (v:=v) (xs:=m.map byt) 0 hE hd hx hy (own_len (S.own 1 rfl)) hr (byt_one _) hb (by decide) (Nat.zero_le _) (fun v' w' O G A=>h v' w' (S.gb1 G (own_app O) A))
theorem yS2 {p0 p1:HP} {ds:List Value} (S:Sat w I (p0::p1::Blk b T cs::l)) (h:∀w',Sat w' I (p0::p1::Blk b T ds::l)→EL P N ops Q L E w') (hx:ev E x=u:=by exact goE) (hv:u=ptr b j:=by exact goW) (hy:ev E y=u2:=by exact goE) (hw:u2=v:=by exact goV) (hj:j<cs.length:=by first | decide | (simp;omega) | simp) (hu:v.oneCell'=true:=by exact rfl) (hd:cs.set j v=ds:=by exact goS) (hs:(P.info? t).map (·.size)=some 1:=by kernel_rfl):EL P N ops Q (⟨none,.store t x y,ty,pos,aft,none⟩::L) E w:=EL_storeA (hx.trans hv) (hy.trans hw) (S.arr 2 rfl) hj hu hs (fun w' A K _=>h w' (S.wr2 K (hd ▸ A)))
theorem yW2 {p0 p1:HP} {ds:List Value} (S:Sat w I (p0::p1::Blk b T cs::l)) (h:∀w',Sat w' I (p0::p1::Blk b T ds::l)→EL P N ops Q L E w') (hx:ev E x=u:=by exact goE) (hv:u=ptr b:=by exact goW) (hy:ev E y=u2:=by exact goE) (hw:u2=.agg ds.toArray:=by exact goW) (hn:ds.length=cs.length:=by exact rfl) (h1:∀u∈ds,u.oneCell'=true:=by simp [Value.oneCell']) (hs:(P.info? t).map (·.size)=some ds.length:=by kernel_rfl):EL P N ops Q (⟨none,.store t x y,ty,pos,aft,none⟩::L) E w:=sA ds (hx.trans hv) (hy.trans hw) (S.arr 2 rfl) hn hs h1 (fun w' A K _=>h w' (S.wr2 K A))
theorem yS3 {p0 p1 p2:HP} {ds:List Value} (S:Sat w I (p0::p1::p2::Blk b T cs::l)) (h:∀w',Sat w' I (p0::p1::p2::Blk b T ds::l)→EL P N ops Q L E w') (hx:ev E x=u:=by exact goE) (hv:u=ptr b j:=by exact goW) (hy:ev E y=u2:=by exact goE) (hw:u2=v:=by exact goV) (hj:j<cs.length:=by first | decide | (simp;omega) | simp) (hu:v.oneCell'=true:=by exact rfl) (hd:cs.set j v=ds:=by exact goS) (hs:(P.info? t).map (·.size)=some 1:=by kernel_rfl):EL P N ops Q (⟨none,.store t x y,ty,pos,aft,none⟩::L) E w:=EL_storeA (hx.trans hv) (hy.trans hw) (S.arr 3 rfl) hj hu hs (fun w' A K _=>h w' (S.wr3 K (hd ▸ A)))
theorem yW3 {p0 p1 p2:HP} {ds:List Value} (S:Sat w I (p0::p1::p2::Blk b T cs::l)) (h:∀w',Sat w' I (p0::p1::p2::Blk b T ds::l)→EL P N ops Q L E w') (hx:ev E x=u:=by exact goE) (hv:u=ptr b:=by exact goW) (hy:ev E y=u2:=by exact goE) (hw:u2=.agg ds.toArray:=by exact goW) (hn:ds.length=cs.length:=by exact rfl) (h1:∀u∈ds,u.oneCell'=true:=by simp [Value.oneCell']) (hs:(P.info? t).map (·.size)=some ds.length:=by kernel_rfl):EL P N ops Q (⟨none,.store t x y,ty,pos,aft,none⟩::L) E w:=sA ds (hx.trans hv) (hy.trans hw) (S.arr 3 rfl) hn hs h1 (fun w' A K _=>h w' (S.wr3 K A))
theorem yS4 {p0 p1 p2 p3:HP} {ds:List Value} (S:Sat w I (p0::p1::p2::p3::Blk b T cs::l)) (h:∀w',Sat w' I (p0::p1::p2::p3::Blk b T ds::l)→EL P N ops Q L E w') (hx:ev E x=u:=by exact goE) (hv:u=ptr b j:=by exact goW) (hy:ev E y=u2:=by exact goE) (hw:u2=v:=by exact goV) (hj:j<cs.length:=by first | decide | (simp;omega) | simp) (hu:v.oneCell'=true:=by exact rfl) (hd:cs.set j v=ds:=by exact goS) (hs:(P.info? t).map (·.size)=some 1:=by kernel_rfl):EL P N ops Q (⟨none,.store t x y,ty,pos,aft,none⟩::L) E w:=EL_storeA (hx.trans hv) (hy.trans hw) (S.arr 4 rfl) hj hu hs (fun w' A K _=>h w' (S.wr4 K (hd ▸ A)))
theorem yW4 {p0 p1 p2 p3:HP} {ds:List Value} (S:Sat w I (p0::p1::p2::p3::Blk b T cs::l)) (h:∀w',Sat w' I (p0::p1::p2::p3::Blk b T ds::l)→EL P N ops Q L E w') (hx:ev E x=u:=by exact goE) (hv:u=ptr b:=by exact goW) (hy:ev E y=u2:=by exact goE) (hw:u2=.agg ds.toArray:=by exact goW) (hn:ds.length=cs.length:=by exact rfl) (h1:∀u∈ds,u.oneCell'=true:=by simp [Value.oneCell']) (hs:(P.info? t).map (·.size)=some ds.length:=by kernel_rfl):EL P N ops Q (⟨none,.store t x y,ty,pos,aft,none⟩::L) E w:=sA ds (hx.trans hv) (hy.trans hw) (S.arr 4 rfl) hn hs h1 (fun w' A K _=>h w' (S.wr4 K A))
theorem yS5 {p0 p1 p2 p3 p4:HP} {ds:List Value} (S:Sat w I (p0::p1::p2::p3::p4::Blk b T cs::l)) (h:∀w',Sat w' I (p0::p1::p2::p3::p4::Blk b T ds::l)→EL P N ops Q L E w') (hx:ev E x=u:=by exact goE) (hv:u=ptr b j:=by exact goW) (hy:ev E y=u2:=by exact goE) (hw:u2=v:=by exact goV) (hj:j<cs.length:=by first | decide | (simp;omega) | simp) (hu:v.oneCell'=true:=by exact rfl) (hd:cs.set j v=ds:=by exact goS) (hs:(P.info? t).map (·.size)=some 1:=by kernel_rfl):EL P N ops Q (⟨none,.store t x y,ty,pos,aft,none⟩::L) E w:=EL_storeA (hx.trans hv) (hy.trans hw) (S.arr 5 rfl) hj hu hs (fun w' A K _=>h w' (S.wr5 K (hd ▸ A)))
theorem yW5 {p0 p1 p2 p3 p4:HP} {ds:List Value} (S:Sat w I (p0::p1::p2::p3::p4::Blk b T cs::l)) (h:∀w',Sat w' I (p0::p1::p2::p3::p4::Blk b T ds::l)→EL P N ops Q L E w') (hx:ev E x=u:=by exact goE) (hv:u=ptr b:=by exact goW) (hy:ev E y=u2:=by exact goE) (hw:u2=.agg ds.toArray:=by exact goW) (hn:ds.length=cs.length:=by exact rfl) (h1:∀u∈ds,u.oneCell'=true:=by simp [Value.oneCell']) (hs:(P.info? t).map (·.size)=some ds.length:=by kernel_rfl):EL P N ops Q (⟨none,.store t x y,ty,pos,aft,none⟩::L) E w:=sA ds (hx.trans hv) (hy.trans hw) (S.arr 5 rfl) hn hs h1 (fun w' A K _=>h w' (S.wr5 K A))
theorem yS6 {p0 p1 p2 p3 p4 p5:HP} {ds:List Value} (S:Sat w I (p0::p1::p2::p3::p4::p5::Blk b T cs::l)) (h:∀w',Sat w' I (p0::p1::p2::p3::p4::p5::Blk b T ds::l)→EL P N ops Q L E w') (hx:ev E x=u:=by exact goE) (hv:u=ptr b j:=by exact goW) (hy:ev E y=u2:=by exact goE) (hw:u2=v:=by exact goV) (hj:j<cs.length:=by first | decide | (simp;omega) | simp) (hu:v.oneCell'=true:=by exact rfl) (hd:cs.set j v=ds:=by exact goS) (hs:(P.info? t).map (·.size)=some 1:=by kernel_rfl):EL P N ops Q (⟨none,.store t x y,ty,pos,aft,none⟩::L) E w:=EL_storeA (hx.trans hv) (hy.trans hw) (S.arr 6 rfl) hj hu hs (fun w' A K _=>h w' (S.wr6 K (hd ▸ A)))
theorem yS7 {p0 p1 p2 p3 p4 p5 p6:HP} {ds:List Value} (S:Sat w I (p0::p1::p2::p3::p4::p5::p6::Blk b T cs::l)) (h:∀w',Sat w' I (p0::p1::p2::p3::p4::p5::p6::Blk b T ds::l)→EL P N ops Q L E w') (hx:ev E x=u:=by exact goE) (hv:u=ptr b j:=by exact goW) (hy:ev E y=u2:=by exact goE) (hw:u2=v:=by exact goV) (hj:j<cs.length:=by first | decide | (simp;omega) | simp) (hu:v.oneCell'=true:=by exact rfl) (hd:cs.set j v=ds:=by exact goS) (hs:(P.info? t).map (·.size)=some 1:=by kernel_rfl):EL P N ops Q (⟨none,.store t x y,ty,pos,aft,none⟩::L) E w:=EL_storeA (hx.trans hv) (hy.trans hw) (S.arr 7 rfl) hj hu hs (fun w' A K _=>h w' (S.wr7 K (hd ▸ A)))
theorem yN (cs:List Value) (S:Sat w I l) (h:∀b w',Sat w' I (Blk b T cs::l)→EL P N ops Q L (upd E d (ptr b)) w') (hd:Nat.blt d N=true:=by exact rfl) (hz:((P.info? T).bind (·.zero)).map (·.cells.toList)=some cs:=by kernel_rfl):EL P N ops Q (⟨some d,.alloc T,ty,pos,aft,none⟩::L) E w:=by
 obtain ⟨z,h1,h2⟩:=Option.map_eq_some_iff.1 hz
 exact EL_alloc cs hd h1 h2 (fun b w' hb hA hB _=>h b w' (S.newB hB hA hb))
theorem yB (S:Sat w I l) (h:∀b w',Sat w' I (Blk b T cs::l)→EL P N ops Q L (upd E d (ptr b)) w') (hd:Nat.blt d N=true:=by exact rfl) (hx:ev E x=u:=by exact goE) (hv:u=.agg cs.toArray:=by exact goW):EL P N ops Q (⟨some d,.box T x,ty,pos,aft,none⟩::L) E w:=
 EL_box cs hd (hx.trans hv) (by simp [Value.cells]) (fun b w' hb hA hB _=>h b w' (S.newB hB hA hb))
/-- Regions in any order. -/
theorem yJ {id:Nat} {L:List Oper} (g:Nat) (T:World→Prop) (S:Sat w I l) (h:∀w1,Sat w1 I l→EJ P N L.toArray g (fun w'=>Gh.le I (gh w')) T Q L.length (Array.replicate L.length false) E w1) (hm:P.follows .mixedOrders=true:=by kernel_rfl):EC P N (.region id L.toArray true) Q E w:=
 EC_any g _ T hm (fun w1 B=>h w1 (S.below B))
section
variable {g fuel : Nat} {S T : World → Prop} {listed : Array Bool}
theorem goJ {p:Prop} (h:p:=by first | (intro w hw ht;exact goG) | (intro w hw;exact goG)):p:=h
theorem ys (hS:S w) (hg:listed.getD g false=true:=by exact rfl):SJ g S T listed w:=⟨hS,fun e=>by rw [hg] at e;cases e⟩
theorem yt (hS:S w) (hT:T w):SJ g S T listed w:=⟨hS,fun _=>hT⟩
theorem yT (i:Nat) (hS:S w) (hT:T w) (h:EJ P N ops g S T Q fuel (listed.setIfInBounds i true) (upd E d v) w) (hi:ops[i]?=some ⟨some d,op,ty,pos,aft,none⟩:=by exact rfl) (hok:okT ops listed g i=true:=by kernel_rfl) (hd:Nat.blt d N=true:=by exact rfl) (hrun:∀w,S w→T w→Gives P E w ⟨some d,op,ty,pos,aft,none⟩ v w:=by exact goJ):EJ P N ops g S T Q (fuel+1) listed E w:=jT i hi hok v hd hrun ⟨hS,fun _=>hT⟩ h
theorem yF (i:Nat) (hS:S w) (hT:T w) (h:EJ P N ops g S T Q fuel (listed.setIfInBounds i true) (upd E d v) w) (hi:ops[i]?=some ⟨some d,op,ty,pos,aft,none⟩:=by exact rfl) (hok:okF ops listed g i=true:=by kernel_rfl) (hd:Nat.blt d N=true:=by exact rfl) (hrun:∀w,S w→Gives P E w ⟨some d,op,ty,pos,aft,none⟩ v w:=by exact goJ):EJ P N ops g S T Q (fuel+1) listed E w:=jF i hi hok v hd hrun ⟨hS,fun _=>hT⟩ h
theorem yf (i:Nat) (hS:S w) (h:EJ P N ops g S T Q fuel (listed.setIfInBounds i true) (upd E d v) w) (hg:listed.getD g false=true:=by exact rfl) (hi:ops[i]?=some ⟨some d,op,ty,pos,aft,none⟩:=by exact rfl) (hok:okF ops listed g i=true:=by kernel_rfl) (hd:Nat.blt d N=true:=by exact rfl) (hrun:∀w,S w→Gives P E w ⟨some d,op,ty,pos,aft,none⟩ v w:=by exact goJ):EJ P N ops g S T Q (fuel+1) listed E w:=jF i hi hok v hd hrun ⟨hS,fun e=>by rw [hg] at e;cases e⟩ h
theorem yp (i:Nat) (hST:SJ g S T listed w) (h:EJ P N ops g S T Q fuel (listed.setIfInBounds i true) (upd E d undef) w) (hi:ops[i]?=some ⟨some d,op,ty,pos,aft,some (j,tt)⟩:=by exact rfl) (hok:okF ops listed g i=true:=by kernel_rfl) (hdst:(ops[j]?).bind (·.dst)=some e:=by exact rfl) (he:E e=.bool bb:=by exact rfl) (heN:Nat.blt e N=true:=by exact rfl) (hb:(bb == tt)=false:=by exact rfl) (hd:Nat.blt d N=true:=by exact rfl):EJ P N ops g S T Q (fuel+1) listed E w:=by
 simp only [okF,Bool.and_eq_true,Bool.not_eq_true'] at hok
 exact EJ_pass i hi hok.1 hok.2.1 hok.2.2.1 hok.2.2.2 e hdst he heN hb hd hST h
theorem yg (i:Nat) (hST:SJ g S T listed w) (h:EJ P N ops g S T Q fuel (listed.setIfInBounds i true) (upd E d v) w) (hi:ops[i]?=some ⟨some d,op,ty,pos,aft,some (j,tt)⟩:=by exact rfl) (hok:okT ops listed g i=true:=by kernel_rfl) (hdst:(ops[j]?).bind (·.dst)=some e:=by exact rfl) (he:E e=.bool bb:=by exact rfl) (heN:Nat.blt e N=true:=by exact rfl) (hb:(bb == tt)=true:=by exact rfl) (hd:Nat.blt d N=true:=by exact rfl) (hrun:∀w,S w→T w→Gives P E w ⟨some d,op,ty,pos,aft,some (j,tt)⟩ v w:=by exact goJ):EJ P N ops g S T Q (fuel+1) listed E w:=jG i hi hok e hdst he heN hb v hd hrun hST h
theorem yh (i:Nat) (hST:SJ g S T listed w) (h:EJ P N ops g S T Q fuel (listed.setIfInBounds i true) (upd E d v) w) (hi:ops[i]?=some ⟨some d,op,ty,pos,aft,some (j,tt)⟩:=by exact rfl) (hok:okF ops listed g i=true:=by kernel_rfl) (hdst:(ops[j]?).bind (·.dst)=some e:=by exact rfl) (he:E e=.bool bb:=by exact rfl) (heN:Nat.blt e N=true:=by exact rfl) (hb:(bb == tt)=true:=by exact rfl) (hd:Nat.blt d N=true:=by exact rfl) (hrun:∀w,S w→Gives P E w ⟨some d,op,ty,pos,aft,some (j,tt)⟩ v w:=by exact goJ):EJ P N ops g S T Q (fuel+1) listed E w:=by
 simp only [okF,Bool.and_eq_true,Bool.not_eq_true'] at hok
 exact EJ_gfloat i hi hok.1 hok.2.1 hok.2.2.1 hok.2.2.2 e hdst he heN hb v hd hrun hST h
theorem y1 (i:Nat) {o:Oper} (h:EL P N ops (fun e E' w'=>e=.normal∧SJ g S T (listed.setIfInBounds i true) w'∧EJ P N ops g S T Q fuel (listed.setIfInBounds i true) E' w') [o] E w) (hr:Region.ready .any ops listed=[i]:=by kernel_rfl) (ho:ops[i]?=some o:=by exact rfl):EJ P N ops g S T Q (fuel+1) listed E w:=EJ_one i hr ⟨o,ho,h⟩
theorem yn {K:Env→World→Prop} {li:Array Bool} (hS:S w) (hT:T w) (h:K E w):EL P N ops (fun e E' w'=>e=.normal∧SJ g S T li w'∧K E' w') [] E w:=EL_nil ⟨rfl,⟨hS,fun _=>hT⟩,h⟩
theorem ym {K:Env→World→Prop} {li:Array Bool} (hS:S w) (h:K E w) (hg:li.getD g false=true:=by exact rfl):EL P N ops (fun e E' w'=>e=.normal∧SJ g S T li w'∧K E' w') [] E w:=EL_nil ⟨rfl,⟨hS,fun e=>by rw [hg] at e;cases e⟩,h⟩
theorem yd (h:Q .normal E w) (hr:Region.ready .any ops listed=[]:=by kernel_rfl):EJ P N ops g S T Q fuel listed E w:=EJ_done hr h
theorem yu {I J:Gh} (hI:I.le J) (h:EJ P N ops g (fun w'=>Gh.le J (gh w')) T Q fuel listed E w):EJ P N ops g (fun w'=>Gh.le I (gh w')) T Q fuel listed E w:=EJ_strong _ _ (fun _ hw=>lT hI hw) (fun _ _ ht=>ht) h
end
/-- A call that leaves all as1 it is. -/
theorem yQ {f : FuncId} {args : Array Operand} {ats : Array TypeId} {ls : List Value} [hF : IsF P f] (S : Sat w I l) (hc : Ret P f ls w (fun v' w' => v = v' ∧ Below w.heap.size w w')) (h : ∀ w', Sat w' I l → EL P N ops Q L (upd E d v) w') (hd : Nat.blt d N = true := by exact rfl) (ha : args.toList.map (ev E) = ls := by exact goX) :
    EL P N ops Q (⟨some d, .call { callee := .value (.func f), args, argTypes := ats }, ty, pos, aft, none⟩ :: L) E w := eR hd hF ha hc (fun v' w' hh => by obtain ⟨rfl, hb⟩ := hh; exact h w' (S.below hb))
theorem yE {K:Env→World→Prop} (S:Sat w I l) (h:∀w',Sat w' I l→K E w'):EQ P N ops (fun w'=>Below w.heap.size w w') (fun E'=>∀w',Below w.heap.size w w'→K E' w') [] E:=EQ_nil (fun w' B=>h w' (S.below B))
/-- One step. -/
theorem g1 {G G':Prop} (k:G') (h:Bx G'→G:=by
 intro k
 first
 | with_reducible apply thn_n
 | with_reducible apply EL_nil
 | with_reducible apply EC_seq
 | with_reducible apply EC_reg
 | ((with_reducible apply EL_val);exact rfl;exact goG)
 | ((with_reducible apply EL_pass);exact rfl;exact rfl;exact rfl;exact rfl;exact rfl)
 | ((with_reducible apply EL_gval);exact rfl;exact rfl;exact rfl;exact rfl;exact rfl;exact goG)
 | with_reducible apply EC_ret
 | with_reducible apply thn_r
 | with_reducible apply EC_skip
 | with_reducible apply EC_block
 | with_reducible apply inB_n
 | with_reducible apply inB_r
 | ((with_reducible apply EC_cond_true);exact rfl)
 | ((with_reducible apply EC_cond_false);exact rfl)
 | ((with_reducible apply EQ_val);exact rfl;(intro w hw;exact goG))
 | ((with_reducible apply EQ_pass);exact rfl;exact rfl;exact rfl;exact rfl;exact rfl)
 | ((with_reducible apply EL_passU);exact rfl;exact rfl;exact rfl;exact rfl)
 | ((with_reducible apply EQ_passU);exact rfl;exact rfl;exact rfl;exact rfl)
 | ((with_reducible apply EQ_gval);exact rfl;exact rfl;exact rfl;exact rfl;exact rfl;(intro w hw;exact goG))
 | ((with_reducible apply EL_gite);exact rfl;exact rfl;exact rfl;exact rfl;(intro g;exact goG))
 | ((with_reducible apply EQ_gite);exact rfl;exact rfl;exact rfl;exact rfl;(intro g w hw;exact goG))
 | with_reducible apply thn_x
 | with_reducible apply thn_g
 | with_reducible apply EC_exit
 | with_reducible apply inB_hit
 | ((with_reducible apply inB_miss);exact rfl)
 | with_reducible apply inB_g
 | with_reducible apply jmp_n
 | with_reducible apply jmp_r
 | with_reducible apply jmp_x
 | with_reducible apply EC_label
 exact Bx.h k):G:=h ⟨k⟩
theorem g2 {G G':Prop} (k:G') (h:Bx G'→G:=by intro k;refine g1 ?_;refine g1 ?_;exact Bx.h k):G:=h ⟨k⟩
theorem g3 {G G':Prop} (k:G') (h:Bx G'→G:=by intro k;refine g1 ?_;refine g2 ?_;exact Bx.h k):G:=h ⟨k⟩
theorem g4 {G G':Prop} (k:G') (h:Bx G'→G:=by intro k;refine g2 ?_;refine g2 ?_;exact Bx.h k):G:=h ⟨k⟩
theorem g5 {G G':Prop} (k:G') (h:Bx G'→G:=by intro k;refine g2 ?_;refine g3 ?_;exact Bx.h k):G:=h ⟨k⟩
theorem g6 {G G':Prop} (k:G') (h:Bx G'→G:=by intro k;refine g3 ?_;refine g3 ?_;exact Bx.h k):G:=h ⟨k⟩
theorem g7 {G G':Prop} (k:G') (h:Bx G'→G:=by intro k;refine g3 ?_;refine g4 ?_;exact Bx.h k):G:=h ⟨k⟩
theorem g8 {G G':Prop} (k:G') (h:Bx G'→G:=by intro k;refine g4 ?_;refine g4 ?_;exact Bx.h k):G:=h ⟨k⟩
theorem g9 {G G':Prop} (k:G') (h:Bx G'→G:=by intro k;refine g4 ?_;refine g5 ?_;exact Bx.h k):G:=h ⟨k⟩
theorem g10 {G G':Prop} (k:G') (h:Bx G'→G:=by intro k;refine g5 ?_;refine g5 ?_;exact Bx.h k):G:=h ⟨k⟩
theorem g11 {G G':Prop} (k:G') (h:Bx G'→G:=by intro k;refine g5 ?_;refine g6 ?_;exact Bx.h k):G:=h ⟨k⟩
theorem g12 {G G':Prop} (k:G') (h:Bx G'→G:=by intro k;refine g6 ?_;refine g6 ?_;exact Bx.h k):G:=h ⟨k⟩
theorem g13 {G G':Prop} (k:G') (h:Bx G'→G:=by intro k;refine g6 ?_;refine g7 ?_;exact Bx.h k):G:=h ⟨k⟩
theorem g14 {G G':Prop} (k:G') (h:Bx G'→G:=by intro k;refine g7 ?_;refine g7 ?_;exact Bx.h k):G:=h ⟨k⟩
theorem g15 {G G':Prop} (k:G') (h:Bx G'→G:=by intro k;refine g7 ?_;refine g8 ?_;exact Bx.h k):G:=h ⟨k⟩
theorem g16 {G G':Prop} (k:G') (h:Bx G'→G:=by intro k;refine g8 ?_;refine g8 ?_;exact Bx.h k):G:=h ⟨k⟩
theorem g17 {G G':Prop} (k:G') (h:Bx G'→G:=by intro k;refine g8 ?_;refine g9 ?_;exact Bx.h k):G:=h ⟨k⟩
theorem g18 {G G':Prop} (k:G') (h:Bx G'→G:=by intro k;refine g9 ?_;refine g9 ?_;exact Bx.h k):G:=h ⟨k⟩
theorem g19 {G G':Prop} (k:G') (h:Bx G'→G:=by intro k;refine g9 ?_;refine g10 ?_;exact Bx.h k):G:=h ⟨k⟩
theorem g20 {G G':Prop} (k:G') (h:Bx G'→G:=by intro k;refine g10 ?_;refine g10 ?_;exact Bx.h k):G:=h ⟨k⟩
theorem g21 {G G':Prop} (k:G') (h:Bx G'→G:=by intro k;refine g10 ?_;refine g11 ?_;exact Bx.h k):G:=h ⟨k⟩
theorem g22 {G G':Prop} (k:G') (h:Bx G'→G:=by intro k;refine g11 ?_;refine g11 ?_;exact Bx.h k):G:=h ⟨k⟩
theorem g23 {G G':Prop} (k:G') (h:Bx G'→G:=by intro k;refine g11 ?_;refine g12 ?_;exact Bx.h k):G:=h ⟨k⟩
theorem g24 {G G':Prop} (k:G') (h:Bx G'→G:=by intro k;refine g12 ?_;refine g12 ?_;exact Bx.h k):G:=h ⟨k⟩
theorem g25 {G G':Prop} (k:G') (h:Bx G'→G:=by intro k;refine g12 ?_;refine g13 ?_;exact Bx.h k):G:=h ⟨k⟩
theorem g26 {G G':Prop} (k:G') (h:Bx G'→G:=by intro k;refine g13 ?_;refine g13 ?_;exact Bx.h k):G:=h ⟨k⟩
theorem g27 {G G':Prop} (k:G') (h:Bx G'→G:=by intro k;refine g13 ?_;refine g14 ?_;exact Bx.h k):G:=h ⟨k⟩
theorem g28 {G G':Prop} (k:G') (h:Bx G'→G:=by intro k;refine g14 ?_;refine g14 ?_;exact Bx.h k):G:=h ⟨k⟩
theorem g29 {G G':Prop} (k:G') (h:Bx G'→G:=by intro k;refine g14 ?_;refine g15 ?_;exact Bx.h k):G:=h ⟨k⟩
theorem g30 {G G':Prop} (k:G') (h:Bx G'→G:=by intro k;refine g15 ?_;refine g15 ?_;exact Bx.h k):G:=h ⟨k⟩
end
end Go.Ecal
