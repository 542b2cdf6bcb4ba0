import Derived.Laws.Cover3
import Derived.Test.YthddplghlljdbaaGreatQWorldPostOps
set_option linter.unusedVariables false
set_option linter.unusedSimpArgs false
namespace Go.Ecal
open Go.RowKit
/-- How a thing lies in cells. -/
structure Rep (α:Type) where
 sz:Nat
 r:Gh→List Value→α→Prop
 mono:∀{I J:Gh} {cs:List Value} {a:α},I.le J→r I cs a→r J cs a
 len:∀{I:Gh} {cs:List Value} {a:α},r I cs a→cs.length=sz
 one:∀{I:Gh} {cs:List Value} {a:α},r I cs a→∀u∈cs,u.oneCell'=true
inductive All2 {α β:Type} (p:α→β→Prop):List α→List β→Prop
 | nil:All2 p [] []
 | cons {a:α} {b:β} {l:List α} {m:List β}:p a b→All2 p l m→All2 p (a::l) (b::m)
section
variable {α β : Type} {p q : α → β → Prop}
theorem All2.len:∀{l:List α} {m:List β},All2 p l m→l.length=m.length
 | _,_,.nil=>rfl
 | _,_,.cons _ h=>by simp [All2.len h]
theorem All2.imp (h:∀a b,p a b→q a b):∀{l:List α} {m:List β},All2 p l m→All2 q l m
 | _,_,.nil=>.nil
 | _,_,.cons a r=>.cons (h _ _ a) (All2.imp h r)
theorem All2.app:∀{l l':List α} {m m':List β},All2 p l m→All2 p l' m'→All2 p (l++l') (m++m')
 | _,_,_,_,.nil,h=>h
 | _,_,_,_,.cons a r,h=>.cons a (All2.app r h)
theorem All2.get:∀{l:List α} {m:List β},All2 p l m→∀{j:Nat} {b:β},m[j]?=some b→∃a,l[j]?=some a∧p a b
 | _,_,.nil,j,b,h=>by simp at h
 | _,_,.cons a r,0,b,h=>by simp at h;subst h;exact ⟨_,rfl,a⟩
 | _,_,.cons a r,j+1,b,h=>by simpa using All2.get r (by simpa using h)
theorem All2.take:∀{l:List α} {m:List β},All2 p l m→∀n,All2 p (l.take n) (m.take n)
 | _,_,.nil,n=>by simp;exact .nil
 | _,_,.cons a r,0=>by simp;exact .nil
 | _,_,.cons a r,n+1=>by simp;exact .cons a (r.take n)
theorem All2.drop:∀{l:List α} {m:List β},All2 p l m→∀n,All2 p (l.drop n) (m.drop n)
 | _,_,.nil,n=>by simp;exact .nil
 | _,_,.cons a r,0=>by simp;exact .cons a r
 | _,_,.cons a r,n+1=>by simp;exact r.drop n
theorem All2.left:∀{l:List α} {m:List β},All2 p l m→∀a∈l,∃b∈m,p a b
 | _,_,.nil,a,h=>by cases h
 | _,_,.cons hp r,a,h=>by
  rcases List.mem_cons.1 h with rfl | h
  ·exact ⟨_,List.mem_cons_self ..,hp⟩
  ·obtain ⟨b,hb,k⟩:=r.left a h;exact ⟨b,List.mem_cons_of_mem _ hb,k⟩
end
section
variable {α : Type} {τ : Rep α} {I J : Gh} {v : Value} {as1 : List α} {w w' : World}
def RoX (I:Gh) (v:Value) (τ:Rep α) (as1:List α):Prop:=∃xss,RoW I v τ.sz xss∧All2 (τ.r I) xss as1
theorem RoW.up {sz:Nat} {xss:List (List Value)} (H:RoW I v sz xss) (h:I.le J):RoW J v sz xss:=fun w k=>H w (Gh.le_trans h k)
theorem RoX.up (H:RoX I v τ as1) (h:I.le J):RoX J v τ as1:=let ⟨xss,a,b⟩:=H;⟨xss,a.up h,b.imp fun _ _=>τ.mono h⟩
theorem RoX.nil:RoX I (.slice none 0 0) τ []:=⟨[],fun w _=>⟨none,0,rfl,by simp,by decide,fun _=>rfl,fun h=>absurd h (by simp)⟩,.nil⟩
def blkOf (v:Value):Nat:=match v with | .slice (some a) _ _=>a.block | _=>0
def offOf (v:Value):Nat:=match v with | .slice (some a) _ _=>a.off | _=>0
def XRow (w:World) (v:Value) (sz n:Nat):Prop:=∃xss,WRow w v sz xss∧xss.length=n
def ElAt (w:World) (v:Value) (sz j:Nat) (cs:List Value):Prop:=w.rangeAt (blkOf v) (offOf v+j*sz) cs
theorem RoX.row (H:RoX I v τ as1) (h:I.le (gh w)):XRow w v τ.sz as1.length:=let ⟨xss,a,b⟩:=H;⟨xss,a w h,b.len⟩
theorem WRow.el {sz j:Nat} {xss:List (List Value)} {cs:List Value} (h:WRow w v sz xss) (hj:xss[j]?=some cs):ElAt w v sz j cs:=by
 obtain ⟨A,c,hv,h1,h2,h3,h4⟩:=h
 have:j<xss.length:=(List.getElem?_eq_some_iff.1 hj).1
 obtain ⟨b,o,rfl,hc⟩:=h4 (by omega)
 subst hv
 exact hc j cs hj
theorem RoX.el (H:RoX I v τ as1) {j:Nat} {a:α} (hj:as1[j]?=some a):∃cs,τ.r I cs a∧∀w,I.le (gh w)→ElAt w v τ.sz j cs:=by
 obtain ⟨xss,h,k⟩:=H
 obtain ⟨cs,hc,hr⟩:=k.get hj
 exact ⟨cs,hr,fun w hw=>(h w hw).el hc⟩
theorem XRow.below {sz n:Nat} (h:XRow w v sz n) (hb:(hp w).le (hp w')):XRow w' v sz n:=let ⟨x,a,b⟩:=h;⟨x,a.below hb,b⟩
theorem ElAt.below {sz j:Nat} {cs:List Value} (h:ElAt w v sz j cs) (hb:(hp w).le (hp w')):ElAt w' v sz j cs:=by
 intro i u hu
 have:=h i u hu
 have hlt:=World.block_lt_of_cell? w _ this
 have e1:w.heap[blkOf v]?=some w.heap[blkOf v]:=by simp
 have e2:w'.heap[blkOf v]?=some w.heap[blkOf v]:=hb _ _ e1
 rw [World.cell?_of_block (e2.trans e1.symm)]
 exact this
theorem XRow.one {sz n:Nat} (h:XRow w v sz n):v.oneCell'=true:=let ⟨_,a,_⟩:=h;wrow_one a
/-- v is a row of one's own: as1. -/
def OwnX (e:TypeId) (τ:Rep α) (v:Value) (as1:List α):HP:=.ex fun xss=>Sep [.fact ⟨fun I=>All2 (τ.r I) xss as1,fun h k=>k.imp fun _ _=>τ.mono h⟩,Own e τ.sz v as1.length xss.flatten]
variable {e : TypeId} {R : List HP}
theorem OwnX.opn (S:Sat w I (OwnX e τ v as1::R)):∃xss,All2 (τ.r I) xss as1∧Sat w I (Own e τ.sz v as1.length xss.flatten::R):=by
 obtain ⟨xss,S⟩:=S.unex
 obtain ⟨h,S⟩:=S.split.unfact
 exact ⟨xss,h,S⟩
theorem OwnX.cls {xss:List (List Value)} (h:All2 (τ.r I) xss as1) (S:Sat w I (Own e τ.sz v as1.length xss.flatten::R)):Sat w I (OwnX e τ v as1::R):=
 Sat.toex xss (Sat.join [_,_] (S.tofact h))
theorem All2.lens {xss:List (List Value)} (h:All2 (τ.r I) xss as1):∀cs∈xss,cs.length=τ.sz:=fun cs hc=>let ⟨_,_,k⟩:=h.left cs hc;τ.len k
theorem OwnX.row (S:Sat w I R) (i:Nat) (hi:R[i]?=some (OwnX e τ v as1)) (hz:0<τ.sz):XRow w v τ.sz as1.length∧∀j a,as1[j]?=some a→∃cs,τ.r I cs a∧ElAt w v τ.sz j cs:=by
 obtain ⟨xss,h,S⟩:=(S.cons_front hi).unex.imp fun xss S=>S.split.unfact
 have hw:=S.wrow 0 rfl h.lens hz
 exact ⟨⟨xss,hw,h.len⟩,fun j a hj=>let ⟨cs,hc,hr⟩:=h.get hj;⟨cs,hr,hw.el hc⟩⟩
theorem OwnX.one (S:Sat w I R) (i:Nat) (hi:R[i]?=some (OwnX e τ v as1)) (hz:0<τ.sz):v.oneCell'=true:=(OwnX.row S i hi hz).1.one
theorem Sat.frzW {sz n:Nat} {xss:List (List Value)} {l:List HP} (S:Sat w I l) (i:Nat) (hi:l[i]?=some (Own e sz v n xss.flatten)) (hs:∀cs∈xss,cs.length=sz) (hsz:0<sz):∃J:Gh,I.le J∧Sat w J (l.eraseIdx i)∧RoW J v sz xss:=by
 obtain ⟨h,r,h1,h2,h3,h4,h5,h6⟩:=S.focus hi
 obtain ⟨_,_,_,e0⟩:=S
 have hd:h.dis I.h:=PH.dis_mono h2 h5.base
 have hIJ:I.le ⟨h.uni I.h,I.os,I.tape,I.out⟩:=⟨PH.uni_r hd,rfl,rfl,rfl⟩
 refine ⟨⟨h.uni I.h,I.os,I.tape,I.out⟩,hIJ,⟨h.uni r,h5.more hIJ h2,PH.uni_le h3 h4,e0⟩,fun w' k=>?_⟩
 exact own_wrow (Own.row h1 (PH.le_trans (PH.uni_l _ _) k.1)) hs hsz
theorem OwnX.frz (S:Sat w I R) (i:Nat) (hi:R[i]?=some (OwnX e τ v as1)) (hz:0<τ.sz):∃J:Gh,I.le J∧Sat w J (R.eraseIdx i)∧RoX J v τ as1:=by
 obtain ⟨xss,h,S⟩:=(S.cons_front hi).unex.imp fun xss S=>S.split.unfact
 obtain ⟨J,hJ,S,hr⟩:=S.frzW 0 rfl h.lens hz
 exact ⟨J,hJ,S,xss,hr,h.imp fun _ _=>τ.mono hJ⟩
theorem OwnX.nil (S:Sat w I R) (e:TypeId) (τ:Rep α):Sat w I (OwnX e τ (.slice none 0 0) []::R):=OwnX.cls .nil (by simpa using S.nil e τ.sz)
end
def intR:Rep Int:=⟨1,fun _ cs n=>cs=[.int .i64 n]∧(-9223372036854775808≤n∧n≤9223372036854775807),fun _ h=>h,fun h=>by rw [h.1];rfl,fun h u hu=>by rw [h.1] at hu;simp at hu;rw [hu];rfl⟩
def bytesR:Rep (List UInt8):=⟨1,fun I cs l=>∃v,cs=[v]∧v.oneCell'=true∧RoB I v l,fun h ⟨v,a,b,c⟩=>⟨v,a,b,c.up h⟩,fun ⟨v,a,_⟩=>by rw [a];rfl,fun ⟨v,a,b,_⟩ u hu=>by rw [a] at hu;simp at hu;rw [hu];exact b⟩
def listR {α:Type} (τ:Rep α):Rep (List α):=⟨1,fun I cs l=>∃v,cs=[v]∧v.oneCell'=true∧RoX I v τ l,fun h ⟨v,a,b,c⟩=>⟨v,a,b,c.up h⟩,fun ⟨v,a,_⟩=>by rw [a];rfl,fun ⟨v,a,b,_⟩ u hu=>by rw [a] at hu;simp at hu;rw [hu];exact b⟩
section
variable {P : Program} {N : Nat} {Q : Exit → Env → World → Prop} {E : Env} {w w' : World} {ops : Array Oper} {L : List Oper}
variable {d : Nat} {op : Op} {ty : TypeId} {pos : String} {aft : Array Edge} {dst : Option Tmp} {gd : Option (Nat × Bool)}
variable {t t2 T e k : TypeId} {x y : Operand} {v : Value} {b o sz n : Nat} {cs xs : List Value}
theorem r_lenX (hx : ev E x = v) (h : XRow w v sz n) (ht : P.underlying t = some (.slice e)) :
    Gives P E w ⟨dst, .call { callee := .builtin .len, args := #[x], argTypes := #[t] }, ty, pos, aft, gd⟩ (.int .i64 (n : Int)) w := by
  obtain ⟨xss, h, rfl⟩ := h
  exact r_lenW hx h ht
theorem r_indexX {kk : IntKind} {i : Int} (hx : ev E x = v) (h : XRow w v sz n) (hy : ev E y = .int kk i) (h0 : 0 ≤ i) (h1 : i < n) (ht : P.underlying t = some (.slice e)) (hs : (P.info? e).map (·.size) = some sz) :
    Gives P E w ⟨dst, .indexAddr t x y, ty, pos, aft, gd⟩ (ptr (blkOf v) (offOf v + i.toNat * sz)) w := by
  obtain ⟨xss, h, rfl⟩ := h
  have := r_indexW (dst := dst) (ty := ty) (pos := pos) (aft := aft) (gd := gd) hx h hy h0 h1 ht hs
  obtain ⟨A, c, rfl, _, _, _, h4⟩ := h
  obtain ⟨b, o, rfl, hc⟩ := h4 (by omega)
  exact this
theorem r_loadR {ds : TypeDesc} (hx : ev E x = ptr b o) (h : w.rangeAt b o cs) (ht : P.underlying t = some ds) (hd : ds.isRow = true) (hs : (P.info? t).map (·.size) = some cs.length) :
    Gives P E w ⟨dst, .load t x, ty, pos, aft, gd⟩ (.agg cs.toArray) w := by
  simp only [Gives, execOp, hx, ptr]
  rw [Sem.run_bind, run_loadAt_mid w b o t cs ds h ht hd hs]
  simp
theorem r_loadF {k : Nat} {u : Value} {ds : TypeDesc} (hx : ev E x = ptr b (o + k)) (h : w.rangeAt b o cs) (hu : cs[k]? = some u) (ht : P.underlying t = some ds) (hd : oneB ds = true) :
    Gives P E w ⟨dst, .load t x, ty, pos, aft, gd⟩ u w := r_load hx (h k u hu) ht hd
theorem r_load0 {u : Value} {ds : TypeDesc} (hx : ev E x = ptr b o) (h : w.rangeAt b o [u]) (ht : P.underlying t = some ds) (hd : oneB ds = true) :
    Gives P E w ⟨dst, .load t x, ty, pos, aft, gd⟩ u w := r_load hx (h 0 u rfl) ht hd
theorem r_fieldP {f q s : Nat} {fs : Array Field} {fd : Field} (hx : ev E x = ptr b o) (ht : P.underlying t = some (.struct fs)) (hf : fs[f]? = some fd) (hs : (P.info? fd.type).map (·.size) = some s) (h0 : s ≠ 0) (hk : o + fd.offset = q) :
    Gives P E w ⟨dst, .fieldAddr t x f, ty, pos, aft, gd⟩ (ptr b q) w := by
  subst hk
  obtain ⟨inf, hinf, hsz⟩ := Option.map_eq_some_iff.1 hs
  simp only [Gives, execOp, hx, ptr]
  simp [Instr.fieldAt, Instr.sureAddr, run_underlying ht, hf, fieldPlace, sizeOf, typeInfo, hinf, hsz, h0, Addr.add_mid]
theorem Arr.range (h:Arr w b T cs):w.rangeAt b 0 cs:=fun j v hv=>by rw [Nat.zero_add];exact h.cell hv
theorem range_part (h:w.rangeAt b o cs) (i:Nat) {xs:List Value} (hx:∀j u,xs[j]?=some u→cs[i+j]?=some u):w.rangeAt b (o+i) xs:=fun j v hv=>by
 rw [Nat.add_assoc];exact h (i+j) v (hx j v hv)
/-- A variable in a variable is written. -/
theorem EL_storeP {vs : List Value} (hx : ev E x = ptr b o) (hy : ev E y = v) (hv : v.cells = vs.toArray) (h : Arr w b T cs) (hn : o + vs.length ≤ cs.length) (hs : (P.info? t).map (·.size) = some vs.length) (h1 : ∀ u ∈ vs, u.oneCell' = true)
    (hk : ∀ w', Arr w' b T (cs.take o ++ vs ++ cs.drop (o + vs.length)) → Kept w w' b → w'.heap.size = w.heap.size → EL P N ops Q L E w') : EL P N ops Q (⟨none, .store t x y, ty, pos, aft, none⟩ :: L) E w := by
  obtain ⟨inf, hinf, hsz⟩ := Option.map_eq_some_iff.1 hs
  have hst := run_storeCells_at P b o T vs 0 cs.toArray w h (by simp; omega) h1
  refine EL_do (w.setRow b ((cs.toArray.toList.take (o + 0)) ++ vs ++ (cs.toArray.toList.drop (o + 0 + vs.length))).toArray) ?_ (hk _ ?_ (kept_setRow b _) (by simp [World.setRow]))
  · simp only [execOp, hx, hy, ptr]
    simp only [Instr.storeAt, Instr.sureAddr, storeVar, hv]
    simp [sizeOf, typeInfo, hinf, hsz, hst]
  · have := setRow_heap w b cs.toArray ((cs.toArray.toList.take (o + 0)) ++ vs ++ (cs.toArray.toList.drop (o + 0 + vs.length))).toArray T (0, 0) h
    simp only [Arr]
    rw [this]
    simp
end
theorem XRow.le {w:World} {v:Value} {sz n:Nat} (h:XRow w v sz n):n≤9223372036854775807:=by obtain ⟨_,⟨A,c,_,h1,h2,_⟩,rfl⟩:=h;omega
theorem RoB.le {I:Gh} {w:World} {v:Value} {l:List UInt8} (H:RoB I v l) (h:I.le (gh w)):l.length≤9223372036854775807:=by simpa using (H w h).len_le
theorem take_flat {α:Type} {ls:List (List α)} {j:Nat} {a:List α} (h:ls[j]?=some a):(ls.take j).flatten++a=(ls.take (j+1)).flatten:=by
 rw [List.take_add_one,h];simp
theorem flat_le {α:Type} {ls:List (List α)} {j:Nat} {a:List α} (h:ls[j]?=some a):(ls.take j).flatten.length+a.length≤ls.flatten.length:=by
 have e:=congrArg List.length (take_flat h)
 have e2:(ls.take (j+1)).flatten++(ls.drop (j+1)).flatten=ls.flatten:=by rw [←List.flatten_append,List.take_append_drop]
 have e3:=congrArg List.length e2
 simp only [List.length_append] at e e3
 omega
theorem ones_cons {v:Value} {l:List Value} (h:v.oneCell'=true) (k:∀u∈l,u.oneCell'=true):∀u∈v::l,u.oneCell'=true:=by
 intro u hu;rcases List.mem_cons.1 hu with rfl | h2
 ·exact h
 ·exact k u h2
theorem range_cut {w:World} {b o:Nat} {cs xs:List Value} {n:Nat} (i:Nat) (h:w.rangeAt b o cs) (hx:(cs.drop i).take n=xs):w.rangeAt b (o+i) xs:=range_part h i fun j u hu=>by
 rw [←hx,List.getElem?_take] at hu
 split at hu
 ·rwa [List.getElem?_drop] at hu
 ·cases hu
theorem range_cut0 {w:World} {b:Nat} {cs xs:List Value} {n:Nat} (i:Nat) (h:w.rangeAt b 0 cs) (hx:(cs.drop i).take n=xs):w.rangeAt b i xs:=by
 have:=range_cut i h hx;rwa [Nat.zero_add] at this
theorem rox_as {α:Type} {τ:Rep α} {I:Gh} {v:Value} {as1 bs:List α} (h:RoX I v τ as1) (e:as1=bs):RoX I v τ bs:=e ▸ h
theorem rob_as {I:Gh} {v:Value} {l m:List UInt8} (h:RoB I v l) (e:l=m):RoB I v m:=e ▸ h
theorem RoB.cut {I:Gh} {v:Value} {l:List UInt8} (H:RoB I v l) (i j:Nat) (hij:i≤j) (hj:j≤l.length):RoB I (cutV v i j) ((l.take j).drop i):=fun w h=>Bs.cut (H w h) i j hij hj
def cutM (v:Value) (i j:Nat):Value:=match v with | .slice A _ c=>.slice (if j=i then A else A.map (·.add i)) (j-i) (j-i) | _=>undef
theorem Row.cutM {w : World} {v : Value} {xs : List Value} (h : Row w v xs) (i j : Nat) (hij : i ≤ j) (hj : j ≤ xs.length) : Row w (cutM v i j) ((xs.take j).drop i) := by
  obtain ⟨A, c, rfl, h1, h2, h3, h4⟩ := h
  have hl : ((xs.take j).drop i).length = j - i := by simp; omega
  refine ⟨if j = i then A else A.map (·.add i), j - i, by simp only [Go.Ecal.cutM, hl], by omega, by omega, fun hn => ?_, fun hp => ?_⟩
  · split at hn
    · omega
    · have : A = none := by cases A <;> simp_all
      have := h3 this; omega
  · obtain ⟨b, o, rfl, hc⟩ := h4 (by omega)
    have hji : ¬ j = i := by omega
    refine ⟨b, o + i, by simp [hji, Addr.add_mid], fun q hq => ?_⟩
    rw [List.getElem?_drop, List.getElem?_take, if_pos (by omega), ← hc (i + q) (by omega), Nat.add_assoc]
theorem RoB.cutM {I:Gh} {v:Value} {l:List UInt8} (H:RoB I v l) (i j:Nat) (hij:i≤j) (hj:j≤l.length):RoB I (cutM v i j) ((l.take j).drop i):=fun w h=>by
 have:=Row.cutM (H w h) i j hij (by simpa using hj)
 rwa [←List.map_take,←List.map_drop] at this
def cutW (v:Value) (sz i j:Nat):Value:=match v with | .slice A _ c=>.slice (if c=i then A else A.map (·.add (i*sz))) (j-i) (c-i) | _=>undef
theorem WRow.cut {w : World} {v : Value} {sz : Nat} {xss : List (List Value)} (h : WRow w v sz xss) (i j : Nat) (hij : i ≤ j) (hj : j ≤ xss.length) : WRow w (cutW v sz i j) sz ((xss.take j).drop i) := by
  obtain ⟨A, c, rfl, h1, h2, h3, h4⟩ := h
  have hl : ((xss.take j).drop i).length = j - i := by simp; omega
  refine ⟨if c = i then A else A.map (·.add (i * sz)), c - i, by simp only [cutW, hl], by omega, by omega, fun hn => ?_, fun hp => ?_⟩
  · split at hn
    · omega
    · have : A = none := by cases A <;> simp_all
      have := h3 this; omega
  · obtain ⟨b, o, rfl, hc⟩ := h4 (by omega)
    have hji : ¬ c = i := by omega
    refine ⟨b, o + i * sz, by simp [hji, Addr.add_mid], fun q cs hq => ?_⟩
    rw [List.getElem?_drop, List.getElem?_take] at hq
    split at hq
    · rw [Nat.add_assoc, ← Nat.add_mul]; exact hc (i + q) cs hq
    · cases hq
theorem RoX.cut {α:Type} {τ:Rep α} {I:Gh} {v:Value} {as1:List α} (H:RoX I v τ as1) (i j:Nat) (hij:i≤j) (hj:j≤as1.length):RoX I (cutW v τ.sz i j) τ ((as1.take j).drop i):=by
 obtain ⟨xss,h,k⟩:=H
 exact ⟨(xss.take j).drop i,fun w hw=>(h w hw).cut i j hij (by rw [k.len];exact hj),(k.take j).drop i⟩
section
variable {P : Program} {N : Nat} {Q : Exit → Env → World → Prop} {E : Env} {w w' : World} {ops : Array Oper} {L : List Oper}
variable {d : Nat} {op : Op} {ty : TypeId} {pos : String} {aft : Array Edge} {dst : Option Tmp} {gd : Option (Nat × Bool)}
variable {t t2 T e k : TypeId} {x y : Operand} {v : Value} {b o sz n : Nat} {cs xs : List Value}
theorem r_slice3 (hx : ev E x = v) (h : Row w v xs) (ht : P.underlying t = some (.slice e)) (hs : (P.info? e).map (·.size) = some 1) (i j : Nat) (hij : i ≤ j) (hj : j ≤ xs.length) {lo hi mx : Option Operand}
    (hlo : (lo = none ∧ i = 0) ∨ ∃ o k, lo = some o ∧ ev E o = .int k (i : Int)) (hhi : ∃ o k, hi = some o ∧ ev E o = .int k (j : Int)) (hmx : ∃ o k, mx = some o ∧ ev E o = .int k (j : Int)) :
    Gives P E w ⟨dst, .slice t x lo hi mx, ty, pos, aft, gd⟩ (cutM v i j) w := by
  obtain ⟨A, c, rfl, h1, h2, h3, h4⟩ := h
  obtain ⟨inf, hinf, hsz⟩ := Option.map_eq_some_iff.1 hs
  have hjc : j ≤ c := by omega
  simp only [Gives, execOp, hx]
  obtain ⟨o3, k3, rfl, hm⟩ := hmx
  obtain ⟨o2, k2, rfl, hh⟩ := hhi
  rcases hlo with ⟨rfl, rfl⟩ | ⟨o1, k1, rfl, hl⟩
  · simp [Instr.sliceAt, run_underlying ht, Instr.slice, Instr.sliceBounds, Instr.sliceBound, asIntOf, sizeOf, typeInfo, hinf, hsz, hjc, hh, hm, cutM]
  · simp [Instr.sliceAt, run_underlying ht, Instr.slice, Instr.sliceBounds, Instr.sliceBound, asIntOf, sizeOf, typeInfo, hinf, hsz, hij, hjc, hl, hh, hm, cutM]
theorem r_sliceX (hx : ev E x = v) (h : XRow w v sz n) (ht : P.underlying t = some (.slice e)) (hs : (P.info? e).map (·.size) = some sz) (i j : Nat) (hij : i ≤ j) (hj : j ≤ n) {lo hi : Option Operand}
    (hlo : (lo = none ∧ i = 0) ∨ ∃ o k, lo = some o ∧ ev E o = .int k (i : Int)) (hhi : (hi = none ∧ j = n) ∨ ∃ o k, hi = some o ∧ ev E o = .int k (j : Int)) :
    Gives P E w ⟨dst, .slice t x lo hi none, ty, pos, aft, gd⟩ (cutW v sz i j) w := by
  obtain ⟨xss, ⟨A, c, rfl, h1, h2, h3, h4⟩, rfl⟩ := h
  obtain ⟨inf, hinf, hsz⟩ := Option.map_eq_some_iff.1 hs
  have hjc : j ≤ c := by omega
  simp only [Gives, execOp, hx]
  rcases hlo with ⟨rfl, rfl⟩ | ⟨o1, k1, rfl, hl⟩ <;> rcases hhi with ⟨rfl, rfl⟩ | ⟨o2, k2, rfl, hh⟩
  · simp [Instr.sliceAt, run_underlying ht, Instr.slice, Instr.sliceBounds, sizeOf, typeInfo, hinf, hsz, cutW]
  · simp [Instr.sliceAt, run_underlying ht, Instr.slice, Instr.sliceBounds, Instr.sliceBound, asIntOf, sizeOf, typeInfo, hinf, hsz, hjc, hh, cutW]
  · simp [Instr.sliceAt, run_underlying ht, Instr.slice, Instr.sliceBounds, Instr.sliceBound, asIntOf, sizeOf, typeInfo, hinf, hsz, hij, hl, cutW]
  · simp [Instr.sliceAt, run_underlying ht, Instr.slice, Instr.sliceBounds, Instr.sliceBound, asIntOf, sizeOf, typeInfo, hinf, hsz, hij, hjc, hl, hh, cutW]
/-- All of a row. -/
theorem r_sliceAll {kl kh : IntKind} {a b : Int} {lo hi : Operand} (hx : ev E x = v) (h : XRow w v sz n) (ht : P.underlying t = some (.slice e)) (hs : (P.info? e).map (·.size) = some sz) (hlo : ev E lo = .int kl a) (hhi : ev E hi = .int kh b) (ha : a = 0) (hb : b = (n : Int)) :
    Gives P E w ⟨dst, .slice t x (some lo) (some hi) none, ty, pos, aft, gd⟩ v w := by
  subst ha hb
  have hr := r_sliceX (dst := dst) (ty := ty) (pos := pos) (aft := aft) (gd := gd) hx h ht hs 0 n (by omega) (by omega) (.inr ⟨lo, kl, rfl, hlo⟩) (.inr ⟨hi, kh, rfl, hhi⟩)
  have hv : cutW v sz 0 n = v := by
    obtain ⟨xss, ⟨A, c, rfl, h1, h2, h3, h4⟩, rfl⟩ := h
    simp only [cutW, Nat.zero_mul, Nat.sub_zero]
    cases A with
    | none => simp
      | some q => simp [Addr.add]
  rwa [hv] at hr
/-- &x.a[i], x.a an array in a variable. -/
theorem r_indexP {kk : IntKind} {i : Int} {n : Nat} (hx : ev E x = ptr b o) (hy : ev E y = .int kk i) (h0 : 0 ≤ i) (h1 : i < n) (ht : P.underlying t = some (.array n e)) (hs : (P.info? e).map (·.size) = some 1) :
    Gives P E w ⟨dst, .indexAddr t x y, ty, pos, aft, gd⟩ (ptr b (o + i.toNat)) w := by
  obtain ⟨inf, hinf, hsz⟩ := Option.map_eq_some_iff.1 hs
  simp only [Gives, execOp, hx, hy, ptr]
  simp [Instr.indexAt, Instr.sureAddr, asIntOf, run_underlying ht, h0, h1, sizeOf, typeInfo, hinf, hsz, Addr.add_mid]
theorem fill_some {p:Nat→Option (Nat×Nat)} {c r cs:Array Value} {i o n:Nat} {v:Value} {l:List (Nat×Value)} (hp:p i=some (o,n)) (hv:v.cells=cs) (hn:cs.size=n) (ho:o+n≤c.size) (hr:Instr.fill p (cs.zipIdx.foldl (fun a (x,j)=>a.setIfInBounds (o+j) x) c) l=some r):Instr.fill p c ((i,v)::l)=some r:=by
 simp only [Instr.fill,hp,hv]
 have h1:¬(cs.size≠n||o+cs.size > c.size)=true:=by simp [hn];omega
 rw [if_neg h1]
 exact hr
/-- append(v, v2...) of things. -/
theorem EL_appX {α : Type} {τ : Rep α} {z : Value} {bytes : Nat} {I : Gh} {R : List HP} {v2 : Value} {as1 bs : List α} (hd : Nat.blt d N = true) (ht : P.underlying t = some (.slice e)) (hz : (P.info? e).map (fun i => (i.zero, i.size, i.bytes)) = some (some z, τ.sz, bytes)) (hzs : z.cells.size = τ.sz) (hsz : 0 < τ.sz)
    (hx : ev E x = v) (hy : ev E y = v2) (S : Sat w I (OwnX e τ v as1 :: R)) (H : RoX I v2 τ bs) (hb : (as1.length + bs.length) * bytes ≤ 140737488355328) (hnm : as1.length + bs.length ≤ 140737488355328)
    (h : ∀ v' w', Sat w' I (OwnX e τ v' (as1 ++ bs) :: R) → EL P N ops Q L (upd E d v') w') :
    EL P N ops Q (⟨some d, .call { callee := .builtin .append, args := #[x, y], argTypes := #[t, t] }, ty, pos, aft, none⟩ :: L) E w := by
  obtain ⟨i, hi, hzz⟩ := Option.map_eq_some_iff.1 hz
  simp only [Prod.mk.injEq] at hzz
  obtain ⟨xss, hA, S⟩ := OwnX.opn S
  have hown := S.own 0 rfl
  obtain ⟨yss, hW, hB⟩ := H
  have hw2 := hW w S.le
  have hys : ∀ cs ∈ yss, cs.length = τ.sz := hB.lens
  have hfl : ∀ l : List (List Value), (∀ cs ∈ l, cs.length = τ.sz) → l.flatten.length = l.length * τ.sz := by
    intro l; induction l with
    | nil => simp
    | cons c r ih => intro hh; rw [List.flatten_cons, List.length_append, ih (fun c hc => hh c (by simp [hc])), hh c (by simp), List.length_cons, Nat.succ_mul]; omega
  obtain ⟨A, c, rfl, r1, r2, r3, r4⟩ := hw2
  have h1 : ∀ u ∈ yss.flatten, u.oneCell' = true := fun u hu => by
    obtain ⟨cs, hc, hu⟩ := List.mem_flatten.1 hu
    obtain ⟨b, _, hr⟩ := hB.left cs hc
    exact τ.one hr u hu
  cases A with
  | none =>
    have hc0 := r3 rfl
    have hy0 : yss = [] := List.eq_nil_of_length_eq_zero (by omega)
    subst hy0 hc0
    have hb0 : bs = [] := List.eq_nil_of_length_eq_zero (by rw [← hB.len]; rfl)
    subst hb0
    refine EL_val v w hd (run_enterBuiltin .append #[x, y] #[t, t] _ _ (Builtin.append_ #[t, t] ty #[v, .slice none 0 0]) (fun c => by simp [builtin, hx, hy]) (run_append_owned_none w 0 t ty e i τ.sz ht hi v as1.length xss.flatten hown)) (h v w ?_)
    rw [List.append_nil]; exact OwnX.cls hA S
  | some a =>
    have hnews : ∀ j u, yss.flatten[j]? = some u → w.cell? (a.add j) = some u := fun j u hu => by
      have hj : j < yss.flatten.length := (List.getElem?_eq_some_iff.1 hu).1
      have hpos : 0 < yss.length := by
        cases yss with
        | nil => simp at hj
        | cons _ _ => simp
      obtain ⟨b, o, hab, hc⟩ := r4 hpos
      obtain rfl := Option.some.inj hab
      rw [Addr.add_mid]
      rw [hfl yss hys] at hj
      have hq : j / τ.sz < yss.length := (Nat.div_lt_iff_lt_mul hsz).2 hj
      have hm : j % τ.sz < yss[j / τ.sz].length := by rw [hys _ (List.getElem_mem hq)]; exact Nat.mod_lt _ hsz
      have e1 := flatten_at hys (List.getElem?_eq_getElem hq) (List.getElem?_eq_getElem hm)
      have e0 : j / τ.sz * τ.sz + j % τ.sz = j := by rw [Nat.mul_comm]; exact Nat.div_add_mod _ _
      rw [e0, hu] at e1
      have := hc (j / τ.sz) _ (List.getElem?_eq_getElem hq) (j % τ.sz) _ (List.getElem?_eq_getElem hm)
      rw [Nat.add_assoc, e0] at this
      rw [this]; exact e1.symm
    obtain ⟨v', w', hr, h2, h3, _, h5⟩ := run_append_own_at (P := P) w 0 t ty e i z τ.sz bytes ht hi hzz.1 hzz.2.1 hzz.2.2 hzs hsz v as1.length xss.flatten hown a yss.length c yss.flatten (hfl _ hys) hnews h1 (by rw [hB.len]; simp only [maxLen]; omega) (by rw [hB.len]; exact hb) (Nat.zero_le _)
    refine EL_val v' w' hd (run_enterBuiltin .append #[x, y] #[t, t] _ _ (Builtin.append_ #[t, t] ty #[v, .slice (some a) yss.length c]) (fun c => by simp [builtin, hx, hy]) hr) (h v' w' ?_)
    have S2 := S.grow 0 rfl h3 h2 h5
    refine OwnX.cls (xss := xss ++ yss) (hA.app hB) ?_
    have e1 : (as1 ++ bs).length = as1.length + yss.length := by rw [List.length_append, hB.len]
    rw [e1, List.flatten_append]
    exact S2
end
/-- A variable that is written no more. -/
theorem Sat.frzB {w:World} {I:Gh} {l:List HP} {b T:Nat} {cs:List Value} (S:Sat w I l) (i:Nat) (hi:l[i]?=some (Blk b T cs)):∃J:Gh,I.le J∧Sat w J (l.eraseIdx i)∧∀w',J.le (gh w')→Arr w' b T cs:=by
 obtain ⟨h,r,h1,h2,h3,h4,h5,h6⟩:=S.focus hi
 obtain ⟨_,_,_,e0⟩:=S
 have hd:h.dis I.h:=PH.dis_mono h2 h5.base
 have hIJ:I.le ⟨h.uni I.h,I.os,I.tape,I.out⟩:=⟨PH.uni_r hd,rfl,rfl,rfl⟩
 refine ⟨⟨h.uni I.h,I.os,I.tape,I.out⟩,hIJ,⟨h.uni r,h5.more hIJ h2,PH.uni_le h3 h4,e0⟩,fun w' k=>?_⟩
 have h9:=PH.le_trans (PH.uni_l h I.h) k.1
 rw [show h=_ from h1] at h9
 exact le_one h9
section
variable {P : Program} {E : Env} {w : World} {ty : TypeId} {pos : String} {aft : Array Edge} {dst : Option Tmp} {gd : Option (Nat × Bool)} {t t2 : TypeId} {x : Operand} {v : Value}
theorem r_iface {ds:TypeDesc} (hx:ev E x=v) (ht:P.underlying t=some ds) (hd:(match ds with | .interface _=>false | _=>true)=true):Gives P E w ⟨dst,.makeInterface t x,ty,pos,aft,gd⟩ (.iface t v) w:=by
 simp only [Gives,execOp,hx]
 cases ds<;>simp_all [Instr.makeInterface,run_underlying ht]
theorem r_assertT {ds:TypeDesc} (hx:ev E x=.iface t v) (ht:P.underlying t=some ds) (hd:(match ds with | .interface _=>false | _=>true)=true):Gives P E w ⟨dst,.typeAssert x t2 t true,ty,pos,aft,gd⟩ (.tuple #[v,.bool true]) w:=by
 simp only [Gives,execOp,hx]
 cases ds<;>simp_all [Instr.typeAssert,run_underlying ht]
theorem r_assertF {ds:TypeDesc} {u:TypeId} {z:Value} (hx:ev E x=.iface u v) (hu:Nat.beq u t=false) (ht:P.underlying t=some ds) (hd:(match ds with | .interface _=>false | _=>true)=true) (hz:(P.info? t).bind (·.zero)=some z):Gives P E w ⟨dst,.typeAssert x t2 t true,ty,pos,aft,gd⟩ (.tuple #[z,.bool false]) w:=by
 have hne:u≠t:=fun h=>by rw [h,Nat.beq_refl] at hu;cases hu
 obtain ⟨i,hi,hz'⟩:=Option.bind_eq_some_iff.1 hz
 simp only [Gives,execOp,hx]
 cases ds<;>simp_all [Instr.typeAssert,run_underlying ht,zeroValue,typeInfo]
end
def isNil (v:Value):Bool:=match v with | .slice none _ _=>true | _=>false
theorem isNil_of {I:Gh} {w:World} {v:Value} {l:List UInt8} (H:RoB I v l) (h:I.le (gh w)) (hl:l≠[]):isNil v=false:=by
 obtain ⟨A,c,rfl,h1,h2,h3,_⟩:=H w h
 cases A with
 | none=>exfalso;have:=h3 rfl;rw [List.length_map] at h1;exact hl (List.eq_nil_of_length_eq_zero (by omega))
 | some a=>rfl
theorem isNil_block {v:Value} {g:Nat} (h:v.ownBlock=some g):isNil v=false:=by
 cases v with
 | slice a l c=>cases a with
  | none=>simp [Value.ownBlock] at h
  | some x=>rfl
 | _=>rfl
theorem isNil_own {I:Gh} {w:World} {v:Value} {l:List UInt8} {R:List HP} (S:Sat w I R) (i:Nat) (hi:R[i]?=some (OwnB v l)) (hl:l≠[]):isNil v=false:=by
 rcases (S.own i hi).2 with ⟨_,h0⟩ | ⟨g,cap,cur,hv,_⟩
 ·exact absurd (List.eq_nil_of_length_eq_zero h0) hl
 ·rw [hv];rfl
/-- What lies in a cell each. -/
def cellN (I:Gh) (v:Value) (l:List UInt8):Prop:=v.oneCell'=true∧RoB I v l∧isNil v=l.isEmpty
theorem cellN.up {I J:Gh} {v:Value} {l:List UInt8} (k:I.le J) (h:cellN I v l):cellN J v l:=⟨h.1,h.2.1.up k,h.2.2⟩
theorem All2.set {α β:Type} {p:α→β→Prop}:∀{l:List α} {m:List β},All2 p l m→∀(i:Nat) {a:α} {b:β},p a b→All2 p (l.set i a) (m.set i b)
 | _,_,.nil,_,_,_,_=>by simp;exact .nil
 | _,_,.cons h r,0,_,_,k=>.cons k r
 | _,_,.cons h r,i+1,_,_,k=>.cons h (r.set i k)
theorem All2.rep {α β:Type} {p:α→β→Prop} {a:α} {b:β} (h:p a b):∀n,All2 p (List.replicate n a) (List.replicate n b)
 | 0=>.nil
 | n+1=>.cons h (All2.rep h n)
section
variable {P : Program} {E : Env} {w : World} {ty : TypeId} {pos : String} {aft : Array Edge} {dst : Option Tmp} {gd : Option (Nat × Bool)} {t t2 e : TypeId} {x y : Operand} {v : Value}
theorem r_eqnil {xs:List Value} (hx:ev E x=v) (hv:Row w v xs) (hy:ev E y=.slice none 0 0) (ht:P.underlying t=some (.slice e)):Gives P E w ⟨dst,.binOp .eql t x y t2,ty,pos,aft,gd⟩ (.bool (isNil v)) w:=by
 obtain ⟨A,c,rfl,_⟩:=hv
 simp only [Gives,execOp,hx,hy,eqGuard]
 cases A<;>simp [binOp,isNil,run_equal_slice_nil w t e _ xs.length c ht]
theorem r_neqnil {xs:List Value} (hx:ev E x=v) (hv:Row w v xs) (hy:ev E y=.slice none 0 0) (ht:P.underlying t=some (.slice e)):Gives P E w ⟨dst,.binOp .neq t x y t2,ty,pos,aft,gd⟩ (.bool (!isNil v)) w:=by
 obtain ⟨A,c,rfl,_⟩:=hv
 simp only [Gives,execOp,hx,hy,eqGuard]
 cases A<;>simp [binOp,isNil,run_equal_slice_nil w t e _ xs.length c ht]
end
end Go.Ecal
