import Derived.Maps.Keyed
import Derived.Test.YthddplghlljdbaaGreatQWorldPostOps
set_option linter.unusedVariables false
set_option linter.unusedSimpArgs false
namespace Go.Ecal
open Go.RowKit Go.Maps
section
variable {P : Program} {N : Nat} {Q : Exit → Env → World → Prop} {E : Env} {w w' : World} {ops : Array Oper} {L : List Oper}
variable {d : Nat} {op : Op} {ty : TypeId} {pos : String} {aft : Array Edge} {dst : Option Tmp} {gd : Option (Nat × Bool)}
variable {t t2 T e k : TypeId} {x y : Operand} {v : Value} {b sz : Nat} {κ α : Type} [DecidableEq κ]
/-- The entries of a map. -/
def entM (enc:κ→Value) (dec:α→Value) (K:List (κ×α)):List (Value×Value):=K.map fun p=>(enc p.1,dec p.2)
/-- What stands at a key. -/
def lkM:List (κ×α)→κ→Option α
 | [],_=>none
 | (a,x)::r,k=>if a=k then some x else lkM r k
/-- Each key stands once. -/
abbrev Once (K:List (κ×α)):Prop:=K.Pairwise fun p q=>p.1≠q.1
theorem lkM_none {K:List (κ×α)} {k:κ}:lkM K k=none↔∀p∈K,p.1≠k:=by
 induction K with
 | nil=>simp [lkM]
 | cons p r ih =>
  obtain ⟨a,x⟩:=p
  by_cases h:a=k
  ·simp [lkM,h]
  ·simp [lkM,h,ih]
theorem lkM_get {K:List (κ×α)} (h1:Once K) {k:κ} {j:Nat} {x:α} (hj:K[j]?=some (k,x)):lkM K k=some x:=by
 induction K generalizing j with
 | nil=>simp at hj
 | cons p r ih =>
  obtain ⟨a,y⟩:=p
  obtain ⟨h2,h3⟩:=List.pairwise_cons.1 h1
  cases j with
  | zero=>simp at hj;obtain ⟨rfl,rfl⟩:=hj;simp [lkM]
  | succ j =>
   have hj2:r[j]?=some (k,x):=by simpa using hj
   have:a≠k:=h2 (k,x) (List.mem_of_getElem? hj2)
   simp [lkM,this,ih h3 hj2]
theorem mp_below {o:Obj} (h:w.heap[b]?=some o) (hb:Below w.heap.size w w'):w'.heap[b]?=some o:=hp_below hb b o h
/-- v, ok := m[k] -/
theorem r_lookK2 {enc : κ → Value} {dec : α → Value} {K : List (κ × α)} {kk : κ} {arr : Array MapEntry} {clock : Nat} {z : α} (Y : Keyed P k) (ht : P.underlying t = some (.map k e)) (hz : (P.info? e).bind (·.zero) = some (dec z)) (hx : ev E x = .map (some b)) (hy : ev E y = enc kk) (hb : w.heap[b]? = some (.map arr clock))
    (he : arr.toList.map (fun e => (e.key, e.val)) = entM enc dec K) (hK : Once K) (hk : KV P k (enc kk)) (hall : ∀ p ∈ K, KV P k (enc p.1)) (hinj : ∀ p ∈ K, enc p.1 = enc kk → p.1 = kk) :
    Gives P E w ⟨dst, .lookup t x y true, ty, pos, aft, gd⟩ (.tuple #[dec ((lkM K kk).getD z), .bool (lkM K kk).isSome]) w ∧ Gives P E w ⟨dst, .lookup t x y false, ty, pos, aft, gd⟩ (dec ((lkM K kk).getD z)) w := by
  obtain ⟨lk, hlk⟩ := hk
  obtain ⟨i, hi, hz'⟩ := Option.bind_eq_some_iff.1 hz
  have hall' : ∀ e ∈ arr.toList, ∃ l, keyOf P k e.key = some l := fun en hen => by
    have : (en.key, en.val) ∈ entM enc dec K := by rw [← he]; exact List.mem_map.2 ⟨en, hen, rfl⟩
    obtain ⟨q, hq, e1⟩ := List.mem_map.1 this
    have := hall q hq; rw [show enc q.1 = en.key from congrArg Prod.fst e1] at this; exact this
  have hg := MapKept.run_getObj_map (P := P) hb
  simp only [Gives, execOp, hx, hy]
  rcases Y.find w hlk arr.toList hall' with ⟨h1, h2⟩ | ⟨j, e0, h1, h2, h3⟩
  · have h4 : lkM K kk = none := lkM_none.2 fun p hp h => by
      have : (enc p.1, dec p.2) ∈ arr.toList.map (fun e => (e.key, e.val)) := by rw [he]; exact List.mem_map.2 ⟨p, hp, rfl⟩
      obtain ⟨en, hen, e1⟩ := List.mem_map.1 this
      exact h2 en hen (by rw [← h]; exact congrArg Prod.fst e1)
    simp [Instr.lookup, run_underlying ht, hg, Y.check w _ hlk, h1, zeroValue, typeInfo, hi, hz', h4]
  · have h4 : (entM enc dec K)[j]? = some (enc kk, e0.val) := by rw [← he, List.getElem?_map, h2]; simp [h3]
    rw [entM, List.getElem?_map] at h4
    obtain ⟨q, hq, e1⟩ := Option.map_eq_some_iff.1 h4
    have e2 : enc q.1 = enc kk := congrArg Prod.fst e1
    have e3 : dec q.2 = e0.val := congrArg Prod.snd e1
    have e4 := hinj q (List.mem_of_getElem? hq) e2
    have h5 : lkM K kk = some q.2 := lkM_get hK (j := j) (by rw [hq, ← e4])
    simp [Instr.lookup, run_underlying ht, hg, Y.check w _ hlk, h1, h5, e3]
theorem r_lookK1 {enc : κ → Value} {dec : α → Value} {K : List (κ × α)} {kk : κ} {arr : Array MapEntry} {clock : Nat} {z a : α} (Y : Keyed P k) (ht : P.underlying t = some (.map k e)) (hz : (P.info? e).bind (·.zero) = some (dec z)) (hx : ev E x = .map (some b)) (hy : ev E y = enc kk) (hb : w.heap[b]? = some (.map arr clock))
    (he : arr.toList.map (fun e => (e.key, e.val)) = entM enc dec K) (hK : Once K) (hk : KV P k (enc kk)) (hall : ∀ p ∈ K, KV P k (enc p.1)) (hinj : ∀ p ∈ K, enc p.1 = enc kk → p.1 = kk) (ho : (lkM K kk).getD z = a) :
    Gives P E w ⟨dst, .lookup t x y false, ty, pos, aft, gd⟩ (dec a) w := by
  subst ho; exact (r_lookK2 Y ht hz hx hy hb he hK hk hall hinj).2
/-- What is put at a key: in the place of what stands there,or last. -/
def putM:List (κ×α)→κ→α→List (κ×α)
 | [],k,u=>[(k,u)]
 | q::r,k,u=>if q.1=k then (k,u)::r else q::putM r k u
theorem putM_new {K:List (κ×α)} {k:κ} {u:α} (h:∀p∈K,p.1≠k):putM K k u=K++[(k,u)]:=by
 induction K with
 | nil=>rfl
 | cons q r ih=>rw [putM,if_neg (h q (by simp)),ih fun p hp=>h p (by simp [hp])];rfl
theorem putM_old {K:List (κ×α)} {k:κ} {u:α} (h1:Once K) {j:Nat} {q:κ×α} (hj:K[j]?=some q) (hq:q.1=k):putM K k u=K.set j (k,u):=by
 induction K generalizing j with
 | nil=>simp at hj
 | cons p r ih =>
  obtain ⟨h2,h3⟩:=List.pairwise_cons.1 h1
  cases j with
  | zero=>simp at hj;subst hj;rw [putM,if_pos hq];rfl
  | succ j =>
   have hj2:r[j]?=some q:=by simpa using hj
   rw [putM,if_neg (fun e=>h2 q (List.mem_of_getElem? hj2) (e.trans hq.symm)),ih h3 hj2];rfl
theorem drop_old {K:List (κ×α)} {k:κ} (h1:Once K) {j:Nat} {q:κ×α} (hj:K[j]?=some q) (hq:q.1=k):K.filter (fun p=>!decide (p.1=k))=K.eraseIdx j:=by
 induction K generalizing j with
 | nil=>simp at hj
 | cons p r ih =>
  obtain ⟨h2,h3⟩:=List.pairwise_cons.1 h1
  cases j with
  | zero =>
   simp at hj;subst hj
   rw [List.filter_cons_of_neg (by simp [hq])]
   exact List.filter_eq_self.2 fun y hy=>by have:=h2 y hy;simp;exact fun e=>this (hq.trans e.symm)
  | succ j =>
   have hj2:r[j]?=some q:=by simpa using hj
   have hne:¬p.1=k:=fun e=>h2 q (List.mem_of_getElem? hj2) (e.trans hq.symm)
   rw [List.filter_cons_of_pos (by simp [hne]),ih h3 hj2];rfl
/-- Each entry has a stamp of its own,below the clock. -/
def Stmp (arr:Array MapEntry) (clock:Nat):Prop:=(arr.toList.map (·.born)).Nodup∧∀e∈arr.toList,e.born<clock
/-- What is still to come of a map,weighed. -/
def muL (wt:Value→Nat) (seen:Array Nat):List MapEntry→Nat
 | []=>0
 | e::r=>(if e.born∈seen.toList then 0 else wt e.key)+muL wt seen r
def muM (wt:Value→Nat) (arr:Array MapEntry) (seen:Array Nat):Nat:=muL wt seen arr.toList
theorem muL_app (wt:Value→Nat) (seen:Array Nat) (e:MapEntry):∀l:List MapEntry,muL wt seen (l++[e])≤muL wt seen l+wt e.key
 | []=>by simp only [List.nil_append,muL];split<;>omega
 | a::l=>by have:=muL_app wt seen e l;simp only [List.cons_append,muL];omega
theorem muL_sub (wt:Value→Nat) (seen:Array Nat):∀{l m:List MapEntry},l.Sublist m→muL wt seen l≤muL wt seen m
 | _,_,.slnil=>Nat.le_refl _
 | _,_,.cons a h=>by have:=muL_sub wt seen h;simp only [muL];omega
 | _,_,.cons_cons a h=>by have:=muL_sub wt seen h;simp only [muL];omega
theorem muL_same (wt:Value→Nat) (seen:Array Nat):∀{l m:List MapEntry},l.map (fun e=>(e.born,e.key))=m.map (fun e=>(e.born,e.key))→muL wt seen l=muL wt seen m
 | [],[],_=>rfl
 | a::l,b::m,h=>by
  simp only [List.map_cons,List.cons.injEq,Prod.mk.injEq] at h
  rw [muL,muL,h.1.1,h.1.2,muL_same wt seen h.2]
 | [],_::_,h=>by simp at h
 | _::_,[],h=>by simp at h
/-- Nothing but what is still there has been made of arr. -/
structure Turned (arr:Array MapEntry) (clock:Nat) (arr':Array MapEntry) (clock':Nat) (key:Value):Prop where
 stmp:Stmp arr clock→Stmp arr' clock'
 old:∀n,n≤clock→(∃e∈arr.toList,e.born<n)→∃e∈arr'.toList,e.born<n
 mu:∀wt seen,muM wt arr' seen≤muM wt arr seen+wt key
 le:clock≤clock'
 mem:∀e∈arr'.toList,e.key=key∨e∈arr.toList
theorem turn_push {arr:Array MapEntry} {clock:Nat} {key v:Value}:Turned arr clock (arr.push ⟨key,v,clock⟩) (clock+1) key:=by
 refine ⟨fun ⟨h1,h2⟩=>⟨?_,fun e he=>?_⟩,fun n _ ⟨e,he,hn⟩=>⟨e,by simp only [Array.toList_push];exact List.mem_append_left _ he,hn⟩,fun wt seen=>?_,by omega,fun e he=>?_⟩
 ·simp only [Array.toList_push,List.map_append,List.map_cons,List.map_nil]
  refine List.nodup_append.2 ⟨h1,by simp,fun a ha b hb=>?_⟩
  obtain ⟨e,he,rfl⟩:=List.mem_map.1 ha
  have:=h2 e he
  rw [List.mem_singleton.1 hb];omega
 ·simp only [Array.toList_push] at he
  rcases List.mem_append.1 he with he | he
  ·have:=h2 e he;omega
  ·rw [List.mem_singleton.1 he];exact Nat.lt_succ_self _
 ·unfold muM;rw [Array.toList_push];exact muL_app wt seen _ _
 ·rw [Array.toList_push] at he
  rcases List.mem_append.1 he with he | he
  ·exact .inr he
  ·rw [List.mem_singleton.1 he];exact .inl rfl
theorem modify_map {arr:Array MapEntry} {j:Nat} {e0:MapEntry} {key v:Value} (h2:arr.toList[j]?=some e0) (h3:e0.key=key):(arr.modify j fun e=>{ e with key:=key,val:=v }).toList.map (fun e=>(e.born,e.key))=arr.toList.map (fun e=>(e.born,e.key)):=by
 refine List.ext_getElem? fun i=>?_
 rw [List.getElem?_map,List.getElem?_map,Array.getElem?_toList,Array.getElem?_modify]
 have ha:arr[j]?=some e0:=by rw [←Array.getElem?_toList];exact h2
 by_cases hi:j=i
 ·subst hi;rw [if_pos rfl,Array.getElem?_toList,ha];simp [h3]
 ·rw [if_neg hi,Array.getElem?_toList]
theorem turn_mod {arr : Array MapEntry} {clock j : Nat} {e0 : MapEntry} {key v : Value} (h2 : arr.toList[j]? = some e0) (h3 : e0.key = key) : Turned arr clock (arr.modify j fun e => { e with key := key, val := v }) clock key := by
  have hm := modify_map (v := v) h2 h3
  have hb : (arr.modify j fun e => { e with key := key, val := v }).toList.map (·.born) = arr.toList.map (·.born) := by
    have := congrArg (List.map Prod.fst) hm
    simpa only [List.map_map, Function.comp_def] using this
  have hin : ∀ n, n ∈ (arr.modify j fun e => { e with key := key, val := v }).toList.map (·.born) ↔ n ∈ arr.toList.map (·.born) := fun n => by rw [hb]
  refine ⟨fun ⟨h1, h4⟩ => ⟨by rw [hb]; exact h1, fun e he => ?_⟩, fun n _ ⟨e, he, hn⟩ => ?_, fun wt seen => ?_, Nat.le_refl _, fun e he => ?_⟩
  · obtain ⟨x, hx, hxe⟩ := List.mem_map.1 ((hin e.born).1 (List.mem_map.2 ⟨e, he, rfl⟩))
    have := h4 x hx; omega
  · obtain ⟨x, hx, hxe⟩ := List.mem_map.1 ((hin e.born).2 (List.mem_map.2 ⟨e, he, rfl⟩))
    exact ⟨x, hx, by omega⟩
  · unfold muM; rw [muL_same wt seen hm]; omega
  · obtain ⟨i, hi⟩ := List.getElem?_of_mem he
    rw [Array.getElem?_toList, Array.getElem?_modify] at hi
    split at hi
    · cases hx : arr[i]? with
      | none => rw [hx] at hi; cases hi
      | some y => rw [hx] at hi; exact .inl (by rw [← Option.some.inj hi])
    · exact .inr (List.mem_of_getElem? (by rw [Array.getElem?_toList]; exact hi))
/-- m[k] = v -/
theorem EL_putK {enc : κ → Value} {dec : α → Value} {K : List (κ × α)} {kk : κ} {u : α} {arr : Array MapEntry} {clock : Nat} {z : Operand} (Y : Keyed P k) (ht : P.underlying t = some (.map k e)) (hx : ev E x = .map (some b)) (hy : ev E y = enc kk) (hz : ev E z = dec u) (hb : w.heap[b]? = some (.map arr clock))
    (he : arr.toList.map (fun e => (e.key, e.val)) = entM enc dec K) (hK : Once K) (hk : KV P k (enc kk)) (hall : ∀ p ∈ K, KV P k (enc p.1)) (hinj : ∀ p ∈ K, enc p.1 = enc kk → p.1 = kk)
    (h : ∀ w' arr' clock', w'.heap[b]? = some (.map arr' clock') → arr'.toList.map (fun e => (e.key, e.val)) = entM enc dec (putM K kk u) → w.grownBy w' (some b) → Turned arr clock arr' clock' (enc kk) → EL P N ops Q L E w') :
    EL P N ops Q (⟨none, .mapUpdate t x y z, ty, pos, aft, none⟩ :: L) E w := by
  obtain ⟨lk, hlk⟩ := hk
  have hall' : ∀ e ∈ arr.toList, ∃ l, keyOf P k e.key = some l := fun en hen => by
    have : (en.key, en.val) ∈ entM enc dec K := by rw [← he]; exact List.mem_map.2 ⟨en, hen, rfl⟩
    obtain ⟨q, hq, e1⟩ := List.mem_map.1 this
    have := hall q hq; rw [show enc q.1 = en.key from congrArg Prod.fst e1] at this; exact this
  have hg := MapKept.run_getObj_map (P := P) hb
  rcases Y.find w hlk arr.toList hall' with ⟨h1, h2⟩ | ⟨j, e0, h1, h2, h3⟩
  · have hno : ∀ p ∈ K, p.1 ≠ kk := fun p hp hh => by
      have : (enc p.1, dec p.2) ∈ arr.toList.map (fun e => (e.key, e.val)) := by rw [he]; exact List.mem_map.2 ⟨p, hp, rfl⟩
      obtain ⟨en, hen, e1⟩ := List.mem_map.1 this
      exact h2 en hen (by rw [← hh]; exact congrArg Prod.fst e1)
    have hs := MapKept.run_setObj_map (P := P) (.map (arr.push ⟨enc kk, dec u, clock⟩) (clock + 1)) hb
    refine EL_do { w with heap := w.heap.setIfInBounds b (.map (arr.push ⟨enc kk, dec u, clock⟩) (clock + 1)) } ?_ (h _ (arr.push ⟨enc kk, dec u, clock⟩) (clock + 1) (MapKept.heap_set hb).1 (by rw [putM_new hno]; simp [he, entM]) ⟨rfl, rfl, rfl, by simp, fun q _ hq => (MapKept.heap_set hb).2 q (fun hh => hq (by rw [hh]))⟩ turn_push)
    simp only [Gives, execOp, hx, hy, hz]
    simp [Instr.mapUpdate, run_underlying ht, hg, Y.check w _ hlk, h1, hs]
  · have h4 : (entM enc dec K)[j]? = some (enc kk, e0.val) := by rw [← he, List.getElem?_map, h2]; simp [h3]
    rw [entM, List.getElem?_map] at h4
    obtain ⟨q, hq, e1⟩ := Option.map_eq_some_iff.1 h4
    have hqk := hinj q (List.mem_of_getElem? hq) (congrArg Prod.fst e1)
    have ha : arr[j]? = some e0 := by rw [← Array.getElem?_toList]; exact h2
    have hs := MapKept.run_setObj_map (P := P) (.map (arr.modify j fun e => { e with key := enc kk, val := dec u }) clock) hb
    refine EL_do { w with heap := w.heap.setIfInBounds b (.map (arr.modify j fun e => { e with key := enc kk, val := dec u }) clock) } ?_ (h _ (arr.modify j fun e => { e with key := enc kk, val := dec u }) clock (MapKept.heap_set hb).1 ?_ ⟨rfl, rfl, rfl, by simp, fun q _ hq => (MapKept.heap_set hb).2 q (fun hh => hq (by rw [hh]))⟩ (turn_mod h2 h3))
    · have hst := Y.stays w hlk
      simp only [Gives, execOp, hx, hy, hz]
      simp [Instr.mapUpdate, run_underlying ht, hg, Y.check w _ hlk, h1, ha, h3, hst, hs]
    · rw [putM_old hK hq hqk, entM, List.map_set, show List.map (fun p => (enc p.1, dec p.2)) K = arr.toList.map (fun e => (e.key, e.val)) from he.symm]
      refine List.ext_getElem? fun i => ?_
      rw [List.getElem?_map, Array.getElem?_toList, Array.getElem?_modify]
      by_cases hi : j = i
      · subst hi
        have hj : j < (arr.toList.map (fun e => (e.key, e.val))).length := by rw [List.length_map]; exact (List.getElem?_eq_some_iff.1 h2).1
        rw [List.getElem?_set_self hj, if_pos rfl, ha]; rfl
      · rw [List.getElem?_set_ne hi, if_neg hi, List.getElem?_map, Array.getElem?_toList]
theorem map_erase {α β:Type} (f:α→β):∀(l:List α) (j:Nat),(l.eraseIdx j).map f=(l.map f).eraseIdx j
 | [],_=>rfl
 | _::_,0=>rfl
 | a::l,j+1=>by rw [List.eraseIdx_cons_succ,List.map_cons,List.map_cons,List.eraseIdx_cons_succ,map_erase f l j]
/-- An operation without a place for what it yields. -/
theorem EL_void {v : Value} (w' : World) (hrun : (execOp (ev E) ⟨none, op, ty, pos, aft, none⟩).run P w = .ok (.value v) w')
    (h : EL P N ops Q L E w') : EL P N ops Q (⟨none, op, ty, pos, aft, none⟩ :: L) E w := fun a hs =>
  wpList_plain rfl fun K hK => by
    unfold Oper.wp
    rw [hs.eval, hrun]
    exact hK _ _ (h _ hs)
/-- delete(m, k) -/
theorem EL_dropK {enc : κ → Value} {dec : α → Value} {K : List (κ × α)} {kk : κ} {arr : Array MapEntry} {clock : Nat} (Y : Keyed P k) (ht : P.underlying t = some (.map k e)) (hx : ev E x = .map (some b)) (hy : ev E y = enc kk) (hb : w.heap[b]? = some (.map arr clock))
    (he : arr.toList.map (fun e => (e.key, e.val)) = entM enc dec K) (hK : Once K) (hk : KV P k (enc kk)) (hall : ∀ p ∈ K, KV P k (enc p.1)) (hinj : ∀ p ∈ K, enc p.1 = enc kk → p.1 = kk)
    (h : ∀ w' arr', w'.heap[b]? = some (.map arr' clock) → arr'.toList.map (fun e => (e.key, e.val)) = entM enc dec (K.filter fun p => !decide (p.1 = kk)) → w.grownBy w' (some b) → arr'.toList.Sublist arr.toList → EL P N ops Q L E w') :
    EL P N ops Q (⟨none, .call { callee := .builtin .delete, args := #[x, y], argTypes := #[t, k] }, ty, pos, aft, none⟩ :: L) E w := by
  obtain ⟨lk, hlk⟩ := hk
  have hall' : ∀ e ∈ arr.toList, ∃ l, keyOf P k e.key = some l := fun en hen => by
    have : (en.key, en.val) ∈ entM enc dec K := by rw [← he]; exact List.mem_map.2 ⟨en, hen, rfl⟩
    obtain ⟨q, hq, e1⟩ := List.mem_map.1 this
    have := hall q hq; rw [show enc q.1 = en.key from congrArg Prod.fst e1] at this; exact this
  have hg := MapKept.run_getObj_map (P := P) hb
  have hset : ∀ arr' : Array MapEntry, w.grownBy { w with heap := w.heap.setIfInBounds b (.map arr' clock) } (some b) := fun arr' =>
    ⟨rfl, rfl, rfl, by simp, fun q _ hq => (MapKept.heap_set hb).2 q (fun hh => hq (by rw [hh]))⟩
  rcases Y.find w hlk arr.toList hall' with ⟨h1, h2⟩ | ⟨j, e0, h1, h2, h3⟩
  · have hno : ∀ p ∈ K, ¬ p.1 = kk := fun p hp hh => by
      have : (enc p.1, dec p.2) ∈ arr.toList.map (fun e => (e.key, e.val)) := by rw [he]; exact List.mem_map.2 ⟨p, hp, rfl⟩
      obtain ⟨en, hen, e1⟩ := List.mem_map.1 this
      exact h2 en hen (by rw [← hh]; exact congrArg Prod.fst e1)
    have hs := MapKept.run_setObj_map (P := P) (.map arr clock) hb
    have hr : (Builtin.delete_ #[t, k] ty #[.map (some b), enc kk]).run P w = .ok (.tuple #[]) { w with heap := w.heap.setIfInBounds b (.map arr clock) } := by
      simp [Builtin.delete_, run_underlying ht, hg, Y.check w _ hlk, h1, hs]
    exact EL_void _ (run_enterBuiltin .delete #[x, y] #[t, k] _ _ (Builtin.delete_ #[t, k] ty #[.map (some b), enc kk]) (fun c => by simp [builtin, hx, hy]) hr)
      (h _ arr (MapKept.heap_set hb).1 (by rw [he, List.filter_eq_self.2 fun p hp => by simpa using hno p hp]) (hset arr) (List.Sublist.refl _))
  · have h4 : (entM enc dec K)[j]? = some (enc kk, e0.val) := by rw [← he, List.getElem?_map, h2]; simp [h3]
    rw [entM, List.getElem?_map] at h4
    obtain ⟨q, hq, e1⟩ := Option.map_eq_some_iff.1 h4
    have hqk := hinj q (List.mem_of_getElem? hq) (congrArg Prod.fst e1)
    have hs := MapKept.run_setObj_map (P := P) (.map (arr.eraseIdxIfInBounds j) clock) hb
    have hj : j < arr.size := by have := (List.getElem?_eq_some_iff.1 h2).1; simpa using this
    have hr : (Builtin.delete_ #[t, k] ty #[.map (some b), enc kk]).run P w = .ok (.tuple #[]) { w with heap := w.heap.setIfInBounds b (.map (arr.eraseIdxIfInBounds j) clock) } := by
      simp [Builtin.delete_, run_underlying ht, hg, Y.check w _ hlk, h1, hs]
    refine EL_void _ (run_enterBuiltin .delete #[x, y] #[t, k] _ _ (Builtin.delete_ #[t, k] ty #[.map (some b), enc kk]) (fun c => by simp [builtin, hx, hy]) hr)
      (h _ (arr.eraseIdxIfInBounds j) (MapKept.heap_set hb).1 ?_ (hset _) (by rw [Array.eraseIdxIfInBounds, dif_pos hj, Array.toList_eraseIdx]; exact List.eraseIdx_sublist _ _))
    rw [drop_old hK hq hqk, entM, map_erase, show List.map (fun p => (enc p.1, dec p.2)) K = arr.toList.map (fun e => (e.key, e.val)) from he.symm, ← map_erase]
    congr 1
    rw [Array.eraseIdxIfInBounds, dif_pos hj, Array.toList_eraseIdx]
end
end Go.Ecal
