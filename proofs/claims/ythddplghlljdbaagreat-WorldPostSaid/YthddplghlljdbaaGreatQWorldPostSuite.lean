import Derived.Test.YthddplghlljdbaaGreatProg
import Derived.Test.YthddplghlljdbaaGreatQWorldPostRep
set_option linter.unusedVariables false
set_option linter.unusedSimpArgs false
namespace Go.Proofs.YthddplghlljdbaaGreat
open Go.RowKit Go.Ecal
/-- One of a suite's list. -/
structure Thing where
 sort:UInt8
 key:List UInt8
 nonce:List UInt8
 text:List UInt8
 other:List UInt8
 deriving DecidableEq
def Thing.cells (t:Thing):List Value:=[byt t.sort,.string (str t.key),.string (str t.nonce),.string (str t.text),.string (str t.other)]
abbrev Thing.val (t:Thing):Value:=.agg t.cells.toArray
def Thing.ok (t:Thing):Prop:=t.key.length≤1000000000∧t.nonce.length≤1000000000∧t.text.length≤1000000000∧t.other.length≤1000000000
/-- Is it one that is found again? -/
def Thing.once (t:Thing):Bool:=t.sort == 72||t.sort == 77
theorem byt_inj {a b:UInt8} (h:byt a=byt b):a=b:=by
 have:(a.toNat:Int)=b.toNat:=by injection h
 exact UInt8.toNat_inj.1 (by omega)
theorem cells_inj {a b:Thing} (h:a.cells=b.cells):a=b:=by
 simp only [Thing.cells,List.cons.injEq,Value.string.injEq,str_inj,and_true] at h
 obtain ⟨h0,h1,h2,h3,h4⟩:=h
 cases a;cases b
 have:=byt_inj h0
 simp_all
theorem val_inj {a b : Thing} : a.val = b.val ↔ a = b :=
  ⟨fun h => cells_inj (by have h2 : a.cells.toArray = b.cells.toArray := by injection h
                          simpa using congrArg Array.toList h2), fun h => by rw [h]⟩
theorem law_thing:WideMaps.KeyLaw Tryz.prog 208:=deep_law (m:=100) (by decide) (by kernel_rfl) (by kernel_rfl) (by kernel_rfl)
theorem kv_thing {t:Thing} (h:t.ok):KV Tryz.prog 208 t.val:=by
 obtain ⟨h1,h2,h3,h4⟩:=h
 have hsz:∀l:List UInt8,(str l).size=l.length:=fun l=>by simp [str,ByteArray.size]
 have e1:Tryz.prog.cellsOf 5=1:=by kernel_rfl
 have e2:Tryz.prog.cellsOf 9=1:=by kernel_rfl
 have e3:Tryz.prog.cellsOf 208=5:=by kernel_rfl
 have hwf:(Lit.int .u8 (t.sort.toNat:Int)).wf=true:=by
  have:=t.sort.toNat_lt
  simp [Lit.wf,IntKind.wrap,IntKind.bits,IntKind.signed,IntKind.min,IntKind.max]
  omega
 obtain ⟨n,hn⟩:∃n,Tryz.prog.types.size=n+1:=⟨Tryz.prog.types.size-1,by kernel_rfl⟩
 have h5:Tryz.prog.keyLits (Tryz.prog.types.size+1) 208 t.cells=some [.int .u8 t.sort.toNat,.string t.key,.string t.nonce,.string t.text,.string t.other]:=by
  rw [hn]
  simp only [Program.keyLits,Tryz.underlying208,Thing.cells]
  simp [e1,e2,e3,Program.keyLits,Tryz.underlying5,Tryz.underlying9,byt,hwf,hsz,maxLen,(show t.key.length≤9223372036854775807 by omega),(show t.nonce.length≤9223372036854775807 by omega),(show t.text.length≤9223372036854775807 by omega),(show t.other.length≤9223372036854775807 by omega)]
  simp [str]
 refine ⟨.string (keyBytes [.int .u8 t.sort.toNat,.string t.key,.string t.nonce,.string t.text,.string t.other]),?_⟩
 unfold keyOf
 rw [Tryz.underlying208]
 have hk:Tryz.prog.keyType 208=true:=by kernel_rfl
 have hf:Value.formed Tryz.prog 208 t.val=true:=by
  simp [Value.formed,Tryz.underlying208,Thing.cells,e3]
 generalize hg:Tryz.prog.types.size+1=q at h5 ⊢
 have h6:Tryz.prog.keyLits q 208 t.val.cells.toList=_:=h5
 simp only [hk,hf,Bool.and_self,if_true,h6,Option.map_some]
theorem cells_len (t:Thing):t.cells.length=5:=rfl
theorem cells_one (t:Thing):∀u∈t.cells.toArray.toList,u.oneCell'=true:=by
 intro u hu
 simp only [Thing.cells,List.mem_cons,List.not_mem_nil,or_false,byt] at hu
 rcases hu with rfl | rfl | rfl | rfl | rfl<;>rfl
def things (L:List Thing):List (List Value):=L.map Thing.cells
theorem things_all (L:List Thing):∀cs∈things L,cs.length=5:=by
 intro cs h;obtain ⟨t,_,rfl⟩:=List.mem_map.1 h;rfl
theorem things_len (L:List Thing):(things L).length=L.length:=by simp [things]
theorem things_at {L:List Thing} {i:Nat} {t:Thing} (h:L[i]?=some t):(things L)[i]?=some t.cells:=by simp [things,h]
def idx (t:Thing) (L:List Thing):Option Nat:=L.findIdx? (fun u=>decide (u=t))
theorem idx_some {t:Thing} {L:List Thing} {i:Nat} (h:idx t L=some i):L[i]?=some t∧i<L.length:=by
 obtain ⟨hi,h1,_⟩:=List.findIdx?_eq_some_iff_getElem.1 h
 refine ⟨?_,hi⟩
 rw [List.getElem?_eq_getElem hi]
 simpa using h1
theorem idx_none {t:Thing} {L:List Thing} (h:idx t L=none):t∉L:=by
 intro hm
 have:=List.findIdx?_eq_none_iff.1 h t hm
 simp at this
theorem idx_app {t u:Thing} {L:List Thing} {i:Nat} (h:idx t L=some i):idx t (L++[u])=some i:=by
 unfold idx at *;rw [List.findIdx?_append,h];rfl
theorem idx_last {t:Thing} {L:List Thing} (h:idx t L=none):idx t (L++[t])=some L.length:=by
 unfold idx at *;rw [List.findIdx?_append,h];simp
def onceN (t:Thing) (L:List Thing):Nat:=match idx t L with | some i=>i+1 | none=>L.length+1
def onceL (t:Thing) (L:List Thing):List Thing:=match idx t L with | some _=>L | none=>L++[t]
/-- The map of those that are found again. -/
def KOf (K:List (Thing×Nat)) (L:List Thing):Prop:=(∀q∈K,∃i,idx q.1 L=some i∧q.2=i+1)∧∀t∈L,t.once=true→∃n,(t,n)∈K
def entE (K:List (Thing×Nat)):List (Value×Value):=K.map fun q=>(q.1.val,(.int .i64 (q.2:Int):Value))
theorem KOf.nil:KOf [] []:=⟨fun q h=>(by cases h),fun t h=>(by cases h)⟩
theorem KOf.other {K:List (Thing×Nat)} {L:List Thing} {t:Thing} (h:KOf K L) (ht:t.once=false):KOf K (L++[t]):=by
 refine ⟨fun q hq=>?_,fun u hu ho=>?_⟩
 ·obtain ⟨i,h1,h2⟩:=h.1 q hq;exact ⟨i,idx_app h1,h2⟩
 ·rcases List.mem_append.1 hu with h1 | h1
  ·exact h.2 u h1 ho
  ·simp only [List.mem_singleton] at h1;rw [h1,ht] at ho;cases ho
theorem KOf.new {K:List (Thing×Nat)} {L:List Thing} {t:Thing} (h:KOf K L) (hn:idx t L=none):KOf (K++[(t,L.length+1)]) (L++[t]):=by
 refine ⟨fun q hq=>?_,fun u hu ho=>?_⟩
 ·rcases List.mem_append.1 hq with h1 | h1
  ·obtain ⟨i,h2,h3⟩:=h.1 q h1;exact ⟨i,idx_app h2,h3⟩
  ·simp only [List.mem_singleton] at h1;subst h1;exact ⟨L.length,idx_last hn,rfl⟩
 ·rcases List.mem_append.1 hu with h1 | h1
  ·obtain ⟨n,hm⟩:=h.2 u h1 ho;exact ⟨n,List.mem_append.2 (.inl hm)⟩
  ·simp only [List.mem_singleton] at h1;subst h1;exact ⟨L.length+1,by simp⟩
theorem KOf.mem {K:List (Thing×Nat)} {L:List Thing} (h:KOf K L) {t:Thing} {n:Nat} (hm:(t,n)∈K):t∈L∧n=onceN t L:=by
 obtain ⟨i,h1,h2⟩:=h.1 _ hm
 exact ⟨List.mem_of_getElem? (idx_some h1).1,by simp only [onceN,h1];exact h2⟩
theorem ent_kv {K:List (Thing×Nat)} {L:List Thing} (h:KOf K L) (hL:∀t∈L,t.ok):∀p∈entE K,KV Tryz.prog 208 p.1:=by
 intro p hp;obtain ⟨q,hq,rfl⟩:=List.mem_map.1 hp
 exact kv_thing (hL _ (h.mem (n:=q.2) hq).1)
theorem ent_no {K:List (Thing×Nat)} {L:List Thing} (h:KOf K L) {t:Thing} (hn:idx t L=none):∀p∈entE K,p.1≠t.val:=by
 intro p hp he;obtain ⟨q,hq,rfl⟩:=List.mem_map.1 hp
 have:q.1=t:=val_inj.1 he
 exact idx_none hn (by rw [←this];exact (h.mem (n:=q.2) hq).1)
/-- What the look-up tells. -/
def lookN (t:Thing) (L:List Thing):Int:=match idx t L with | some i=>(i:Int)+1 | none=>0
theorem look_no {K:List (Thing×Nat)} {L:List Thing} {t:Thing} (h:KOf K L) (ho:t.once=true):(∀p∈entE K,p.1≠t.val)→(.int .i64 (lookN t L):Value)=.int .i64 0∧decide (idx t L≠none)=false:=by
 intro hp
 have hn:idx t L=none:=by
  cases h1:idx t L with
  | none=>rfl
  | some i =>
   obtain ⟨n,hm⟩:=h.2 t (List.mem_of_getElem? (idx_some h1).1) ho
   exact absurd rfl (hp (t.val,.int .i64 (n:Int)) (List.mem_map.2 ⟨(t,n),hm,rfl⟩))
 simp [lookN,hn]
theorem look_yes {K:List (Thing×Nat)} {L:List Thing} {t:Thing} (h:KOf K L):∀(j:Nat) (u:Value),(entE K)[j]?=some (t.val,u)→(.int .i64 (lookN t L):Value)=u∧decide (idx t L≠none)=true:=by
 intro j u hj
 obtain ⟨q,hq,he⟩:=List.mem_map.1 (List.mem_of_getElem? hj)
 simp only [Prod.mk.injEq] at he
 have e1:q.1=t:=val_inj.1 he.1
 obtain ⟨i,h1,h2⟩:=h.1 q hq
 rw [e1] at h1
 refine ⟨?_,by simp [h1]⟩
 rw [←he.2];simp [lookN,h1,h2]
abbrev sCells (lv:Value) (mb:Nat):List Value:=[.bool false,.slice none 0 0,.int .i64 0,lv,.map (some mb)]
def sParts (b:Nat) (lv:Value) (mb:Nat) (L:List Thing) (K:List (Thing×Nat)):List HP:=[Blk b 120 (sCells lv mb),Own 208 5 lv L.length (things L).flatten,Mp mb (entE K)]
/-- p is a suite of signs with these things. -/
def Suite (p:Value) (L:List Thing):HP:=.ex fun b=>.ex fun lv=>.ex fun mb=>.ex fun K=>Sep (.prop (p=ptr b∧(∀t∈L,t.ok)∧KOf K L)::sParts b lv mb L K)
theorem Suite.opn {w:World} {I:Gh} {R:List HP} {p:Value} {L:List Thing} (S:Sat w I (Suite p L::R)):∃b lv mb K,p=ptr b∧(∀t∈L,t.ok)∧KOf K L∧Sat w I (Blk b 120 (sCells lv mb)::Own 208 5 lv L.length (things L).flatten::Mp mb (entE K)::R):=by
 obtain ⟨b,S⟩:=S.unex;obtain ⟨lv,S⟩:=S.unex;obtain ⟨mb,S⟩:=S.unex;obtain ⟨K,S⟩:=S.unex
 obtain ⟨⟨h1,h2,h3⟩,S⟩:=S.split.unprop
 exact ⟨b,lv,mb,K,h1,h2,h3,S⟩
theorem Suite.cls {w:World} {I:Gh} {R:List HP} {L:List Thing} {b:Nat} {lv:Value} {mb:Nat} {K:List (Thing×Nat)} (hL:∀t∈L,t.ok) (hK:KOf K L) (S:Sat w I (Blk b 120 (sCells lv mb)::Own 208 5 lv L.length (things L).flatten::Mp mb (entE K)::R)):Sat w I (Suite (ptr b) L::R):=
 Sat.toex b (Sat.toex lv (Sat.toex mb (Sat.toex K (Sat.join (.prop _::sParts b lv mb L K) (S.toprop ⟨rfl,hL,hK⟩)))))
abbrev tSum (x:List UInt8):Thing:=⟨72,[],[],x,[]⟩
abbrev tCode (k x:List UInt8):Thing:=⟨77,k,[],x,[]⟩
abbrev tKey:Thing:=⟨75,[],[],[],[]⟩
abbrev tBox (k n o x:List UInt8):Thing:=⟨66,k,n,x,o⟩
/-- A number in eight bytes,the highest first. -/
def be8 (n:Int):List UInt8:=[bof (n / 72057594037927936),bof (n / 281474976710656),bof (n / 1099511627776),bof (n / 4294967296),bof (n / 16777216),bof (n / 65536),bof (n / 256),bof n]
def signOf (c:UInt8) (n:Int):List UInt8:=[83,c]++List.replicate 22 (0:UInt8)++be8 n
def boxOf (n:Int) (size:Nat):List UInt8:=66::List.replicate (size+7) (0:UInt8)++be8 n
theorem put_sets {l : List UInt8} (h : 8 ≤ l.length) (a b c d e f g k : UInt8) :
    (((((((l.set (l.length - 1) a).set (l.length - 2) b).set (l.length - 3) c).set (l.length - 4) d).set (l.length - 5) e).set (l.length - 6) f).set (l.length - 7) g).set (l.length - 8) k = l.take (l.length - 8) ++ [k, g, f, e, d, c, b, a] := by
  obtain ⟨m, hm⟩ : ∃ m, l.length = m + 8 := ⟨l.length - 8, by omega⟩
  apply List.ext_getElem?
  intro j
  rw [hm]
  simp only [List.getElem?_set, List.length_set, hm, List.getElem?_append, List.length_take, List.getElem?_take]
  by_cases hj : j < m
  · have e1 : min (m + 8 - 8) (m + 8) = m := by omega
    simp only [e1, hj, if_true, show ¬ (m + 8 - 8 = j) by omega, show ¬ (m + 8 - 7 = j) by omega, show ¬ (m + 8 - 6 = j) by omega, show ¬ (m + 8 - 5 = j) by omega, show ¬ (m + 8 - 4 = j) by omega, show ¬ (m + 8 - 3 = j) by omega, show ¬ (m + 8 - 2 = j) by omega, show ¬ (m + 8 - 1 = j) by omega, if_false, show j < m + 8 - 8 by omega]
  · have e1 : min (m + 8 - 8) (m + 8) = m := by omega
    simp only [e1, hj, if_false]
    by_cases h2 : j < m + 8
    · obtain ⟨q, rfl⟩ : ∃ q, j = m + q := ⟨j - m, by omega⟩
      have : q = 0 ∨ q = 1 ∨ q = 2 ∨ q = 3 ∨ q = 4 ∨ q = 5 ∨ q = 6 ∨ q = 7 := by omega
      rcases this with rfl | rfl | rfl | rfl | rfl | rfl | rfl | rfl <;> simp
    · rw [List.getElem?_eq_none (l := l) (by omega), List.getElem?_eq_none (by simp; omega)]
      simp only [show ¬ (m + 8 - 8 = j) by omega, show ¬ (m + 8 - 7 = j) by omega, show ¬ (m + 8 - 6 = j) by omega, show ¬ (m + 8 - 5 = j) by omega, show ¬ (m + 8 - 4 = j) by omega, show ¬ (m + 8 - 3 = j) by omega, show ¬ (m + 8 - 2 = j) by omega, show ¬ (m + 8 - 1 = j) by omega, if_false]
theorem box_eq {n:Int} {m k:Nat} (hk:k=m+16) {l:List UInt8} (hl:l=(List.replicate k (0:UInt8)).set 0 66):l.take (l.length-8)++be8 n=boxOf n m:=by
 subst hl hk
 rw [show m+16=(m+15)+1 by omega,boxOf,List.replicate_succ,List.set_cons_zero,List.length_cons,List.length_replicate,show m+15+1-8=(m+7)+1 by omega,List.take_succ_cons,List.take_replicate,show min (m+7) (m+15)=m+7 by omega]
theorem own_thing {w:World} {base:Nat} {v:Value} {L:List Thing} {t:Thing} (h:w.ownsRow base 208 5 v (L.length+1) ((things L).flatten++[t.cells].flatten)):w.ownsRow base 208 5 v (L++[t]).length (things (L++[t])).flatten:=by
 simpa [things] using h
theorem map_below {w w':World} {b:Nat} {o:Obj} (h:w.heap[b]?=some o) (hb:Below w.heap.size w w'):w'.heap[b]?=some o:=hp_below hb b o h
theorem ent_app (K:List (Thing×Nat)) (t:Thing) (n:Nat):entE K++[(t.val,(.int .i64 (n:Int):Value))]=entE (K++[(t,n)]):=by simp [entE]
theorem once_no {t:Thing} {L:List Thing} (h:idx t L=none):onceN t L=L.length+1∧onceL t L=L++[t]:=by simp [onceN,onceL,h]
theorem once_yes {t:Thing} {L:List Thing} (h:idx t L≠none):(lookN t L=(onceN t L:Int))∧onceL t L=L:=by
 cases h1:idx t L with
 | none=>exact absurd h1 h
 | some i=>simp [lookN,onceN,onceL,h1]
theorem onceN_le (t:Thing) (L:List Thing):1≤onceN t L∧onceN t L≤L.length+1:=by
 cases h1:idx t L with
 | none=>simp [onceN,h1]
 | some i=>have:=(idx_some h1).2;simp [onceN,h1];omega
theorem onceL_len (t:Thing) (L:List Thing):(onceL t L).length≤L.length+1:=by
 cases h1:idx t L<;>simp [onceL,h1]
theorem app_ok {t:Thing} {L:List Thing} (hL:∀t∈L,t.ok) (ht:t.ok):∀u∈L++[t],u.ok:=by
 intro u hu;rcases List.mem_append.1 hu with h | h
 ·exact hL u h
 ·simp only [List.mem_singleton] at h;rw [h];exact ht
def szOk (k n:List UInt8):Bool:=decide ((k.length:Int)=32)&&decide ((n.length:Int)=12)
def sealE (k n:List UInt8):Int:=if szOk k n then 0 else 11
def sealB (L:List Thing) (k n x:List UInt8):List UInt8:=if szOk k n then boxOf ((L.length:Int)+1) x.length else []
def sealL (L:List Thing) (k n o x:List UInt8):List Thing:=if szOk k n then L++[tBox k n o x] else L
def numOf (l:List UInt8):Nat:=l.foldl (fun a c=>a*256+c.toNat) 0
def openOf (L:List Thing) (k n o b:List UInt8):Option (List UInt8):=
 if b.length<16 then none else
 if numOf (b.drop (b.length-8))<1 then none else
 match L[numOf (b.drop (b.length-8))-1]? with
 | none=>none
 | some t=>if t=tBox k n o t.text∧boxOf (numOf (b.drop (b.length-8))) t.text.length=b then some t.text else none
def openE (L:List Thing) (k n o b:List UInt8):Int:=if szOk k n then (match openOf L k n o b with | some _=>0 | none=>20) else 11
def openB (L:List Thing) (k n o b:List UInt8):List UInt8:=if szOk k n then (openOf L k n o b).getD [] else []
theorem numOf_snoc (l:List UInt8) (c:UInt8):numOf (l++[c])=numOf l*256+c.toNat:=by simp [numOf]
theorem numOf_lt (l : List UInt8) : numOf l < 256 ^ l.length := by
  suffices h : ∀ l : List UInt8, ∀ a m, a < m → l.foldl (fun a c => a * 256 + c.toNat) a < m * 256 ^ l.length by simpa [numOf] using h l 0 1 (by decide)
  intro l
  induction l with
  | nil => intro a m h; simpa using h
  | cons c r ih =>
    intro a m h
    have hc := c.toNat_lt
    have := ih (a * 256 + c.toNat) (m * 256) (by omega)
    rw [List.foldl_cons, List.length_cons, Nat.pow_succ]
    calc _ < m * 256 * 256 ^ r.length := this
      _ = m * (256 ^ r.length * 256) := by rw [Nat.mul_assoc, Nat.mul_comm 256]
theorem i64_wrap (x:Int):IntKind.i64.wrap x=if 9223372036854775808≤x % 18446744073709551616 then x % 18446744073709551616-18446744073709551616 else x % 18446744073709551616:=by
 simp [IntKind.wrap,IntKind.bits,IntKind.signed]
theorem wrap_step (x:Int) (c:Int):IntKind.i64.wrap (IntKind.i64.wrap x*256+c)=IntKind.i64.wrap (x*256+c):=by
 simp only [i64_wrap]
 split<;>omega
theorem wrap_big {N:Nat} (h:N<18446744073709551616):(1≤IntKind.i64.wrap N→IntKind.i64.wrap N=N)∧(IntKind.i64.wrap N<1→N<1∨9223372036854775808≤N):=by
 simp only [i64_wrap]
 split<;>omega
section
variable {P : Program} {E : Env} {w : World} {ty t t2 : TypeId} {pos : String} {aft : Array Edge} {dst : Option Tmp} {gd : Option (Nat × Bool)} {x y : Operand}
theorem r_shl8 {m:Int} {k2:IntKind} (hx:ev E x=.int .i64 m) (hy:ev E y=.int k2 8):Gives P E w ⟨dst,.binOp .shl t x y t2,ty,pos,aft,gd⟩ (.int .i64 (IntKind.i64.wrap (m*256))) w:=by
 have:=r_shl (P:=P) (w:=w) (dst:=dst) (ty:=ty) (pos:=pos) (aft:=aft) (gd:=gd) (t:=t) (t2:=t2) hx hy (by decide)
 simpa [IntKind.bits] using this
theorem or8 (m : Int) (c : UInt8) : (BitVec.ofInt 64 (IntKind.i64.wrap (m * 256)) ||| BitVec.ofInt 64 (c.toNat : Int)) = BitVec.ofInt 64 (m * 256 + c.toNat) := by
  have h0 : BitVec.ofInt 64 (IntKind.i64.wrap (m * 256)) = BitVec.ofInt 64 m <<< 8 := by
    apply BitVec.eq_of_toNat_eq
    simp only [BitVec.toNat_shiftLeft, BitVec.toNat_ofInt, i64_wrap, Nat.shiftLeft_eq]
    split <;> omega
  have h1 : BitVec.ofInt 64 (m * 256 + c.toNat) = (BitVec.ofInt 64 m <<< 8) + BitVec.ofInt 64 (c.toNat : Int) := by
    apply BitVec.eq_of_toNat_eq
    simp only [BitVec.toNat_add, BitVec.toNat_shiftLeft, BitVec.toNat_ofInt, Nat.shiftLeft_eq]
    omega
  rw [h0, h1]
  refine (BitVec.add_eq_or_of_and_eq_zero _ _ ?_).symm
  apply BitVec.eq_of_getLsbD_eq
  intro i hi
  have hc := c.toNat_lt
  simp only [BitVec.getLsbD_and, BitVec.getLsbD_shiftLeft, BitVec.getLsbD_zero]
  by_cases h8 : i < 8
  · simp [h8]
  · have : (BitVec.ofInt 64 (c.toNat : Int)).getLsbD i = false := by
      rw [ofInt_nat, BitVec.getLsbD_ofNat]
      simp [Nat.testBit_lt_two_pow (Nat.lt_of_lt_of_le hc (Nat.pow_le_pow_right (by decide) (show 8 ≤ i by omega)))]
    rw [this, Bool.and_false]
theorem r_or8 {m:Int} {c:UInt8} (hx:ev E x=.int .i64 (IntKind.i64.wrap (m*256))) (hy:ev E y=.int .i64 (c.toNat:Int)):Gives P E w ⟨dst,.binOp .or t x y t2,ty,pos,aft,gd⟩ (.int .i64 (IntKind.i64.wrap (m*256+c.toNat))) w:=by
 have:=r_bits (P:=P) (w:=w) (dst:=dst) (ty:=ty) (pos:=pos) (aft:=aft) (gd:=gd) (t:=t) (t2:=t2) (op:=.or) (.inr (.inl rfl)) hx hy
 have h8:=or8 m c
 have this:Gives P E w ⟨dst,.binOp .or t x y t2,ty,pos,aft,gd⟩ (.int .i64 (IntKind.i64.wrap ((BitVec.ofInt 64 (IntKind.i64.wrap (m*256)) ||| BitVec.ofInt 64 (c.toNat:Int)).toNat:Int))) w:=this
 rw [h8] at this
 have e:IntKind.i64.wrap ((BitVec.ofInt 64 (m*256+c.toNat)).toNat:Int)=IntKind.i64.wrap (m*256+c.toNat):=by
  simp only [BitVec.toNat_ofInt,i64_wrap];split<;>split<;>omega
 rwa [e] at this
end
theorem num_step {l:List UInt8} {j:Nat} {c:UInt8} (h:l[j]?=some c):IntKind.i64.wrap (IntKind.i64.wrap (numOf (l.take j):Int)*256+c.toNat)=IntKind.i64.wrap (numOf (l.take (j+1)):Int):=by
 rw [wrap_step,List.take_add_one,h,Option.toList,numOf_snoc];simp
section
variable {L : List Thing} {k n o b : List UInt8}
theorem open_short (h:b.length<16):openOf L k n o b=none:=by simp [openOf,h]
theorem open_out (hb : ¬ b.length < 16) (hL : L.length ≤ 1000000) (h : IntKind.i64.wrap (numOf (b.drop (b.length - 8)) : Int) < 1 ∨ (L.length : Int) < IntKind.i64.wrap (numOf (b.drop (b.length - 8)) : Int)) : openOf L k n o b = none := by
  have hlt : numOf (b.drop (b.length - 8)) < 18446744073709551616 := by
    have := numOf_lt (b.drop (b.length - 8))
    rwa [List.length_drop, show b.length - (b.length - 8) = 8 by omega, show 256 ^ 8 = 18446744073709551616 from rfl] at this
  obtain ⟨h1, h2⟩ := wrap_big hlt
  unfold openOf
  rw [if_neg hb]
  split
  · rfl
  · have : L[numOf (b.drop (b.length - 8)) - 1]? = none := by
      rw [List.getElem?_eq_none_iff]
      rcases h with h | h
      · rcases h2 h with h | h <;> omega
      · have := h1 (by omega); omega
    rw [this]
theorem open_at (hb : ¬ b.length < 16) (h : ¬ (IntKind.i64.wrap (numOf (b.drop (b.length - 8)) : Int) < 1 ∨ (L.length : Int) < IntKind.i64.wrap (numOf (b.drop (b.length - 8)) : Int))) :
    ∃ t, L[numOf (b.drop (b.length - 8)) - 1]? = some t ∧ IntKind.i64.wrap (numOf (b.drop (b.length - 8)) : Int) = (numOf (b.drop (b.length - 8)) : Int) ∧ 1 ≤ numOf (b.drop (b.length - 8)) ∧ numOf (b.drop (b.length - 8)) ≤ L.length ∧
      openOf L k n o b = if t = tBox k n o t.text ∧ boxOf (numOf (b.drop (b.length - 8))) t.text.length = b then some t.text else none := by
  have hlt : numOf (b.drop (b.length - 8)) < 18446744073709551616 := by
    have := numOf_lt (b.drop (b.length - 8))
    rwa [List.length_drop, show b.length - (b.length - 8) = 8 by omega, show 256 ^ 8 = 18446744073709551616 from rfl] at this
  obtain ⟨h1, h2⟩ := wrap_big hlt
  have e := h1 (by omega)
  have hN : numOf (b.drop (b.length - 8)) - 1 < L.length := by omega
  refine ⟨L[numOf (b.drop (b.length - 8)) - 1], by rw [List.getElem?_eq_getElem hN], e, by omega, by omega, ?_⟩
  unfold openOf
  rw [if_neg hb, if_neg (by omega), List.getElem?_eq_getElem hN]
end
end Go.Proofs.YthddplghlljdbaaGreat
