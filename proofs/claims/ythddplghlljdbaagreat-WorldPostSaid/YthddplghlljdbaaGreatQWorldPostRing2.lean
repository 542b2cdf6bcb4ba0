import Derived.Maps.Own
import Derived.Test.YthddplghlljdbaaGreatQWorldPostPolicy
set_option linter.unusedVariables false
set_option linter.unusedSimpArgs false
namespace Go.Ecal
open Go.RowKit Go.Maps Go.WideElems Go.ChangeMaps
abbrev Doc:=List UInt8×List UInt8
/-- A name is put where it belongs. -/
def insD (x:Doc):List Doc→List Doc
 | []=>[x]
 | y::r=>if bytesBefore x.1 y.1 then x::y::r else y::insD x r
def delD (K:List Doc) (n:List UInt8):List Doc:=K.filter fun p=>!decide (p.1=n)
def putD (K:List Doc) (n v:List UInt8):List Doc:=insD (n,v) (delD K n)
def lkD:List Doc→List UInt8→Option (List UInt8)
 | [],_=>none
 | p::r,n=>if p.1=n then some p.2 else lkD r n
abbrev DT:=DataW Unit
def encD (p:Doc):Lit×DT:=(.string p.1,.lit (.string p.2))
theorem ins_enc (x:Doc) (K:List Doc):DataW.insert (encD x) (K.map encD)=(insD x K).map encD:=by
 induction K with
 | nil=>rfl
 | cons y r ih =>
  simp only [List.map_cons,DataW.insert,insD]
  rw [show (encD x).1.before (encD y).1=bytesBefore x.1 y.1 from rfl]
  split
  ·rfl
  ·rw [ih,List.map_cons]
theorem del_enc (K:List Doc) (n:List UInt8):delKey (.string n) (K.map encD)=(delD K n).map encD:=by
 induction K with
 | nil=>rfl
 | cons y r ih =>
  rw [delKey] at ih ⊢
  rw [delD,List.map_cons]
  by_cases h:y.1=n
  ·rw [List.filter_cons_of_neg (by simp [notKey,encD,Lit.sameKey,h]),List.filter_cons_of_neg (by simp [h]),ih,delD]
  ·rw [List.filter_cons_of_pos (by simp [notKey,encD,Lit.sameKey,h]),List.filter_cons_of_pos (by simp [h]),ih,delD,List.map_cons]
theorem put_enc (K:List Doc) (n v:List UInt8):putKey (.string n) (.lit (.string v)) (K.map encD)=(putD K n v).map encD:=by
 rw [putD,←ins_enc,←del_enc];rfl
theorem at_enc (K:List Doc) (n:List UInt8) (z:DT):(DataW.map (K.map encD)).atKey (.string n) z=match lkD K n with | some v=>.lit (.string v) | none=>z:=by
 induction K with
 | nil=>rfl
 | cons y r ih =>
  simp only [DataW.atKey,List.map_cons,lkD] at ih ⊢
  by_cases h:y.1=n
  ·rw [List.find?_cons_of_pos (by simp [encD,Lit.sameKey,h]),if_pos h];rfl
  ·rw [List.find?_cons_of_neg (by simp [encD,Lit.sameKey,h]),if_neg h];exact ih
section
variable {P : Program} {N : Nat} {Q : Exit → Env → World → Prop} {E : Env} {w w' : World} {ops : Array Oper} {L : List Oper}
variable {d : Nat} {op : Op} {ty : TypeId} {pos : String} {aft : Array Edge} {dst : Option Tmp} {gd : Option (Nat × Bool)}
variable {t t2 T e k : TypeId} {x y z : Operand} {v : Value} {b : Nat} {K : List Doc}
/-- The map in block b has just K. -/
def MdAt (P:Program) (k:TypeId) (K:List Doc) (arr:Array MapEntry) (clock:Nat):Prop:=
 Fit P k (plainElem (H:=Unit) P k) arr clock∧(arr.toList.map (rg P k (plainElem P k))).foldr DataW.insert []=K.map encD
def Md (P:Program) (k:TypeId) (b:Nat) (K:List Doc):HP:=⟨fun _ h=>∃arr clock,h=PH.one b (.map arr clock)∧MdAt P k K arr clock,fun _ h=>h⟩
theorem Sat.md {I:Gh} {l:List HP} (S:Sat w I l) (i:Nat) (hi:l[i]?=some (Md P k b K)):∃arr clock,w.heap[b]?=some (.map arr clock)∧MdAt P k K arr clock:=by
 obtain ⟨h,r,⟨arr,clock,h1,h2⟩,_,h3,_⟩:=S.focus hi
 subst h1
 exact ⟨arr,clock,le_one h3,h2⟩
theorem Sat.mdW {I:Gh} {l:List HP} {K':List Doc} {arr:Array MapEntry} {clock:Nat} (S:Sat w I l) (i:Nat) (hi:l[i]?=some (Md P k b K)) (hk:w.grownBy w' (some b)) (ha:w'.heap[b]?=some (.map arr clock)) (he:MdAt P k K' arr clock):Sat w' I (l.set i (Md P k b K')):=by
 obtain ⟨h,r,⟨arr0,clock0,h1,_⟩,h2,h3,h4,h5,h6⟩:=S.focus hi
 subst h1
 exact h6 _ _ w' (Nx.grown hk) ⟨arr,clock,rfl,he⟩ (one_dis (dis_one h2)) (one_le ha) (rest_kept h4 hk (fun g hg=>by cases hg;exact dis_one h2))
theorem mdAt_nil:MdAt P k [] #[] 0:=⟨⟨by simp,MapKept.stamped_empty 0,by simp⟩,rfl⟩
theorem Sat.newD {I:Gh} {l:List HP} {arr:Array MapEntry} {clock:Nat} (S:Sat w I l) (hb:Below w.heap.size w w') (ha:w'.heap[b]?=some (.map arr clock)) (hd:MdAt P k K arr clock) (he:b=w.heap.size):Sat w' I (Md P k b K::l):=
 S.add (P:=Md P k b K) (Nx.below hb) ⟨arr,clock,rfl,hd⟩ (hp_below hb) (fun k o e=>by
  unfold PH.one at e;split at e
  ·omega
  ·cases e) (one_le ha)
theorem MdAt.len {arr:Array MapEntry} {clock:Nat} (h:MdAt P k K arr clock):arr.size=K.length:=by
 have:=congrArg List.length h.2
 rwa [length_sorted,List.length_map,List.length_map,Array.length_toList] at this
theorem key_str {n:List UInt8} (hk:P.underlying k=some .string) (hn:n.length≤1000000000):keyOf P k (.string (str n))=some (.string n):=by
 rw [WideMaps.keyOf_string_mk hk (by simp [str,ByteArray.size,maxLen];omega)];rfl
theorem pe_str {n:List UInt8} (hk:P.underlying k=some .string) (hn:n.length≤1000000000):plainElem (H:=Unit) P k (.string (str n))=some (.lit (.string n),[]):=by
 rw [plainElem_string hk (by simp [str,ByteArray.size,maxLen];omega)];rfl
theorem pe_inv {v:Value} {y:DT×List MemPlace} (hk:P.underlying k=some .string) (h:plainElem (H:=Unit) P k v=some y):∃s:List UInt8,v=.string (str s)∧y=(.lit (.string s),[]):=by
 unfold plainElem at h
 rw [hk] at h
 cases v with
 | string s =>
  simp only at h
  split at h
  ·cases h;exact ⟨s.data.toList,by simp [str],rfl⟩
  ·cases h
 | _=>simp at h
/-- v, ok := m[n] -/
theorem r_lookD2 {arr : Array MapEntry} {clock : Nat} {n : List UInt8} (hk : P.underlying k = some .string) (ht : P.underlying t = some (.map k k)) (hz : (P.info? k).bind (·.zero) = some (.string (str []))) (hx : ev E x = .map (some b)) (hy : ev E y = .string (str n)) (hb : w.heap[b]? = some (.map arr clock)) (hK : MdAt P k K arr clock) (hn : n.length ≤ 1000000000) :
    Gives P E w ⟨dst, .lookup t x y true, ty, pos, aft, gd⟩ (.tuple #[.string (str ((lkD K n).getD [])), .bool (lkD K n).isSome]) w ∧ Gives P E w ⟨dst, .lookup t x y false, ty, pos, aft, gd⟩ (.string (str ((lkD K n).getD []))) w := by
  obtain ⟨i, hi, hz'⟩ := Option.bind_eq_some_iff.1 hz
  have hz2 : (zeroValue k).run P w = .ok (.string (str [])) w := by simp [zeroValue, typeInfo, hi, hz']
  simp only [Gives, execOp, hx, hy]
  have h1 := fun c => Maps.fit_look c (string_keyed hk) ht hz2 hb hK.1 (key_str hk hn)
  have hA := fun zd => hK.2 ▸ at_enc K n zd
  constructor
  · rcases h1 true with ⟨h2, h3, h4⟩ | ⟨e0, yv, h2, h3, h4, h5, h6, _⟩
    · have h5 := h4 (.lit (.string [7])); have h6 := h4 (.lit (.string [8]))
      rw [hK.2, at_enc] at h5 h6
      cases hl : lkD K n with
      | none => simp [h2, Result.andThen]
      | some s => rw [hl] at h5 h6; simp at h5 h6; rw [h5] at h6; cases h6
    · obtain ⟨s, hs, hy2⟩ := pe_inv hk h5
      have h7 := h6 (.lit (.string [7])); have h8 := h6 (.lit (.string [8]))
      rw [hK.2, at_enc] at h7 h8
      subst hy2
      cases hl : lkD K n with
      | none => rw [hl] at h7 h8; simp at h7 h8; rw [← h7] at h8; cases h8
      | some s2 => rw [hl] at h7; simp at h7; subst h7; rw [hs] at h4; simp [h4, Result.andThen]
  · rcases h1 false with ⟨h2, h3, h4⟩ | ⟨e0, yv, h2, h3, h4, h5, h6, _⟩
    · have h5 := h4 (.lit (.string [7])); have h6 := h4 (.lit (.string [8]))
      rw [hK.2, at_enc] at h5 h6
      cases hl : lkD K n with
      | none => simp [h2, Result.andThen]
      | some s => rw [hl] at h5 h6; simp at h5 h6; rw [h5] at h6; cases h6
    · obtain ⟨s, hs, hy2⟩ := pe_inv hk h5
      have h7 := h6 (.lit (.string [7])); have h8 := h6 (.lit (.string [8]))
      rw [hK.2, at_enc] at h7 h8
      subst hy2
      cases hl : lkD K n with
      | none => rw [hl] at h7 h8; simp at h7 h8; rw [← h7] at h8; cases h8
      | some s2 => rw [hl] at h7; simp at h7; subst h7; rw [hs] at h4; simp [h4, Result.andThen]
theorem kept_setBlock {es es2:Array MapEntry} {c c2:Nat} (hb:w.heap[b]?=some (.map es c)):(setBlock w b (.map es2 c2)).heap[b]?=some (.map es2 c2)∧w.grownBy (setBlock w b (.map es2 c2)) (some b):=by
 constructor
 ·exact (MapKept.heap_set hb).1
 ·exact ⟨rfl,rfl,rfl,by simp [setBlock],fun k hk hne=>by simp [setBlock,Array.getElem?_setIfInBounds];intro h;exact absurd (by rw [h]) hne⟩
/-- m[n] = s -/
theorem EL_putD {arr : Array MapEntry} {clock : Nat} {n s : List UInt8} (hk : P.underlying k = some .string) (ht : P.underlying t = some (.map k k)) (hx : ev E x = .map (some b)) (hy : ev E y = .string (str n)) (hz : ev E z = .string (str s)) (hb : w.heap[b]? = some (.map arr clock)) (hK : MdAt P k K arr clock) (hn : n.length ≤ 1000000000) (hs : s.length ≤ 1000000000) (hl : K.length ≤ 1000000000)
    (h : ∀ w' arr' clock', w'.heap[b]? = some (.map arr' clock') → MdAt P k (putD K n s) arr' clock' → w.grownBy w' (some b) → EL P N ops Q L E w') :
    EL P N ops Q (⟨none, .mapUpdate t x y z, ty, pos, aft, none⟩ :: L) E w := by
  obtain ⟨es', c', h1, h2, h3, _⟩ := Maps.fit_store (string_keyed hk) ht hb hK.1 (by rw [hK.len]; simp [maxLen]; omega) (fun x _ _ z hz => hz) (key_str hk hn) (pe_str hk hs)
  refine EL_do (setBlock w b (.map es' c')) ?_ (h _ es' c' (kept_setBlock hb).1 ⟨h2, by rw [h3, hK.2, put_enc]⟩ (kept_setBlock hb).2)
  simp only [execOp, hx, hy, hz]
  simp [h1, Result.andThen]
/-- An operation without a place for what it yields. -/
theorem EL_drop {v : Value} (w' : World) (hrun : (execOp (ev E) ⟨none, op, ty, pos, aft, none⟩).run P w = .ok (.value v) w')
    (h : EL P N ops Q L E w') : EL P N ops Q (⟨none, op, ty, pos, aft, none⟩ :: L) E w := fun a hs =>
  wpList_plain rfl fun K hK => by
    unfold Oper.wp
    rw [hs.eval, hrun]
    exact hK _ _ (h _ hs)
/-- delete(m, n) -/
theorem EL_delD {arr : Array MapEntry} {clock : Nat} {n : List UInt8} (hk : P.underlying k = some .string) (ht : P.underlying t = some (.map k k)) (hx : ev E x = .map (some b)) (hy : ev E y = .string (str n)) (hb : w.heap[b]? = some (.map arr clock)) (hK : MdAt P k K arr clock) (hn : n.length ≤ 1000000000)
    (h : ∀ w' arr' clock', w'.heap[b]? = some (.map arr' clock') → MdAt P k (delD K n) arr' clock' → w.grownBy w' (some b) → EL P N ops Q L E w') :
    EL P N ops Q (⟨none, .call { callee := .builtin .delete, args := #[x, y], argTypes := #[t, k] }, ty, pos, aft, none⟩ :: L) E w := by
  obtain ⟨es', h1, h2, _, h3, _⟩ := Maps.fit_drop (ty := ty) (string_keyed hk) ht hb hK.1 (key_str hk hn)
  exact EL_drop _ (run_enterBuiltin .delete #[x, y] #[t, k] _ _ (Builtin.delete_ #[t, k] ty #[.map (some b), .string (str n)]) (fun c => by simp [builtin, hx, hy]) h1) (h _ es' clock (kept_setBlock hb).1 ⟨h2, by rw [h3, hK.2, del_enc]⟩ (kept_setBlock hb).2)
/-- maps.Clone: what stands in for it. -/
theorem EL_cloneD {f : FuncId} {fn : Func} {x : Operand} {t3 : TypeId} {arr : Array MapEntry} {clock : Nat} (hf : P.funcs[f]? = some fn) (hname : (fn.name == "runtime.NumGoroutine") = false) (hb : fn.body.isNone = true) (hn : Extern.findNext fn = none) (he : Extern.find fn = some Extern.MapsClone.clone)
    (hd : Nat.blt d N = true) (hx : ev E x = .iface t (.map (some b))) (hm : w.heap[b]? = some (.map arr clock)) (hK : MdAt P k K arr clock)
    (h : ∀ b' w', b' = w.heap.size → w'.heap[b']? = some (.map arr clock) → Below w.heap.size w w' → EL P N ops Q L (upd E d (.iface t (.map (some b')))) w') :
    EL P N ops Q (⟨some d, .call { callee := .value (.func f), args := #[x], argTypes := #[t3] }, ty, pos, aft, none⟩ :: L) E w := by
  refine EL_val (.iface t (.map (some w.heap.size))) (w.alloc (.map arr clock)) hd ?_ (h _ _ rfl (MapKept.heap_alloc w _).1 (below_alloc _))
  have h1 := run_callFunc_extern (P := P) (args := #[ev E x]) (w := w) hf hname hb hn he
  rw [hx] at h1
  rw [run_callX]
  simp only [List.map_toArray, List.map_cons, List.map_nil, hx]
  rw [h1, show (Extern.MapsClone.clone #[.iface t (.map (some b))]) = (getObj b >>= fun o => match o with
      | .map entries clock => (newObj (.map entries clock) >>= fun n => pure (.iface t (.map (some n))))
      | _ => stuck "maps.clone: a map expected") from rfl]
  simp [MapKept.run_getObj_map hm, Result.andThen, go_sem]
theorem run_eqmapnil (d:Nat) {p:Option Nat} (h:P.underlying t=some (.map k e)):(Op.equalIn (d+1) t (.map p) (.map none)).run P w=.ok p.isNone w:=by
 cases p<;>simp [Op.equalIn,run_underlying h]
theorem r_eqmapnil {p:Option Nat} (hx:ev E x=.map p) (hy:ev E y=.map none) (ht:P.underlying t=some (.map k e)):Gives P E w ⟨dst,.binOp .eql t x y t2,ty,pos,aft,gd⟩ (.bool p.isNone) w:=by
 have h1:(binOp .eql t (.map p) (.map none)).run P w=.ok (.bool p.isNone) w:=by
  simp only [binOp]
  simp [show Op.equal t (.map p) (.map none)=Op.equalIn (9999+1) t (.map p) (.map none) from rfl,run_eqmapnil 9999 ht]
 simp only [Gives,execOp,hx,hy,eqGuard];simp [h1]
theorem r_assertM {xT:TypeId} {v:Value} (hx:ev E x=.iface t v) (h:P.underlying t=some (.map k e)):Gives P E w ⟨dst,.typeAssert x xT t false,ty,pos,aft,gd⟩ v w:=by
 simp only [Gives,execOp,hx]
 simp [Instr.typeAssert,run_underlying h,go_sem,Result.andThen]
end
end Go.Ecal
namespace Go.Proofs.YthddplghlljdbaaGreat
open Go.RowKit Go.Ecal
def DocsP (p:Value) (K:List Doc):HP:=.ex fun b=>.ex fun m=>Sep [.prop (p=ptr b),Blk b 111 [.map (some m)],Md Tryz.prog 9 m K]
section
variable {w : World} {I : Gh} {R : List HP} {p : Value} {K : List Doc}
theorem DocsP.opn (S:Sat w I (DocsP p K::R)):∃b m,p=ptr b∧Sat w I (Blk b 111 [.map (some m)]::Md Tryz.prog 9 m K::R):=by
 obtain ⟨b,S⟩:=S.unex;obtain ⟨m,S⟩:=S.unex
 obtain ⟨h,S⟩:=S.split.unprop
 exact ⟨b,m,h,S⟩
theorem DocsP.cls {b m:Nat} (S:Sat w I (Blk b 111 [.map (some m)]::Md Tryz.prog 9 m K::R)):Sat w I (DocsP (ptr b) K::R):=
 Sat.toex b (Sat.toex m (Sat.join [_,_,_] (S.toprop rfl)))
end
end Go.Proofs.YthddplghlljdbaaGreat

namespace Go.Ecal
open Go.RowKit
/-- A field of a struct that is told. -/
theorem r_field {P : Program} {E : Env} {w : World} {dst : Option Tmp} {ty t : TypeId} {pos : String} {aft : Array Edge} {gd : Option (Nat × Bool)} {x : Operand} {cs : List Value} {u : Value} {f : Nat} {fs : Array Field} {fd : Field} {ds : TypeDesc}
    (hx : ev E x = .agg cs.toArray) (ht : P.underlying t = some (.struct fs)) (hf : fs[f]? = some fd) (hd : P.underlying fd.type = some ds) (ho : oneB ds = true) (hu : cs[fd.offset]? = some u) :
    Gives P E w ⟨dst, .field t x f, ty, pos, aft, gd⟩ u w := by
  simp only [Gives, execOp, hx]
  cases ds <;> simp [oneB] at ho <;> simp [Instr.field, run_underlying ht, hf, asAgg, part, isAgg, run_underlying hd, hu]
end Go.Ecal
namespace Go.Ecal
open Go.RowKit
section
variable {α : Type} {τ : Rep α} {w : World} {I : Gh} {R : List HP} {e : TypeId} {v : Value} {al : List α} {xss : List (List Value)}
/-- A row of one's own whose cells are told. -/
def OwnY (e:TypeId) (τ:Rep α) (v:Value) (al:List α) (xss:List (List Value)):HP:=Sep [.fact ⟨fun I=>All2 (τ.r I) xss al,fun h k=>k.imp fun _ _=>τ.mono h⟩,Own e τ.sz v al.length xss.flatten]
theorem OwnY.of (S:Sat w I (OwnX e τ v al::R)):∃xss,All2 (τ.r I) xss al∧Sat w I (OwnY e τ v al xss::R):=by
 obtain ⟨xss,S⟩:=S.unex
 obtain ⟨h,_⟩:=S.split.unfact
 exact ⟨xss,h,S⟩
theorem OwnY.to (S:Sat w I (OwnY e τ v al xss::R)):Sat w I (OwnX e τ v al::R):=Sat.toex xss S
theorem OwnY.at (S:Sat w I R) (i:Nat) (hi:R[i]?=some (OwnY e τ v al xss)) (hz:0<τ.sz) {j:Nat} {cs:List Value} (hj:xss[j]?=some cs):ElAt w v τ.sz j cs:=by
 obtain ⟨h,S⟩:=(S.cons_front hi).split.unfact
 exact (S.wrow 0 rfl h.lens hz).el hj
theorem OwnY.row (S:Sat w I R) (i:Nat) (hi:R[i]?=some (OwnY e τ v al xss)) (hz:0<τ.sz):XRow w v τ.sz al.length:=by
 obtain ⟨h,S⟩:=(S.cons_front hi).split.unfact
 exact ⟨xss,S.wrow 0 rfl h.lens hz,h.len⟩
end
end Go.Ecal
namespace Go.Proofs.YthddplghlljdbaaGreat
open Go.RowKit Go.Ecal
structure Chn where
 links:List (List UInt8)
 sums:List (List UInt8)
def ChainP (p s:Value) (c:Chn):HP:=.ex fun b=>.ex fun lv=>.ex fun mv=>Sep [.prop (p=ptr b∧c.sums.length=c.links.length+1∧c.links.length≤64∧(∀x∈c.sums,x.length=32)∧∀x∈c.links,x.length≤4096),
 Blk b 178 [s,lv,mv],OwnX 33 bytesR lv c.links,OwnX 33 bytesR mv c.sums]
section
variable {w : World} {I : Gh} {R : List HP} {p s : Value} {c : Chn}
theorem ChainP.opn (S : Sat w I (ChainP p s c :: R)) : ∃ b lv mv, p = ptr b ∧ c.sums.length = c.links.length + 1 ∧ c.links.length ≤ 64 ∧ (∀ x ∈ c.sums, x.length = 32) ∧ (∀ x ∈ c.links, x.length ≤ 4096) ∧
    Sat w I (Blk b 178 [s, lv, mv] :: OwnX 33 bytesR lv c.links :: OwnX 33 bytesR mv c.sums :: R) := by
  obtain ⟨b, S⟩ := S.unex; obtain ⟨lv, S⟩ := S.unex; obtain ⟨mv, S⟩ := S.unex
  obtain ⟨⟨h1, h2, h3, h4, h5⟩, S⟩ := S.split.unprop
  exact ⟨b, lv, mv, h1, h2, h3, h4, h5, S⟩
theorem ChainP.cls {b : Nat} {lv mv : Value} (h2 : c.sums.length = c.links.length + 1) (h3 : c.links.length ≤ 64) (h4 : ∀ x ∈ c.sums, x.length = 32) (h5 : ∀ x ∈ c.links, x.length ≤ 4096)
    (S : Sat w I (Blk b 178 [s, lv, mv] :: OwnX 33 bytesR lv c.links :: OwnX 33 bytesR mv c.sums :: R)) : Sat w I (ChainP (ptr b) s c :: R) :=
  Sat.toex b (Sat.toex lv (Sat.toex mv (Sat.join [_, _, _, _] (S.toprop ⟨rfl, h2, h3, h4, h5⟩))))
end
theorem Suite.one {w:World} {I:Gh} {R:List HP} {p:Value} {L:List Thing} (S:Sat w I (Suite p L::R)):p.oneCell'=true:=by
 obtain ⟨b,S⟩:=S.unex;obtain ⟨lv,S⟩:=S.unex;obtain ⟨mb,S⟩:=S.unex;obtain ⟨K,S⟩:=S.unex
 obtain ⟨⟨h1,_⟩,S⟩:=S.split.unprop
 rw [h1];rfl
abbrev uLocket:List UInt8:=[108,111,99,107,101,116]
def chT (coll:Int):Thing:=tSum (uLocket++be6 coll)
def chNew (L:List Thing) (coll:Int):Chn:=⟨[],[signOf 72 (onceN (chT coll) L:Int)]⟩
/-- The sum of all. -/
def Chn.head (c:Chn):List UInt8:=c.sums.getD c.links.length []
def chE (c:Chn) (b:List UInt8):Int:=if b.length<1∨4096<b.length then 11 else if c.links.length=64 then 33 else 0
def chNext (c:Chn) (b:List UInt8):Thing:=tSum (c.head++b)
def chApp (L:List Thing) (c:Chn) (b:List UInt8):Chn:=if chE c b=0 then ⟨c.links++[b],c.sums++[signOf 72 (onceN (chNext c b) L:Int)]⟩ else c
def chL (L:List Thing) (c:Chn) (b:List UInt8):List Thing:=if chE c b=0 then onceL (chNext c b) L else L
structure HeadT where
 index:Int
 sum:List UInt8
def atOk (c:Chn) (i:Int):Bool:=decide (0≤i)&&decide (i<c.sums.length)
def atV (c:Chn) (i:Int):HeadT:=if 0≤i∧i<c.sums.length then ⟨i,c.sums.getD i.toNat []⟩ else ⟨0,[]⟩
theorem atOk_in {c:Chn} {i:Int} (h:0≤i∧i<c.sums.length):atOk c i=true:=by simp [atOk];omega
theorem atOk_out {c:Chn} {i:Int} (h:¬(0≤i∧i<c.sums.length)):atOk c i=false:=by simp [atOk];omega
theorem atV_in {c:Chn} {i:Int} {a:List UInt8} (h:0≤i∧i<c.sums.length) (ha:c.sums[i.toNat]?=some a):atV c i=⟨i,a⟩:=by rw [atV,if_pos h,List.getD,ha];rfl
theorem atV_out {c:Chn} {i:Int} (h:¬(0≤i∧i<c.sums.length)):atV c i=⟨0,[]⟩:=if_neg h
/-- A head is held against a chain. -/
def chkE (c:Chn) (i:Int) (sum:List UInt8):Int:=if i<0 then 12 else if atOk c i=false then 14 else if (atV c i).sum=sum then 0 else 24
end Go.Proofs.YthddplghlljdbaaGreat

namespace Go.Proofs.YthddplghlljdbaaGreat
open Go.RowKit Go.Ecal
def RingP (p:Value) (ks:List (List UInt8)):HP:=.ex fun b=>.ex fun vs=>Sep [.prop (p=ptr b∧ks.length=17),.fact ⟨fun I=>All2 (cellN I) vs ks,fun k h=>h.imp fun _ _=>cellN.up k⟩,Blk b 187 vs]
theorem RingP.opn {w:World} {I:Gh} {R:List HP} {p:Value} {ks:List (List UInt8)} (S:Sat w I (RingP p ks::R)):∃b vs,p=ptr b∧ks.length=17∧All2 (cellN I) vs ks∧Sat w I (Blk b 187 vs::R):=by
 obtain ⟨b,S⟩:=S.unex;obtain ⟨vs,S⟩:=S.unex
 obtain ⟨⟨h1,h2⟩,S⟩:=S.split.unprop
 obtain ⟨h3,S⟩:=S.unfact
 exact ⟨b,vs,h1,h2,h3,S⟩
theorem RingP.cls {w:World} {I:Gh} {R:List HP} {b:Nat} {vs:List Value} {ks:List (List UInt8)} (hk:ks.length=17) (hA:All2 (cellN I) vs ks) (S:Sat w I (Blk b 187 vs::R)):Sat w I (RingP (ptr b) ks::R):=
 Sat.toex b (Sat.toex vs (Sat.join [_,_,_] ((S.tofact hA).toprop ⟨rfl,hk⟩)))
def keyAt (ks:List (List UInt8)) (e:Int):List UInt8:=if 0≤e∧e≤16 then ks.getD e.toNat [] else []
def learnE (ks:List (List UInt8)) (e:Int) (k:List UInt8):Int:=if 1≤e∧e≤16 then (if k.length=32 then (if (keyAt ks e).isEmpty then 0 else 31) else 11) else 12
def learnK (ks:List (List UInt8)) (e:Int) (k:List UInt8):List (List UInt8):=if learnE ks e k=0 then ks.set e.toNat k else ks
def ring0 (k:List UInt8):List (List UInt8):=k::List.replicate 16 []
theorem keyAt_get {ks:List (List UInt8)} {e:Int} (hk:ks.length=17) (h:0≤e∧e≤16):ks[e.toNat]?=some (keyAt ks e):=by
 rw [keyAt,if_pos h,List.getElem?_eq_getElem (by omega)];simp [List.getD,List.getElem?_eq_getElem (show e.toNat<ks.length by omega)]
theorem learnK_len {ks:List (List UInt8)} {e:Int} {k:List UInt8}:(learnK ks e k).length=ks.length:=by unfold learnK;split<;>simp
end Go.Proofs.YthddplghlljdbaaGreat
