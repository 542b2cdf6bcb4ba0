import Derived.DeepKeys4
import Derived.Deep.MidRow
import Derived.Laws.Cells
import Derived.Test.YthddplghlljdbaaGreatQWorldPostMem
set_option linter.unusedVariables false
set_option linter.unusedSimpArgs false
namespace Go.Ecal
open Go.RowKit
section
variable {P : Program} {N : Nat} {Q : Exit → Env → World → Prop} {E : Env} {w w' : World} {ops : Array Oper} {L : List Oper}
variable {d : Nat} {op : Op} {ty : TypeId} {pos : String} {aft : Array Edge} {dst : Option Tmp} {gd : Option (Nat × Bool)}
variable {t t2 T e k : TypeId} {x y : Operand} {v : Value} {b sz : Nat} {cs xs : List Value} {xss : List (List Value)}
def StructT (P:Program) (t:TypeId) (pl:Array (Nat×Nat)) (z:Array Value):Prop:=
 ∃fs:Array Field,P.underlying t=some (.struct fs)∧(∀w,(fs.mapM fun f=>Prod.mk f.offset <$> sizeOf f.type:Sem (Array (Nat×Nat))).run P w=.ok pl w)∧(P.info? t).bind (·.zero)=some (.agg z)
theorem fill_end {p:Nat→Option (Nat×Nat)} {c:Array Value}:Instr.fill p c []=some c:=rfl
theorem fill_one {p:Nat→Option (Nat×Nat)} {c r:Array Value} {i o:Nat} {v:Value} {l:List (Nat×Value)} (hp:p i=some (o,1)) (hv:v.cells=#[v]) (ho:Nat.blt o c.size=true) (hr:Instr.fill p (c.setIfInBounds o v) l=some r):Instr.fill p c ((i,v)::l)=some r:=by
 have ho':o<c.size:=by simpa using ho
 simp only [Instr.fill,hp,hv]
 have:¬(c.size<o+1):=by omega
 simp [this,hr]
theorem one_cells {v:Value} (h:v.oneCell'=true):v.cells=#[v]:=by cases v<;>first | rfl | simp [Value.oneCell'] at h
theorem row_cells {w:World} (h:Row w v xs):v.cells=#[v]:=by obtain ⟨A,c,rfl,_⟩:=h;rfl
theorem row_one {w:World} (h:Row w v xs):v.oneCell'=true:=by obtain ⟨A,c,rfl,_⟩:=h;rfl
theorem own_one {base n:Nat} (h:w.ownsRow base e sz v n xs):v.oneCell'=true:=by
 rcases h.2 with ⟨rfl,_⟩ | ⟨g,cap,cur,rfl,_⟩<;>rfl
theorem r_buildS {pl : Array (Nat × Nat)} {z cs : Array Value} {ps : Array (Nat × Operand)} (hT : StructT P t pl z) {l : List (Nat × Value)} (hl : ps.toList.map (fun p => (p.1, ev E p.2)) = l) (hcs : Instr.fill (fun i => pl[i]?) z l = some cs) :
    Gives P E w ⟨dst, .build t ps, ty, pos, aft, gd⟩ (.agg cs) w := by
  obtain ⟨fs, h1, h2, h3⟩ := hT
  obtain ⟨i, hi, hz⟩ := Option.bind_eq_some_iff.1 h3
  have hl2 : (ps.map (fun (i, x) => (i, ev E x))).toList = l := by rw [← hl]; simp
  have hl3 := hl2
  simp at hl3
  simp [Gives, execOp, Instr.build, zeroValue, typeInfo, hi, hz, run_underlying h1, h2, Value.cells, hl3, hcs]
theorem parts1 {i0:Nat} {x0:Operand} {v0:Value} (h0:ev E x0=v0):(#[(i0,x0)]:Array (Nat×Operand)).toList.map (fun p=>(p.1,ev E p.2))=[(i0,v0)]:=by simp [h0]
theorem parts2 {i0 i1:Nat} {x0 x1:Operand} {v0 v1:Value} (h0:ev E x0=v0) (h1:ev E x1=v1):(#[(i0,x0),(i1,x1)]:Array (Nat×Operand)).toList.map (fun p=>(p.1,ev E p.2))=[(i0,v0),(i1,v1)]:=by simp [h0,h1]
theorem parts3 {i0 i1 i2:Nat} {x0 x1 x2:Operand} {v0 v1 v2:Value} (h0:ev E x0=v0) (h1:ev E x1=v1) (h2:ev E x2=v2):(#[(i0,x0),(i1,x1),(i2,x2)]:Array (Nat×Operand)).toList.map (fun p=>(p.1,ev E p.2))=[(i0,v0),(i1,v1),(i2,v2)]:=by simp [h0,h1,h2]
theorem parts4 {i0 i1 i2 i3:Nat} {x0 x1 x2 x3:Operand} {v0 v1 v2 v3:Value} (h0:ev E x0=v0) (h1:ev E x1=v1) (h2:ev E x2=v2) (h3:ev E x3=v3):(#[(i0,x0),(i1,x1),(i2,x2),(i3,x3)]:Array (Nat×Operand)).toList.map (fun p=>(p.1,ev E p.2))=[(i0,v0),(i1,v1),(i2,v2),(i3,v3)]:=by simp [h0,h1,h2,h3]
theorem parts5 {i0 i1 i2 i3 i4:Nat} {x0 x1 x2 x3 x4:Operand} {v0 v1 v2 v3 v4:Value} (h0:ev E x0=v0) (h1:ev E x1=v1) (h2:ev E x2=v2) (h3:ev E x3=v3) (h4:ev E x4=v4):(#[(i0,x0),(i1,x1),(i2,x2),(i3,x3),(i4,x4)]:Array (Nat×Operand)).toList.map (fun p=>(p.1,ev E p.2))=[(i0,v0),(i1,v1),(i2,v2),(i3,v3),(i4,v4)]:=by simp [h0,h1,h2,h3,h4]
theorem parts6 {i0 i1 i2 i3 i4 i5:Nat} {x0 x1 x2 x3 x4 x5:Operand} {v0 v1 v2 v3 v4 v5:Value} (h0:ev E x0=v0) (h1:ev E x1=v1) (h2:ev E x2=v2) (h3:ev E x3=v3) (h4:ev E x4=v4) (h5:ev E x5=v5):(#[(i0,x0),(i1,x1),(i2,x2),(i3,x3),(i4,x4),(i5,x5)]:Array (Nat×Operand)).toList.map (fun p=>(p.1,ev E p.2))=[(i0,v0),(i1,v1),(i2,v2),(i3,v3),(i4,v4),(i5,v5)]:=by simp [h0,h1,h2,h3,h4,h5]
/-- The slice value v reads as1 the structs xss,each of sz cells. -/
def WRow (w:World) (v:Value) (sz:Nat) (xss:List (List Value)):Prop:=
 ∃A c,v=.slice A xss.length c∧xss.length≤c∧c≤9223372036854775807∧(A=none→c=0) ∧
  (0<xss.length→∃b o,A=some ⟨b,o,none⟩∧∀j cs,xss[j]?=some cs→w.rangeAt b (o+j*sz) cs)
theorem wrow_one {w:World} (h:WRow w v sz xss):v.oneCell'=true:=by obtain ⟨A,c,rfl,_⟩:=h;rfl
def atW (v:Value) (sz j:Nat):Addr:=match v with | .slice (some a) _ _=>⟨a.block,a.off+j*sz,none⟩ | _=>default
theorem flatten_at {sz:Nat}:∀{xss:List (List Value)},(∀cs∈xss,cs.length=sz)→∀{j:Nat} {cs:List Value},xss[j]?=some cs→∀{i:Nat} {u:Value},cs[i]?=some u→xss.flatten[j*sz+i]?=some u
 | [],_,j,cs,h,_,_,_=>by simp at h
 | c0::r,hs,0,cs,h,i,u,hu=>by
  simp at h;subst h
  have hi:i<c0.length:=(List.getElem?_eq_some_iff.1 hu).1
  simp [List.getElem?_append_left hi,hu]
 | c0::r,hs,j+1,cs,h,i,u,hu=>by
  have h0:c0.length=sz:=hs c0 (by simp)
  have:=flatten_at (xss:=r) (fun c hc=>hs c (by simp [hc])) (j:=j) (by simpa using h) hu
  rw [List.flatten_cons,List.getElem?_append_right (by rw [h0,Nat.succ_mul];omega),h0,show (j+1)*sz+i-sz=j*sz+i by rw [Nat.succ_mul];omega]
  exact this
theorem own_wrow {base n:Nat} (h:w.ownsRow base e sz v n xss.flatten) (hs:∀cs∈xss,cs.length=sz) (hsz:0<sz):WRow w v sz xss:=by
 have hl:=h.1
 have hfl:∀l:List (List Value),(∀cs∈l,cs.length=sz)→l.flatten.length=l.length*sz:=by
  intro l;induction l with
  | nil=>simp
  | cons c r ih=>intro hh;rw [List.flatten_cons,List.length_append,ih (fun c hc=>hh c (by simp [hc])),hh c (by simp),List.length_cons,Nat.succ_mul];omega
 rw [hfl xss hs] at hl
 have hn:xss.length=n:=Nat.eq_of_mul_eq_mul_right hsz hl
 rcases h.2 with ⟨hv,h0⟩ | ⟨g,cap,cur,hv,hb,hg,h1,h2,h3,h4⟩
 ·subst h0
  exact ⟨none,0,by rw [hv,hn],by omega,by decide,fun _=>rfl,fun hp=>by omega⟩
 ·refine ⟨_,cap,by rw [hv,hn],by omega,by simpa [maxLen] using h2,(fun h=>by cases h),fun hp=>⟨g,0,rfl,fun j cs hj i u hu=>?_⟩⟩
  have:=flatten_at hs hj hu
  rw [←h4] at this
  rw [List.getElem?_take] at this
  split at this
  ·simpa [World.cell?,hg] using this
  ·cases this
theorem WRow.below {w w':World} (h:WRow w v sz xss) (hb:(hp w).le (hp w')):WRow w' v sz xss:=by
 obtain ⟨A,c,hv,h1,h2,h3,h4⟩:=h
 refine ⟨A,c,hv,h1,h2,h3,fun hp=>?_⟩
 obtain ⟨b,o,ha,hc⟩:=h4 hp
 refine ⟨b,o,ha,fun j cs hj i u hu=>?_⟩
 have:=hc j cs hj i u hu
 have hlt:=World.block_lt_of_cell? w _ this
 have e1:w.heap[b]?=some w.heap[b]:=by simp
 have e2:w'.heap[b]?=some w.heap[b]:=hb b _ e1
 rw [World.cell?_of_block (e2.trans e1.symm)]
 exact this
def RoW (I:Gh) (v:Value) (sz:Nat) (xss:List (List Value)):Prop:=∀w,I.le (gh w)→WRow w v sz xss
theorem Sat.wrow {I:Gh} {l:List HP} {n:Nat} (S:Sat w I l) (i:Nat) (hi:l[i]?=some (Own e sz v n xss.flatten)) (hs:∀cs∈xss,cs.length=sz) (hsz:0<sz):WRow w v sz xss:=own_wrow (S.own i hi) hs hsz
theorem r_lenW (hx : ev E x = v) (h : WRow w v sz xss) (ht : P.underlying t = some (.slice e)) :
    Gives P E w ⟨dst, .call { callee := .builtin .len, args := #[x], argTypes := #[t] }, ty, pos, aft, gd⟩ (.int .i64 (xss.length : Int)) w := by
  obtain ⟨A, c, rfl, _⟩ := h
  refine run_enterBuiltin .len #[x] #[t] _ _ (Builtin.len_ #[t] ty #[.slice A xss.length c]) (fun c => by simp [builtin, hx]) ?_
  simp [Builtin.len_, run_underlying ht, goInt]
theorem r_indexW {kk : IntKind} {i : Int} (hx : ev E x = v) (h : WRow w v sz xss) (hy : ev E y = .int kk i) (h0 : 0 ≤ i) (h1 : i < xss.length) (ht : P.underlying t = some (.slice e)) (hs : (P.info? e).map (·.size) = some sz) :
    Gives P E w ⟨dst, .indexAddr t x y, ty, pos, aft, gd⟩ (.pointer (some (atW v sz i.toNat))) w := by
  obtain ⟨inf, hinf, hsz⟩ := Option.map_eq_some_iff.1 hs
  obtain ⟨A, c, rfl, _, _, _, h4⟩ := h
  obtain ⟨b, o, rfl, hc⟩ := h4 (by omega)
  simp only [Gives, execOp, hx, hy]
  simp [Instr.indexAt, asIntOf, run_underlying ht, h0, h1, sizeOf, typeInfo, hinf, hsz, atW, Addr.add]
theorem r_loadW {j : Nat} {ds : TypeDesc} (hx : ev E x = .pointer (some (atW v sz j))) (h : WRow w v sz xss) (hj : xss[j]? = some cs) (ht : P.underlying t = some ds) (hd : ds.isRow = true) (hs : (P.info? t).map (·.size) = some cs.length) :
    Gives P E w ⟨dst, .load t x, ty, pos, aft, gd⟩ (.agg cs.toArray) w := by
  obtain ⟨A, c, rfl, _, _, _, h4⟩ := h
  have hlt : j < xss.length := (List.getElem?_eq_some_iff.1 hj).1
  obtain ⟨b, o, rfl, hc⟩ := h4 (by omega)
  simp only [Gives, execOp, hx, atW]
  rw [Sem.run_bind, run_loadAt_mid w b (o + j * sz) t cs ds (hc j cs hj) ht hd hs]
  simp
/-- []T{x, ..}, T a struct. -/
theorem EL_litW {n : Nat} {ps : Array (Nat × Operand)} {z cs : Array Value} {l : List (Nat × Value)} (hd : Nat.blt d N = true) (ht : P.underlying t = some (.slice e)) (hz : (P.info? e).map (fun i => (i.zero, i.size)) = some (some (.agg z), sz)) (hl : ps.toList.map (fun p => (p.1, ev E p.2)) = l)
    (hf : Instr.fill (fun i => some (i * sz, sz)) ((Array.range (n * sz)).map (z[· % z.size]!)) l = some cs) (hc : cs.size = n * sz) (hn : 0 < n ∧ 0 < sz ∧ n * sz ≤ 16777216)
    (h : ∀ v w', w'.ownsRow w.heap.size e sz v n cs.toList → Below w.heap.size w w' → v.ownBlock = some w.heap.size → EL P N ops Q L (upd E d v) w') :
    EL P N ops Q (⟨some d, .buildSlice t n ps, ty, pos, aft, none⟩ :: L) E w := by
  obtain ⟨i, hi, hzz⟩ := Option.map_eq_some_iff.1 hz
  simp only [Prod.mk.injEq] at hzz
  have hle : ¬ 2 ^ 24 < n * sz := by omega
  have hnn : n ≤ n * sz := Nat.le_mul_of_pos_right n hn.2.1
  have hn0 : ¬ (n = 0 ∨ sz = 0) := by omega
  have hp : ¬ n * sz = 0 := by have := Nat.mul_pos hn.1 hn.2.1; omega
  have hl2 : (ps.map (fun (i, x) => (i, ev E x))).toList = l := by rw [← hl]; simp
  simp at hl2
  refine EL_val (.slice (some ⟨w.heap.size, 0, none⟩) n n) (w.alloc (.cells cs e)) hd ?_ (h _ _ ⟨by simp [hc], .inr ⟨w.heap.size, n, cs, rfl, Nat.le_refl _, heap_alloc_new w _, Nat.le_refl _, by simp only [maxLen]; omega, hc, List.take_of_length_le (by simp [hc])⟩⟩ (below_alloc _) rfl)
  simp only [Gives, execOp]
  simp [Instr.buildSlice, run_underlying ht, sizeOf, typeInfo, hi, hzz.1, hzz.2, zeroValue, newRow, hle, hp, hl2, Value.cells, hf]
/-- append(v, v2...), v a row of structs of the call's own. -/
theorem EL_appW {z : Array Value} {bytes : Nat} (base : Nat) {n m : Nat} {v2 : Value} {ys : List Value} {base2 e2 : Nat} (hd : Nat.blt d N = true) (ht : P.underlying t = some (.slice e)) (hz : (P.info? e).map (fun i => (i.zero, i.size, i.bytes)) = some (some (.agg z), sz, bytes)) (hzs : z.size = sz) (hsz : 0 < sz)
    (hx : ev E x = v) (hy : ev E y = v2) (hown : w.ownsRow base e sz v n xs) (hrow : w.ownsRow base2 e2 sz v2 m ys) (hm : 0 < m)
    (h1 : ∀ u ∈ ys, u.oneCell' = true) (hb : (n + m) * bytes ≤ 140737488355328) (hnm : n + m ≤ 140737488355328) (hbase : base ≤ w.heap.size)
    (h : ∀ v' w', w'.ownsRow base e sz v' (n + m) (xs ++ ys) → w.grownBy w' v.ownBlock → (v'.ownBlock = v.ownBlock ∨ v'.ownBlock = some w.heap.size) → EL P N ops Q L (upd E d v') w') :
    EL P N ops Q (⟨some d, .call { callee := .builtin .append, args := #[x, y], argTypes := #[t, t] }, ty, pos, aft, none⟩ :: L) E w := by
  obtain ⟨i, hi, hzz⟩ := Option.map_eq_some_iff.1 hz
  simp only [Prod.mk.injEq] at hzz
  rcases hrow.2 with ⟨_, h0⟩ | ⟨g, cap, cur, rfl, hbg, hg, hnc, hcm, hcs, htk⟩
  · omega
  · have hnews : ∀ j u, ys[j]? = some u → w.cell? ((⟨g, 0, none⟩ : Addr).add j) = some u := fun j u hu => by
      rw [Addr.add_mid]
      have : cur.toList[j]? = some u := by
        rw [← htk, List.getElem?_take] at hu
        split at hu
        · exact hu
        · cases hu
      simpa [World.cell?, hg] using this
    obtain ⟨v', w', hr, h2, h3, _, h5⟩ := run_append_own_at (P := P) w base t ty e i (.agg z) sz bytes ht hi hzz.1 hzz.2.1 hzz.2.2 hzs hsz v n xs hown ⟨g, 0, none⟩ m cap ys hrow.1 hnews h1 (by simp only [maxLen]; omega) hb hbase
    exact EL_val v' w' hd (run_enterBuiltin .append #[x, y] #[t, t] _ _ (Builtin.append_ #[t, t] ty #[v, .slice (some ⟨g, 0, none⟩) m cap]) (fun c => by simp [builtin, hx, hy]) hr) (h v' w' h2 h3 h5)
theorem r_lenS {l : List UInt8} (hx : ev E x = .string (str l)) (ht : P.underlying t = some .string) :
    Gives P E w ⟨dst, .call { callee := .builtin .len, args := #[x], argTypes := #[t] }, ty, pos, aft, gd⟩ (.int .i64 (l.length : Int)) w := by
  refine run_enterBuiltin .len #[x] #[t] _ _ (Builtin.len_ #[t] ty #[.string (str l)]) (fun c => by simp [builtin, hx]) ?_
  have hsz : (str l).size = l.length := by simp [str, ByteArray.size]
  simp [Builtin.len_, run_underlying ht, goInt, hsz]
/-- []byte(s) -/
theorem EL_bytes {l : List UInt8} (hd : Nat.blt d N = true) (hx : ev E x = .string (str l)) (hs : P.underlying t = some .string) (ht : P.underlying t2 = some (.slice e)) (he : P.underlying e = some (.int .u8)) (hn : l.length ≤ 1000000000)
    (h : ∀ v w', Below w.heap.size w w' → v.ownBlock = some w.heap.size → Bs w' v l → w.heap.size < w'.heap.size → EL P N ops Q L (upd E d v) w') : EL P N ops Q (⟨some d, .convert t t2 x, ty, pos, aft, none⟩ :: L) E w := by
  have hsz : (str l).size = l.length := by simp [str, ByteArray.size]
  have hge := grownCap_ge w l.length 0 e
  have hle := grownCap_le_maxLen w l.length 0 e (by simp only [maxLen]; omega)
  simp only [maxLen] at hle
  have hq : (Question.appendCap l.length 0 e).forced = false := rfl
  have hch : (choose (.appendCap l.length 0 e)).run P w = .ok (grownCap w l.length 0 e) w.drew := by
    simp [choose, Sem.run, hq, grownCap]
  generalize hc : grownCap w l.length 0 e = c at *
  have hcut : (Question.appendCap l.length 0 e).cut (w.tape w.drawn (.appendCap l.length 0 e)) = c := hc
  obtain ⟨cs, hcs⟩ : ∃ cs : Array Value, cs = (str l).data.map (fun b => Value.int .u8 b.toNat) ++ Array.replicate (c - l.length) (.int .u8 0) := ⟨_, rfl⟩
  have hcsz : cs.size = c := by rw [hcs]; simp [str]; omega
  have hb : (w.drew.alloc (.cells cs e)).heap[w.heap.size]? = some (.cells cs e) := heap_alloc_new w.drew _
  refine EL_val (.slice (some ⟨w.heap.size, 0, none⟩) l.length c) ((w.drew.alloc (.cells cs e)).freeze ⟨w.heap.size, cs.size, none⟩ 1) hd ?_ (h _ _ ⟨?_, ?_, ?_, ?_, fun k hk => ?_⟩ rfl ⟨_, c, by simp, by simpa using hge, hle, (fun h => by cases h), fun hp => ⟨w.heap.size, 0, rfl, fun j hj => ?_⟩⟩ (by simp [World.freeze]))
  · simp only [Gives, execOp, hx, convert]
    have hsh : (w.drew.alloc (.cells cs e)).shape? w.heap.size = some (e, cs.size) := by simp only [World.shape?, hb]
    simp [run_underlying hs, run_underlying ht, run_underlying he, Conv.stringToBytes, hsz, hq, hcut, newRow, markStringish, shape, freeze, Sem.run, hsh, ← hcs]
  · simp only [World.freeze, Nat.one_ne_zero, if_false]; rfl
  · simp only [World.freeze, Nat.one_ne_zero, if_false]; rfl
  · simp only [World.freeze, Nat.one_ne_zero, if_false]; rfl
  · simp [World.freeze]
  · have : w.heap.size ≠ k := by omega
    simp only [World.freeze, Nat.one_ne_zero, if_false, Array.getElem?_modify, this]
    exact heap_alloc_old w.drew _ (by simpa using hk)
  · simp only [List.length_map] at hj
    simp only [World.freeze, World.cell?, Nat.one_ne_zero, if_false, Array.getElem?_modify, hb]
    simp [hcs, str, Array.getElem?_append, hj, byt]
theorem Sat.newR {I:Gh} {l:List HP} (S:Sat w I l) (hb:Below w.heap.size w w') (hv:v.ownBlock=some w.heap.size) (hr:Row w' v xs) (hlt:w.heap.size<w'.heap.size):∃J:Gh,I.le J∧Sat w' J l∧Ro J v xs:=by
 obtain ⟨u,hu,hw,e⟩:=S
 have ho:w'.heap[w.heap.size]?=some w'.heap[w.heap.size]:=by simp
 have hn:u w.heap.size=none:=by
  cases hx:u w.heap.size with
  | none=>rfl
  | some o=>have:=(Array.getElem?_eq_some_iff.1 (hw _ o hx)).1;omega
 have hd:(PH.one w.heap.size w'.heap[w.heap.size]).dis u:=one_dis hn
 have hdI:(PH.one w.heap.size w'.heap[w.heap.size]).dis I.h:=PH.dis_mono hd hu.base
 have hIJ:I.le ⟨(PH.one w.heap.size w'.heap[w.heap.size]).uni I.h,I.os,I.tape,I.out⟩:=⟨PH.uni_r hdI,rfl,rfl,rfl⟩
 refine ⟨⟨(PH.one w.heap.size w'.heap[w.heap.size]).uni I.h,I.os,I.tape,I.out⟩,hIJ,⟨_,hu.more hIJ hd,PH.uni_le (one_le ho) (PH.le_trans hw (hp_below hb)),hb.os.trans e.1,hb.tape.trans e.2.1,hb.output.trans e.2.2⟩,fun w2 k=>?_⟩
 refine hr.keep fun b hb=>?_
 rw [hv] at hb;cases hb
 have:=k.1 w.heap.size w'.heap[w.heap.size] (PH.uni_l _ _ _ _ (by simp [PH.one]))
 exact Eq.trans this ho.symm
theorem own_block {base n:Nat} (h:w.ownsRow base e sz v n xs) (hn:0<n):∃g,v.ownBlock=some g:=by
 rcases h.2 with ⟨_,h0⟩ | ⟨g,cap,cur,rfl,_⟩
 ·omega
 ·exact ⟨g,rfl⟩
/-- []T{x, ..}, T of one cell. -/
theorem EL_lit1 {z : Value} {bytes : Nat} {n : Nat} {ps : Array (Nat × Operand)} {l : List (Nat × Value)} (base : Nat) (vs : List Value) (hE : Elem P t e z bytes) (hd : Nat.blt d N = true) (hn : n ≤ 16777216) (hs : vs.length = n) (hB : base ≤ w.heap.size)
    (hl : ps.toList.map (fun p => (p.1, ev E p.2)) = l) (hcs : Instr.fill (fun i => some (i * 1, 1)) ((Array.range (n * 1)).map (z.cells[· % z.cells.size]!)) l = some vs.toArray)
    (h : ∀ v w', w'.ownsRow base e 1 v vs.length vs → Below w.heap.size w w' → v.ownBlock = some w.heap.size → EL P N ops Q L (upd E d v) w') :
    EL P N ops Q (⟨some d, .buildSlice t n ps, ty, pos, aft, none⟩ :: L) E w := by
  have hl2 : (ps.map (fun (i, x) => (i, ev E x))).toList = l := by rw [← hl]; simp
  exact EL_lit base vs.toArray hE hd hn (by simpa using hs) hB (by rw [hl2]; exact hcs) (fun v w' h1 h2 h3 _ => h v w' (by simpa using h1) h2 h3)
theorem EC_post {c:Code} (J:Env→World→Prop) (h:EC P N c (thn J Q) E w) (k:∀E w,J E w→Q .normal E w):EC P N c Q E w:=
 EC_mono h fun e E w hq=>by cases e<;>first | exact k _ _ hq | exact hq
abbrev KV (P:Program) (k:TypeId) (v:Value):Prop:=∃l,keyOf P k v=some l
theorem Sat.map {I:Gh} {l:List HP} {es:List (Value×Value)} (S:Sat w I l) (i:Nat) (hi:l[i]?=some (Mp b es)):∃arr clock,w.heap[b]?=some (.map arr clock)∧arr.toList.map (fun e=>(e.key,e.val))=es:=by
 obtain ⟨h,r,⟨arr,clock,h1,h2⟩,_,h3,_⟩:=S.focus hi
 subst h1
 exact ⟨arr,clock,le_one h3,h2⟩
theorem Sat.mapW {I:Gh} {l:List HP} {es es':List (Value×Value)} {arr:Array MapEntry} {clock:Nat} (S:Sat w I l) (i:Nat) (hi:l[i]?=some (Mp b es)) (hk:w.grownBy w' (some b)) (ha:w'.heap[b]?=some (.map arr clock)) (he:arr.toList.map (fun e=>(e.key,e.val))=es'):Sat w' I (l.set i (Mp b es')):=by
 obtain ⟨h,r,⟨arr0,clock0,h1,_⟩,h2,h3,h4,h5,h6⟩:=S.focus hi
 subst h1
 exact h6 _ _ w' (Nx.grown hk) ⟨arr,clock,rfl,he⟩ (one_dis (dis_one h2)) (one_le ha) (rest_kept h4 hk (fun g hg=>by cases hg;exact dis_one h2))
/-- map[K]V{} -/
theorem EL_map (hd : Nat.blt d N = true) (h : ∀ b w', b = w.heap.size → w'.heap[b]? = some (.map #[] 0) → Below w.heap.size w w' → EL P N ops Q L (upd E d (.map (some b))) w') :
    EL P N ops Q (⟨some d, .makeMap t none, ty, pos, aft, none⟩ :: L) E w := by
  refine EL_val (.map (some w.heap.size)) (w.alloc (.map #[] 0)) hd ?_ (h _ _ rfl (heap_alloc_new w _) (below_alloc _))
  simp [Gives, execOp, Instr.makeMap]
theorem Sat.newM {I:Gh} {l:List HP} (S:Sat w I l) (hb:Below w.heap.size w w') (ha:w'.heap[b]?=some (.map #[] 0)) (he:b=w.heap.size):Sat w' I (Mp b []::l):=
 S.add (P:=Mp b []) (Nx.below hb) ⟨#[],0,rfl,rfl⟩ (hp_below hb) (fun k o e=>by
  unfold PH.one at e;split at e
  ·omega
  ·cases e) (one_le ha)
/-- v, ok := m[k] -/
theorem r_lookup {es : List (Value × Value)} {arr : Array MapEntry} {clock : Nat} {z kv : Value} (K : WideMaps.KeyLaw P k) (ht : P.underlying t = some (.map k e)) (hz : (P.info? e).bind (·.zero) = some z) (hx : ev E x = .map (some b)) (hy : ev E y = kv) (hb : w.heap[b]? = some (.map arr clock))
    (he : arr.toList.map (fun e => (e.key, e.val)) = es) (hk : KV P k kv) (hall : ∀ p ∈ es, KV P k p.1) {r : Value} {ok : Bool}
    (hr : (∀ p ∈ es, p.1 ≠ kv) → r = z ∧ ok = false) (hr2 : ∀ (j : Nat) (u : Value), es[j]? = some (kv, u) → r = u ∧ ok = true) :
    Gives P E w ⟨dst, .lookup t x y true, ty, pos, aft, gd⟩ (.tuple #[r, .bool ok]) w := by
  obtain ⟨lk, hlk⟩ := hk
  obtain ⟨i, hi, hz'⟩ := Option.bind_eq_some_iff.1 hz
  have hall' : ∀ e ∈ arr.toList, ∃ l, keyOf P k e.key = some l := fun en hen => hall (en.key, en.val) (by rw [← he]; exact List.mem_map.2 ⟨en, hen, rfl⟩)
  have hg := MapKept.run_getObj_map (P := P) hb
  simp only [Gives, execOp, hx, hy]
  rcases K.find w hlk arr.toList hall' with ⟨h1, h2⟩ | ⟨j, e0, h1, h2, h3⟩
  · obtain ⟨rfl, rfl⟩ := hr (fun p hp => by rw [← he] at hp; obtain ⟨en, hen, rfl⟩ := List.mem_map.1 hp; exact h2 en hen)
    simp [Instr.lookup, run_underlying ht, hg, K.check w _ hlk, h1, zeroValue, typeInfo, hi, hz']
  · obtain ⟨rfl, rfl⟩ := hr2 j e0.val (by rw [← he, List.getElem?_map, h2]; simp [h3])
    simp [Instr.lookup, run_underlying ht, hg, K.check w _ hlk, h1]
/-- m[k] = v, k new -/
theorem EL_mapNew {es : List (Value × Value)} {arr : Array MapEntry} {clock : Nat} {kv u : Value} {z : Operand} (K : WideMaps.KeyLaw P k) (ht : P.underlying t = some (.map k e)) (hx : ev E x = .map (some b)) (hy : ev E y = kv) (hz : ev E z = u) (hb : w.heap[b]? = some (.map arr clock))
    (he : arr.toList.map (fun e => (e.key, e.val)) = es) (hk : KV P k kv) (hall : ∀ p ∈ es, KV P k p.1) (hno : ∀ p ∈ es, p.1 ≠ kv)
    (h : ∀ w' arr' clock', w'.heap[b]? = some (.map arr' clock') → arr'.toList.map (fun e => (e.key, e.val)) = es ++ [(kv, u)] → w.grownBy w' (some b) → EL P N ops Q L E w') :
    EL P N ops Q (⟨none, .mapUpdate t x y z, ty, pos, aft, none⟩ :: L) E w := by
  obtain ⟨lk, hlk⟩ := hk
  have hall' : ∀ e ∈ arr.toList, ∃ l, keyOf P k e.key = some l := fun en hen => hall (en.key, en.val) (by rw [← he]; exact List.mem_map.2 ⟨en, hen, rfl⟩)
  have hg := MapKept.run_getObj_map (P := P) hb
  have hs := MapKept.run_setObj_map (P := P) (.map (arr.push ⟨kv, u, clock⟩) (clock + 1)) hb
  have hlt : b < w.heap.size := (Array.getElem?_eq_some_iff.1 hb).1
  rcases K.find w hlk arr.toList hall' with ⟨h1, h2⟩ | ⟨j, e0, h1, h2, h3⟩
  · refine EL_do { w with heap := w.heap.setIfInBounds b (.map (arr.push ⟨kv, u, clock⟩) (clock + 1)) } ?_ (h _ (arr.push ⟨kv, u, clock⟩) (clock + 1) (MapKept.heap_set hb).1 (by simp [he]) ⟨rfl, rfl, rfl, by simp, fun q _ hq => (MapKept.heap_set hb).2 q (fun hh => hq (by rw [hh]))⟩)
    simp only [Gives, execOp, hx, hy, hz]
    simp [Instr.mapUpdate, run_underlying ht, hg, K.check w _ hlk, h1, hs]
  · exfalso
    have : e0 ∈ arr.toList := List.mem_of_getElem? h2
    exact hno (e0.key, e0.val) (by rw [← he]; exact List.mem_map.2 ⟨e0, this, rfl⟩) h3
theorem run_eqS {a c:Value} {b:Bool} (hk:P.keyTypeAt 100 t=true) (ht:P.tiled 100 t=true) (hw:(match P.underlying t with | some (.array _ _) | some (.struct _)=>true | _=>false)=true) (ha:KV P t a) (hc:KV P t c) (hb:b=true↔a=c):(Op.equal t a c).run P w=.ok b w:=by
 obtain ⟨la,hla⟩:=ha
 obtain ⟨lc,hlc⟩:=hc
 obtain ⟨r,hr,hi⟩:=run_equal_deep w (m:=100) (by decide) hk hw hla hlc
 have:r=b:=by
  have h2:la=lc↔a=c:=⟨fun h=>by subst h;exact keyOf_inj_deep ht hw hla hlc,fun h=>by subst h;rw [hla] at hlc;exact Option.some.inj hlc⟩
  rw [h2,←hb] at hi
  cases r<;>cases b<;>simp_all
 rw [←this];exact hr
theorem r_neqS {xs ys : Array Value} {b : Bool} (hk : P.keyTypeAt 100 t = true) (ht : P.tiled 100 t = true) (hw : (match P.underlying t with | some (.array _ _) | some (.struct _) => true | _ => false) = true) (hg : P.eqGuardType P.depth t = false) (hx : ev E x = .agg xs) (hy : ev E y = .agg ys) (ha : KV P t (.agg xs)) (hc : KV P t (.agg ys)) (hb : b = true ↔ (.agg xs : Value) = .agg ys) :
    Gives P E w ⟨dst, .binOp .neq t x y t2, ty, pos, aft, gd⟩ (.bool (!b)) w := by
  have he := run_eqS (w := w) hk ht hw ha hc hb
  simp only [Gives, execOp, hx, hy, eqGuard]
  simp [hg, binOp, he]
/-- What is told is a variable's value, and something else. -/
theorem fin2c {fn : Func} {R : Ending → World → Prop} {q t' : Nat} {tt : TypeId} {ds : TypeDesc} {v' : Value} (hr : fn.results = #[.cell q tt, .tmp t']) (hE : E q = ptr b) (hv' : E t' = v') (hA : Arr w b T cs) (hu : P.underlying tt = some ds) (hd : oneB ds = false) (hs : (P.info? tt).map (·.size) = some cs.length)
    (h : R (.returned (.tuple #[.agg cs.toArray, v'])) w) : fin P fn R .ret E w := fun tmps ht => by
  refine ⟨_, ?_, h⟩
  have hl := run_loadVar_row (P := P) w b T tt cs.toArray (0, 0) ds hA hu (by cases ds <;> simp_all [oneB]) (by simpa using hs)
  have h1 : tmps[q]?.getD undef = .pointer (some ⟨b, 0, none⟩) := by have := ht q; rw [hE] at this; simpa [ptr] using this
  have h2 : tmps[t']?.getD undef = v' := by have := ht t'; rw [hv'] at this; simpa using this
  simp [results, hr, h1, h2, asAddr, hl]
theorem r_mkfun {f:FuncId} {first captured:Array Operand} {cap:List Value} (h0:first=#[]) (hx:captured.toList.map (ev E)=cap):Gives P E w ⟨dst,.makeFunc (.func f) first captured,ty,pos,aft,gd⟩ (.func (.func f) #[] cap.toArray) w:=by
 subst hx h0
 simp [Gives,execOp,Instr.makeFunc]
 rw [←Array.toList_map,Array.toArray_toList]
theorem run_callW {f : FuncId} {fn : Func} {c : Operand} {cap : List Value} {args : Array Operand} {ats : Array TypeId} (hc : ev E c = .func (.func f) #[] cap.toArray) (hf : P.funcs[f]? = some fn) (hb : fn.body.isNone = false) (hnm : (fn.name == "runtime.NumGoroutine") = false) :
    (execOp (ev E) ⟨dst, .call { callee := .value c, args, argTypes := ats }, ty, pos, aft, gd⟩).run P w = .ok (.enter f (args.map (ev E) ++ cap.toArray)) w := by
  have h1 : fn.name ≠ "runtime.NumGoroutine" := by simpa using hnm
  have h2 : fn.body ≠ none := by intro h; rw [h] at hb; cases hb
  simp [execOp, resolve, hc, Deferred.ofValue, invoke, callFunc, hf, h1, h2]
/-- A call by a function's value. -/
theorem EL_retw {f : FuncId} {fn : Func} {c : Operand} {cap : List Value} {args : Array Operand} {ats : Array TypeId} {R : Value → World → Prop} (l : List Value) (hd : Nat.blt d N = true) (hcv : ev E c = .func (.func f) #[] cap.toArray) (hf : P.funcs[f]? = some fn) (hb : fn.body.isNone = false) (hnm : (fn.name == "runtime.NumGoroutine") = false)
    (ha : args.toList.map (ev E) ++ cap = l) (hc : Ret P f l w R) (h : ∀ v w', R v w' → EL P N ops Q L (upd E d v) w') :
    EL P N ops Q (⟨some d, .call { callee := .value c, args, argTypes := ats }, ty, pos, aft, none⟩ :: L) E w := by
  subst ha
  refine EL_call (f := f) (args := args.map (ev E) ++ cap.toArray) (R := fun e w' => ∃ v, e = .returned v ∧ R v w') hd (run_callW hcv hf hb hnm) ?_ (fun e w' ⟨v, he, _⟩ => ⟨v, he⟩) (fun v w' ⟨v', he, hr⟩ => ?_)
  · have : args.map (ev E) ++ cap.toArray = (args.toList.map (ev E) ++ cap).toArray := by apply Array.toList_inj.1; simp
    rw [this]; exact hc
  · injection he with he; subst he; exact h _ _ hr
end
end Go.Ecal
