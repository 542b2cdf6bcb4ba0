import Derived.Lib.AppendZerosOnto
import Derived.Lib.Overlaps
import Derived.ArgAppend
import Derived.Laws.CopyRow
import Derived.Test.YthddplghlljdbaaGreatQWorldPostGo
set_option linter.unusedVariables false
set_option linter.unusedSimpArgs false
namespace Go.Ecal
open Go.RowKit
section
variable {P : Program} {N : Nat} {Q : Exit → Env → World → Prop} {E : Env} {w w' : World} {ops : Array Oper} {L : List Oper} {I : Gh} {l : List HP}
variable {d : Nat} {op : Op} {ty : TypeId} {pos : String} {aft : Array Edge} {dst : Option Tmp} {gd : Option (Nat × Bool)}
variable {t t2 T e : TypeId} {x y : Operand} {g o n cap i j m c sz : Nat} {C xs cs : List Value} {v : Value} {a : Addr}
theorem EL_drop' {v : Value} (w' : World) (hrun : (execOp (ev E) ⟨none, op, ty, pos, aft, none⟩).run P w = .ok (.value v) w')
    (h : EL P N ops Q L E w') : EL P N ops Q (⟨none, op, ty, pos, aft, none⟩ :: L) E w := fun a hs =>
  wpList_plain rfl fun K hK => by
    unfold Oper.wp
    rw [hs.eval, hrun]
    exact hK _ _ (h _ hs)
/-- A row that has something,as1 its block's cells;and back. -/
theorem own_cells (S:Sat w I (Own e sz v n xs::l)) (hn:0<n):∃g cap C,v=.slice (some ⟨g,0,none⟩) n cap∧n≤cap∧cap≤maxLen∧C.length=cap*sz∧C.take (n*sz)=xs∧Sat w I (Blk g e C::l):=by
 obtain ⟨u,⟨h,r,h1,h2,h3,h4⟩,hw,e0⟩:=S
 rcases h1.2 with ⟨_,h0,_⟩ | ⟨g,cap,cur,hv,he,k1,k2,k3,k4⟩
 ·omega
 ·exact ⟨g,cap,cur.toList,hv,k1,k2,by simpa using k3,k4,u,⟨h,r,by rw [he];rfl,h2,h3,h4⟩,hw,e0⟩
theorem cells_own (S:Sat w I (Blk g e C::l)) (h1:n≤cap) (h2:cap≤maxLen) (h3:C.length=cap*sz) (h4:C.take (n*sz)=xs):Sat w I (Own e sz (.slice (some ⟨g,0,none⟩) n cap) n xs::l):=by
 obtain ⟨u,⟨h,r,k1,k2,k3,k4⟩,hw,e0⟩:=S
 refine ⟨u,⟨h,r,⟨?_,.inr ⟨g,cap,C.toArray,rfl,k1,h1,h2,by simpa using h3,by simpa using h4⟩⟩,k2,k3,k4⟩,hw,e0⟩
 rw [←h4,List.length_take,h3,Nat.min_eq_left (Nat.mul_le_mul_right _ h1)]
/-- s[i:j], where there is room. -/
theorem r_sliceC (hx : ev E x = .slice (some ⟨g, o, none⟩) n cap) (ht : P.underlying t = some (.slice e)) (hs : (P.info? e).map (·.size) = some sz) (i j : Nat) (hij : i ≤ j) (hj : j ≤ cap) {lo hi : Option Operand}
    (hlo : (lo = none ∧ i = 0) ∨ ∃ o k, lo = some o ∧ ev E o = .int k (i : Int)) (hhi : (hi = none ∧ j = n) ∨ ∃ o k, hi = some o ∧ ev E o = .int k (j : Int)) :
    Gives P E w ⟨dst, .slice t x lo hi none, ty, pos, aft, gd⟩ (.slice (some ⟨g, if cap = i then o else o + i * sz, none⟩) (j - i) (cap - i)) w := by
  obtain ⟨inf, hinf, hsz⟩ := Option.map_eq_some_iff.1 hs
  simp only [Gives, execOp, hx]
  rcases hlo with ⟨rfl, rfl⟩ | ⟨o1, k1, rfl, hl⟩ <;> rcases hhi with ⟨rfl, rfl⟩ | ⟨o2, k2, rfl, hh⟩
  · simp [Instr.sliceAt, run_underlying ht, Instr.slice, Instr.sliceBounds, sizeOf, typeInfo, hinf, hsz] <;> (try split) <;> simp_all [Addr.add_mid]
  · simp [Instr.sliceAt, run_underlying ht, Instr.slice, Instr.sliceBounds, Instr.sliceBound, asIntOf, sizeOf, typeInfo, hinf, hsz, hj, hh] <;> (try split) <;> simp_all [Addr.add_mid]
  · simp [Instr.sliceAt, run_underlying ht, Instr.slice, Instr.sliceBounds, Instr.sliceBound, asIntOf, sizeOf, typeInfo, hinf, hsz, hij, hl] <;> (try split) <;> simp_all [Addr.add_mid]
  · simp [Instr.sliceAt, run_underlying ht, Instr.slice, Instr.sliceBounds, Instr.sliceBound, asIntOf, sizeOf, typeInfo, hinf, hsz, hij, hj, hl, hh] <;> (try split) <;> simp_all [Addr.add_mid]
/-- s[i:j:m] -/
theorem r_slice3C {o1 o2 o3 : Operand} {k1 k2 k3 : IntKind} (hx : ev E x = .slice (some ⟨g, o, none⟩) n cap) (ht : P.underlying t = some (.slice e)) (hs : (P.info? e).map (·.size) = some sz) (hij : i ≤ j) (hj : j ≤ m) (hm : m ≤ cap)
    (h1 : ev E o1 = .int k1 (i : Int)) (h2 : ev E o2 = .int k2 (j : Int)) (h3 : ev E o3 = .int k3 (m : Int)) :
    Gives P E w ⟨dst, .slice t x (some o1) (some o2) (some o3), ty, pos, aft, gd⟩ (.slice (some ⟨g, if m = i then o else o + i * sz, none⟩) (j - i) (m - i)) w := by
  obtain ⟨inf, hinf, hsz⟩ := Option.map_eq_some_iff.1 hs
  simp only [Gives, execOp, hx]
  simp [Instr.sliceAt, run_underlying ht, Instr.slice, Instr.sliceBounds, Instr.sliceBound, asIntOf, sizeOf, typeInfo, hinf, hsz, hij, hj, hm, h1, h2, h3] <;> (try split) <;> simp_all [Addr.add_mid]
theorem Arr.src (h:Arr w g T C) (o k:Nat):∀j u,((C.drop o).take k)[j]?=some u→w.cell? ((⟨g,o,none⟩:Addr).add j)=some u:=fun j u hj=>by
 rw [Addr.add_mid]
 rw [List.getElem?_take] at hj
 split at hj
 ·rw [List.getElem?_drop] at hj;exact h.cell hj
 ·cases hj
theorem Arr.keptRow (h:Arr w g T C) (D:List Value):Arr (w.setRow g D.toArray) g T D∧Kept w (w.setRow g D.toArray) g:=⟨setRow_heap w g C.toArray _ T (0,0) h,rfl,rfl,rfl,by simp [World.setRow],fun k _ hk=>setRow_other w g k _ (fun he=>hk (by rw [he]))⟩
theorem run_copyC {sT : TypeId} {dLen dCap sLen sCap : Nat} (hu : P.underlying t = some (.slice e)) (hs : (P.info? e).map (·.size) = some sz) (hg : Arr w g T C) (hn : cs.length = Nat.min sLen dLen * sz)
    (hsrc : ∀ j v, cs[j]? = some v → w.cell? (a.add j) = some v) (hfit : o + cs.length ≤ C.length) (h1 : ∀ v ∈ cs, v.oneCell' = true) :
    (Builtin.copy_ #[t, sT] ty #[.slice (some ⟨g, o, none⟩) dLen dCap, .slice (some a) sLen sCap]).run P w =
      .ok (goInt (Nat.min sLen dLen)) (w.setRow g (C.take o ++ cs ++ C.drop (o + cs.length)).toArray) := by
  have hl := run_loadCells_list (P := P) w a cs hsrc
  have hst := run_storeCells_at P g o T cs 0 C.toArray w hg (by simpa using hfit) h1
  obtain ⟨inf, hi, hsz⟩ := Option.map_eq_some_iff.1 hs
  simp [Builtin.copy_, run_underlying hu, Builtin.lenOf, Builtin.firstCells, sizeOf, typeInfo, hi, hsz, ← hn, hl, hst]
/-- copy(d, s) into a block's cells. -/
theorem EL_copyC {sT : TypeId} {sLen sCap : Nat} (S : Sat w I (Blk g T C :: l)) (hx : ev E x = .slice (some ⟨g, o, none⟩) n c) (hy : ev E y = .slice (some a) sLen sCap) (cs : List Value) (hsrc : ∀ j v, cs[j]? = some v → w.cell? (a.add j) = some v) (hd : Nat.blt d N = true) (ht : P.underlying t = some (.slice e)) (hs : (P.info? e).map (·.size) = some sz)
    (hn : cs.length = Nat.min sLen n * sz) (hfit : o + cs.length ≤ C.length) (h1 : ∀ v ∈ cs, v.oneCell' = true)
    (h : ∀ w', Sat w' I (Blk g T (C.take o ++ cs ++ C.drop (o + cs.length)) :: l) → EL P N ops Q L (upd E d (.int .i64 (Nat.min sLen n : Nat))) w') :
    EL P N ops Q (⟨some d, .call { callee := .builtin .copy, args := #[x, y], argTypes := #[t, sT] }, ty, pos, aft, none⟩ :: L) E w := by
  have hA := S.arr 0 rfl
  have hr := run_copyC (P := P) (ty := ty) (sT := sT) (dCap := c) (sCap := sCap) ht hs hA hn hsrc hfit h1
  obtain ⟨k1, k2⟩ := hA.keptRow (C.take o ++ cs ++ C.drop (o + cs.length))
  exact EL_val _ _ hd (run_enterBuiltin .copy #[x, y] #[t, sT] _ _ (Builtin.copy_ #[t, sT] ty #[.slice (some ⟨g, o, none⟩) n c, .slice (some a) sLen sCap]) (fun c => by simp [builtin, hx, hy]) hr) (h _ (S.wr0 k2 k1))
/-- append(s, x...), where there is room. -/
theorem EL_roomC {sLen sCap : Nat} (S : Sat w I (Blk g e C :: l)) (hx : ev E x = .slice (some ⟨g, 0, none⟩) n cap) (hy : ev E y = .slice (some a) sLen sCap) (cs : List Value) (hsrc : ∀ j v, cs[j]? = some v → w.cell? (a.add j) = some v) (hd : Nat.blt d N = true) (ht : P.underlying t = some (.slice e)) (hs : (P.info? e).map (·.size) = some sz)
    (hn : cs.length = sLen * sz) (hroom : n + sLen ≤ cap) (hfit : n * sz + cs.length ≤ C.length) (h1 : ∀ v ∈ cs, v.oneCell' = true)
    (h : ∀ w', Sat w' I (Blk g e (C.take (n * sz) ++ cs ++ C.drop (n * sz + cs.length)) :: l) → EL P N ops Q L (upd E d (.slice (some ⟨g, 0, none⟩) (n + sLen) cap)) w') :
    EL P N ops Q (⟨some d, .call { callee := .builtin .append, args := #[x, y], argTypes := #[t, t] }, ty, pos, aft, none⟩ :: L) E w := by
  have hA := S.arr 0 rfl
  obtain ⟨inf, hi, rfl⟩ := Option.map_eq_some_iff.1 hs
  have hr := run_append_room (P := P) w t ty e inf ht hi g n cap C.toArray hA a sLen sCap cs hn hsrc h1 hroom (by simpa using hfit)
  obtain ⟨k1, k2⟩ := hA.keptRow (C.take (n * inf.size) ++ cs ++ C.drop (n * inf.size + cs.length))
  exact EL_val _ _ hd (run_enterBuiltin .append #[x, y] #[t, t] _ _ (Builtin.append_ #[t, t] ty #[.slice (some ⟨g, 0, none⟩) n cap, .slice (some a) sLen sCap]) (fun c => by simp [builtin, hx, hy]) hr) (h _ (S.wr0 k2 (by simpa using k1)))
/-- append(s, make([]T, k)...), where there is none. -/
theorem EL_zerosC {z : Value} {bytes : Nat} {ti : TypeId} {kn kx : IntKind} {k : Nat} (S : Sat w I (Blk g e C :: l)) (hx : ev E x = .slice (some ⟨g, 0, none⟩) n cap) (hy : ev E y = .int kx (k : Int)) (hd : Nat.blt d N = true) (ht : P.underlying t = some (.slice e)) (hti : P.underlying ti = some (.int kn)) (hz : (P.info? e).map (fun i => (i.zero, i.size, i.bytes)) = some (some z, sz, bytes)) (hzs : z.cells.size = sz) (hsz : 0 < sz)
    (h0 : 0 < k) (hg : cap < n + k) (hC : n * sz ≤ C.length) (hb : (n + k) * bytes ≤ 140737488355328) (hk : k * bytes ≤ 281474976710656) (hs : n + k ≤ 140737488355328)
    (h : ∀ g2 cap2 C2 w', n + k ≤ cap2 → cap2 ≤ maxLen → C2.length = cap2 * sz → C2.take (n * sz) = C.take (n * sz) → Sat w' I (Blk g2 e C2 :: Blk g e C :: l) → EL P N ops Q L (upd E d (.slice (some ⟨g2, 0, none⟩) (n + k) cap2)) w') :
    EL P N ops Q (⟨some d, .call { callee := .builtin .append, args := #[x, y], argTypes := #[t, ti] }, ty, pos, aft, none⟩ :: L) E w := by
  obtain ⟨i, hi, hzz⟩ := Option.map_eq_some_iff.1 hz
  simp only [Prod.mk.injEq] at hzz
  obtain ⟨hz1, rfl, rfl⟩ := hzz
  have hA := S.arr 0 rfl
  have hl : (C.take (n * i.size)).length = n * i.size := by rw [List.length_take]; omega
  have holds := run_firstCells_some (P := P) w.drew i.size n ⟨g, 0, none⟩ n cap (C.take (n * i.size)) hl (fun j u hj => (Arr.src hA 0 (n * i.size)) j u (by simpa using hj))
  have hr := Go.Lib.run_append_grow_zeros (P := P) w t ti ty e i z kx kn ht hti hi hz1 (some ⟨g, 0, none⟩) n cap (C.take (n * i.size)) holds k h0 hsz hg (by omega) hk (growslice_fits hg hb)
  refine EL_val _ _ hd (run_enterBuiltin .append #[x, y] #[t, ti] _ _ (Builtin.append_ #[t, ti] ty #[.slice (some ⟨g, 0, none⟩) n cap, .int kx k]) (fun c => by simp [builtin, hx, hy]) hr) ?_
  have hge := grownCap_ge w (n + k) cap e
  have hcm := grownCap_le_maxLen w (n + k) cap e (by simp only [maxLen]; omega)
  refine h w.heap.size _ ((C.take (n * i.size)) ++ (Builtin.zeroCells z.cells k).toList ++ (Builtin.zeroCells z.cells (grownCap w (n + k) cap e - (n + k))).toList) _ hge hcm ?_ ?_ ?_
  · rw [List.length_append, List.length_append, hl, Array.length_toList, Array.length_toList, size_zeroCells, size_zeroCells, hzs, ← Nat.add_mul, ← Nat.add_mul]
    congr 1; omega
  · rw [List.append_assoc, List.take_left' hl]
  · refine S.newB (Below.alloc (Below.refl _ w).drew (by simp) _) ?_ rfl
    have := heap_alloc_new w.drew (.cells ((C.take (n * i.size)).toArray ++ Builtin.zeroCells z.cells k ++ Builtin.zeroCells z.cells (grownCap w (n + k) cap e - (n + k))) e)
    show _ = some (Obj.cells _ e (0, 0))
    refine Eq.trans this ?_
    congr 2
    apply Array.ext'; simp
/-- clear(s) of a block's cells. -/
theorem EL_clearC {z : Value} (S : Sat w I (Blk g T C :: l)) (hx : ev E x = .slice (some ⟨g, o, none⟩) (n + 1) c) (ht : P.underlying t = some (.slice e)) (hz : (P.info? e).map (·.zero) = some (some z)) (h1 : z.cells.toList.all (·.oneCell') = true) (hfit : o + (n + 1) * z.cells.size ≤ C.length)
    (h : ∀ w' D, D.length = C.length → D.take o = C.take o → Sat w' I (Blk g T D :: l) → EL P N ops Q L E w') :
    EL P N ops Q (⟨none, .call { callee := .builtin .clear, args := #[x], argTypes := #[t] }, ty, pos, aft, none⟩ :: L) E w := by
  obtain ⟨i, hi, hz1⟩ := Option.map_eq_some_iff.1 hz
  have hA := S.arr 0 rfl
  have hlen : (Builtin.zeroCells z.cells (n + 1)).toList.length = (n + 1) * z.cells.size := by rw [Array.length_toList, size_zeroCells]
  have hone : ∀ u ∈ (Builtin.zeroCells z.cells (n + 1)).toList, u.oneCell' = true := fun u hu => by
    simp only [Builtin.zeroCells, Array.toList_map, List.mem_map] at hu
    obtain ⟨q, hq, rfl⟩ := hu
    have hq' : q < (n + 1) * z.cells.size := by simpa using hq
    have hpos : 0 < z.cells.size := Nat.pos_of_ne_zero fun h0 => by rw [h0] at hq'; omega
    have hlt := Nat.mod_lt q hpos
    have hm : z.cells[q % z.cells.size]! = z.cells[q % z.cells.size] := by simp [hlt]
    rw [hm]
    exact List.all_eq_true.1 h1 _ (by simp)
  have hst := run_storeCells_at P g o T (Builtin.zeroCells z.cells (n + 1)).toList 0 C.toArray w hA (by rw [hlen]; simpa using hfit) hone
  simp only [Nat.add_zero] at hst
  have hr : (Builtin.clear_ #[t] ty #[.slice (some ⟨g, o, none⟩) (n + 1) c]).run P w = .ok (.tuple #[]) (w.setRow g (C.take o ++ (Builtin.zeroCells z.cells (n + 1)).toList ++ C.drop (o + (Builtin.zeroCells z.cells (n + 1)).toList.length)).toArray) := by
    simp [Builtin.clear_, run_underlying ht, zeroValue, typeInfo, hi, hz1]
    simp at hst
    rw [hst]; simp [Result.andThen]
  obtain ⟨k1, k2⟩ := hA.keptRow (C.take o ++ (Builtin.zeroCells z.cells (n + 1)).toList ++ C.drop (o + (Builtin.zeroCells z.cells (n + 1)).toList.length))
  have ho : o ≤ C.length := by omega
  refine EL_drop' _ (run_enterBuiltin .clear #[x] #[t] _ _ (Builtin.clear_ #[t] ty #[.slice (some ⟨g, o, none⟩) (n + 1) c]) (fun c => by simp [builtin, hx]) hr) (h _ _ ?_ ?_ (S.wr0 k2 k1))
  · simp only [List.length_append, List.length_take, List.length_drop, hlen]; omega
  · rw [List.append_assoc, List.take_left' (by rw [List.length_take]; omega)]
theorem flat_take {sz:Nat}:∀{xss:List (List Value)},(∀cs∈xss,cs.length=sz)→∀i,xss.flatten.take (i*sz)=(xss.take i).flatten
 | [],_,i=>by simp
 | c::r,h,0=>by simp
 | c::r,h,i+1=>by
  rw [List.flatten_cons,List.take_succ_cons,List.flatten_cons,List.take_append,h c (by simp),List.take_of_length_le (by rw [h c (by simp),Nat.succ_mul];omega),show (i+1)*sz-sz=i*sz by rw [Nat.succ_mul];omega,flat_take (fun d hd=>h d (by simp [hd])) i]
theorem flat_drop {sz:Nat}:∀{xss:List (List Value)},(∀cs∈xss,cs.length=sz)→∀i,xss.flatten.drop (i*sz)=(xss.drop i).flatten
 | [],_,i=>by simp
 | c::r,h,0=>by simp
 | c::r,h,i+1=>by
  rw [List.flatten_cons,List.drop_succ_cons,List.drop_append,h c (by simp),List.drop_of_length_le (by rw [h c (by simp),Nat.succ_mul];omega),show (i+1)*sz-sz=i*sz by rw [Nat.succ_mul];omega,List.nil_append,flat_drop (fun d hd=>h d (by simp [hd])) i]
theorem flat_len {sz:Nat} {xss:List (List Value)} (h:∀cs∈xss,cs.length=sz):xss.flatten.length=xss.length*sz:=by
 induction xss with
 | nil=>simp
 | cons c r ih=>rw [List.flatten_cons,List.length_append,ih (fun d hd=>h d (by simp [hd])),h c (by simp),List.length_cons,Nat.succ_mul];omega
theorem flat_one {α:Type} {τ:Rep α} {xss:List (List Value)} {as1:List α} (h:All2 (τ.r I) xss as1):∀u∈xss.flatten,u.oneCell'=true:=fun u hu=>by
 obtain ⟨cs,hc,hu⟩:=List.mem_flatten.1 hu
 obtain ⟨a,_,hr⟩:=h.left cs hc
 exact τ.one hr u hu
theorem ins_grown {C C2 ys cs X:List Value} {a:Nat} (h:C2.take a=C.take a) (ha:a≤C2.length) (Y:List Value):((C2.take a++ys++Y).take (a+ys.length)++cs++X).take (a+ys.length+cs.length)=C.take a++ys++cs:=by
 have h1:(C2.take a++ys).length=a+ys.length:=by rw [List.length_append,List.length_take];omega
 rw [List.take_left' h1,h]
 refine List.take_left' ?_
 rw [←h,List.length_append,h1]
theorem ins_room {C ys cs X:List Value} {a b:Nat} (hb:a+ys.length=b) (hC:b≤C.length):(((C.take b++cs++X).take a++ys++(C.take b++cs++X).drop b)).take (b+cs.length)=C.take a++ys++cs:=by
 have h1:(C.take b).length=b:=by rw [List.length_take];omega
 have h2:(C.take b++cs++X).take a=C.take a:=by
  rw [List.append_assoc,List.take_append_of_le_length (by omega),List.take_take,Nat.min_eq_left (by omega)]
 have h3:(C.take b++cs++X).drop b=cs++X:=by rw [List.append_assoc,List.drop_left' h1]
 rw [h2,h3,←List.append_assoc]
 refine List.take_left' ?_
 rw [List.length_append,List.length_append,List.length_take];omega
theorem Sat.ne {g2:Nat} {D:List Value} (S:Sat w I (Blk g T C::Blk g2 t D::l)):g≠g2:=by
 obtain ⟨u,⟨h,r,h1,⟨h',r',k1,k2,k3,k4⟩,h3,h4⟩,hw,e0⟩:=S
 intro he
 subst he k4
 have:=h3 g (.cells C.toArray T (0,0)) (by rw [show h=_ from h1];simp [PH.one])
 rw [PH.uni,show h'=_ from k1] at this
 simp [PH.one] at this
/-- len(s) -/
theorem r_lenC {A:Option Addr} (hx:ev E x=.slice A n c) (ht:P.underlying t=some (.slice e)):Gives P E w ⟨dst,.call { callee:=.builtin .len,args:=#[x],argTypes:=#[t] },ty,pos,aft,gd⟩ (.int .i64 (n:Int)) w:=by
 refine run_enterBuiltin .len #[x] #[t] _ _ (Builtin.len_ #[t] ty #[.slice A n c]) (fun c=>by simp [builtin,hx]) ?_
 simp [Builtin.len_,run_underlying ht,goInt]
theorem r_capC {A:Option Addr} (hx:ev E x=.slice A n c) (ht:P.underlying t=some (.slice e)):Gives P E w ⟨dst,.call { callee:=.builtin .cap,args:=#[x],argTypes:=#[t] },ty,pos,aft,gd⟩ (.int .i64 (c:Int)) w:=by
 refine run_enterBuiltin .cap #[x] #[t] _ _ (Builtin.cap_ #[t] ty #[.slice A n c]) (fun c=>by simp [builtin,hx]) ?_
 simp [Builtin.cap_,run_underlying ht,goInt]
theorem flat_set {sz:Nat} {u:Value} {k:Nat} (hk:k<sz):∀{xss:List (List Value)},(∀cs∈xss,cs.length=sz)→∀{j:Nat} {cs:List Value},xss[j]?=some cs→(xss.set j (cs.set k u)).flatten=xss.flatten.set (j*sz+k) u
 | [],_,j,cs,h=>by simp at h
 | c::r,hs,0,cs,h=>by
  simp at h;subst h
  rw [List.set_cons_zero,List.flatten_cons,List.flatten_cons,Nat.zero_mul,Nat.zero_add,List.set_append_left _ _ (by rw [hs c (by simp)];exact hk)]
 | c::r,hs,j+1,cs,h=>by
  have hc:=hs c (by simp)
  rw [List.set_cons_succ,List.flatten_cons,List.flatten_cons,flat_set hk (fun d hd=>hs d (by simp [hd])) (by simpa using h),List.set_append_right _ _ (by rw [hc,Nat.succ_mul];omega),hc,show (j+1)*sz+k-sz=j*sz+k by rw [Nat.succ_mul];omega]
/-- A field of an element of a row of the call's own is written. -/
theorem EL_setX {α : Type} {τ : Rep α} {as1 : List α} {b b' : α} {u : Value} {k : Nat} {q : Int} (hq : q = (j : Int)) (S : Sat w I (OwnX e τ v as1 :: l)) (hx : ev E x = ptr (blkOf v) (offOf v + q.toNat * τ.sz + k)) (hy : ev E y = u) (hj : as1[j]? = some b) (hk : k < τ.sz) (hr : ∀ cs, τ.r I cs b → τ.r I (cs.set k u) b') (hu : u.oneCell' = true) (hs : (P.info? t).map (·.size) = some 1)
    (h : ∀ w', Sat w' I (OwnX e τ v (as1.set j b') :: l) → EL P N ops Q L E w') : EL P N ops Q (⟨none, .store t x y, ty, pos, aft, none⟩ :: L) E w := by
  subst hq
  obtain ⟨xss, hA, S⟩ := OwnX.opn S
  have hlt := (List.getElem?_eq_some_iff.1 hj).1
  obtain ⟨g, cap, C, rfl, h1, h2, h3, h4, S⟩ := own_cells S (by omega)
  obtain ⟨cs, hc, hrc⟩ := hA.get hj
  have hsz := hA.lens
  have hcl : j * τ.sz + k < as1.length * τ.sz := by
    have := Nat.mul_le_mul_right τ.sz (show j + 1 ≤ as1.length from hlt)
    rw [Nat.succ_mul] at this; omega
  have hCl : as1.length * τ.sz ≤ C.length := by rw [h3]; exact Nat.mul_le_mul_right _ h1
  refine EL_storeA (j := j * τ.sz + k) (cs := C) (T := e) (by rw [hx]; simp [blkOf, offOf]) hy (S.arr 0 rfl) (by omega) hu hs (fun w' A K _ => h w' ?_)
  have hA2 : All2 (τ.r I) (xss.set j (cs.set k u)) (as1.set j b') := hA.set j (hr cs hrc)
  refine OwnX.cls hA2 ?_
  rw [List.length_set]
  refine cells_own (S.wr0 K A) h1 h2 (by rw [List.length_set]; exact h3) ?_
  rw [flat_set hk hsz hc, ← h4, List.take_set]
/-- p == nil,of what is not nil. -/
theorem run_eqptrnil (d:Nat) {a:Addr} (h:P.underlying t=some (.pointer e)):(Op.equalIn (d+1) t (.pointer (some a)) (.pointer none)).run P w=.ok false w:=by
 simp [Op.equalIn,run_underlying h]
theorem r_eqptrnil {t3:TypeId} (hx:ev E x=ptr g o) (hy:ev E y=.pointer none) (ht:P.underlying t=some (.pointer e)):Gives P E w ⟨dst,.binOp .eql t x y t3,ty,pos,aft,gd⟩ (.bool false) w:=by
 have h1:(binOp .eql t (ptr g o) (.pointer none)).run P w=.ok (.bool false) w:=by
  simp only [binOp]
  simp [show Op.equal t (ptr g o) (.pointer none)=Op.equalIn (9999+1) t (ptr g o) (.pointer none) from rfl,run_eqptrnil 9999 ht]
 simp only [Gives,execOp,hx,hy,eqGuard];simp [h1]
theorem r_neqptrnil {t3:TypeId} (hx:ev E x=ptr g o) (hy:ev E y=.pointer none) (ht:P.underlying t=some (.pointer e)):Gives P E w ⟨dst,.binOp .neq t x y t3,ty,pos,aft,gd⟩ (.bool true) w:=by
 have h1:(binOp .neq t (ptr g o) (.pointer none)).run P w=.ok (.bool true) w:=by
  simp only [binOp]
  simp [show Op.equal t (ptr g o) (.pointer none)=Op.equalIn (9999+1) t (ptr g o) (.pointer none) from rfl,run_eqptrnil 9999 ht]
 simp only [Gives,execOp,hx,hy,eqGuard];simp [h1]
/-- s == nil,of a row that has something. -/
theorem r_nonilX {t3:TypeId} (hx:ev E x=v) (h:XRow w v sz n) (hn:0<n) (hy:ev E y=.slice none 0 0) (ht:P.underlying t=some (.slice e)):Gives P E w ⟨dst,.binOp .eql t x y t3,ty,pos,aft,gd⟩ (.bool false) w:=by
 obtain ⟨xss,⟨A,c,hv,h1,h2,h3,h4⟩,rfl⟩:=h
 obtain ⟨b,o,rfl,_⟩:=h4 hn
 subst hv
 simp only [Gives,execOp,hx,hy,eqGuard]
 simp [binOp,run_equal_slice_nil w t e _ xss.length c ht]
/-- []T{}, T a struct. -/
theorem EL_lit0X {α : Type} {τ : Rep α} (ht : P.underlying t = some (.slice e)) (hs : (P.info? e).map (·.size) = some τ.sz) (S : Sat w I l)
    (h : ∀ v w', Sat w' I (OwnX e τ v [] :: l) → EL P N ops Q L (upd E d v) w') (hd : Nat.blt d N = true := by exact rfl) :
    EL P N ops Q (⟨some d, .buildSlice t 0 #[], ty, pos, aft, none⟩ :: L) E w := by
  obtain ⟨inf, hi, hsz⟩ := Option.map_eq_some_iff.1 hs
  refine EL_val (.slice (some ⟨w.heap.size, 0, none⟩) 0 0) (w.alloc (.cells #[] e)) hd ?_ (h _ _ (OwnX.cls (xss := []) .nil (S.newO (below_alloc _) ⟨by simp, .inr ⟨w.heap.size, 0, #[], rfl, Nat.le_refl _, heap_alloc_new w _, Nat.le_refl _, by decide, by simp, by simp⟩⟩)))
  simp only [Gives, execOp]
  have h0 : ¬ 2 ^ 24 < 0 * inf.size := by simp
  have hr0 : Array.range 0 = #[] := by apply Array.ext'; simp
  simp [Instr.buildSlice, run_underlying ht, sizeOf, typeInfo, hi, Instr.fill, newRow, h0, hr0]
/-- slices.overlaps at rows in two blocks. -/
theorem r_apartC {f : FuncId} {fn : Func} {tR : TypeId} {g2 o2 n2 c2 : Nat} {D : List Value} (hf : P.funcs[f]? = some fn) (hname : (fn.name == "runtime.NumGoroutine") = false) (hb : fn.body.isNone = true) (hn : Extern.findNext fn = none) (he : Extern.find fn = some (Extern.SlicesOverlaps.overlaps #[t, t] #[tR]))
    (ht : P.underlying t = some (.slice e)) (hs : (P.info? e).map (·.size) = some sz) (hx : ev E x = .slice (some ⟨g, o, none⟩) n c) (hy : ev E y = .slice (some ⟨g2, o2, none⟩) n2 c2) (hA : Arr w g T C) (hB : Arr w g2 T D) (hne : g ≠ g2) (hD : D.length ≠ 0) :
    Gives P E w ⟨dst, .call { callee := .value (.func f), args := #[x, y], argTypes := #[t, t] }, ty, pos, aft, gd⟩ (.bool false) w := by
  obtain ⟨inf, hi, hsz⟩ := Option.map_eq_some_iff.1 hs
  have hr := Go.Lib.run_overlaps_apart (P := P) w t tR e ht sz (fun w => by simp [sizeOf, typeInfo, hi, hsz]) ⟨g, o, none⟩ ⟨g2, o2, none⟩ n c n2 c2 hne T T C.length D.length (by simp [World.shape?, show w.heap[g]? = _ from hA]) (by simp [World.shape?, show w.heap[g2]? = _ from hB]) hD (by simp [World.frozen?, show w.heap[g]? = _ from hA]) (by simp [World.frozen?, show w.heap[g]? = _ from hA])
  have h1 := run_callFunc_extern (P := P) (args := #[.slice (some ⟨g, o, none⟩) n c, .slice (some ⟨g2, o2, none⟩) n2 c2]) (w := w) hf hname hb hn he
  simp only [Gives]
  rw [run_callX]
  simp only [List.map_toArray, List.map_cons, List.map_nil, hx, hy]
  rw [h1, hr]; rfl
end
end Go.Ecal
