import Derived.Maps.RangeRun
import Derived.Test.YthddplghlljdbaaGreatQWorldPostWorld
set_option linter.unusedVariables false
set_option linter.unusedSimpArgs false
namespace Go.Ecal
open Go.RowKit Go.Maps Go.ChangeMaps
/-- Block b holds this map. -/
def MRaw (b:Nat) (arr:Array MapEntry) (clock:Nat):HP:=⟨fun _ h=>h=PH.one b (.map arr clock),fun _ h=>h⟩
/-- Block r holds an iterator over the map in block m. -/
def Itr (r m since:Nat) (seen:Array Nat) (last:Nat):HP:=⟨fun _ h=>h=PH.one r (.mapIter (some m) since seen last),fun _ h=>h⟩
section
variable {P : Program} {N : Nat} {Q : Exit → Env → World → Prop} {E : Env} {w w' : World} {ops : Array Oper} {L : List Oper} {I : Gh} {l : List HP}
variable {d : Nat} {ty t k e : TypeId} {pos : String} {aft : Array Edge} {dst : Option Tmp} {gd : Option (Nat × Bool)} {x : Operand}
variable {b r m since last clock clock' : Nat} {arr arr' : Array MapEntry} {seen : Array Nat}
theorem Sat.raw (S:Sat w I l) (i:Nat) (hi:l[i]?=some (MRaw b arr clock)):w.heap[b]?=some (.map arr clock):=by
 obtain ⟨h,r,h1,_,h3,_⟩:=S.focus hi
 rw [show h=_ from h1] at h3;exact le_one h3
theorem Sat.itr (S:Sat w I l) (i:Nat) (hi:l[i]?=some (Itr r m since seen last)):w.heap[r]?=some (.mapIter (some m) since seen last):=by
 obtain ⟨h,r,h1,_,h3,_⟩:=S.focus hi
 rw [show h=_ from h1] at h3;exact le_one h3
theorem Sat.rawW (S:Sat w I l) (i:Nat) (hi:l[i]?=some (MRaw b arr clock)) (hk:w.grownBy w' (some b)) (ha:w'.heap[b]?=some (.map arr' clock')):Sat w' I (l.set i (MRaw b arr' clock')):=by
 obtain ⟨h,r,h1,h2,h3,h4,h5,h6⟩:=S.focus hi
 rw [show h=_ from h1] at h2 h3
 exact h6 _ _ w' (Nx.grown hk) rfl (one_dis (dis_one h2)) (one_le ha) (rest_kept h4 hk (fun g hg=>by cases hg;exact dis_one h2))
theorem Sat.itrW {seen':Array Nat} {last':Nat} (S:Sat w I l) (i:Nat) (hi:l[i]?=some (Itr r m since seen last)) (hk:w.grownBy w' (some r)) (ha:w'.heap[r]?=some (.mapIter (some m) since seen' last')):Sat w' I (l.set i (Itr r m since seen' last')):=by
 obtain ⟨h,r,h1,h2,h3,h4,h5,h6⟩:=S.focus hi
 rw [show h=_ from h1] at h2 h3
 exact h6 _ _ w' (Nx.grown hk) rfl (one_dis (dis_one h2)) (one_le ha) (rest_kept h4 hk (fun g hg=>by cases hg;exact dis_one h2))
theorem Sat.newRaw (S:Sat w I l) (hb:Below w.heap.size w w') (ha:w'.heap[b]?=some (.map arr clock)) (he:b=w.heap.size):Sat w' I (MRaw b arr clock::l):=
 S.add (P:=MRaw b arr clock) (Nx.below hb) rfl (hp_below hb) (fun k o e=>by
  unfold PH.one at e;split at e
  ·omega
  ·cases e) (one_le ha)
theorem Sat.newItr (S:Sat w I l) (hb:Below w.heap.size w w') (ha:w'.heap[b]?=some (.mapIter (some m) since seen last)) (he:b=w.heap.size):Sat w' I (Itr b m since seen last::l):=
 S.add (P:=Itr b m since seen last) (Nx.below hb) rfl (hp_below hb) (fun k o e=>by
  unfold PH.one at e;split at e
  ·omega
  ·cases e) (one_le ha)
/-- range m -/
theorem EL_rangeI (S : Sat w I l) (i : Nat) (hi : l[i]? = some (MRaw m arr clock)) (ht : P.underlying t = some (.map k e)) (hx : ev E x = .map (some m)) (hd : Nat.blt d N = true)
    (h : ∀ r w', Sat w' I (Itr r m clock #[] clock :: l) → EL P N ops Q L (upd E d (ptr r)) w') :
    EL P N ops Q (⟨some d, .range t x, ty, pos, aft, none⟩ :: L) E w := by
  have hb := S.raw i hi
  refine EL_val (ptr w.heap.size) (w.alloc (.mapIter (some m) clock #[] clock)) hd ?_ (h _ _ (S.newItr (below_alloc _) (heap_alloc_new w _) rfl))
  simp only [Gives, execOp, hx]
  rw [Sem.run_bind, run_range_map w t k e m arr clock ht hb]; rfl
/-- What a step yields. -/
def nxV:Option MapEntry→Value
 | none=>.tuple #[.bool false]
 | some e=>.tuple #[.bool true,e.key,e.val]
def nxS (seen:Array Nat):Option MapEntry→Array Nat
 | none=>seen
 | some e=>seen.push e.born
def nxL (last clock:Nat):Option MapEntry→Nat
 | none=>last
 | some _=>clock
theorem next_fine (hok : seen = #[] ∨ arr = #[] ∨ ∃ e ∈ arr.toList, e.born < last) : (!seen.isEmpty && !arr.isEmpty && arr.all (fun x => decide (x.born ≥ last))) = false := by
  rcases hok with rfl | rfl | ⟨e, he, hl⟩
  · simp
  · simp
  · have : arr.all (fun x => decide (x.born ≥ last)) = false := by
      rw [Bool.eq_false_iff]; intro h
      rw [Array.all_eq_true_iff_forall_mem] at h
      have := h e (by simpa using he)
      simp at this; omega
    rw [this]; simp
theorem run_choice (n : Nat) (hn : 0 < n) (w : World) : ∃ j w1, j < n ∧ (w1 = w ∨ w1 = w.drew) ∧ (choose (Question.mapNext n)).run P w = .ok j w1 := by
  by_cases hf : n ≤ 1
  · exact ⟨0, w, by omega, Or.inl rfl, by simp [choose, Sem.run, Question.forced, hf]⟩
  · exact ⟨_, w.drew, Nat.mod_lt _ (by omega), Or.inr rfl, by
      simp only [choose, Sem.run, Question.forced, decide_eq_true_eq, hf, if_false, Question.cut]
      rfl⟩
/-- A step of a loop over a map: none, or an entry that has not come yet. -/
theorem run_nextI (w : World) (ty : TypeId) (hr : w.heap[r]? = some (.mapIter (some m) since seen last)) (hb : w.heap[m]? = some (.map arr clock)) (hok : seen = #[] ∨ arr = #[] ∨ ∃ e ∈ arr.toList, e.born < last) :
    ∃ ob w1, (w1 = w ∨ w1 = w.drew) ∧ (∀ e, ob = some e → e ∈ arr.toList ∧ e.born ∉ seen.toList) ∧ (ob = none → ∀ e ∈ arr.toList, e.born < since → e.born ∈ seen.toList) ∧
      (Instr.next (ptr r) false ty).run P w = .ok (nxV ob) (match ob with | none => w1 | some e => setBlock w1 r (.mapIter (some m) since (seen.push e.born) clock)) := by
  simp only [Instr.next, getObj, Sem.run_bind, Sem.run, hr, hb, Result.andThen, next_fine hok, Bool.false_eq_true, if_false]
  have hmem : ∀ x ∈ (Array.filter (fun e => !seen.contains e.born) arr).toList, x ∈ arr.toList ∧ x.born ∉ seen.toList := fun x hx => by
    simpa using hx
  have hall : ∀ x ∈ arr.toList, x.born ∉ seen.toList → x ∈ (Array.filter (fun e => !seen.contains e.born) arr).toList := fun x h1 h2 => by
    simp at h1 h2 ⊢; exact ⟨h1, h2⟩
  generalize Array.filter (fun e => !seen.contains e.born) arr = L at hmem hall ⊢
  have hA : ∀ x ∈ (L.filter (fun x => decide (x.born < since))).toList, x ∈ L.toList := fun x hx => by simp at hx ⊢; exact hx.1
  have hB : ∀ x ∈ (L.filter (fun x => decide (x.born ≥ since))).toList, x ∈ L.toList := fun x hx => by simp at hx ⊢; exact hx.1
  have hA0 : (L.filter (fun x => decide (x.born < since))).isEmpty = true → ∀ e ∈ arr.toList, e.born < since → e.born ∈ seen.toList := fun h0 e he hs => by
    refine Classical.byContradiction fun hn => ?_
    have h1 : e ∈ (L.filter (fun x => decide (x.born < since))) := by have := hall e he hn; simp at this ⊢; exact ⟨this, hs⟩
    rw [Array.isEmpty_iff] at h0; rw [h0] at h1; simp at h1
  generalize L.filter (fun x => decide (x.born < since)) = A at hA hA0 ⊢
  generalize L.filter (fun x => decide (x.born ≥ since)) = B at hB ⊢
  have hC : ∀ c ∈ ((if A.isEmpty then #[none] else #[]) ++ (A ++ B).map some).toList, ∀ e, c = some e → e ∈ arr.toList ∧ e.born ∉ seen.toList := fun c hc e he => by
    subst he
    have : e ∈ A.toList ∨ e ∈ B.toList := by
      simp only [Array.toList_append, List.mem_append, Array.toList_map, List.mem_map] at hc
      rcases hc with hc | ⟨y, hy, hye⟩
      · split at hc <;> simp at hc
      · cases hye; exact hy
    rcases this with h | h
    · exact hmem e (hA e h)
    · exact hmem e (hB e h)
  have hC0 : ∀ c ∈ ((if A.isEmpty then #[none] else #[]) ++ (A ++ B).map some).toList, c = none → A.isEmpty = true := fun c hc he => by
    subst he
    simp only [Array.toList_append, List.mem_append, Array.toList_map, List.mem_map] at hc
    rcases hc with hc | ⟨y, hy, hye⟩
    · split at hc
      · assumption
      · simp at hc
    · cases hye
  have hpos : 0 < ((if A.isEmpty then #[none] else #[]) ++ (A ++ B).map some).size := by
    cases hAe : A.isEmpty
    · have : 0 < A.size := by
        rcases Nat.eq_zero_or_pos A.size with h0 | h0
        · simp [Array.eq_empty_of_size_eq_zero h0] at hAe
        · exact h0
      simp; omega
    · simp; omega
  generalize (if A.isEmpty then #[none] else #[]) ++ (A ++ B).map some = C at hC hC0 hpos ⊢
  obtain ⟨j, w1, hj, hal, hrun⟩ := run_choice (P := P) C.size hpos w
  refine ⟨C[j], w1, hal, hC _ (by simp), fun h0 => hA0 (hC0 _ (by simp) h0), ?_⟩
  have hr1 : w1.heap[r]? = some (.mapIter (some m) since seen last) := by rcases hal with rfl | rfl <;> exact hr
  simp only [hrun, Array.getElem?_eq_getElem hj]
  cases hc : C[j] with
  | none => rfl
  | some e => simp only [Sem.run_bind, run_setObj_at hr1, Result.andThen]; rfl
theorem EL_nextI (S : Sat w I l) (i j : Nat) (hi : l[i]? = some (Itr r m since seen last)) (hj : l[j]? = some (MRaw m arr clock)) (hok : seen = #[] ∨ arr = #[] ∨ ∃ e ∈ arr.toList, e.born < last) (hx : ev E x = ptr r) (hd : Nat.blt d N = true)
    (h : ∀ ob w', (∀ e, ob = some e → e ∈ arr.toList ∧ e.born ∉ seen.toList) → (ob = none → ∀ e ∈ arr.toList, e.born < since → e.born ∈ seen.toList) → Sat w' I (l.set i (Itr r m since (nxS seen ob) (nxL last clock ob))) → EL P N ops Q L (upd E d (nxV ob)) w') :
    EL P N ops Q (⟨some d, .next x false, ty, pos, aft, none⟩ :: L) E w := by
  have hr := S.itr i hi
  obtain ⟨ob, w1, hal, hob, hno, hrun⟩ := run_nextI (P := P) w ty hr (S.raw j hj) hok
  have hg1 : w.grownBy w1 (some r) := by rcases hal with rfl | rfl <;> exact ⟨rfl, rfl, rfl, Nat.le_refl _, fun _ _ _ => rfl⟩
  have hr1 : w1.heap[r]? = some (.mapIter (some m) since seen last) := by rcases hal with rfl | rfl <;> exact hr
  refine EL_val (nxV ob) _ hd (by simp only [Gives, execOp, hx]; rw [Sem.run_bind, hrun]; rfl) (h ob _ hob hno ?_)
  cases ob with
  | none => exact S.itrW i hi hg1 hr1
  | some e =>
    have hs := MapKept.heap_set (o' := .mapIter (some m) since (seen.push e.born) clock) hr1
    refine S.itrW i hi ?_ hs.1
    rcases hal with rfl | rfl <;> exact ⟨rfl, rfl, rfl, by simp [setBlock], fun q _ hq => hs.2 q (fun e1 => hq (by rw [e1]))⟩
theorem r_nx0 {ob:Option MapEntry} (hx:ev E x=nxV ob):Gives P E w ⟨dst,.extract x 0,ty,pos,aft,gd⟩ (.bool ob.isSome) w:=by
 simp only [Gives,execOp,hx]
 cases ob<;>rfl
/-- The round's key and value. -/
theorem r_entI {ob : Option MapEntry} {en : MapEntry} {kv u : Value} (hr : w.heap[r]? = some (.mapIter (some m) since (nxS seen ob) (nxL last clock ob))) (hb : w.heap[m]? = some (.map arr clock)) (ho : ob = some en) (he : en ∈ arr.toList) (hn : (arr.toList.map (·.born)).Nodup) (hk : en.key = kv) (hu : en.val = u) (hx : ev E x = ptr r) :
    Gives P E w ⟨dst, .entry x, ty, pos, aft, gd⟩ (.tuple #[kv, u]) w := by
  subst ho hk hu
  simp only [Gives, execOp, hx]
  rw [Sem.run_bind, run_entry_at w r m since seen arr clock en hr hb he hn]; rfl
end
section
variable {P : Program} {E : Env} {w : World} {dst : Option Tmp} {ty t e : TypeId} {pos : String} {aft : Array Edge} {gd : Option (Nat × Bool)} {x y : Operand}
theorem run_eqnn (d:Nat) (h:P.underlying t=some (.pointer e)):(Op.equalIn (d+1) t (.pointer none) (.pointer none)).run P w=.ok true w:=by
 simp [Op.equalIn,run_underlying h]
theorem r_eqnn {t3:TypeId} (hx:ev E x=.pointer none) (hy:ev E y=.pointer none) (ht:P.underlying t=some (.pointer e)):Gives P E w ⟨dst,.binOp .eql t x y t3,ty,pos,aft,gd⟩ (.bool true) w:=by
 have h1:(binOp .eql t (.pointer none) (.pointer none)).run P w=.ok (.bool true) w:=by
  simp only [binOp]
  simp [show Op.equal t (.pointer none) (.pointer none)=Op.equalIn (9999+1) t (.pointer none) (.pointer none) from rfl,run_eqnn 9999 ht]
 simp only [Gives,execOp,hx,hy,eqGuard];simp [h1]
end
theorem isNil_ofX {α:Type} {τ:Rep α} {I:Gh} {w:World} {v:Value} {l:List α} (H:RoX I v τ l) (h:I.le (gh w)) (hl:l≠[]):isNil v=false:=by
 obtain ⟨xss,⟨A,c,hv,h1,h2,h3,h4⟩,he⟩:=H.row h
 have hp:0<xss.length:=by
  cases l with
  | nil=>exact absurd rfl hl
  | cons a r=>rw [he];simp
 obtain ⟨b,o,rfl,_⟩:=h4 hp
 subst hv;rfl
theorem r_eqnilX {P:Program} {E:Env} {w:World} {ty:TypeId} {pos:String} {aft:Array Edge} {dst:Option Tmp} {gd:Option (Nat×Bool)} {t t2 e:TypeId} {x y:Operand} {v:Value} {sz n:Nat} (hx:ev E x=v) (h:XRow w v sz n) (hy:ev E y=.slice none 0 0) (ht:P.underlying t=some (.slice e)):Gives P E w ⟨dst,.binOp .eql t x y t2,ty,pos,aft,gd⟩ (.bool (isNil v)) w:=by
 obtain ⟨xss,⟨A,c,rfl,_⟩,_⟩:=h
 simp only [Gives,execOp,hx,hy,eqGuard]
 cases A<;>simp [binOp,isNil,run_equal_slice_nil w t e _ xss.length c ht]
theorem muL_mono (wt:Value→Nat) (seen:Array Nat) (b:Nat):∀l:List MapEntry,muL wt (seen.push b) l≤muL wt seen l
 | []=>Nat.le_refl _
 | a::l=>by
  have:=muL_mono wt seen b l
  simp only [muL,Array.toList_push,List.mem_append,List.mem_singleton]
  split<;>split<;>first | omega | (rename_i h1 h2;exact absurd (.inl h2) h1)
theorem muL_next (wt : Value → Nat) (seen : Array Nat) {en : MapEntry} (hn : en.born ∉ seen.toList) : ∀ {l : List MapEntry}, en ∈ l → muL wt (seen.push en.born) l + wt en.key ≤ muL wt seen l
  | a :: l, h => by
    simp only [muL, Array.toList_push, List.mem_append, List.mem_singleton]
    rcases List.mem_cons.1 h with rfl | h
    · have := muL_mono wt seen en.born l
      rw [if_pos (.inr rfl), if_neg hn]; omega
    · have := muL_next wt seen hn h
      split <;> split <;> first | omega | (rename_i h1 h2; exact absurd (.inl h2) h1)
end Go.Ecal
namespace Go.Proofs.YthddplghlljdbaaGreat
open Go.RowKit Go.Ecal Go.Maps
abbrev encP (p:Place):Value:=.agg [.int .i64 p.1,.int .i64 p.2].toArray
abbrev idV (v:Value):Value:=v
theorem law_place:Keyed Tryz.prog 129:=Keyed.of_law (deep_law (m:=100) (by decide) (by kernel_rfl) (by kernel_rfl) (by kernel_rfl))
theorem encP_inj {p q:Place} (h:encP p=encP q):p=q:=by
 have h2:[Value.int .i64 p.1,.int .i64 p.2]=[.int .i64 q.1,.int .i64 q.2]:=by
  have:[Value.int .i64 p.1,.int .i64 p.2].toArray=[Value.int .i64 q.1,.int .i64 q.2].toArray:=by injection h
  simpa using congrArg Array.toList this
 simp only [List.cons.injEq,Value.int.injEq,true_and,and_true] at h2
 exact Prod.ext h2.1 h2.2
theorem kv_place {p:Place} (h:PlOk p):KV Tryz.prog 129 (encP p):=by
 have e1:Tryz.prog.cellsOf 3=1:=by kernel_rfl
 have e3:Tryz.prog.cellsOf 129=2:=by kernel_rfl
 have hwf:∀n:Int,-9223372036854775808≤n∧n≤9223372036854775807→(Lit.int .i64 n).wf=true:=fun n hn=>by
  simp [Lit.wf,IntKind.wrap,IntKind.bits,IntKind.signed,IntKind.min,IntKind.max];omega
 have hw1:=hwf p.1 (by have:=h.1;omega)
 have hw2:=hwf p.2 (by have:=h.2;omega)
 obtain ⟨n,hn⟩:∃n,Tryz.prog.types.size=n+1:=⟨Tryz.prog.types.size-1,by kernel_rfl⟩
 have h5:Tryz.prog.keyLits (Tryz.prog.types.size+1) 129 [.int .i64 p.1,.int .i64 p.2]=some [.int .i64 p.1,.int .i64 p.2]:=by
  rw [hn]
  simp only [Program.keyLits,Tryz.underlying129]
  simp [e1,e3,Program.keyLits,Tryz.underlying3,hw1,hw2]
 refine ⟨.string (keyBytes [.int .i64 p.1,.int .i64 p.2]),?_⟩
 unfold Go.keyOf
 rw [Tryz.underlying129]
 have hk:Tryz.prog.keyType 129=true:=by kernel_rfl
 have hf:Value.formed Tryz.prog 129 (encP p)=true:=by
  simp [Value.formed,Tryz.underlying129,e3]
 generalize hg:Tryz.prog.types.size+1=q at h5 ⊢
 have h6:Tryz.prog.keyLits q 129 (encP p).cells.toList=_:=h5
 simp only [hk,hf,Bool.and_self,if_true,h6,Option.map_some]
section
variable {κ α : Type} [DecidableEq κ] {K : List (κ × α)} {k q : κ} {u : α}
theorem lkM_put : lkM (putM K k u) q = if q = k then some u else lkM K q := by
  induction K with
  | nil =>
    show (if k = q then some u else none) = if q = k then some u else none
    by_cases h : k = q
    · rw [if_pos h, if_pos h.symm]
    · rw [if_neg h, if_neg (Ne.symm h)]
  | cons p r ih =>
    obtain ⟨a, x⟩ := p
    rw [putM]; dsimp only
    by_cases h : a = k
    · subst h; rw [if_pos rfl, lkM, lkM]
      by_cases h2 : a = q
      · rw [if_pos h2, if_pos h2.symm]
      · rw [if_neg h2, if_neg (Ne.symm h2), if_neg h2]
    · rw [if_neg h, lkM, ih, lkM]
      by_cases h2 : a = q
      · rw [if_pos h2, if_neg (fun e => h (h2.trans e)), if_pos h2]
      · rw [if_neg h2, if_neg h2]
theorem lkM_drop : lkM (K.filter fun p => !decide (p.1 = k)) q = if q = k then none else lkM K q := by
  induction K with
  | nil => rw [List.filter_nil, lkM]; split <;> rfl
  | cons p r ih =>
    obtain ⟨a, x⟩ := p
    by_cases h : a = k
    · rw [List.filter_cons_of_neg (by simp [h]), ih, lkM]; subst h
      by_cases h2 : a = q
      · rw [if_pos h2.symm, if_pos h2.symm]
      · rw [if_neg (Ne.symm h2), if_neg (Ne.symm h2), if_neg h2]
    · rw [List.filter_cons_of_pos (by simp [h]), lkM, ih, lkM]
      by_cases h2 : a = q
      · rw [if_pos h2, if_neg (fun e => h (h2.trans e)), if_pos h2]
      · rw [if_neg h2, if_neg h2]
theorem putM_mem {x:κ×α} (h:x∈putM K k u):x=(k,u)∨x∈K:=by
 induction K with
 | nil=>simpa [putM] using h
 | cons p r ih =>
  rw [putM] at h;split at h
  ·rcases List.mem_cons.1 h with h | h
   ·exact .inl h
   ·exact .inr (by simp [h])
  ·rcases List.mem_cons.1 h with h | h
   ·exact .inr (by simp [h])
   ·rcases ih h with h | h
    ·exact .inl h
    ·exact .inr (by simp [h])
theorem putM_once (h:Once K):Once (putM K k u):=by
 induction K with
 | nil=>exact List.pairwise_singleton _ _
 | cons p r ih =>
  obtain ⟨h1,h2⟩:=List.pairwise_cons.1 h
  rw [putM];split
  ·rename_i e;exact List.pairwise_cons.2 ⟨fun y hy=>by rw [←e];exact h1 y hy,h2⟩
  ·rename_i e
   refine List.pairwise_cons.2 ⟨fun y hy=>?_,ih h2⟩
   rcases putM_mem hy with rfl | hy
   ·exact e
   ·exact h1 y hy
end
theorem stmp0:Stmp #[] 0:=⟨List.nodup_nil,fun e h=>by simp at h⟩
def SrvK (I:Gh) (K:List (Place×Value)) (G:Place→Log):Prop:=∀p,((lkM K p).getD (.slice none 0 0)).oneCell'=true∧RoX I ((lkM K p).getD (.slice none 0 0)) bytesR (G p)
abbrev PlK (K:List (Place×Value)):Prop:=Once K∧∀k∈K,PlOk k.1
section
variable {I J : Gh} {K : List (Place × Value)} {s : Srv} {G : Place → Log} {p : Place} {u : Value} {g : Log}
theorem SrvK.up (h:SrvK I K G) (k:I.le J):SrvK J K G:=fun p=>⟨(h p).1,(h p).2.up k⟩
theorem SrvK.put (ho:u.oneCell'=true) (hu:RoX I u bytesR g) (h:SrvK I K s.log):SrvK I (putM K p u) (s.put p g).log:=fun q=>by
 rw [lkM_put];unfold Srv.put;dsimp only
 by_cases e:q=p
 ·rw [if_pos e,if_pos e];exact ⟨ho,hu⟩
 ·rw [if_neg e,if_neg e];exact h q
theorem PlK.put (h:PlK K) (hp:PlOk p):PlK (putM K p u):=⟨putM_once h.1,fun k hk=>by
 rcases putM_mem hk with rfl | hk
 ·exact hp
 ·exact h.2 k hk⟩
theorem PlK.drop (h:PlK K):PlK (K.filter fun k=>!decide (k.1=p)):=⟨h.1.filter _,fun k hk=>h.2 k (List.mem_filter.1 hk).1⟩
theorem PlK.kv (h:PlK K):∀k∈K,KV Tryz.prog 129 (encP k.1):=fun k hk=>kv_place (h.2 k hk)
end
def SrvP (q:Value) (s:Srv):HP:=.ex fun b=>.ex fun m=>.ex fun K=>.ex fun arr=>.ex fun clock =>
 Sep [.prop (q=ptr b∧s.ok∧Stmp arr clock∧arr.toList.map (fun e=>(e.key,e.val))=entM encP idV K∧PlK K),.fact ⟨fun I=>SrvK I K s.log,fun h k=>k.up h⟩,
  Blk b 116 [.map (some m)],MRaw m arr clock]
section
variable {w : World} {I : Gh} {R : List HP} {q : Value} {s : Srv}
theorem SrvP.opn (S : Sat w I (SrvP q s :: R)) : ∃ (b m : Nat) (K : List (Place × Value)) (arr : Array MapEntry) (clock : Nat), q = ptr b ∧ s.ok ∧ Stmp arr clock ∧ arr.toList.map (fun e => (e.key, e.val)) = entM encP idV K ∧ PlK K ∧ SrvK I K s.log ∧
    Sat w I (Blk b 116 [.map (some m)] :: MRaw m arr clock :: R) := by
  obtain ⟨b, S⟩ := S.unex; obtain ⟨m, S⟩ := S.unex; obtain ⟨K, S⟩ := S.unex; obtain ⟨arr, S⟩ := S.unex; obtain ⟨clock, S⟩ := S.unex
  obtain ⟨⟨h1, h2, h3, h4, h6⟩, S⟩ := S.split.unprop
  obtain ⟨h5, S⟩ := S.unfact
  exact ⟨b, m, K, arr, clock, h1, h2, h3, h4, h6, h5, S⟩
theorem SrvP.cls {b m : Nat} {K : List (Place × Value)} {arr : Array MapEntry} {clock : Nat} (h2 : s.ok) (h3 : Stmp arr clock) (h4 : arr.toList.map (fun e => (e.key, e.val)) = entM encP idV K) (h6 : PlK K) (h5 : SrvK I K s.log)
    (S : Sat w I (Blk b 116 [.map (some m)] :: MRaw m arr clock :: R)) : Sat w I (SrvP (ptr b) s :: R) :=
  Sat.toex b (Sat.toex m (Sat.toex K (Sat.toex arr (Sat.toex clock (Sat.join [_, _, _, _] ((Sat.tofact (φ := ⟨fun I => SrvK I K s.log, fun h k => k.up h⟩) h5 S).toprop ⟨rfl, h2, h3, h4, h6⟩))))))
theorem SrvP.one (S:Sat w I (SrvP q s::R)):q.oneCell'=true:=by obtain ⟨b,_,_,_,_,rfl,_⟩:=SrvP.opn S;rfl
end
end Go.Proofs.YthddplghlljdbaaGreat
