import Derived.Test.YtoajodjcmeijgaaGreatQSealedPlaysPos
set_option linter.unusedVariables false
set_option linter.unusedSimpArgs false
namespace Go.Ecal
open Go.RowKit
section
variable {P : Program} {N : Nat} {Q : Exit → Env → World → Prop} {E : Env} {w w' : World} {ops : Array Oper} {L : List Oper}
variable {d : Nat} {op : Op} {ty : TypeId} {pos : String} {aft : Array Edge} {dst : Option Tmp} {gd : Option (Nat × Bool)}
variable {t t2 T e : TypeId} {x y : Operand} {b : Nat} {cs : List Value} {j : Nat} {tt bb : Bool}
theorem lT {I J K : Gh} (h : I.le J) (k : J.le K) : I.le K := Gh.le_trans h k
def IsF (P : Program) (f : FuncId) : Prop := ∃ fn, P.funcs[f]? = some fn ∧ fn.body.isNone = false ∧ (fn.name == "runtime.NumGoroutine") = false
theorem eR {f : FuncId} {args : Array Operand} {ats : Array TypeId} {R : Value → World → Prop} {l : List Value} (hd : Nat.blt d N = true) (hF : IsF P f)
    (ha : args.toList.map (ev E) = l) (hc : Ret P f l w R) (h : ∀ v w', R v w' → EL P N ops Q L (upd E d v) w') :
    EL P N ops Q (⟨some d, .call { callee := .value (.func f), args, argTypes := ats }, ty, pos, aft, none⟩ :: L) E w := by
  obtain ⟨fn, h1, h2, h3⟩ := hF
  exact EL_ret l hd h1 h2 h3 ha hc h
theorem eG {f : FuncId} {args : Array Operand} {ats : Array TypeId} {R : Value → World → Prop} {l : List Value} (e : Nat) (hdst : (ops[j]?).bind (·.dst) = some e) (he : E e = .bool bb) (heN : Nat.blt e N = true) (hb' : (bb == tt) = true) (hd : Nat.blt d N = true) (hF : IsF P f)
    (ha : args.toList.map (ev E) = l) (hc : Ret P f l w R) (h : ∀ v w', R v w' → EL P N ops Q L (upd E d v) w') :
    EL P N ops Q (⟨some d, .call { callee := .value (.func f), args, argTypes := ats }, ty, pos, aft, some (j, tt)⟩ :: L) E w := by
  obtain ⟨fn, h1, h2, h3⟩ := hF
  exact EL_gret e hdst he heN hb' l hd h1 h2 h3 ha hc h
theorem vl (v : Value) (hd : Nat.blt d N = true) (hr : Gives P E w ⟨some d, op, ty, pos, aft, none⟩ v w) (h : EL P N ops Q L (upd E d v) w) : EL P N ops Q (⟨some d, op, ty, pos, aft, none⟩ :: L) E w := EL_val v w hd hr h
theorem vA (v : Value) (hd : Nat.blt d N = true) (hx : ev E x = v) (h : EL P N ops Q L (upd E d v) w) : EL P N ops Q (⟨some d, .assign x, ty, pos, aft, none⟩ :: L) E w := EL_val v w hd (r_assign hx) h
theorem vM (v : Value) (hd : Nat.blt d N = true) (hx : ev E x = v) (h : EL P N ops Q L (upd E d v) w) : EL P N ops Q (⟨some d, .move x, ty, pos, aft, none⟩ :: L) E w := EL_val v w hd (r_move hx) h
theorem vX (v : Value) {vs : Array Value} {i : Nat} (hd : Nat.blt d N = true) (hx : ev E x = .tuple vs) (hv : vs[i]? = some v) (h : EL P N ops Q L (upd E d v) w) : EL P N ops Q (⟨some d, .extract x i, ty, pos, aft, none⟩ :: L) E w := EL_val v w hd (r_extract hx hv) h
theorem vT (v : Value) {c : Operand} (hd : Nat.blt d N = true) (hc : ev E c = .bool true) (hx : ev E x = v) (h : EL P N ops Q L (upd E d v) w) : EL P N ops Q (⟨some d, .pick c x y, ty, pos, aft, none⟩ :: L) E w := EL_val v w hd (r_pickT hc hx) h
theorem vF (v : Value) {c : Operand} (hd : Nat.blt d N = true) (hc : ev E c = .bool false) (hy : ev E y = v) (h : EL P N ops Q L (upd E d v) w) : EL P N ops Q (⟨some d, .pick c x y, ty, pos, aft, none⟩ :: L) E w := EL_val v w hd (r_pickF hc hy) h
theorem vL (v : Value) {i : Nat} {ds : TypeDesc} (hd : Nat.blt d N = true) (hx : ev E x = ptr b i) (hA : Arr w b T cs) (hu : cs[i]? = some v) (ht : P.underlying t = some ds) (h1 : oneB ds = true) (h : EL P N ops Q L (upd E d v) w) : EL P N ops Q (⟨some d, .load t x, ty, pos, aft, none⟩ :: L) E w := EL_val v w hd (r_loadA hx hA hu ht h1) h
theorem gl (e : Nat) (hdst : (ops[j]?).bind (·.dst) = some e) (he : E e = .bool bb) (heN : Nat.blt e N = true) (hb : (bb == tt) = true) (v : Value) (hd : Nat.blt d N = true) (hr : Gives P E w ⟨some d, op, ty, pos, aft, some (j, tt)⟩ v w) (h : EL P N ops Q L (upd E d v) w) : EL P N ops Q (⟨some d, op, ty, pos, aft, some (j, tt)⟩ :: L) E w := EL_gval e hdst he heN hb v w hd hr h
theorem gM (e : Nat) (hdst : (ops[j]?).bind (·.dst) = some e) (he : E e = .bool bb) (heN : Nat.blt e N = true) (hb : (bb == tt) = true) (v : Value) (hd : Nat.blt d N = true) (hx : ev E x = v) (h : EL P N ops Q L (upd E d v) w) : EL P N ops Q (⟨some d, .move x, ty, pos, aft, some (j, tt)⟩ :: L) E w := EL_gval e hdst he heN hb v w hd (r_move hx) h
theorem gL (e : Nat) (hdst : (ops[j]?).bind (·.dst) = some e) (he : E e = .bool bb) (heN : Nat.blt e N = true) (hb : (bb == tt) = true) (v : Value) {i : Nat} {ds : TypeDesc} (hd : Nat.blt d N = true) (hx : ev E x = ptr b i) (hA : Arr w b T cs) (hu : cs[i]? = some v) (ht : P.underlying t = some ds) (h1 : oneB ds = true) (h : EL P N ops Q L (upd E d v) w) : EL P N ops Q (⟨some d, .load t x, ty, pos, aft, some (j, tt)⟩ :: L) E w := EL_gval e hdst he heN hb v w hd (r_loadA hx hA hu ht h1) h
theorem qA {C : World → Prop} {K : Env → Prop} (v : Value) (hd : Nat.blt d N = true) (hx : ev E x = v) (h : EQ P N ops C K L (upd E d v)) : EQ P N ops C K (⟨some d, .assign x, ty, pos, aft, none⟩ :: L) E := EQ_val v hd (fun _ _ => r_assign hx) h
theorem qM {C : World → Prop} {K : Env → Prop} (v : Value) (hd : Nat.blt d N = true) (hx : ev E x = v) (h : EQ P N ops C K L (upd E d v)) : EQ P N ops C K (⟨some d, .move x, ty, pos, aft, none⟩ :: L) E := EQ_val v hd (fun _ _ => r_move hx) h
theorem fP (o : Nat) {f q : Nat} {fs : Array Field} (hx : ev E x = ptr b o) (ht : P.underlying t = some (.struct fs)) (hf : ((fs[f]?).bind fun fd => (P.info? fd.type).map fun i => (i.size, o + fd.offset)) = some (1, q)) :
    Gives P E w ⟨dst, .fieldAddr t x f, ty, pos, aft, gd⟩ (ptr b q) w := by
  obtain ⟨fd, h1, h2⟩ := Option.bind_eq_some_iff.1 hf
  obtain ⟨i, h3, h4⟩ := Option.map_eq_some_iff.1 h2
  injection h4 with h5 h6
  exact r_fieldP (s := 1) hx ht h1 (by rw [h3, ← h5]; rfl) (by decide) h6
theorem sA (l : List Value) (hx : ev E x = ptr b) (hy : ev E y = .agg l.toArray) (h : Arr w b T cs) (hn : l.length = cs.length) (hs : (P.info? t).map (·.size) = some l.length) (h1 : ∀ u ∈ l, u.oneCell' = true)
    (hk : ∀ w', Arr w' b T l → Kept w w' b → w'.heap.size = w.heap.size → EL P N ops Q L E w') : EL P N ops Q (⟨none, .store t x y, ty, pos, aft, none⟩ :: L) E w :=
  EL_storeAll (cs' := l.toArray) hx hy rfl h (by simpa using hn) (by simpa using hs) (by simpa using h1) (fun w' a b c => hk w' (by simpa using a) b c)
end
section
variable {P : Program} {N : Nat} {ops : Array Oper} {g fuel : Nat} {S T : World → Prop} {Q : Exit → Env → World → Prop} {listed : Array Bool} {E : Env} {w : World}
variable {d : Nat} {op : Op} {ty : TypeId} {pos : String} {aft : Array Edge} {j : Nat} {t b : Bool}
def okT (ops : Array Oper) (listed : Array Bool) (g i : Nat) : Bool := Region.noSelect ops && (Region.free .any ops listed i && ((Region.ready .any ops listed).contains i && (!Nat.beq i g && reachB .any ops 40 g i)))
def okF (ops : Array Oper) (listed : Array Bool) (g i : Nat) : Bool := Region.noSelect ops && (Region.free .any ops listed i && ((Region.ready .any ops listed).contains i && !Nat.beq i g))
theorem jT (i : Nat) (hi : ops[i]? = some ⟨some d, op, ty, pos, aft, none⟩) (hok : okT ops listed g i = true) (v : Value) (hd : Nat.blt d N = true) (hrun : ∀ w, S w → T w → Gives P E w ⟨some d, op, ty, pos, aft, none⟩ v w) (hST : SJ g S T listed w)
    (h : EJ P N ops g S T Q fuel (listed.setIfInBounds i true) (upd E d v) w) : EJ P N ops g S T Q (fuel + 1) listed E w := by
  simp only [okT, Bool.and_eq_true, Bool.not_eq_true'] at hok
  exact EJ_take i hi hok.1 hok.2.1 hok.2.2.1 hok.2.2.2.1 hok.2.2.2.2 v hd hrun hST h
theorem jG (i : Nat) (hi : ops[i]? = some ⟨some d, op, ty, pos, aft, some (j, t)⟩) (hok : okT ops listed g i = true) (e : Nat) (hdst : (ops[j]?).bind (·.dst) = some e) (he : E e = .bool b) (heN : Nat.blt e N = true) (hb : (b == t) = true) (v : Value) (hd : Nat.blt d N = true) (hrun : ∀ w, S w → T w → Gives P E w ⟨some d, op, ty, pos, aft, some (j, t)⟩ v w) (hST : SJ g S T listed w)
    (h : EJ P N ops g S T Q fuel (listed.setIfInBounds i true) (upd E d v) w) : EJ P N ops g S T Q (fuel + 1) listed E w := by
  simp only [okT, Bool.and_eq_true, Bool.not_eq_true'] at hok
  exact EJ_gtake i hi hok.1 hok.2.1 hok.2.2.1 hok.2.2.2.1 hok.2.2.2.2 e hdst he heN hb v hd hrun hST h
theorem jF (i : Nat) (hi : ops[i]? = some ⟨some d, op, ty, pos, aft, none⟩) (hok : okF ops listed g i = true) (v : Value) (hd : Nat.blt d N = true) (hrun : ∀ w, S w → Gives P E w ⟨some d, op, ty, pos, aft, none⟩ v w) (hST : SJ g S T listed w)
    (h : EJ P N ops g S T Q fuel (listed.setIfInBounds i true) (upd E d v) w) : EJ P N ops g S T Q (fuel + 1) listed E w := by
  simp only [okF, Bool.and_eq_true, Bool.not_eq_true'] at hok
  exact EJ_float i hi hok.1 hok.2.1 hok.2.2.1 hok.2.2.2 v hd hrun hST h
end
end Go.Ecal
