import Derived.Test.YtmalblpdkpjbcaaGreatQReplayReadersPos
set_option linter.unusedVariables false
set_option linter.unusedSimpArgs false
namespace Go.Ecal
open Go.RowKit
section
variable {P : Program} {N : Nat} {Q : Exit → Env → World → Prop} {E : Env} {w w' : World} {ops : Array Oper} {L : List Oper}
variable {d : Nat} {op : Op} {ty : TypeId} {pos : String} {aft : Array Edge} {dst : Option Tmp} {gd : Option (Nat × Bool)}
variable {t t2 T e : TypeId} {x y : Operand} {b : Nat} {cs : List Value} {j : Nat} {tt bb : Bool}
theorem lT {I J K : Gh} (h : I.le J) (k : J.le K) : I.le K := Gh.le_trans h k
class IsF (P : Program) (f : FuncId) : Prop where
  h : ∃ fn, P.funcs[f]? = some fn ∧ fn.body.isNone = false ∧ (fn.name == "runtime.NumGoroutine") = false
theorem eR {f : FuncId} {args : Array Operand} {ats : Array TypeId} {R : Value → World → Prop} {l : List Value} (hd : Nat.blt d N = true) (hF : IsF P f)
    (ha : args.toList.map (ev E) = l) (hc : Ret P f l w R) (h : ∀ v w', R v w' → EL P N ops Q L (upd E d v) w') :
    EL P N ops Q (⟨some d, .call { callee := .value (.func f), args, argTypes := ats }, ty, pos, aft, none⟩ :: L) E w := by
  obtain ⟨fn, h1, h2, h3⟩ := hF.h
  exact EL_ret l hd h1 h2 h3 ha hc h
theorem eG {f : FuncId} {args : Array Operand} {ats : Array TypeId} {R : Value → World → Prop} {l : List Value} (e : Nat) (hdst : (ops[j]?).bind (·.dst) = some e) (he : E e = .bool bb) (heN : Nat.blt e N = true) (hb' : (bb == tt) = true) (hd : Nat.blt d N = true) (hF : IsF P f)
    (ha : args.toList.map (ev E) = l) (hc : Ret P f l w R) (h : ∀ v w', R v w' → EL P N ops Q L (upd E d v) w') :
    EL P N ops Q (⟨some d, .call { callee := .value (.func f), args, argTypes := ats }, ty, pos, aft, some (j, tt)⟩ :: L) E w := by
  obtain ⟨fn, h1, h2, h3⟩ := hF.h
  exact EL_gret e hdst he heN hb' l hd h1 h2 h3 ha hc h
theorem vl (v : Value) (hd : Nat.blt d N = true) (hr : Gives P E w ⟨some d, op, ty, pos, aft, none⟩ v w) (h : EL P N ops Q L (upd E d v) w) : EL P N ops Q (⟨some d, op, ty, pos, aft, none⟩ :: L) E w := EL_val v w hd hr h
theorem gl (e : Nat) (hdst : (ops[j]?).bind (·.dst) = some e) (he : E e = .bool bb) (heN : Nat.blt e N = true) (hb : (bb == tt) = true) (v : Value) (hd : Nat.blt d N = true) (hr : Gives P E w ⟨some d, op, ty, pos, aft, some (j, tt)⟩ v w) (h : EL P N ops Q L (upd E d v) w) : EL P N ops Q (⟨some d, op, ty, pos, aft, some (j, tt)⟩ :: L) E w := EL_gval e hdst he heN hb v w hd hr h
theorem sA (l : List Value) (hx : ev E x = ptr b) (hy : ev E y = .agg l.toArray) (h : Arr w b T cs) (hn : l.length = cs.length) (hs : (P.info? t).map (·.size) = some l.length) (h1 : ∀ u ∈ l, u.oneCell' = true)
    (hk : ∀ w', Arr w' b T l → Kept w w' b → w'.heap.size = w.heap.size → EL P N ops Q L E w') : EL P N ops Q (⟨none, .store t x y, ty, pos, aft, none⟩ :: L) E w :=
  EL_storeAll (cs' := l.toArray) hx hy rfl h (by simpa using hn) (by simpa using hs) (by simpa using h1) (fun w' a b c => hk w' (by simpa using a) b c)
end
section
variable {P : Program} {N : Nat} {ops : Array Oper} {g fuel : Nat} {S T : World → Prop} {Q : Exit → Env → World → Prop} {listed : Array Bool} {E : Env} {w : World}
variable {d : Nat} {op : Op} {ty : TypeId} {pos : String} {aft : Array Edge} {j : Nat} {t b : Bool}
def okT (ops : Array Oper) (listed : Array Bool) (g i : Nat) : Bool := Region.noSelect ops && (Region.free .any ops listed i && ((Region.ready .any ops listed).contains i && (!Nat.beq i g && reachB .any ops 40 g i)))
def okF (ops : Array Oper) (listed : Array Bool) (g i : Nat) : Bool := Region.noSelect ops && (Region.free .any ops listed i && ((Region.ready .any ops listed).contains i && !Nat.beq i g))
theorem jT (i : Nat) (hi : ops[i]? = some ⟨some d, op, ty, pos, aft, none⟩) (hok : okT ops listed g i = true) (v : Value) (hd : Nat.blt d N = true) (hrun : ∀ w, S w → T w → Gives P E w ⟨some d, op, ty, pos, aft, none⟩ v w) (hST : SJ g S T listed w)
    (h : EJ P N ops g S T Q fuel (listed.setIfInBounds i true) (upd E d v) w) : EJ P N ops g S T Q (fuel + 1) listed E w := by
  simp only [okT, Bool.and_eq_true, Bool.not_eq_true'] at hok
  exact EJ_take i hi hok.1 hok.2.1 hok.2.2.1 hok.2.2.2.1 hok.2.2.2.2 v hd hrun hST h
theorem jG (i : Nat) (hi : ops[i]? = some ⟨some d, op, ty, pos, aft, some (j, t)⟩) (hok : okT ops listed g i = true) (e : Nat) (hdst : (ops[j]?).bind (·.dst) = some e) (he : E e = .bool b) (heN : Nat.blt e N = true) (hb : (b == t) = true) (v : Value) (hd : Nat.blt d N = true) (hrun : ∀ w, S w → T w → Gives P E w ⟨some d, op, ty, pos, aft, some (j, t)⟩ v w) (hST : SJ g S T listed w)
    (h : EJ P N ops g S T Q fuel (listed.setIfInBounds i true) (upd E d v) w) : EJ P N ops g S T Q (fuel + 1) listed E w := by
  simp only [okT, Bool.and_eq_true, Bool.not_eq_true'] at hok
  exact EJ_gtake i hi hok.1 hok.2.1 hok.2.2.1 hok.2.2.2.1 hok.2.2.2.2 e hdst he heN hb v hd hrun hST h
theorem jF (i : Nat) (hi : ops[i]? = some ⟨some d, op, ty, pos, aft, none⟩) (hok : okF ops listed g i = true) (v : Value) (hd : Nat.blt d N = true) (hrun : ∀ w, S w → Gives P E w ⟨some d, op, ty, pos, aft, none⟩ v w) (hST : SJ g S T listed w)
    (h : EJ P N ops g S T Q fuel (listed.setIfInBounds i true) (upd E d v) w) : EJ P N ops g S T Q (fuel + 1) listed E w := by
  simp only [okF, Bool.and_eq_true, Bool.not_eq_true'] at hok
  exact EJ_float i hi hok.1 hok.2.1 hok.2.2.1 hok.2.2.2 v hd hrun hST h
end
end Go.Ecal
