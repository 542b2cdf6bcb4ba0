import Derived.WalkKit
import Derived.Below
import Derived.WalkLawsBesides
import Derived.WalkSpells
import Derived.ScopeJumps
import Derived.OrdersHeld
import Derived.KernelRfl
import Derived.Deep.AppendLies
import Derived.Maps.AppendAt
import Derived.Laws.BytesArg
import Derived.Laws.CopyOwn
import Derived.StillTail
import Derived.Deep.Quiet
import Derived.Laws.Externs
set_option linter.unusedVariables false
set_option linter.unusedSimpArgs false
namespace Go.Ecal
open Go.RowKit
abbrev Env:=Nat→Value
def upd (E:Env) (d:Nat) (v:Value):Env:=fun t=>bif Nat.beq t d then v else E t
def ev (E:Env):Operand→Value
 | .tmp t=>E t
 | .const v=>v
 | .global g=>.pointer (some ⟨g,0,none⟩)
 | .func f=>.func (.func f) #[] #[]
/-- The frame's temporaries read as1 E;nothing is deferred. -/
def Sim (N:Nat) (a:Act) (E:Env):Prop:=a.tmps.size=N∧a.defers=[]∧∀t,a.tmps.getD t undef=E t
theorem Sim.eval {N:Nat} {a:Act} {E:Env} (h:Sim N a E):a.eval=ev E:=by
 funext x
 cases x with
 | tmp t=>exact h.2.2 t
 | _=>rfl
theorem Sim.put {N : Nat} {a : Act} {E : Env} (h : Sim N a E) {d : Nat} (hd : Nat.blt d N = true) (v : Value) : Sim N (a.put (some d) v) (upd E d v) := by
  have hdN : d < N := by simpa [Nat.blt_eq] using hd
  refine ⟨by simp [Act.put, h.1], h.2.1, fun t => ?_⟩
  simp only [Act.put, upd]
  by_cases e : t = d
  · subst e
    simp [Array.getD, h.1, hdN]
  · have hb : Nat.beq t d = false := by
      rw [← Bool.not_eq_true]; intro hh; exact e (Nat.eq_of_beq_eq_true hh)
    rw [hb]
    have := h.2.2 t
    simp only [Array.getD_eq_getD_getElem?, cond_false] at this ⊢
    rw [Array.getElem?_setIfInBounds_ne (Ne.symm e)]
    exact this
/-- An exit's claim over environments,over acts. No panic gets out. -/
def lft (N:Nat) (Q:Exit→Env→World→Prop):Exit→Act→World→Prop
 | .panic _,_,_=>False
 | e,a,w=>∃E,Sim N a E∧Q e E w
def EC (P:Program) (N:Nat) (c:Code) (Q:Exit→Env→World→Prop) (E:Env) (w:World):Prop:=∀a,Sim N a E→c.wp P (lft N Q) a w
def thn (K:Env→World→Prop) (Q:Exit→Env→World→Prop):Exit→Env→World→Prop
 | .normal,E,w=>K E w
 | e,E,w=>Q e E w
def inB (id:Nat) (Q:Exit→Env→World→Prop):Exit→Env→World→Prop
 | .exit id',E,w=>bif Nat.beq id' id then Q .normal E w else Q (.exit id') E w
 | e,E,w=>Q e E w
section
variable {P : Program} {N : Nat} {Q : Exit → Env → World → Prop} {E : Env} {w : World}
theorem thn_n {K:Env→World→Prop} (h:K E w):thn K Q .normal E w:=h
theorem thn_r {K:Env→World→Prop} (h:Q .ret E w):thn K Q .ret E w:=h
theorem thn_x {K:Env→World→Prop} {id:Nat} (h:Q (.exit id) E w):thn K Q (.exit id) E w:=h
theorem thn_g {K:Env→World→Prop} {l:Nat} (h:Q (.goto l) E w):thn K Q (.goto l) E w:=h
theorem inB_n {i:Nat} (h:Q .normal E w):inB i Q .normal E w:=h
theorem inB_r {i:Nat} (h:Q .ret E w):inB i Q .ret E w:=h
theorem inB_g {i l:Nat} (h:Q (.goto l) E w):inB i Q (.goto l) E w:=h
theorem inB_hit {i:Nat} (h:Q .normal E w):inB i Q (.exit i) E w:=by simp only [inB,Nat.beq_refl];exact h
theorem inB_miss {i j:Nat} (hne:Nat.beq j i=false) (h:Q (.exit j) E w):inB i Q (.exit j) E w:=by simp only [inB,hne];exact h
theorem EC_mono {c:Code} {Q':Exit→Env→World→Prop} (h:EC P N c Q E w) (hq:∀e E w,Q e E w→Q' e E w):EC P N c Q' E w:=fun a hs =>
 wp_mono (h a hs) fun e a w hh=>by
  cases e with
  | panic c=>exact hh
  | _=>exact let ⟨E,s,q⟩:=hh;⟨E,s,hq _ _ _ q⟩
theorem EC_seq {x y:Code} (h:EC P N x (thn (EC P N y Q) Q) E w):EC P N (.seq x y) Q E w:=fun a hs =>
 wp_seq (wp_mono (h a hs) fun e a w hh=>by
  cases e with
  | panic c=>exact hh
  | normal=>exact let ⟨E,s,q⟩:=hh;q a s
  | _=>exact let ⟨E,s,q⟩:=hh;⟨E,s,q⟩)
/-- A cut: what holds between x and y. -/
theorem EC_cut {x y:Code} (J:Env→World→Prop) (h:EC P N x (thn J Q) E w) (k:∀E w,J E w→EC P N y Q E w):EC P N (.seq x y) Q E w:=
 EC_seq (EC_mono h fun e E w hh=>by cases e<;>first | exact k E w hh | exact hh)
theorem EC_skip (h:Q .normal E w):EC P N .skip Q E w:=fun a hs=>wp_skip ⟨E,hs,h⟩
theorem EC_label {l:Nat} (h:Q .normal E w):EC P N (.label l) Q E w:=fun a hs=>wp_label ⟨E,hs,h⟩
theorem EC_exit {id:Nat} (h:Q (.exit id) E w):EC P N (.exit id) Q E w:=fun a hs=>wp_exit ⟨E,hs,h⟩
theorem EC_goto {l:Nat} (h:Q (.goto l) E w):EC P N (.goto l) Q E w:=fun a hs=>wp_goto ⟨E,hs,h⟩
theorem EC_ret (h:Q .ret E w):EC P N .ret Q E w:=fun a hs=>wp_ret ⟨E,hs,h⟩
theorem EC_cond {c:Operand} {x y:Code} {t:Bool} (hc:ev E c=.bool t) (ht:t=true→EC P N x Q E w) (hf:t=false→EC P N y Q E w):EC P N (.cond c x y) Q E w:=fun a hs =>
 wp_cond_split (t:=t) (by rw [hs.eval];exact hc) (fun h=>ht h a hs) (fun h=>hf h a hs)
theorem EC_cond_true {c:Operand} {x y:Code} (hc:ev E c=.bool true) (h:EC P N x Q E w):EC P N (.cond c x y) Q E w:=EC_cond hc (fun _=>h) (fun h=>by cases h)
theorem EC_cond_false {c:Operand} {x y:Code} (hc:ev E c=.bool false) (h:EC P N y Q E w):EC P N (.cond c x y) Q E w:=EC_cond hc (fun h=>by cases h) (fun _=>h)
theorem EC_if {c:Operand} {x y:Code} {p:Prop} [Decidable p] (hc:ev E c=.bool (decide p)) (ht:p→EC P N x Q E w) (hf:¬p→EC P N y Q E w):EC P N (.cond c x y) Q E w:=
 EC_cond hc (fun h=>ht (of_decide_eq_true h)) (fun h=>hf (of_decide_eq_false h))
theorem EC_block {id:Nat} {c:Code} (h:EC P N c (inB id Q) E w):EC P N (.block id c) Q E w:=fun a hs =>
 wp_block (wp_mono (h a hs) fun e a w hh=>by
  cases e with
  | panic c=>exact hh
  | exit id' =>
   obtain ⟨E,s,q⟩:=hh
   simp only [inB] at q
   simp only [Exit.inBlock]
   by_cases e:id'=id
   ·subst e
    rw [if_pos rfl]
    simp at q
    exact ⟨E,s,q⟩
   ·rw [if_neg e]
    have hb:Nat.beq id' id=false:=by
     rw [←Bool.not_eq_true];intro hh;exact e (Nat.eq_of_beq_eq_true hh)
    rw [hb] at q
    exact ⟨E,s,q⟩
  | _=>exact let ⟨E,s,q⟩:=hh;⟨E,s,q⟩)
/-- A loop: an invariant, and a measure on it. -/
theorem EC_loop {c : Code} (I : Nat → Env → World → Prop) (n : Nat) (h₀ : I n E w)
    (round : ∀ n E w, I n E w → EC P N c (thn (fun E' w' => ∃ m, m < n ∧ I m E' w') Q) E w) : EC P N (.loop c) Q E w := by
  intro a hs
  intro b k cs
  have key : ∀ n a w E, Sim N a E → I n E w →
      ∃ e a' w', lft N Q e a' w' ∧ Arrives P (lone (b.at a (.code c :: .inLoop c :: k)) cs w) b k cs e a' w' := by
    intro n
    induction n using Nat.strongRecOn with
    | _ n ih =>
      intro a w E hs hI
      obtain ⟨e, a₁, w₁, hq, harr⟩ := round n E w hI a hs b (.inLoop c :: k) cs
      cases e with
      | normal =>
        obtain ⟨E', s', m, hm, hI'⟩ := hq
        obtain ⟨e₂, a₂, w₂, hq₂, harr₂⟩ := ih m hm a₁ w₁ E' s' hI'
        exact ⟨e₂, a₂, w₂, hq₂, .of_steps (Steps.trans harr (.one step_inLoop)) harr₂⟩
      | exit id => exact ⟨.exit id, a₁, w₁, (show lft N Q (.exit id) a₁ w₁ from hq), .pass (x := .inLoop c) rfl (fun _ _ => .inl (by simp)) harr⟩
      | goto l => exact ⟨.goto l, a₁, w₁, (show lft N Q (.goto l) a₁ w₁ from hq), .pass (x := .inLoop c) rfl (fun _ _ => .inl (by simp)) harr⟩
      | ret => exact ⟨.ret, a₁, w₁, (show lft N Q (.ret) a₁ w₁ from hq), .pass (x := .inLoop c) rfl (fun _ _ => .inl (by simp)) harr⟩
      | panic ch => exact ⟨.panic ch, a₁, w₁, (show lft N Q (.panic ch) a₁ w₁ from hq), .pass (x := .inLoop c) rfl (fun _ _ => .inl (by simp)) harr⟩
      | outgrown => exact ⟨.outgrown, a₁, w₁, (show lft N Q (.outgrown) a₁ w₁ from hq), .pass (x := .inLoop c) rfl (fun _ _ => .inl (by simp)) harr⟩
  obtain ⟨e, a', w', hq, harr⟩ := key n a w E hs h₀
  exact ⟨e, a', w', hq, .of_steps (.one step_loop) harr⟩
/-- In a scope: by a goto to l what J says of l;n bounds the gotos to come. -/
def jmp (J:Nat→Nat→Env→World→Prop) (n:Nat) (Q:Exit→Env→World→Prop):Exit→Env→World→Prop
 | .goto l,E,w=>∃m,m<n∧J l m E w
 | e,E,w=>Q e E w
theorem jmp_n {J:Nat→Nat→Env→World→Prop} {n:Nat} (h:Q .normal E w):jmp J n Q .normal E w:=h
theorem jmp_r {J:Nat→Nat→Env→World→Prop} {n:Nat} (h:Q .ret E w):jmp J n Q .ret E w:=h
theorem jmp_x {J:Nat→Nat→Env→World→Prop} {n i:Nat} (h:Q (.exit i) E w):jmp J n Q (.exit i) E w:=h
theorem jmp_g {J:Nat→Nat→Env→World→Prop} {n l:Nat} (m:Nat) (hm:m<n) (h:J l m E w):jmp J n Q (.goto l) E w:=⟨m,hm,h⟩
theorem EC_scope {c : Code} (J : Nat → Nat → Env → World → Prop) (n : Nat) (first : EC P N c (jmp J n Q) E w)
    (pass : ∀ l n E w, J l n E w → ∃ rest, findLabel c l = some rest ∧ EC P N rest (jmp J n Q) E w) : EC P N (.scope c) Q E w := by
  intro a hs b k cs
  have key : ∀ n (c' : Code) a w E, Sim N a E → EC P N c' (jmp J n Q) E w → ∃ e a' w', lft N Q e a' w' ∧ Arrives P (lone (b.at a (.code c' :: .inScope c :: k)) cs w) b k cs e a' w' := by
    intro n
    induction n using Nat.strongRecOn with
    | _ n ih =>
      intro c' a w E hs hc
      obtain ⟨e, a₁, w₁, hq, harr⟩ := hc a hs b (.inScope c :: k) cs
      cases e with
      | normal => exact ⟨.normal, a₁, w₁, hq, Steps.trans harr (.one step_inScope)⟩
      | exit id => exact ⟨.exit id, a₁, w₁, hq, fun k' hk => harr k' (by simp [exitTo, hk])⟩
      | goto l' =>
        obtain ⟨E', s', m, hm, hJ⟩ := hq
        obtain ⟨rest, hf, hr⟩ := pass l' m E' w₁ hJ
        obtain ⟨e₂, a₂, w₂, hq₂, harr₂⟩ := ih m hm rest a₁ w₁ E' s' hr
        have hg : gotoIn l' (.inScope c :: k) = some (.code rest :: .inScope c :: k) := by simp [gotoIn, hf]
        exact ⟨e₂, a₂, w₂, hq₂, .of_steps (harr _ hg) harr₂⟩
      | ret => exact ⟨.ret, a₁, w₁, (show lft N Q (.ret) a₁ w₁ from hq), harr⟩
      | panic ch => exact ⟨.panic ch, a₁, w₁, (show lft N Q (.panic ch) a₁ w₁ from hq), harr⟩
      | outgrown => exact ⟨.outgrown, a₁, w₁, (show lft N Q (.outgrown) a₁ w₁ from hq), harr⟩
  obtain ⟨e, a₁, w₁, hq, harr⟩ := key n c a w E hs first
  exact ⟨e, a₁, w₁, hq, .of_steps (.one step_scope) harr⟩
/-- A list of operations,in its order. -/
def EL (P:Program) (N:Nat) (ops:Array Oper) (Q:Exit→Env→World→Prop) (L:List Oper) (E:Env) (w:World):Prop:=∀a,Sim N a E→wpList P ops (lft N Q) L a w
variable {ops : Array Oper} {L : List Oper}
theorem EC_reg {id:Nat} {l:List Oper} (h:EL P N l.toArray Q l E w):EC P N (.region id l.toArray false) Q E w:=fun a hs=>wp_region_lit (h a hs)
theorem EL_nil (h:Q .normal E w):EL P N ops Q [] E w:=fun a hs=>⟨E,hs,h⟩
section
variable {d : Nat} {op : Op} {ty : TypeId} {pos : String} {aft : Array Edge}
/-- An operation that yields a value. -/
theorem EL_val (v : Value) (w' : World) (hd : Nat.blt d N = true) (hrun : (execOp (ev E) ⟨some d, op, ty, pos, aft, none⟩).run P w = .ok (.value v) w')
    (h : EL P N ops Q L (upd E d v) w') : EL P N ops Q (⟨some d, op, ty, pos, aft, none⟩ :: L) E w := fun a hs =>
  wpList_plain rfl fun K hK => by
    unfold Oper.wp
    rw [hs.eval, hrun]
    exact hK _ _ (h _ (hs.put hd v))
/-- One that yields none. -/
theorem EL_do (w' : World) (hrun : (execOp (ev E) ⟨none, op, ty, pos, aft, none⟩).run P w = .ok .skip w')
    (h : EL P N ops Q L E w') : EL P N ops Q (⟨none, op, ty, pos, aft, none⟩ :: L) E w := fun a hs =>
  wpList_plain rfl fun K hK => by
    unfold Oper.wp
    rw [hs.eval, hrun]
    exact hK _ _ (h _ hs)
/-- A call, by its contract. -/
theorem EL_call {f : FuncId} {args : Array Value} (hd : Nat.blt d N = true) {R : Ending → World → Prop} (hrun : (execOp (ev E) ⟨some d, op, ty, pos, aft, none⟩).run P w = .ok (.enter f args) w)
    (hc : Calls P f args w R) (hR : ∀ e w', R e w' → ∃ v, e = .returned v)
    (h : ∀ v w', R (.returned v) w' → EL P N ops Q L (upd E d v) w') : EL P N ops Q (⟨some d, op, ty, pos, aft, none⟩ :: L) E w := fun a hs =>
  wpList_plain rfl fun K hK => by
    unfold Oper.wp
    rw [hs.eval, hrun, Oper.upon_enter]
    refine Calls.mono hc fun e w' hr => ?_
    obtain ⟨v, rfl⟩ := hR e w' hr
    exact hK _ _ (h v w' hr _ (hs.put hd v))
variable {j : Nat} {t : Bool}
theorem wanted_of {o:Oper} {a:Act} (hs:Sim N a E) (hg:o.guard=some (j,t)) {e:Nat} (hdst:(ops[j]?).bind (·.dst)=some e) {b:Bool} (he:E e=.bool b) (heN:Nat.blt e N=true):Region.wanted o (yielded ops a.tmps)=(b == t):=by
 have heN':e<N:=by simpa [Nat.blt_eq] using heN
 have h2:=hs.2.2 e
 have hsz:=hs.1
 have h3:a.tmps[e]?=some (.bool b):=by
  rw [Array.getElem?_eq_getElem (by omega)]
  rw [Array.getD_eq_getD_getElem?,Array.getElem?_eq_getElem (by omega),he] at h2
  simpa using h2
 simp only [Region.wanted,hg,yielded,hdst]
 simp [h3]
/-- A guarded operation that is not wanted. -/
theorem EL_pass {b : Bool} (e : Nat) (hdst : (ops[j]?).bind (·.dst) = some e) (he : E e = .bool b) (heN : Nat.blt e N = true) (hb : (b == t) = false) (hd : Nat.blt d N = true)
    (h : EL P N ops Q L (upd E d undef) w) : EL P N ops Q (⟨some d, op, ty, pos, aft, some (j, t)⟩ :: L) E w := fun a hs => by
  unfold wpList
  rw [wanted_of (o := ⟨some d, op, ty, pos, aft, some (j, t)⟩) hs rfl hdst he heN, hb]
  exact h _ (hs.put hd undef)
theorem EL_gval {b : Bool} (e : Nat) (hdst : (ops[j]?).bind (·.dst) = some e) (he : E e = .bool b) (heN : Nat.blt e N = true) (hb : (b == t) = true) (v : Value) (w' : World) (hd : Nat.blt d N = true)
    (hrun : (execOp (ev E) ⟨some d, op, ty, pos, aft, some (j, t)⟩).run P w = .ok (.value v) w')
    (h : EL P N ops Q L (upd E d v) w') : EL P N ops Q (⟨some d, op, ty, pos, aft, some (j, t)⟩ :: L) E w := fun a hs => by
  unfold wpList
  rw [wanted_of (o := ⟨some d, op, ty, pos, aft, some (j, t)⟩) hs rfl hdst he heN, hb, if_pos rfl]
  refine .inl ?_
  unfold Oper.wp
  rw [hs.eval, hrun]
  exact h _ (hs.put hd v)
/-- A guarded operation that runs anyhow: its value, or none. -/
theorem EL_gite {b : Bool} (e : Nat) (hdst : (ops[j]?).bind (·.dst) = some e) (he : E e = .bool b) (heN : Nat.blt e N = true) (v : Value) (hd : Nat.blt d N = true)
    (hrun : (b == t) = true → (execOp (ev E) ⟨some d, op, ty, pos, aft, some (j, t)⟩).run P w = .ok (.value v) w)
    (h : EL P N ops Q L (upd E d (bif b == t then v else undef)) w) : EL P N ops Q (⟨some d, op, ty, pos, aft, some (j, t)⟩ :: L) E w := by
  cases hb : (b == t) with
  | true => exact EL_gval e hdst he heN hb v w hd (hrun hb) (by simpa [hb] using h)
  | false => exact EL_pass e hdst he heN hb hd (by simpa [hb] using h)
theorem EL_gcall {b : Bool} (e : Nat) (hdst : (ops[j]?).bind (·.dst) = some e) (he : E e = .bool b) (heN : Nat.blt e N = true) (hb : (b == t) = true) {f : FuncId} {args : Array Value} (hd : Nat.blt d N = true) {R : Ending → World → Prop}
    (hrun : (execOp (ev E) ⟨some d, op, ty, pos, aft, some (j, t)⟩).run P w = .ok (.enter f args) w)
    (hc : Calls P f args w R) (hR : ∀ e w', R e w' → ∃ v, e = .returned v)
    (h : ∀ v w', R (.returned v) w' → EL P N ops Q L (upd E d v) w') : EL P N ops Q (⟨some d, op, ty, pos, aft, some (j, t)⟩ :: L) E w := fun a hs => by
  unfold wpList
  rw [wanted_of (o := ⟨some d, op, ty, pos, aft, some (j, t)⟩) hs rfl hdst he heN, hb, if_pos rfl]
  refine .inl ?_
  unfold Oper.wp
  rw [hs.eval, hrun, Oper.upon_enter]
  refine Calls.mono hc fun e w' hr => ?_
  obtain ⟨v, rfl⟩ := hR e w' hr
  exact h v w' hr _ (hs.put hd v)
end
/-- What the caller is told. -/
def fin (P:Program) (fn:Func) (R:Ending→World→Prop):Exit→Env→World→Prop
 | .normal,E,w | .ret,E,w=>∀tmps:Array Value,(∀t,tmps.getD t undef=E t)→∃v,(results fn tmps).run P w=.ok v w∧R (.returned v) w
 | _,_,_=>False
theorem calls_E {f : FuncId} {fn : Func} {c : Code} {args : Array Value} {R : Ending → World → Prop} (hf : P.funcs[f]? = some fn) (hb : fn.body = some c) (E0 : Env)
    (hE : ∀ t, (args ++ Array.replicate (fn.ntmps - args.size) undef).getD t undef = E0 t) (hN : (args ++ Array.replicate (fn.ntmps - args.size) undef).size = N)
    (h : EC P N c (fin P fn R) E0 w) : Calls P f args w R := by
  refine calls_of_wp hf hb (wp_mono (h ⟨_, []⟩ ⟨hN, rfl, hE⟩) fun e a w hh => ?_)
  cases e with
  | panic c => exact hh.elim
  | normal => obtain ⟨E, s, q⟩ := hh; obtain ⟨v, hv, hr⟩ := q a.tmps s.2.2; exact ⟨s.2.1, v, hv, hr⟩
  | ret => obtain ⟨E, s, q⟩ := hh; obtain ⟨v, hv, hr⟩ := q a.tmps s.2.2; exact ⟨s.2.1, v, hv, hr⟩
  | _ => obtain ⟨E, s, q⟩ := hh; exact q.elim
end
end Go.Ecal
namespace Go.Ecal
open Go.RowKit
section
variable {P : Program} {E : Env} {w : World} {dst : Option Tmp} {ty : TypeId} {pos : String} {aft : Array Edge} {gd : Option (Nat × Bool)}
/-- The operation's run: value v,world w'. -/
abbrev Gives (P:Program) (E:Env) (w:World) (o:Oper) (v:Value) (w':World):Prop:=(execOp (ev E) o).run P w=.ok (.value v) w'
abbrev Does (P:Program) (E:Env) (w:World) (o:Oper) (w':World):Prop:=(execOp (ev E) o).run P w=.ok .skip w'
theorem r_move {x:Operand} {v:Value} (hx:ev E x=v):Gives P E w ⟨dst,.move x,ty,pos,aft,gd⟩ v w:=by subst hx;rfl
theorem r_assign {x:Operand} {v:Value} (hx:ev E x=v):Gives P E w ⟨dst,.assign x,ty,pos,aft,gd⟩ v w:=by subst hx;rfl
theorem r_pickT {c x y:Operand} {u:Value} (hc:ev E c=.bool true) (hx:ev E x=u):Gives P E w ⟨dst,.pick c x y,ty,pos,aft,gd⟩ u w:=by
 subst hx;simp only [Gives,execOp,hc];rfl
theorem r_pickF {c x y:Operand} {u:Value} (hc:ev E c=.bool false) (hy:ev E y=u):Gives P E w ⟨dst,.pick c x y,ty,pos,aft,gd⟩ u w:=by
 subst hy;simp only [Gives,execOp,hc];rfl
/-- a&&b -/
theorem r_and {c x y:Operand} {b b2:Bool} (hc:ev E c=.bool b) (hx:ev E x=(bif b == true then .bool b2 else undef)) (hy:ev E y=.bool false):Gives P E w ⟨dst,.pick c x y,ty,pos,aft,gd⟩ (.bool (b&&b2)) w:=by
 simp only [Gives,execOp,hc,hx,hy];cases b<;>rfl
/-- a||b -/
theorem r_or {c x y:Operand} {b b2:Bool} (hc:ev E c=.bool b) (hx:ev E x=.bool true) (hy:ev E y=(bif b == false then .bool b2 else undef)):Gives P E w ⟨dst,.pick c x y,ty,pos,aft,gd⟩ (.bool (b||b2)) w:=by
 simp only [Gives,execOp,hc,hx,hy];cases b<;>rfl
theorem r_extract {x:Operand} {vs:Array Value} {i:Nat} {v:Value} (hx:ev E x=.tuple vs) (hv:vs[i]?=some v):Gives P E w ⟨dst,.extract x i,ty,pos,aft,gd⟩ v w:=by
 simp only [Gives,execOp,hx,Instr.extract,hv];rfl
theorem r_not {t:TypeId} {x:Operand} {b:Bool} (hx:ev E x=.bool b):Gives P E w ⟨dst,.unOp .not t x,ty,pos,aft,gd⟩ (.bool (!b)) w:=by
 simp only [Gives,execOp,hx];cases b<;>rfl
theorem wrap_u8 (n:Int):IntKind.u8.wrap n=n % 256:=by simp [IntKind.wrap,IntKind.bits,IntKind.signed]
theorem wrap_i64_in {n:Int} (h:-9223372036854775808≤n∧n≤9223372036854775807):IntKind.i64.wrap n=n:=by rw [IntKind.wrap_i64];omega
section ints
variable {t t2 : TypeId} {x y : Operand} {k k2 : IntKind} {m n : Int}
theorem r_add (hx:ev E x=.int k m) (hy:ev E y=.int k n):Gives P E w ⟨dst,.binOp .add t x y t2,ty,pos,aft,gd⟩ (.int k (k.wrap (m+n))) w:=by
 simp only [Gives,execOp,hx,hy];simp [eqGuard,binOp,Op.intArith]
theorem r_sub (hx:ev E x=.int k m) (hy:ev E y=.int k n):Gives P E w ⟨dst,.binOp .sub t x y t2,ty,pos,aft,gd⟩ (.int k (k.wrap (m-n))) w:=by
 simp only [Gives,execOp,hx,hy];simp [eqGuard,binOp,Op.intArith]
theorem r_mul (hx:ev E x=.int k m) (hy:ev E y=.int k n):Gives P E w ⟨dst,.binOp .mul t x y t2,ty,pos,aft,gd⟩ (.int k (k.wrap (m*n))) w:=by
 simp only [Gives,execOp,hx,hy];simp [eqGuard,binOp,Op.intArith]
theorem r_addi (hx:ev E x=.int .i64 m) (hy:ev E y=.int .i64 n) (h:-9223372036854775808≤m+n∧m+n≤9223372036854775807):Gives P E w ⟨dst,.binOp .add t x y t2,ty,pos,aft,gd⟩ (.int .i64 (m+n)) w:=by
 have:=r_add (P:=P) (w:=w) (dst:=dst) (ty:=ty) (pos:=pos) (aft:=aft) (gd:=gd) (t:=t) (t2:=t2) hx hy;rwa [wrap_i64_in h] at this
theorem r_subi (hx:ev E x=.int .i64 m) (hy:ev E y=.int .i64 n) (h:-9223372036854775808≤m-n∧m-n≤9223372036854775807):Gives P E w ⟨dst,.binOp .sub t x y t2,ty,pos,aft,gd⟩ (.int .i64 (m-n)) w:=by
 have:=r_sub (P:=P) (w:=w) (dst:=dst) (ty:=ty) (pos:=pos) (aft:=aft) (gd:=gd) (t:=t) (t2:=t2) hx hy;rwa [wrap_i64_in h] at this
theorem r_muli (hx:ev E x=.int .i64 m) (hy:ev E y=.int .i64 n) (h:-9223372036854775808≤m*n∧m*n≤9223372036854775807):Gives P E w ⟨dst,.binOp .mul t x y t2,ty,pos,aft,gd⟩ (.int .i64 (m*n)) w:=by
 have:=r_mul (P:=P) (w:=w) (dst:=dst) (ty:=ty) (pos:=pos) (aft:=aft) (gd:=gd) (t:=t) (t2:=t2) hx hy;rwa [wrap_i64_in h] at this
theorem r_lss (hx:ev E x=.int k m) (hy:ev E y=.int k n):Gives P E w ⟨dst,.binOp .lss t x y t2,ty,pos,aft,gd⟩ (.bool (decide (m<n))) w:=by
 simp only [Gives,execOp,hx,hy];simp [eqGuard,binOp,Op.intCmp]
theorem r_leq (hx:ev E x=.int k m) (hy:ev E y=.int k n):Gives P E w ⟨dst,.binOp .leq t x y t2,ty,pos,aft,gd⟩ (.bool (decide (m≤n))) w:=by
 simp only [Gives,execOp,hx,hy];simp [eqGuard,binOp,Op.intCmp]
theorem r_gtr (hx:ev E x=.int k m) (hy:ev E y=.int k n):Gives P E w ⟨dst,.binOp .gtr t x y t2,ty,pos,aft,gd⟩ (.bool (decide (n<m))) w:=by
 simp only [Gives,execOp,hx,hy];simp [eqGuard,binOp,Op.intCmp]
theorem r_geq (hx:ev E x=.int k m) (hy:ev E y=.int k n):Gives P E w ⟨dst,.binOp .geq t x y t2,ty,pos,aft,gd⟩ (.bool (decide (n≤m))) w:=by
 simp only [Gives,execOp,hx,hy];simp [eqGuard,binOp,Op.intCmp]
theorem beq_dec (m n:Int):(m == n)=decide (m=n):=by by_cases h:m=n<;>simp [h]
theorem bne_dec (m n:Int):(m != n)=decide (m≠n):=by by_cases h:m=n<;>simp [h]
theorem r_eql (hx:ev E x=.int k m) (hy:ev E y=.int k n):Gives P E w ⟨dst,.binOp .eql t x y t2,ty,pos,aft,gd⟩ (.bool (decide (m=n))) w:=by
 simp only [Gives,execOp,hx,hy];simp [eqGuard,binOp,Op.intCmp,beq_dec]
theorem r_neq (hx:ev E x=.int k m) (hy:ev E y=.int k n):Gives P E w ⟨dst,.binOp .neq t x y t2,ty,pos,aft,gd⟩ (.bool (decide (m≠n))) w:=by
 simp only [Gives,execOp,hx,hy];simp [eqGuard,binOp,Op.intCmp,bne_dec]
theorem r_shl (hx:ev E x=.int k m) (hy:ev E y=.int k2 n) (h0:0≤n):Gives P E w ⟨dst,.binOp .shl t x y t2,ty,pos,aft,gd⟩ (.int k (k.wrap (m*2 ^ (min n.toNat k.bits)))) w:=by
 simp only [Gives,execOp,hx,hy];simp [eqGuard,binOp,Op.shift,show ¬n<0 from by omega]
theorem r_shr (hx:ev E x=.int k m) (hy:ev E y=.int k2 n) (h0:0≤n):Gives P E w ⟨dst,.binOp .shr t x y t2,ty,pos,aft,gd⟩ (.int k (m / 2 ^ (min n.toNat k.bits))) w:=by
 simp only [Gives,execOp,hx,hy];simp [eqGuard,binOp,Op.shift,show ¬n<0 from by omega]
 rw [Int.fdiv_eq_ediv_of_nonneg _ (Int.le_of_lt (Int.pow_pos (by decide)))]
theorem r_conv (src dt:TypeId) {u:TypeDesc} (hx:ev E x=.int k2 m) (hs:P.underlying src=some u) (hd:P.underlying dt=some (.int k)):Gives P E w ⟨dst,.convert src dt x,ty,pos,aft,gd⟩ (.int k (k.wrap m)) w:=by
 simp only [Gives,execOp,hx,convert]
 simp [run_underlying hs,run_underlying hd,Conv.intToInt]
theorem ofInt_nat (w:Nat) (a:Nat):BitVec.ofInt w (a:Int)=BitVec.ofNat w a:=by simp
theorem bits_lt {k:IntKind} {w a:Nat} (hw:k.bits=w) (h:a<2 ^ w):(BitVec.ofInt k.bits (a:Int)).toNat=a:=by
 subst hw;simp [Nat.mod_eq_of_lt h]
theorem r_bits {op : BinOp} (h : op = .and ∨ op = .or ∨ op = .xor ∨ op = .andNot) (hx : ev E x = .int k m) (hy : ev E y = .int k n) :
    Gives P E w ⟨dst, .binOp op t x y t2, ty, pos, aft, gd⟩ (.int k (k.wrap (match op with
      | .and => (BitVec.ofInt k.bits m &&& BitVec.ofInt k.bits n).toNat
      | .or => (BitVec.ofInt k.bits m ||| BitVec.ofInt k.bits n).toNat
      | .xor => (BitVec.ofInt k.bits m ^^^ BitVec.ofInt k.bits n).toNat
      | _ => (BitVec.ofInt k.bits m &&& ~~~ (BitVec.ofInt k.bits n)).toNat))) w := by
  simp only [Gives, execOp, hx, hy]
  rcases h with rfl | rfl | rfl | rfl <;> simp [eqGuard, binOp, Op.intBits]
theorem wrap_nat {k:IntKind} {a:Nat} (h:a<2 ^ (if k.signed then k.bits-1 else k.bits)):k.wrap (a:Int)=a:=by
 cases k<;>simp [IntKind.bits,IntKind.signed] at h<;>simp [IntKind.wrap,IntKind.bits,IntKind.signed]<;>omega
/-- & | ^ of no negative numbers. -/
theorem r_andn {a b : Nat} (hx : ev E x = .int k a) (hy : ev E y = .int k b) (ha : a < 2 ^ (if k.signed then k.bits - 1 else k.bits)) (hb : b < 2 ^ (if k.signed then k.bits - 1 else k.bits)) :
    Gives P E w ⟨dst, .binOp .and t x y t2, ty, pos, aft, gd⟩ (.int k ((a &&& b : Nat) : Int)) w := by
  have hle : 2 ^ (if k.signed then k.bits - 1 else k.bits) ≤ 2 ^ k.bits := Nat.pow_le_pow_right (by decide) (by split <;> omega)
  have := r_bits (P := P) (w := w) (dst := dst) (ty := ty) (pos := pos) (aft := aft) (gd := gd) (t := t) (t2 := t2) (op := .and) (.inl rfl) hx hy
  simp only [BitVec.toNat_and, bits_lt rfl (Nat.lt_of_lt_of_le ha hle), bits_lt rfl (Nat.lt_of_lt_of_le hb hle)] at this
  rwa [wrap_nat (Nat.and_lt_two_pow _ hb)] at this
theorem r_orn {a b : Nat} (hx : ev E x = .int k a) (hy : ev E y = .int k b) (ha : a < 2 ^ (if k.signed then k.bits - 1 else k.bits)) (hb : b < 2 ^ (if k.signed then k.bits - 1 else k.bits)) :
    Gives P E w ⟨dst, .binOp .or t x y t2, ty, pos, aft, gd⟩ (.int k ((a ||| b : Nat) : Int)) w := by
  have hle : 2 ^ (if k.signed then k.bits - 1 else k.bits) ≤ 2 ^ k.bits := Nat.pow_le_pow_right (by decide) (by split <;> omega)
  have := r_bits (P := P) (w := w) (dst := dst) (ty := ty) (pos := pos) (aft := aft) (gd := gd) (t := t) (t2 := t2) (op := .or) (.inr (.inl rfl)) hx hy
  simp only [BitVec.toNat_or, bits_lt rfl (Nat.lt_of_lt_of_le ha hle), bits_lt rfl (Nat.lt_of_lt_of_le hb hle)] at this
  rwa [wrap_nat (Nat.or_lt_two_pow ha hb)] at this
theorem r_xorn {a b : Nat} (hx : ev E x = .int k a) (hy : ev E y = .int k b) (ha : a < 2 ^ (if k.signed then k.bits - 1 else k.bits)) (hb : b < 2 ^ (if k.signed then k.bits - 1 else k.bits)) :
    Gives P E w ⟨dst, .binOp .xor t x y t2, ty, pos, aft, gd⟩ (.int k ((a ^^^ b : Nat) : Int)) w := by
  have hle : 2 ^ (if k.signed then k.bits - 1 else k.bits) ≤ 2 ^ k.bits := Nat.pow_le_pow_right (by decide) (by split <;> omega)
  have := r_bits (P := P) (w := w) (dst := dst) (ty := ty) (pos := pos) (aft := aft) (gd := gd) (t := t) (t2 := t2) (op := .xor) (.inr (.inr (.inl rfl))) hx hy
  simp only [BitVec.toNat_xor, bits_lt rfl (Nat.lt_of_lt_of_le ha hle), bits_lt rfl (Nat.lt_of_lt_of_le hb hle)] at this
  rwa [wrap_nat (Nat.xor_lt_two_pow ha hb)] at this
end ints
section other
variable {t t2 : TypeId} {x y : Operand}
theorem r_neqb {a b:Bool} (hx:ev E x=.bool a) (hy:ev E y=.bool b) (ht:P.underlying t=some .bool):Gives P E w ⟨dst,.binOp .neq t x y t2,ty,pos,aft,gd⟩ (.bool (a != b)) w:=by
 simp only [Gives,execOp,hx,hy,eqGuard];rw [show (a != b)=!(a == b) from rfl];simp [run_neq_bool w t a b ht]
def str (l:List UInt8):ByteArray:=⟨l.toArray⟩
theorem str_inj {a b:List UInt8}:str a=str b↔a=b:=by
 constructor
 ·intro h;have:=congrArg (fun s:ByteArray=>s.data.toList) h;simpa [str] using this
 ·intro h;rw [h]
theorem str_list (a:List UInt8):(str a).toList=a:=by simp [str]
theorem r_eqls {a b:List UInt8} (hx:ev E x=.string (str a)) (hy:ev E y=.string (str b)):Gives P E w ⟨dst,.binOp .eql t x y t2,ty,pos,aft,gd⟩ (.bool (decide (a=b))) w:=by
 simp only [Gives,execOp,hx,hy,eqGuard];simp [binOp,Op.stringOp,str_list]
 by_cases h:a=b<;>simp [h]
theorem r_neqs {a b:List UInt8} (hx:ev E x=.string (str a)) (hy:ev E y=.string (str b)):Gives P E w ⟨dst,.binOp .neq t x y t2,ty,pos,aft,gd⟩ (.bool (decide (a≠b))) w:=by
 simp only [Gives,execOp,hx,hy,eqGuard];simp [binOp,Op.stringOp,str_list]
 by_cases h:a=b<;>simp [h]
end other
/-- The slice value v reads as1 xs in w. -/
def Row (w:World) (v:Value) (xs:List Value):Prop:=
 ∃A c,v=.slice A xs.length c∧xs.length≤c∧c≤9223372036854775807∧(A=none→c=0) ∧
  (0<xs.length→∃b o,A=some ⟨b,o,none⟩∧∀j,j<xs.length→w.cell? ⟨b,o+j,none⟩=xs[j]?)
/-- Where its element j lies. -/
def at_ (v:Value) (j:Nat):Addr:=match v with | .slice (some a) _ _=>⟨a.block,a.off+j,none⟩ | _=>default
def byt (u:UInt8):Value:=.int .u8 (u.toNat:Int)
abbrev Bs (w:World) (v:Value) (l:List UInt8):Prop:=Row w v (l.map byt)
theorem Row.nil (w:World):Row w (.slice none 0 0) []:=⟨none,0,rfl,Nat.le_refl _,by decide,fun _=>rfl,fun h=>absurd h (by simp)⟩
theorem Row.below {w w':World} {v:Value} {xs:List Value} (h:Row w v xs) (hb:Below w.heap.size w w'):Row w' v xs:=by
 obtain ⟨A,c,hv,h1,h2,h3,h4⟩:=h
 refine ⟨A,c,hv,h1,h2,h3,fun hp=>?_⟩
 obtain ⟨b,o,ha,hc⟩:=h4 hp
 refine ⟨b,o,ha,fun j hj=>?_⟩
 have:=hc j hj
 rw [List.getElem?_eq_getElem hj] at this ⊢
 rw [hb.cell (World.block_lt_of_cell? w _ this)]
 exact this
theorem Row.keep {w w':World} {v:Value} {xs:List Value} (h:Row w v xs) (hk:∀b,v.ownBlock=some b→w'.heap[b]?=w.heap[b]?):Row w' v xs:=by
 obtain ⟨A,c,hv,h1,h2,h3,h4⟩:=h
 refine ⟨A,c,hv,h1,h2,h3,fun hp=>?_⟩
 obtain ⟨b,o,ha,hc⟩:=h4 hp
 refine ⟨b,o,ha,fun j hj=>?_⟩
 rw [←hc j hj]
 exact World.cell?_of_block (hk b (by subst hv ha;rfl))
theorem Row.keepCells {w w':World} {v:Value} {xs:List Value} (h:Row w v xs) (hk:∀a,w'.cell? a=w.cell? a):Row w' v xs:=by
 obtain ⟨A,c,hv,h1,h2,h3,h4⟩:=h
 refine ⟨A,c,hv,h1,h2,h3,fun hp=>?_⟩
 obtain ⟨b,o,ha,hc⟩:=h4 hp
 exact ⟨b,o,ha,fun j hj=>by rw [hk];exact hc j hj⟩
theorem own_row {w:World} {base:Nat} {e:TypeId} {v:Value} {xs:List Value} {n:Nat} (h:w.ownsRow base e 1 v n xs):Row w v xs:=by
 have hl:=h.1
 simp only [Nat.mul_one] at hl
 rcases h.2 with ⟨hv,h0⟩ | ⟨g,cap,cur,hv,hb,hg,hn,hm,hc,ht⟩
 ·subst h0
  have:xs=[]:=List.eq_nil_of_length_eq_zero (by omega)
  subst this
  subst hv
  exact Row.nil w
 ·simp only [maxLen] at hm
  refine ⟨_,cap,(by rw [hv,hl]),by omega,hm,(fun h=>by cases h),fun hp=>⟨g,0,rfl,fun j hj=>?_⟩⟩
  subst hv
  rw [Nat.zero_add]
  exact h.cellAt j (by omega)
theorem below_full {B:Nat} {w0 w w':World} (h:Below B w0 w) (hB:B≤w.heap.size) (hb:Below w.heap.size w w'):Below B w0 w':=h.trans (hb.mono hB)
theorem below_alloc {w:World} (o:Obj):Below w.heap.size w (w.alloc o):=(Below.refl _ _).alloc (Nat.le_refl _) o
theorem Row.len_le {w:World} {v:Value} {xs:List Value} (h:Row w v xs):xs.length≤9223372036854775807:=by
 obtain ⟨A,c,hv,h1,h2,_⟩:=h;omega
section rows
variable {t t2 e : TypeId} {x y : Operand} {v : Value} {xs : List Value}
theorem run_enterBuiltin (b : Builtin) (args : Array Operand) (ats : Array TypeId) (r : Value) (w' : World) (s : Sem Value)
    (hs : ∀ c, builtin b ats ty c (args.map (ev E)) = (do pure (.value (← s)))) (hr : s.run P w = .ok r w') :
    Gives P E w ⟨dst, .call { callee := .builtin b, args, argTypes := ats }, ty, pos, aft, gd⟩ r w' := by
  simp only [Gives, execOp, resolve, pure_bind, invoke, hs]
  simp [hr]
theorem r_len (hx : ev E x = v) (h : Row w v xs) (ht : P.underlying t = some (.slice e)) :
    Gives P E w ⟨dst, .call { callee := .builtin .len, args := #[x], argTypes := #[t] }, ty, pos, aft, gd⟩ (.int .i64 (xs.length : Int)) w := by
  obtain ⟨A, c, rfl, h1, h2, _⟩ := h
  refine run_enterBuiltin .len #[x] #[t] _ _ (Builtin.len_ #[t] ty #[.slice A xs.length c]) (fun c => by simp [builtin, hx]) ?_
  simp [Builtin.len_, run_underlying ht, goInt]
theorem r_min {k k2 : IntKind} {m n : Int} {ats : Array TypeId} (hx : ev E x = .int k m) (hy : ev E y = .int k2 n) :
    Gives P E w ⟨dst, .call { callee := .builtin .min, args := #[x, y], argTypes := ats }, ty, pos, aft, gd⟩ (.int k (if n < m then n else m)) w := by
  refine run_enterBuiltin .min #[x, y] ats _ _ (Builtin.min_ ats ty #[.int k m, .int k2 n]) (fun c => by simp [builtin, hx, hy]) ?_
  simp [Builtin.min_, Builtin.min2]
theorem r_max {k k2 : IntKind} {m n : Int} {ats : Array TypeId} (hx : ev E x = .int k m) (hy : ev E y = .int k2 n) :
    Gives P E w ⟨dst, .call { callee := .builtin .max, args := #[x, y], argTypes := ats }, ty, pos, aft, gd⟩ (.int k (if m < n then n else m)) w := by
  refine run_enterBuiltin .max #[x, y] ats _ _ (Builtin.max_ ats ty #[.int k m, .int k2 n]) (fun c => by simp [builtin, hx, hy]) ?_
  simp [Builtin.max_, Builtin.max2]
/-- x[i], its address. -/
theorem r_index {k : IntKind} {i : Int} (hx : ev E x = v) (h : Row w v xs) (hy : ev E y = .int k i) (h0 : 0 ≤ i) (h1 : i < xs.length) (ht : P.underlying t = some (.slice e)) (hs : (P.info? e).map (·.size) = some 1) :
    Gives P E w ⟨dst, .indexAddr t x y, ty, pos, aft, gd⟩ (.pointer (some (at_ v i.toNat))) w := by
  obtain ⟨A, c, rfl, _, _, _, h4⟩ := h
  obtain ⟨b, o, rfl, hc⟩ := h4 (by omega)
  obtain ⟨inf, hi, hsz⟩ := Option.map_eq_some_iff.1 hs
  simp only [Gives, execOp, hx, hy]
  simp [Instr.indexAt, asIntOf, run_underlying ht, h0, h1, sizeOf, typeInfo, hi, hsz, at_, Addr.add]
def oneB:TypeDesc→Bool | .struct _ | .array _ _=>false | _=>true
theorem run_load_one {a:Addr} {u:Value} {d:TypeDesc} (ht:P.underlying t=some d) (hd:oneB d=true) (h:w.cell? a=some u):(loadVar t a).run P w=.ok u w:=by
 have hagg:(isAgg t).run P w=.ok false w:=by
  unfold isAgg
  rw [Sem.run_bind,run_underlying ht w]
  cases d<;>simp_all [oneB]
 simp [loadVar,Sem.run_bind,hagg,run_load,h]
theorem r_load {a : Addr} {u : Value} (hx : ev E x = .pointer (some a)) (h : w.cell? a = some u) {d : TypeDesc} (ht : P.underlying t = some d) (hd : oneB d = true) :
    Gives P E w ⟨dst, .load t x, ty, pos, aft, gd⟩ u w := by
  simp only [Gives, execOp, hx]
  simp [Instr.loadAt, Instr.sureAddr, run_load_one ht hd h]
theorem Row.cell {j:Nat} {u:Value} (h:Row w v xs) (hu:xs[j]?=some u):w.cell? (at_ v j)=some u:=by
 obtain ⟨A,c,rfl,_,_,_,h4⟩:=h
 have hj:j<xs.length:=(List.getElem?_eq_some_iff.1 hu).1
 obtain ⟨b,o,rfl,hc⟩:=h4 (by omega)
 exact (hc j hj).trans hu
/-- x[i:j],as1 a value. -/
def cutV (v:Value) (i j:Nat):Value:=match v with | .slice A _ c=>.slice (if c=i then A else A.map (·.add i)) (j-i) (c-i) | _=>undef
theorem Row.cut (h : Row w v xs) (i j : Nat) (hij : i ≤ j) (hj : j ≤ xs.length) : Row w (cutV v i j) ((xs.take j).drop i) := by
  obtain ⟨A, c, rfl, h1, h2, h3, h4⟩ := h
  have hlen : ((xs.take j).drop i).length = j - i := by simp; omega
  refine ⟨if c = i then A else A.map (·.add i), c - i, by rw [hlen]; rfl, by omega, by omega, ?_, ?_⟩
  · intro hn
    cases A with
    | none => have := h3 rfl; omega
    | some a => split at hn <;> simp at hn
  · intro hp
    rw [hlen] at hp
    obtain ⟨b, o, rfl, hc⟩ := h4 (by omega)
    refine ⟨b, o + i, ?_, fun j' hj' => ?_⟩
    · rw [if_neg (by omega)]
      simp [Addr.add]
    · rw [hlen] at hj'
      rw [Nat.add_assoc, hc (i + j') (by omega), List.getElem?_drop, List.getElem?_take, if_pos (by omega)]
theorem r_slice (hx : ev E x = v) (h : Row w v xs) (ht : P.underlying t = some (.slice e)) (hs : (P.info? e).map (·.size) = some 1) (i j : Nat) (hij : i ≤ j) (hj : j ≤ xs.length) {lo hi : Option Operand}
    (hlo : (lo = none ∧ i = 0) ∨ ∃ o k, lo = some o ∧ ev E o = .int k (i : Int)) (hhi : (hi = none ∧ j = xs.length) ∨ ∃ o k, hi = some o ∧ ev E o = .int k (j : Int)) :
    Gives P E w ⟨dst, .slice t x lo hi none, ty, pos, aft, gd⟩ (cutV v i j) w := by
  obtain ⟨A, c, rfl, h1, h2, h3, h4⟩ := h
  obtain ⟨inf, hinf, hsz⟩ := Option.map_eq_some_iff.1 hs
  have hjc : j ≤ c := by omega
  simp only [Gives, execOp, hx]
  rcases hlo with ⟨rfl, rfl⟩ | ⟨o1, k1, rfl, hl⟩ <;> rcases hhi with ⟨rfl, rfl⟩ | ⟨o2, k2, rfl, hh⟩
  · simp [Instr.sliceAt, run_underlying ht, Instr.slice, Instr.sliceBounds, sizeOf, typeInfo, hinf, hsz, cutV]
  · simp [Instr.sliceAt, run_underlying ht, Instr.slice, Instr.sliceBounds, Instr.sliceBound, asIntOf, sizeOf, typeInfo, hinf, hsz, hjc, hh, cutV]
  · simp [Instr.sliceAt, run_underlying ht, Instr.slice, Instr.sliceBounds, Instr.sliceBound, asIntOf, sizeOf, typeInfo, hinf, hsz, hij, hl, cutV]
  · simp [Instr.sliceAt, run_underlying ht, Instr.slice, Instr.sliceBounds, Instr.sliceBound, asIntOf, sizeOf, typeInfo, hinf, hsz, hij, hjc, hl, hh, cutV]
/-- string(x) -/
theorem byt_ints (l:List UInt8):(l.map fun u=>(u.toNat:Int)).map (fun n=>UInt8.ofNat n.toNat)=l:=by
 induction l with
 | nil=>rfl
 | cons a l ih=>simp [ih]
theorem r_str {l : List UInt8} (hx : ev E x = v) (h : Bs w v l) (ht : P.underlying t = some (.slice e)) (he : P.underlying e = some (.int .u8)) (ht2 : P.underlying t2 = some .string) :
    Gives P E w ⟨dst, .convert t t2 x, ty, pos, aft, gd⟩ (.string (str l)) w := by
  have hstr : strOfNums (l.map fun u => (u.toNat : Int)) = str l := by
    unfold strOfNums str; rw [byt_ints]
  obtain ⟨A, c, rfl, h1, h2, h3, h4⟩ := h
  simp only [List.length_map] at *
  have hrun : (convert t t2 (.slice A l.length c)).run P w = .ok (.string (str l)) w := by
    by_cases h0 : 0 < l.length
    · obtain ⟨b, o, rfl, hc⟩ := h4 h0
      rw [← hstr]
      refine run_convert_bytes_arg w t e ht he b o l.length c _ (by simp) (fun i hi => ?_) t2 ht2
      rw [hc i hi]
      simp [byt, List.getElem?_eq_getElem hi, List.getD]
    · have : l = [] := List.eq_nil_of_length_eq_zero (by omega)
      subst this
      cases A with
      | none => exact run_convert_bytes_nil (P := P) w t e ht he 0 c t2 ht2
      | some a =>
        simp [convert, run_underlying ht, run_underlying ht2, run_underlying he, Conv.bytesToString, loadCells, loadCellsFrom]
        rfl
  simp only [Gives, execOp, hx]
  simp [hrun]
/-- The element type's row of the table: its zero value,its bytes;of one cell. -/
def Elem (P:Program) (t e:TypeId) (z:Value) (bytes:Nat):Prop:=P.underlying t=some (.slice e)∧(P.info? e).map (fun i=>(i.zero,i.size,i.bytes))=some (some z,1,bytes)∧z.cells.size=1
/-- The world w' is w,but for new blocks and the row v. -/
abbrev Grew (w w':World) (v:Value):Prop:=w.grownBy w' v.ownBlock
/-- make([]T, n) -/
theorem run_make_E {z : Value} {bytes : Nat} (h : Elem P t e z bytes) {k1 k2 : IntKind} {n m : Int} (h0 : 0 ≤ n) (hnm : n ≤ m) (hb : bytes * m ≤ 281474976710656) (hm : m ≤ 9223372036854775807) (hx : ev E x = .int k1 n) (hy : ev E y = .int k2 m) :
    Gives P E w ⟨dst, .makeSlice t x y, ty, pos, aft, gd⟩ (.slice (some ⟨w.heap.size, 0, none⟩) n.toNat m.toNat) (w.alloc (.cells (madeCells z.cells m.toNat) e)) := by
  obtain ⟨i, hi, hz0, hz1, hz2⟩ := info_parts h.2.1
  have hr := run_make (P := P) w t e i z h.1 hi hz0 k1 k2 n m h0 hnm (by rw [hz2]; exact hb) hm
  rw [hz1, Nat.mul_one] at hr
  simp only [Gives, execOp, hx, hy]
  simp [hr]
theorem own_make (base : Nat) (z : Value) (n m : Nat) (hz : z.cells = #[z]) (hnm : n ≤ m) (hb : base ≤ w.heap.size) (hm : m ≤ 9223372036854775807) :
    (w.alloc (.cells (madeCells z.cells m) e)).ownsRow base e 1 (.slice (some ⟨w.heap.size, 0, none⟩) n m) n (List.replicate n z) := by
  refine ⟨by simp, .inr ⟨w.heap.size, m, madeCells z.cells m, rfl, hb, heap_alloc_new w _, hnm, by simpa [maxLen] using hm, by simp [size_madeCells], ?_⟩⟩
  rw [hz, toList_madeCells_one, Nat.mul_one, List.take_replicate, Nat.min_eq_left hnm]
/-- append(v, v2...) -/
theorem run_append_E {z : Value} {bytes : Nat} (h : Elem P t e z bytes) (base : Nat) {v2 : Value} {ys : List Value} (hx : ev E x = v) (hy : ev E y = v2) (hown : w.ownsRow base e 1 v xs.length xs) (hrow : Row w v2 ys)
    (h1 : ∀ u ∈ ys, u.oneCell' = true) (hb : (xs.length + ys.length) * bytes ≤ 140737488355328) (hb0 : 0 < bytes) (hbase : base ≤ w.heap.size) :
    ∃ v' w', Gives P E w ⟨dst, .call { callee := .builtin .append, args := #[x, y], argTypes := #[t, t] }, ty, pos, aft, gd⟩ v' w' ∧ w'.ownsRow base e 1 v' (xs ++ ys).length (xs ++ ys) ∧ Grew w w' v ∧ (v'.ownBlock = v.ownBlock ∨ v'.ownBlock = some w.heap.size) := by
  obtain ⟨i, hi, hz0, hz1, hz2⟩ := info_parts h.2.1
  obtain ⟨A, c, rfl, r1, r2, r3, r4⟩ := hrow
  have hle : xs.length + ys.length ≤ 140737488355328 := Nat.le_trans (Nat.le_mul_of_pos_right _ hb0) hb
  rw [List.length_append]
  cases A with
  | none =>
    have hc0 := r3 rfl
    have hy0 : ys = [] := List.eq_nil_of_length_eq_zero (by omega)
    subst hy0 hc0
    refine ⟨v, w, run_enterBuiltin .append #[x, y] #[t, t] _ _ (Builtin.append_ #[t, t] ty #[v, .slice none 0 0]) (fun c => by simp [builtin, hx, hy]) (run_append_owned_none w base t ty e i 1 h.1 hi v xs.length xs hown), by simpa using hown, World.grownBy.refl _ _, .inl rfl⟩
  | some a =>
    have hnews : ∀ j u, ys[j]? = some u → w.cell? (a.add j) = some u := fun j u hu => by
      have hj : j < ys.length := (List.getElem?_eq_some_iff.1 hu).1
      obtain ⟨b, o, hab, hc⟩ := r4 (by omega)
      obtain rfl := Option.some.inj hab
      rw [show (⟨b, o, none⟩ : Addr).add j = ⟨b, o + j, none⟩ by unfold Addr.add; split <;> simp_all, hc j hj]
      exact hu
    obtain ⟨v', w', hr, h2, h3, _, h5⟩ := run_append_own_at (P := P) w base t ty e i z 1 bytes h.1 hi hz0 hz1 hz2 h.2.2 (by decide) v xs.length xs hown a ys.length c ys (by simp) hnews h1 (by simp only [maxLen]; omega) hb hbase
    exact ⟨v', w', run_enterBuiltin .append #[x, y] #[t, t] _ _ (Builtin.append_ #[t, t] ty #[v, .slice (some a) ys.length c]) (fun c => by simp [builtin, hx, hy]) hr, h2, h3, h5⟩
/-- []T{..}: the parts in their order. -/
theorem run_lit_E {z : Value} {bytes : Nat} (h : Elem P t e z bytes) {n : Nat} {ps : Array (Nat × Operand)} (cs : Array Value) (hn : n ≤ 16777216)
    (hcs : Instr.fill (fun i => some (i * 1, 1)) ((Array.range (n * 1)).map (z.cells[· % z.cells.size]!)) (ps.map (fun (i, x) => (i, ev E x))).toList = some cs) :
    Gives P E w ⟨dst, .buildSlice t n ps, ty, pos, aft, gd⟩ (.slice (some ⟨w.heap.size, 0, none⟩) n n) (w.alloc (.cells cs e)) := by
  obtain ⟨i, hi, hz0, hz1, hz2⟩ := info_parts h.2.1
  simp only [Gives, execOp]
  by_cases h0 : n = 0
  · subst h0
    have e0 : (Array.range 0).map (fun x => z.cells[x % z.cells.size]!) = #[] := by simp [Array.range_zero']
    have e1 : (Array.range 0).map (fun _ => (default : Value)) = #[] := by simp [Array.range_zero']
    simp [e0] at hcs
    simp [Instr.buildSlice, run_underlying h.1, sizeOf, typeInfo, hi, hz1, zeroValue, hz0, newRow, e1, hcs]
  · have hle : ¬ 2 ^ 24 < n := by omega
    simp at hcs
    simp [Instr.buildSlice, run_underlying h.1, sizeOf, typeInfo, hi, hz1, zeroValue, hz0, newRow, hle, h0, hcs]
theorem own_lit (base:Nat) (cs:Array Value) (n:Nat) (hn:cs.size=n) (hb:base≤w.heap.size) (hm:n≤9223372036854775807):(w.alloc (.cells cs e)).ownsRow base e 1 (.slice (some ⟨w.heap.size,0,none⟩) n n) n cs.toList:=
 World.ownsRow_lit w cs n hb (by simpa [maxLen] using hm) (by omega)
/-- A store at place j of an own row. -/
theorem run_store_E {g n c j : Nat} {base : Nat} {u : Value} (hx : ev E x = .pointer (some ⟨g, j, none⟩)) (hy : ev E y = u) (h : w.ownsRow base e 1 (.slice (some ⟨g, 0, none⟩) n c) n xs) (hj : j < n) (hu : u.oneCell' = true)
    (hs : (P.info? t).map (·.size) = some 1) : Does P E w ⟨none, .store t x y, ty, pos, aft, gd⟩ (w.setCell ⟨g, j, none⟩ u) := by
  have hl := h.1
  have hc : w.cell? ⟨g, j, none⟩ = some xs[j] := by rw [h.cellAt j (by omega), List.getElem?_eq_getElem (by omega)]
  have hf := h.frozenAt j
  obtain ⟨inf, hinf, hsz⟩ := Option.map_eq_some_iff.1 hs
  simp only [Does, execOp, hx, hy]
  have hcs : u.cells = #[u] := by cases u <;> first | rfl | simp [Value.oneCell'] at hu
  have hst : (store (⟨g, j, none⟩ : Addr) u).run P w = .ok () (w.setCell ⟨g, j, none⟩ u) := by
    rw [run_store P w _ u _ hu, hc]; simp [hf]
  simp [Instr.storeAt, Instr.sureAddr, storeVar, hcs, sizeOf, typeInfo, hinf, hsz, storeCells, Addr.add, hst]
/-- copy(x, y), x a cut of an own row. -/
theorem run_copy_E {g o : Nat} {cur : List Value} {v2 : Value} {ys : List Value} {n c : Nat} (hx : ev E x = .slice (some ⟨g, o, none⟩) n c) (hy : ev E y = v2) (hrow : Row w v2 ys) {t3 : TypeId}
    (ht : P.underlying t = some (.slice e)) (hs : (P.info? e).map (·.size) = some 1) (hg : w.heap[g]? = some (.cells cur.toArray e (0, 0))) (hfit : o + ys.length ≤ cur.length) (hn : ys.length ≤ n) (h1 : ∀ u ∈ ys, u.oneCell' = true) :
    ∃ w', Gives P E w ⟨dst, .call { callee := .builtin .copy, args := #[x, y], argTypes := #[t, t3] }, ty, pos, aft, gd⟩ (.int .i64 ys.length) w' ∧
      w'.heap[g]? = some (.cells (cur.take o ++ ys ++ cur.drop (o + ys.length)).toArray e (0, 0)) ∧ (∀ k, k ≠ g → w'.heap[k]? = w.heap[k]?) ∧ w'.heap.size = w.heap.size ∧ w'.os = w.os ∧ w'.tape = w.tape ∧ w'.output = w.output := by
  obtain ⟨A, c2, rfl, r1, r2, r3, r4⟩ := hrow
  by_cases h0 : ys.length = 0
  · obtain rfl : ys = [] := List.eq_nil_of_length_eq_zero h0
    refine ⟨w, run_enterBuiltin .copy #[x, y] #[t, t3] _ _ (Builtin.copy_ #[t, t3] ty #[.slice (some ⟨g, o, none⟩) n c, .slice A 0 c2]) (fun c => by simp [builtin, hx, hy]) ?_, ?_, fun _ _ => rfl, rfl, rfl, rfl, rfl⟩
    · exact run_copy_none (P := P) w t t3 ty e (some ⟨g, o, none⟩) A n c 0 c2 ht hs (by simp)
    · simpa using hg
  · obtain ⟨b, o2, rfl, hc⟩ := r4 (by omega)
    refine ⟨_, run_enterBuiltin .copy #[x, y] #[t, t3] _ _ (Builtin.copy_ #[t, t3] ty #[.slice (some ⟨g, o, none⟩) n c, .slice (some ⟨b, o2, none⟩) ys.length c2]) (fun c => by simp [builtin, hx, hy]) (run_copy_row (P := P) w t t3 ty e g o n c ⟨b, o2, none⟩ ys.length c2 cur.toArray e ys ht hs hg ?_ ?_ ?_ h1), ?_, fun k hk => setRow_other w g k _ hk, by simp [World.setRow], rfl, rfl, rfl⟩
    · simp [Nat.min_def]; omega
    · intro j v hj
      have hjl : j < ys.length := (List.getElem?_eq_some_iff.1 hj).1
      rw [show (⟨b, o2, none⟩ : Addr).add j = ⟨b, o2 + j, none⟩ by unfold Addr.add; split <;> simp_all, hc j hjl]
      exact hj
    · simpa using hfit
    · simpa using setRow_heap w g cur.toArray _ e (0, 0) hg
end rows
end
/-- The call returns a value of which R holds. -/
def Ret (P:Program) (f:FuncId) (args:List Value) (w:World) (R:Value→World→Prop):Prop:=Calls P f args.toArray w fun e w'=>∃v,e=.returned v∧R v w'
theorem Ret.mono {P:Program} {f:FuncId} {args:List Value} {w:World} {R R':Value→World→Prop} (h:Ret P f args w R) (hr:∀v w',R v w'→R' v w'):Ret P f args w R':=
 Calls.mono h fun e w' ⟨v,he,hv⟩=>⟨v,he,hr v w' hv⟩
def ini (l:List Value):Env:=fun t=>l.getD t undef
theorem ini_of (l:List Value) (k t:Nat):(l.toArray++Array.replicate k undef).getD t undef=ini l t:=by
 simp only [ini,Array.getD_eq_getD_getElem?,List.getD_eq_getElem?_getD]
 rw [Array.getElem?_append]
 split
 ·simp
 ·rename_i h
  have h':l.length≤t:=by simpa using h
  rw [List.getElem?_eq_none h']
  simp only [Array.getElem?_replicate]
  split<;>simp
section
variable {P : Program} {N : Nat} {w : World}
theorem ret_E {f : FuncId} {fn : Func} {c : Code} {args : List Value} {R : Value → World → Prop} (hf : P.funcs[f]? = some fn) (hb : fn.body = some c) (hn : fn.ntmps = N) (ha : args.length ≤ N)
    (h : EC P N c (fin P fn (fun e w' => ∃ v, e = .returned v ∧ R v w')) (ini args) w) : Ret P f args w R := by
  refine calls_E hf hb (ini args) (fun t => ini_of args _ t) ?_ h
  simp [hn]; omega
variable {fn : Func} {R : Ending → World → Prop} {E : Env}
theorem fin0n (hr:fn.results=#[]) (h:R (.returned (.tuple #[])) w):fin P fn R .normal E w:=fun tmps ht =>
 ⟨_,results_none hr tmps P w,h⟩
theorem fin1 {t:Nat} {v:Value} (hr:fn.results=#[.tmp t]) (hv:E t=v) (h:R (.returned v) w):fin P fn R .ret E w:=fun tmps ht =>
 ⟨_,results_tmp hr tmps P w,by rw [ht,hv];exact h⟩
theorem fin2 {t t':Nat} {v v':Value} (hr:fn.results=#[.tmp t,.tmp t']) (hv:E t=v) (hv':E t'=v') (h:R (.returned (.tuple #[v,v'])) w):fin P fn R .ret E w:=fun tmps ht =>
 ⟨_,results_tmp2 hr tmps P w,by rw [ht,ht,hv,hv'];exact h⟩
variable {Q : Exit → Env → World → Prop} {ops : Array Oper} {L : List Oper} {d : Nat} {op : Op} {ty : TypeId} {pos : String} {aft : Array Edge}
theorem run_callE {f : FuncId} {fn : Func} {args : Array Operand} {ats : Array TypeId} {dst : Option Tmp} {gd : Option (Nat × Bool)} (hf : P.funcs[f]? = some fn) (hb : fn.body.isNone = false) (hnm : (fn.name == "runtime.NumGoroutine") = false) :
    (execOp (ev E) ⟨dst, .call { callee := .value (.func f), args, argTypes := ats }, ty, pos, aft, gd⟩).run P w = .ok (.enter f (args.map (ev E))) w := by
  have h1 : fn.name ≠ "runtime.NumGoroutine" := by simpa using hnm
  have h2 : fn.body ≠ none := by intro h; rw [h] at hb; cases hb
  simp [execOp, resolve, ev, Deferred.ofValue, invoke, callFunc, hf, h1, h2]
/-- A call. -/
theorem EL_ret {f : FuncId} {fn : Func} {args : Array Operand} {ats : Array TypeId} {R : Value → World → Prop} (l : List Value) (hd : Nat.blt d N = true) (hf : P.funcs[f]? = some fn) (hb : fn.body.isNone = false) (hnm : (fn.name == "runtime.NumGoroutine") = false)
    (ha : args.toList.map (ev E) = l) (hc : Ret P f l w R) (h : ∀ v w', R v w' → EL P N ops Q L (upd E d v) w') :
    EL P N ops Q (⟨some d, .call { callee := .value (.func f), args, argTypes := ats }, ty, pos, aft, none⟩ :: L) E w := by
  subst ha
  refine EL_call (f := f) (args := args.map (ev E)) (R := fun e w' => ∃ v, e = .returned v ∧ R v w') hd (run_callE hf hb hnm) ?_ (fun e w' ⟨v, he, _⟩ => ⟨v, he⟩) (fun v w' ⟨v', he, hr⟩ => ?_)
  · have : args.map (ev E) = (args.toList.map (ev E)).toArray := by rw [← Array.toList_map, Array.toArray_toList]
    rw [this]; exact hc
  · injection he with he; subst he; exact h _ _ hr
end
end Go.Ecal
namespace Go.Ecal
open Go.RowKit
section
variable {P : Program} {N : Nat} {Q : Exit → Env → World → Prop} {E : Env} {w : World} {ops : Array Oper} {L : List Oper}
variable {d : Nat} {op : Op} {ty : TypeId} {pos : String} {aft : Array Edge} {j : Nat} {t b : Bool}
def EQ (P:Program) (N:Nat) (ops:Array Oper) (C:World→Prop) (K:Env→Prop) (L:List Oper) (E:Env):Prop:=∀a,Sim N a E→wpQuiet P ops C (fun a'=>∃E',Sim N a' E'∧K E') L a
variable {C : World → Prop} {K : Env → Prop}
theorem EC_quiet {id : Nat} {l : List Oper} (C : World → Prop) (hm : P.follows .mixedOrders = true) (hB : Region.lexB .any l.toArray = true) (hC : C w.drew)
    (h : EQ P N l.toArray C (fun E' => ∀ w', C w' → Q .normal E' w') l E) : EC P N (.region id l.toArray true) Q E w := fun a hs => by
  refine wp_region_quiet (C := C) hm hB hC ?_
  have := h a hs
  have mono : ∀ (l : List Oper) (a : Act), wpQuiet P (List.toArray l) C (fun a' => ∃ E', Sim N a' E' ∧ ∀ w', C w' → Q .normal E' w') l a → True := fun _ _ _ => trivial
  have go : ∀ (ops : Array Oper) (l : List Oper) (a : Act), wpQuiet P ops C (fun a' => ∃ E', Sim N a' E' ∧ ∀ w', C w' → Q .normal E' w') l a → wpQuiet P ops C (fun a' => ∀ w', C w' → lft N Q .normal a' w') l a := by
    intro ops l
    induction l with
    | nil => intro a ⟨E', hs, hk⟩ w' hw'; exact ⟨E', hs, hk w' hw'⟩
    | cons o l ih =>
      intro a hh
      simp only [wpQuiet] at hh ⊢
      split
      · rename_i hw; rw [if_pos hw] at hh; obtain ⟨v, h1, h2⟩ := hh; exact ⟨v, h1, ih _ h2⟩
      · rename_i hw; rw [if_neg hw] at hh; exact ih _ hh
  simpa using go _ _ _ this
theorem EQ_nil (h:K E):EQ P N ops C K [] E:=fun a hs=>⟨E,hs,h⟩
theorem EQ_val (v:Value) (hd:Nat.blt d N=true) (hrun:∀w,C w→Gives P E w ⟨some d,op,ty,pos,aft,none⟩ v w) (h:EQ P N ops C K L (upd E d v)):EQ P N ops C K (⟨some d,op,ty,pos,aft,none⟩::L) E:=fun a hs=>by
 simp only [wpQuiet,Region.wanted,if_true]
 exact ⟨v,fun w hw=>by unfold Oper.quietAt;rw [hs.eval,hrun w hw];exact ⟨rfl,rfl⟩,h _ (hs.put hd v)⟩
theorem EQ_call (v : Value) {f : FuncId} {fn : Func} {args : Array Operand} {ats : Array TypeId} (l : List Value) (hd : Nat.blt d N = true) (hf : P.funcs[f]? = some fn) (hb : fn.body.isNone = false) (hnm : (fn.name == "runtime.NumGoroutine") = false)
    (ha : args.toList.map (ev E) = l) (hc : ∀ w, C w → Ret P f l w (fun v' w' => v' = v ∧ C w')) (h : EQ P N ops C K L (upd E d v)) :
    EQ P N ops C K (⟨some d, .call { callee := .value (.func f), args, argTypes := ats }, ty, pos, aft, none⟩ :: L) E := fun a hs => by
  subst ha
  simp only [wpQuiet, Region.wanted, if_true]
  refine ⟨v, fun w hw => ?_, h _ (hs.put hd v)⟩
  unfold Oper.quietAt
  rw [hs.eval, run_callE hf hb hnm]
  refine ⟨rfl, ?_⟩
  have e : args.map (ev E) = (args.toList.map (ev E)).toArray := by rw [← Array.toList_map, Array.toArray_toList]
  rw [e]
  exact Calls.mono (hc w hw) fun e w' ⟨v', he, hv, hC⟩ => ⟨by rw [he, hv], hC⟩
theorem EQ_pass (e : Nat) (hdst : (ops[j]?).bind (·.dst) = some e) (he : E e = .bool b) (heN : Nat.blt e N = true) (hb : (b == t) = false) (hd : Nat.blt d N = true)
    (h : EQ P N ops C K L (upd E d undef)) : EQ P N ops C K (⟨some d, op, ty, pos, aft, some (j, t)⟩ :: L) E := fun a hs => by
  simp only [wpQuiet]
  rw [wanted_of (o := ⟨some d, op, ty, pos, aft, some (j, t)⟩) hs rfl hdst he heN, hb]
  exact h _ (hs.put hd undef)
theorem EQ_gval (e : Nat) (hdst : (ops[j]?).bind (·.dst) = some e) (he : E e = .bool b) (heN : Nat.blt e N = true) (hb : (b == t) = true) (v : Value) (hd : Nat.blt d N = true)
    (hrun : ∀ w, C w → Gives P E w ⟨some d, op, ty, pos, aft, some (j, t)⟩ v w) (h : EQ P N ops C K L (upd E d v)) : EQ P N ops C K (⟨some d, op, ty, pos, aft, some (j, t)⟩ :: L) E := fun a hs => by
  simp only [wpQuiet]
  rw [wanted_of (o := ⟨some d, op, ty, pos, aft, some (j, t)⟩) hs rfl hdst he heN, hb, if_pos rfl]
  exact ⟨v, fun w hw => by unfold Oper.quietAt; rw [hs.eval, hrun w hw]; exact ⟨rfl, rfl⟩, h _ (hs.put hd v)⟩
theorem EQ_gite (e : Nat) (hdst : (ops[j]?).bind (·.dst) = some e) (he : E e = .bool b) (heN : Nat.blt e N = true) (v : Value) (hd : Nat.blt d N = true)
    (hrun : (b == t) = true → ∀ w, C w → Gives P E w ⟨some d, op, ty, pos, aft, some (j, t)⟩ v w)
    (h : EQ P N ops C K L (upd E d (bif b == t then v else undef))) : EQ P N ops C K (⟨some d, op, ty, pos, aft, some (j, t)⟩ :: L) E := by
  cases hb : (b == t) with
  | true => exact EQ_gval e hdst he heN hb v hd (hrun hb) (by simpa [hb] using h)
  | false => exact EQ_pass e hdst he heN hb hd (by simpa [hb] using h)
theorem EC_quietB {id : Nat} {l : List Oper} (hm : P.follows .mixedOrders = true) (hB : Region.lexB .any l.toArray = true)
    (h : EQ P N l.toArray (fun w' => Below w.heap.size w w') (fun E' => ∀ w', Below w.heap.size w w' → Q .normal E' w') l E) : EC P N (.region id l.toArray true) Q E w :=
  EC_quiet (fun w' => Below w.heap.size w w') hm hB (Below.refl _ _).drew h
theorem wanted_undef {o:Oper} {a:Act} (hs:Sim N a E) (hg:o.guard=some (j,t)) {e:Nat} (hdst:(ops[j]?).bind (·.dst)=some e) (he:E e=undef) (heN:Nat.blt e N=true):Region.wanted o (yielded ops a.tmps)=false:=by
 have heN':e<N:=by simpa [Nat.blt_eq] using heN
 have h2:=hs.2.2 e
 have hsz:=hs.1
 have h3:a.tmps[e]?=some undef:=by
  rw [Array.getElem?_eq_getElem (by omega)]
  rw [Array.getD_eq_getD_getElem?,Array.getElem?_eq_getElem (by omega),he] at h2
  simpa using h2
 simp only [Region.wanted,hg,yielded,hdst]
 simp [h3,undef]
theorem EL_passU (e : Nat) (hdst : (ops[j]?).bind (·.dst) = some e) (he : E e = undef) (heN : Nat.blt e N = true) (hd : Nat.blt d N = true)
    (h : EL P N ops Q L (upd E d undef) w) : EL P N ops Q (⟨some d, op, ty, pos, aft, some (j, t)⟩ :: L) E w := fun a hs => by
  unfold wpList
  rw [wanted_undef (o := ⟨some d, op, ty, pos, aft, some (j, t)⟩) hs rfl hdst he heN]
  exact h _ (hs.put hd undef)
theorem EQ_passU (e : Nat) (hdst : (ops[j]?).bind (·.dst) = some e) (he : E e = undef) (heN : Nat.blt e N = true) (hd : Nat.blt d N = true)
    (h : EQ P N ops C K L (upd E d undef)) : EQ P N ops C K (⟨some d, op, ty, pos, aft, some (j, t)⟩ :: L) E := fun a hs => by
  simp only [wpQuiet]
  rw [wanted_undef (o := ⟨some d, op, ty, pos, aft, some (j, t)⟩) hs rfl hdst he heN]
  exact h _ (hs.put hd undef)
theorem cond_in {a c:Bool} {X v u:Value} (g:a=true) (h:X=(bif (a&&c) then v else u)):X=(bif c then v else u):=by rw [h,g];rfl
/-- A guard that is told under a guard. -/
theorem EL_gite2 {b c : Bool} (e : Nat) (hdst : (ops[j]?).bind (·.dst) = some e) (he : E e = (bif c then .bool b else undef)) (heN : Nat.blt e N = true) (v : Value) (hd : Nat.blt d N = true)
    (hrun : (c && (b == t)) = true → (execOp (ev E) ⟨some d, op, ty, pos, aft, some (j, t)⟩).run P w = .ok (.value v) w)
    (h : EL P N ops Q L (upd E d (bif (c && (b == t)) then v else undef)) w) : EL P N ops Q (⟨some d, op, ty, pos, aft, some (j, t)⟩ :: L) E w := by
  cases c with
  | true => exact EL_gite e hdst he heN v hd (fun g => hrun (by rw [g]; rfl)) (by simpa using h)
  | false => exact EL_passU e hdst he heN hd h
theorem EQ_gite2 {b c : Bool} (e : Nat) (hdst : (ops[j]?).bind (·.dst) = some e) (he : E e = (bif c then .bool b else undef)) (heN : Nat.blt e N = true) (v : Value) (hd : Nat.blt d N = true)
    (hrun : (c && (b == t)) = true → ∀ w, C w → Gives P E w ⟨some d, op, ty, pos, aft, some (j, t)⟩ v w)
    (h : EQ P N ops C K L (upd E d (bif (c && (b == t)) then v else undef))) : EQ P N ops C K (⟨some d, op, ty, pos, aft, some (j, t)⟩ :: L) E := by
  cases c with
  | true => exact EQ_gite e hdst he heN v hd (fun g => hrun (by rw [g]; rfl)) (by simpa using h)
  | false => exact EQ_passU e hdst he heN hd h
variable {S : World → Prop} {fuel : Nat} {listed : Array Bool}
theorem op_of_list (i : Nat) {o : Oper} {K : Act → World → Prop} {a : Act} (hi : ops[i]? = some o) {R : Env → World → Prop} (key : ∀ a' w', (∃ E', Sim N a' E' ∧ R E' w') → K a' w') (hl : wpList P ops (lft N (fun e E' w' => e = .normal ∧ R E' w')) [o] a w) : wpOp P ops (lft N Q) i K a w := by
  have key' : ∀ a' w', lft N (fun e E' w' => e = .normal ∧ R E' w') .normal a' w' → K a' w' := fun a' w' ⟨E', s', _, h1⟩ => key a' w' ⟨E', s', h1⟩
  simp only [wpList] at hl
  unfold wpOp
  simp only [hi]
  by_cases hw : Region.wanted o (yielded ops a.tmps) = true
  · rw [if_pos hw] at hl ⊢
    rcases hl with hl | hl
    · refine .inl ?_
      unfold Oper.wp at hl ⊢
      generalize (execOp a.eval o).run P w = r at hl ⊢
      cases r with
      | ok n w' =>
        cases n <;> simp only [Oper.upon] at hl ⊢ <;>
          first
            | exact key' _ _ hl
            | exact hl
            | (refine Calls.mono hl fun e w'' he => ?_
               cases e with
               | returned v => exact key' _ _ he
               | panicked c => exact he.elim
               | outgrown => obtain ⟨_, _, _, _, h9, _⟩ := he; cases h9)
            | exact Rows.mono hl (fun _ _ he => key' _ _ he)
      | halt x w' => cases x <;> simp only [Oper.upon] at hl ⊢ <;> first | exact hl | exact hl.elim
    · obtain ⟨_, _, _, _, h9, _⟩ := hl.2; cases h9
  · rw [if_neg hw] at hl ⊢
    exact key' _ _ hl
end
end Go.Ecal
namespace Go.Ecal
open Go.RowKit
section
variable {P : Program} {N : Nat} {Q : Exit → Env → World → Prop} {E : Env} {w : World} {ops : Array Oper} {L : List Oper}
variable {d : Nat} {op : Op} {ty : TypeId} {pos : String} {aft : Array Edge} {dst : Option Tmp} {gd : Option (Nat × Bool)}
variable {t t2 e : TypeId} {x y : Operand} {v : Value} {xs : List Value}
/-- A number, under a name of its own. -/
theorem EL_int {k : IntKind} (n : Int) (hd : Nat.blt d N = true) (hrun : Gives P E w ⟨some d, op, ty, pos, aft, none⟩ (.int k n) w)
    (h : ∀ y, y = n → EL P N ops Q L (upd E d (.int k y)) w) : EL P N ops Q (⟨some d, op, ty, pos, aft, none⟩ :: L) E w := EL_val _ w hd hrun (h n rfl)
theorem EQ_int {C : World → Prop} {K : Env → Prop} {k : IntKind} (n : Int) (hd : Nat.blt d N = true) (hrun : ∀ w, C w → Gives P E w ⟨some d, op, ty, pos, aft, none⟩ (.int k n) w)
    (h : ∀ y, y = n → EQ P N ops C K L (upd E d (.int k y))) : EQ P N ops C K (⟨some d, op, ty, pos, aft, none⟩ :: L) E := EQ_val _ hd hrun (h n rfl)
theorem r_convi {m:Int} {k2:IntKind} (src dt:TypeId) {u:TypeDesc} (hx:ev E x=.int k2 m) (hs:P.underlying src=some u) (hd:P.underlying dt=some (.int .i64)) (h:-9223372036854775808≤m∧m≤9223372036854775807):Gives P E w ⟨dst,.convert src dt x,ty,pos,aft,gd⟩ (.int .i64 m) w:=by
 have:=r_conv (P:=P) (w:=w) (dst:=dst) (ty:=ty) (pos:=pos) (aft:=aft) (gd:=gd) src dt hx hs hd;rwa [wrap_i64_in h] at this
theorem r_convb {m:Int} {k2:IntKind} (src dt:TypeId) {u:TypeDesc} (hx:ev E x=.int k2 m) (hs:P.underlying src=some u) (hd:P.underlying dt=some (.int .u8)):Gives P E w ⟨dst,.convert src dt x,ty,pos,aft,gd⟩ (.int .u8 (m % 256)) w:=by
 have:=r_conv (P:=P) (w:=w) (dst:=dst) (ty:=ty) (pos:=pos) (aft:=aft) (gd:=gd) src dt hx hs hd;rwa [wrap_u8] at this
/-- x << c, x >> c, c a number that is known, p its power of 2. -/
theorem r_shli {m c p : Int} {k2 : IntKind} {n : Nat} (hx : ev E x = .int .i64 m) (hy : ev E y = .int k2 c) (hc : c = n) (hn : n ≤ 64) (hp : (2 : Int) ^ n = p) (h : -9223372036854775808 ≤ m * p ∧ m * p ≤ 9223372036854775807) :
    Gives P E w ⟨dst, .binOp .shl t x y t2, ty, pos, aft, gd⟩ (.int .i64 (m * p)) w := by
  have := r_shl (P := P) (w := w) (dst := dst) (ty := ty) (pos := pos) (aft := aft) (gd := gd) (t := t) (t2 := t2) hx hy (by omega)
  rw [hc, Int.toNat_natCast, show min n IntKind.i64.bits = n from Nat.min_eq_left hn, hp, wrap_i64_in h] at this
  exact this
theorem r_shri {m c p : Int} {k k2 : IntKind} {n : Nat} (hx : ev E x = .int k m) (hy : ev E y = .int k2 c) (hc : c = n) (hn : n ≤ k.bits) (hp : (2 : Int) ^ n = p) :
    Gives P E w ⟨dst, .binOp .shr t x y t2, ty, pos, aft, gd⟩ (.int k (m / p)) w := by
  have := r_shr (P := P) (w := w) (dst := dst) (ty := ty) (pos := pos) (aft := aft) (gd := gd) (t := t) (t2 := t2) hx hy (by omega)
  rw [hc, Int.toNat_natCast, Nat.min_eq_left hn, hp] at this
  exact this
/-- Two numbers that share no bit: | is +. -/
theorem or_add (a b n:Nat) (hb:b<2 ^ n):(a*2 ^ n ||| b)=a*2 ^ n+b:=by
 rw [Nat.mul_comm,Nat.two_pow_add_eq_or_of_lt hb]
theorem r_ori {m n r : Int} (a b k : Nat) (hx : ev E x = .int .i64 m) (hy : ev E y = .int .i64 n) (hm : m = (a * 2 ^ k : Nat)) (hn : n = (b : Nat)) (hb : b < 2 ^ k) (hr : r = m + n) (h63 : a * 2 ^ k + 2 ^ k ≤ 9223372036854775808) :
    Gives P E w ⟨dst, .binOp .or t x y t2, ty, pos, aft, gd⟩ (.int .i64 r) w := by
  subst hm hn
  have e : (2 : Nat) ^ (if IntKind.i64.signed then IntKind.i64.bits - 1 else IntKind.i64.bits) = 9223372036854775808 := by decide
  have hk : 0 < 2 ^ k := Nat.two_pow_pos k
  have h1 : a * 2 ^ k < 9223372036854775808 := by omega
  have h2 : b < 9223372036854775808 := by omega
  have := r_orn (P := P) (w := w) (dst := dst) (ty := ty) (pos := pos) (aft := aft) (gd := gd) (t := t) (t2 := t2) hx hy (by rw [e]; exact h1) (by rw [e]; exact h2)
  rw [or_add a b k hb] at this
  rw [hr]
  simpa using this
theorem cond_of {c:Bool} {X v u:Value} (g:c=true) (h:X=(bif c then v else u)):X=v:=by rw [h,g];rfl
theorem args1 {x0:Operand} {v0:Value} (h0:ev E x0=v0):(#[x0]:Array Operand).toList.map (ev E)=[v0]:=by simp [h0]
theorem args2 {x0 x1:Operand} {v0 v1:Value} (h0:ev E x0=v0) (h1:ev E x1=v1):(#[x0,x1]:Array Operand).toList.map (ev E)=[v0,v1]:=by simp [h0,h1]
theorem args3 {x0 x1 x2:Operand} {v0 v1 v2:Value} (h0:ev E x0=v0) (h1:ev E x1=v1) (h2:ev E x2=v2):(#[x0,x1,x2]:Array Operand).toList.map (ev E)=[v0,v1,v2]:=by simp [h0,h1,h2]
theorem args4 {x0 x1 x2 x3:Operand} {v0 v1 v2 v3:Value} (h0:ev E x0=v0) (h1:ev E x1=v1) (h2:ev E x2=v2) (h3:ev E x3=v3):(#[x0,x1,x2,x3]:Array Operand).toList.map (ev E)=[v0,v1,v2,v3]:=by simp [h0,h1,h2,h3]
theorem args5 {x0 x1 x2 x3 x4:Operand} {v0 v1 v2 v3 v4:Value} (h0:ev E x0=v0) (h1:ev E x1=v1) (h2:ev E x2=v2) (h3:ev E x3=v3) (h4:ev E x4=v4):(#[x0,x1,x2,x3,x4]:Array Operand).toList.map (ev E)=[v0,v1,v2,v3,v4]:=by simp [h0,h1,h2,h3,h4]
theorem args6 {x0 x1 x2 x3 x4 x5:Operand} {v0 v1 v2 v3 v4 v5:Value} (h0:ev E x0=v0) (h1:ev E x1=v1) (h2:ev E x2=v2) (h3:ev E x3=v3) (h4:ev E x4=v4) (h5:ev E x5=v5):(#[x0,x1,x2,x3,x4,x5]:Array Operand).toList.map (ev E)=[v0,v1,v2,v3,v4,v5]:=by simp [h0,h1,h2,h3,h4,h5]
theorem u8_lt (a:UInt8):a.toNat<2 ^ (if IntKind.u8.signed then IntKind.u8.bits-1 else IntKind.u8.bits):=by
 have:=a.toNat_lt;simpa [IntKind.signed,IntKind.bits] using this
theorem r_xorb {a b:UInt8} (hx:ev E x=.int .u8 (a.toNat:Int)) (hy:ev E y=.int .u8 (b.toNat:Int)):Gives P E w ⟨dst,.binOp .xor t x y t2,ty,pos,aft,gd⟩ (.int .u8 ((a ^^^ b).toNat:Int)) w:=by
 have:=r_xorn (P:=P) (w:=w) (dst:=dst) (ty:=ty) (pos:=pos) (aft:=aft) (gd:=gd) (t:=t) (t2:=t2) hx hy (u8_lt a) (u8_lt b)
 rwa [←UInt8.toNat_xor] at this
theorem r_orb {a b:UInt8} (hx:ev E x=.int .u8 (a.toNat:Int)) (hy:ev E y=.int .u8 (b.toNat:Int)):Gives P E w ⟨dst,.binOp .or t x y t2,ty,pos,aft,gd⟩ (.int .u8 ((a ||| b).toNat:Int)) w:=by
 have:=r_orn (P:=P) (w:=w) (dst:=dst) (ty:=ty) (pos:=pos) (aft:=aft) (gd:=gd) (t:=t) (t2:=t2) hx hy (u8_lt a) (u8_lt b)
 rwa [←UInt8.toNat_or] at this
theorem bs_get {l:List UInt8} {j:Nat} {b:UInt8} (h:l[j]?=some b):(l.map byt)[j]?=some (byt b):=by simp [h]
theorem get_some {α:Type} {l:List α} {j:Nat} (h:j<l.length):∃b,l[j]?=some b:=⟨l[j],List.getElem?_eq_getElem h⟩
theorem Bs.cut {l:List UInt8} (h:Bs w v l) (i j:Nat) (hij:i≤j) (hj:j≤l.length):Bs w (cutV v i j) ((l.take j).drop i):=by
 have:=Row.cut h i j hij (by simpa using hj)
 rwa [←List.map_take,←List.map_drop] at this
theorem byt_one (l:List UInt8):∀u∈l.map byt,u.oneCell'=true:=by
 intro u hu;obtain ⟨_,_,rfl⟩:=List.mem_map.1 hu;rfl
def bof (m:Int):UInt8:=UInt8.ofNat (m % 256).toNat
theorem bof_val (m:Int):.int .u8 (m % 256)=byt (bof m):=by
 have h:(m % 256).toNat<256:=by omega
 simp [byt,bof,Nat.mod_eq_of_lt h];omega
theorem r_dec {b r:Bool} {o:Oper} (h:b=r) (hg:Gives P E w o (.bool b) w):Gives P E w o (.bool r) w:=h ▸ hg
theorem lenB {l:List UInt8} {o:Oper} (h:Gives P E w o (.int .i64 ((l.map byt).length:Int)) w):Gives P E w o (.int .i64 (l.length:Int)) w:=by simpa using h
theorem EL_gret {j : Nat} {tt b : Bool} (e : Nat) (hdst : (ops[j]?).bind (·.dst) = some e) (he : E e = .bool b) (heN : Nat.blt e N = true) (hb' : (b == tt) = true) {f : FuncId} {fn : Func} {args : Array Operand} {ats : Array TypeId} {R : Value → World → Prop} (l : List Value) (hd : Nat.blt d N = true) (hf : P.funcs[f]? = some fn) (hb : fn.body.isNone = false) (hnm : (fn.name == "runtime.NumGoroutine") = false)
    (ha : args.toList.map (ev E) = l) (hc : Ret P f l w R) (h : ∀ v w', R v w' → EL P N ops Q L (upd E d v) w') :
    EL P N ops Q (⟨some d, .call { callee := .value (.func f), args, argTypes := ats }, ty, pos, aft, some (j, tt)⟩ :: L) E w := by
  subst ha
  refine EL_gcall e hdst he heN hb' (f := f) (args := args.map (ev E)) (R := fun e w' => ∃ v, e = .returned v ∧ R v w') hd (run_callE hf hb hnm) ?_ (fun e w' ⟨v, he, _⟩ => ⟨v, he⟩) (fun v w' ⟨v', he, hr⟩ => ?_)
  · have : args.map (ev E) = (args.toList.map (ev E)).toArray := by rw [← Array.toList_map, Array.toArray_toList]
    rw [this]; exact hc
  · injection he with he; subst he; exact h _ _ hr
/-- make([]T, n): a row of the call's own. -/
theorem EL_make {z : Value} {bytes : Nat} {k1 k2 : IntKind} {n m : Int} (base : Nat) (hE : Elem P t e z bytes) (hz : z.cells = #[z]) (hd : Nat.blt d N = true) (hx : ev E x = .int k1 n) (hy : ev E y = .int k2 m) (h0 : 0 ≤ n) (hnm : n ≤ m)
    (hb : bytes * m ≤ 281474976710656) (hm : m ≤ 9223372036854775807) (hB : base ≤ w.heap.size)
    (h : ∀ v w', w'.ownsRow base e 1 v n.toNat (List.replicate n.toNat z) → Below w.heap.size w w' → v.ownBlock = some w.heap.size → w'.heap.size = w.heap.size + 1 → EL P N ops Q L (upd E d v) w') :
    EL P N ops Q (⟨some d, .makeSlice t x y, ty, pos, aft, none⟩ :: L) E w :=
  EL_val _ _ hd (run_make_E hE h0 hnm hb hm hx hy) (h _ _ (own_make base z n.toNat m.toNat hz (by omega) hB (by omega)) (below_alloc _) rfl (by simp))
/-- []T{..} -/
theorem EL_lit {z : Value} {bytes : Nat} {n : Nat} {ps : Array (Nat × Operand)} (base : Nat) (cs : Array Value) (hE : Elem P t e z bytes) (hd : Nat.blt d N = true) (hn : n ≤ 16777216) (hs : cs.size = n) (hB : base ≤ w.heap.size)
    (hcs : Instr.fill (fun i => some (i * 1, 1)) ((Array.range (n * 1)).map (z.cells[· % z.cells.size]!)) (ps.map (fun (i, x) => (i, ev E x))).toList = some cs)
    (h : ∀ v w', w'.ownsRow base e 1 v cs.toList.length cs.toList → Below w.heap.size w w' → v.ownBlock = some w.heap.size → w'.heap.size = w.heap.size + 1 → EL P N ops Q L (upd E d v) w') :
    EL P N ops Q (⟨some d, .buildSlice t n ps, ty, pos, aft, none⟩ :: L) E w :=
  EL_val _ _ hd (run_lit_E hE cs hn hcs) (h _ _ (by have := own_lit (w := w) (e := e) base cs n hs hB (by omega); simpa [hs] using this) (below_alloc _) rfl (by simp))
/-- append(v, v2...), v a row of the call's own. -/
theorem EL_append {z : Value} {bytes : Nat} (base : Nat) {v2 : Value} {ys : List Value} (hE : Elem P t e z bytes) (hd : Nat.blt d N = true) (hx : ev E x = v) (hy : ev E y = v2) (hown : w.ownsRow base e 1 v xs.length xs) (hrow : Row w v2 ys)
    (h1 : ∀ u ∈ ys, u.oneCell' = true) (hb : (xs.length + ys.length) * bytes ≤ 140737488355328) (hb0 : 0 < bytes) (hbase : base ≤ w.heap.size)
    (h : ∀ v' w', w'.ownsRow base e 1 v' (xs ++ ys).length (xs ++ ys) → w.grownBy w' v.ownBlock → (v'.ownBlock = v.ownBlock ∨ v'.ownBlock = some w.heap.size) → EL P N ops Q L (upd E d v') w') :
    EL P N ops Q (⟨some d, .call { callee := .builtin .append, args := #[x, y], argTypes := #[t, t] }, ty, pos, aft, none⟩ :: L) E w := by
  obtain ⟨v', w', hg, h2, h3, h4⟩ := run_append_E (dst := some d) (ty := ty) (pos := pos) (aft := aft) (gd := none) hE base hx hy hown hrow h1 hb hb0 hbase
  exact EL_val v' w' hd hg (h v' w' h2 h3 h4)
theorem own_len {base n:Nat} (h:w.ownsRow base e 1 v n xs):w.ownsRow base e 1 v xs.length xs:=by
 have:=h.1;simp only [Nat.mul_one] at this;rwa [this]
theorem own_set {base n j:Nat} {l:List UInt8} {u:UInt8} (h:w.ownsRow base e 1 v n ((l.map byt).set j (byt u))):w.ownsRow base e 1 v (l.set j u).length ((l.set j u).map byt):=by
 have:=own_len h
 rw [←List.map_set,List.length_map] at this
 exact this
theorem own_app {base n:Nat} {l l2:List UInt8} (h:w.ownsRow base e 1 v n (l.map byt++l2.map byt)):w.ownsRow base e 1 v (l++l2).length ((l++l2).map byt):=by
 have:=own_len h
 rw [←List.map_append,List.length_map] at this
 exact this
theorem own_cpy {base n i : Nat} {l l2 : List UInt8} (h : w.ownsRow base e 1 v n ((l.map byt).take i ++ l2.map byt ++ (l.map byt).drop (i + (l2.map byt).length))) :
    w.ownsRow base e 1 v (l.take i ++ l2 ++ l.drop (i + l2.length)).length ((l.take i ++ l2 ++ l.drop (i + l2.length)).map byt) := by
  have := own_len h
  rw [List.length_map, ← List.map_take, ← List.map_drop, ← List.map_append, ← List.map_append, List.length_map] at this
  exact this
theorem own_rep {base n k:Nat} (h:w.ownsRow base e 1 v n (List.replicate k (.int .u8 0))):w.ownsRow base e 1 v (List.replicate k (0:UInt8)).length ((List.replicate k (0:UInt8)).map byt):=by
 have:=own_len h
 rw [List.map_replicate]
 simpa [byt] using this
theorem own_eq {base n:Nat} {l:List UInt8} (h:w.ownsRow base e 1 v n xs) (he:xs=l.map byt):w.ownsRow base e 1 v l.length (l.map byt):=by
 subst he;have:=own_len h;rwa [List.length_map] at this
theorem own_shape {base n j:Nat} (h:w.ownsRow base e 1 v n xs) (hj:j<n):∃g c,v=.slice (some ⟨g,0,none⟩) n c∧at_ v j=⟨g,j,none⟩∧base≤g∧g<w.heap.size:=by
 obtain ⟨g,c,rfl,hb,hlt⟩:=World.ownsRow.form h (by omega)
 exact ⟨g,c,rfl,by simp [at_],hb,hlt⟩
/-- v[j] = u -/
theorem EL_store {base n j : Nat} {u : Value} (hx : ev E x = .pointer (some (at_ v j))) (hy : ev E y = u) (hown : w.ownsRow base e 1 v n xs) (hj : j < n) (hu : u.oneCell' = true) (hs : (P.info? t).map (·.size) = some 1)
    (h : ∀ w', w'.ownsRow base e 1 v n (xs.set j u) → w.grownBy w' v.ownBlock → w'.heap.size = w.heap.size → EL P N ops Q L E w') : EL P N ops Q (⟨none, .store t x y, ty, pos, aft, none⟩ :: L) E w := by
  obtain ⟨g, c, rfl, ha, hb, hlt⟩ := own_shape hown hj
  rw [ha] at hx
  refine EL_do _ (run_store_E hx hy hown hj hu hs) (h _ (hown.stored j u).1 ⟨rfl, rfl, rfl, by simp [World.setCell], fun k hk hne => ?_⟩ (by simp [World.setCell]))
  exact Below.heap_setCell w ⟨g, j, none⟩ u k (fun he => hne (by simp [Value.ownBlock, he]))
/-- copy(v[i:], v2) -/
theorem EL_copy {base n i m : Nat} {v2 : Value} {ys : List Value} {t3 : TypeId} (hd : Nat.blt d N = true) (hx : ev E x = cutV v i m) (hy : ev E y = v2) (hown : w.ownsRow base e 1 v n xs) (hrow : Row w v2 ys) (hi : i + ys.length ≤ m) (hm : m ≤ n) (hin : i < n)
    (ht : P.underlying t = some (.slice e)) (hs : (P.info? e).map (·.size) = some 1) (h1 : ∀ u ∈ ys, u.oneCell' = true)
    (h : ∀ w', w'.ownsRow base e 1 v n (xs.take i ++ ys ++ xs.drop (i + ys.length)) → w.grownBy w' v.ownBlock → w'.heap.size = w.heap.size → EL P N ops Q L (upd E d (.int .i64 ys.length)) w') :
    EL P N ops Q (⟨some d, .call { callee := .builtin .copy, args := #[x, y], argTypes := #[t, t3] }, ty, pos, aft, none⟩ :: L) E w := by
  have hl := hown.1
  simp only [Nat.mul_one] at hl
  rcases hown.2 with ⟨_, h0⟩ | ⟨g, cap, cur, rfl, hb, hg, hn, hcm, hcs, htk⟩
  · omega
  · have hcx : ∃ c', cutV (.slice (some ⟨g, 0, none⟩) n cap) i m = .slice (some ⟨g, i, none⟩) (m - i) c' := by
      refine ⟨cap - i, ?_⟩
      simp only [cutV]
      rw [if_neg (by omega)]
      simp [Addr.add]
      intro h0; rw [h0]
    obtain ⟨c', hc'⟩ := hcx
    rw [hc'] at hx
    obtain ⟨w', hgv, h2, h3, h4, h5, h6, h7⟩ := run_copy_E (P := P) (E := E) (w := w) (dst := some d) (ty := ty) (pos := pos) (aft := aft) (gd := none) (t := t) (e := e) (t3 := t3) (cur := cur.toList) hx hy hrow ht hs (by simpa using hg) (by simp; omega) (by omega) h1
    refine EL_val _ w' hd hgv (h w' ⟨?_, .inr ⟨g, cap, _, rfl, hb, h2, hn, hcm, ?_, ?_⟩⟩ ⟨h5, h6, h7, by omega, fun k hk hne => h3 k (fun he => hne (by simp [Value.ownBlock, he]))⟩ h4)
    · simp [hl]; omega
    · simp; omega
    · subst htk
      simp only [Nat.mul_one, List.length_take, Array.length_toList] at hl ⊢
      apply List.ext_getElem?
      intro j
      simp only [List.getElem?_take, List.getElem?_append, List.getElem?_drop, List.length_append, List.length_take, Array.length_toList]
      by_cases hj : j < n
      · rw [if_pos hj]
        by_cases c1 : j < i
        · have a1 : j < min i cur.size := by omega
          have a2 : j < min i (min n cur.size) := by omega
          have a3 : j < min i cur.size + ys.length := by omega
          have a4 : j < min i (min n cur.size) + ys.length := by omega
          rw [if_pos a3, if_pos a1, if_pos a4, if_pos a2]
          simp [c1, hj]
        · have a1 : ¬ j < min i cur.size := by omega
          have a2 : ¬ j < min i (min n cur.size) := by omega
          have e1 : min i cur.size = i := by omega
          have e2 : min i (min n cur.size) = i := by omega
          rw [e1, e2]
          by_cases c2 : j < i + ys.length
          · rw [if_pos c2, if_pos c2]
            simp only [if_neg c1]
          · rw [if_neg c2, if_neg c2]
            have e3 : i + ys.length + (j - (i + ys.length)) = j := by omega
            simp [e3, hj]
      · rw [if_neg hj, if_neg (by omega)]
        rw [if_neg (by omega)]
end
end Go.Ecal
namespace Go.Ecal
open Go.RowKit
/-- Block b holds the cells cs (of type T),none of them frozen. -/
def Arr (w:World) (b:Nat) (T:TypeId) (cs:List Value):Prop:=w.heap[b]?=some (.cells cs.toArray T (0,0))
abbrev ptr (b:Nat) (j:Nat:=0):Value:=.pointer (some ⟨b,j,none⟩)
/-- But for block b,and new blocks,the world is as1 it was. -/
def Kept (w w':World) (b:Nat):Prop:=w.grownBy w' (some b)
section
variable {P : Program} {N : Nat} {Q : Exit → Env → World → Prop} {E : Env} {w w' : World} {ops : Array Oper} {L : List Oper}
variable {d : Nat} {op : Op} {ty : TypeId} {pos : String} {aft : Array Edge} {dst : Option Tmp} {gd : Option (Nat × Bool)}
variable {t t2 T e : TypeId} {x y : Operand} {v : Value} {b : Nat} {cs : List Value}
theorem Arr.lt (h:Arr w b T cs):b<w.heap.size:=(Array.getElem?_eq_some_iff.1 h).1
theorem Arr.below (h:Arr w b T cs) (hb:Below w.heap.size w w'):Arr w' b T cs:=(hb.block b h.lt).trans h
theorem Arr.cell {j:Nat} {u:Value} (h:Arr w b T cs) (hu:cs[j]?=some u):w.cell? ⟨b,j,none⟩=some u:=by
 have:w.heap[b]?=some (.cells cs.toArray T (0,0)):=h
 simp [World.cell?,this,hu]
/-- new(T), a variable of T. -/
theorem EL_alloc {z : Value} (cs : List Value) (hd : Nat.blt d N = true) (hz : (P.info? T).bind (·.zero) = some z) (hcs : z.cells.toList = cs)
    (h : ∀ b w', b = w.heap.size → Arr w' b T cs → Below w.heap.size w w' → w'.heap.size = w.heap.size + 1 → EL P N ops Q L (upd E d (ptr b)) w') :
    EL P N ops Q (⟨some d, .alloc T, ty, pos, aft, none⟩ :: L) E w := by
  obtain ⟨i, hi, hz'⟩ := Option.bind_eq_some_iff.1 hz
  refine EL_val _ (w.alloc (.cells z.cells T)) hd ?_ (h w.heap.size _ rfl ?_ (below_alloc _) (by simp))
  · simp [execOp, Instr.alloc, zeroValue, typeInfo, hi, hz', newVar, newRow]
  · subst hcs; simpa [Arr] using heap_alloc_new w (.cells z.cells T)
/-- A value in a variable of its own. -/
theorem EL_box (cs : List Value) (hd : Nat.blt d N = true) (hx : ev E x = v) (hcs : v.cells.toList = cs)
    (h : ∀ b w', b = w.heap.size → Arr w' b T cs → Below w.heap.size w w' → w'.heap.size = w.heap.size + 1 → EL P N ops Q L (upd E d (ptr b)) w') :
    EL P N ops Q (⟨some d, .box T x, ty, pos, aft, none⟩ :: L) E w := by
  refine EL_val _ (w.alloc (.cells v.cells T)) hd ?_ (h w.heap.size _ rfl ?_ (below_alloc _) (by simp))
  · simp [execOp, hx, Instr.box, newVar, newRow]
  · subst hcs; simpa [Arr] using heap_alloc_new w (.cells v.cells T)
theorem kept_setRow (g:Nat) (l:Array Value):Kept w (w.setRow g l) g:=⟨rfl,rfl,rfl,by simp [World.setRow],fun k hk hne=>setRow_other w g k l (fun h=>hne (by rw [h]))⟩
/-- The whole variable is written. -/
theorem EL_storeAll {cs' : Array Value} (hx : ev E x = ptr b) (hy : ev E y = v) (hv : v.cells = cs') (h : Arr w b T cs) (hn : cs'.size = cs.length) (hs : (P.info? t).map (·.size) = some cs'.size) (h1 : ∀ u ∈ cs'.toList, u.oneCell' = true)
    (hk : ∀ w', Arr w' b T cs'.toList → Kept w w' b → w'.heap.size = w.heap.size → EL P N ops Q L E w') : EL P N ops Q (⟨none, .store t x y, ty, pos, aft, none⟩ :: L) E w := by
  obtain ⟨inf, hinf, hsz⟩ := Option.map_eq_some_iff.1 hs
  have hst := run_storeCells_at P b 0 T cs'.toList 0 cs.toArray w h (by simp; omega) h1
  refine EL_do (w.setRow b ((cs.toArray.toList.take (0 + 0)) ++ cs'.toList ++ (cs.toArray.toList.drop (0 + 0 + cs'.toList.length))).toArray) ?_ (hk _ ?_ (kept_setRow b _) (by simp [World.setRow]))
  · simp only [execOp, hx, hy, ptr]
    simp only [Instr.storeAt, Instr.sureAddr, storeVar, hv]
    simp [sizeOf, typeInfo, hinf, hsz, hst]
  · have := setRow_heap w b cs.toArray ((cs.toArray.toList.take (0 + 0)) ++ cs'.toList ++ (cs.toArray.toList.drop (0 + 0 + cs'.toList.length))).toArray T (0, 0) h
    simp only [Arr]
    rw [this]
    simp [List.drop_eq_nil_of_le (show cs.length ≤ cs'.size by omega)]
/-- The whole variable is read. -/
theorem r_loadAll {ds : TypeDesc} (hx : ev E x = ptr b) (h : Arr w b T cs) (ht : P.underlying t = some ds) (hd : oneB ds = false) (hs : (P.info? t).map (·.size) = some cs.length) :
    Gives P E w ⟨dst, .load t x, ty, pos, aft, gd⟩ (.agg cs.toArray) w := by
  have := run_loadVar_row (P := P) w b T t cs.toArray (0, 0) ds h ht (by cases ds <;> simp_all [oneB]) (by simpa using hs)
  simp only [Gives, execOp, hx, ptr]
  simp [Instr.loadAt, Instr.sureAddr, this]
theorem r_loadA {j : Nat} {u : Value} {ds : TypeDesc} (hx : ev E x = ptr b j) (h : Arr w b T cs) (hu : cs[j]? = some u) (ht : P.underlying t = some ds) (hd : oneB ds = true) :
    Gives P E w ⟨dst, .load t x, ty, pos, aft, gd⟩ u w := r_load hx (h.cell hu) ht hd
/-- A cell of the variable is written. -/
theorem EL_storeA {j : Nat} {u : Value} (hx : ev E x = ptr b j) (hy : ev E y = u) (h : Arr w b T cs) (hj : j < cs.length) (hu : u.oneCell' = true) (hs : (P.info? t).map (·.size) = some 1)
    (hk : ∀ w', Arr w' b T (cs.set j u) → Kept w w' b → w'.heap.size = w.heap.size → EL P N ops Q L E w') : EL P N ops Q (⟨none, .store t x y, ty, pos, aft, none⟩ :: L) E w := by
  obtain ⟨inf, hinf, hsz⟩ := Option.map_eq_some_iff.1 hs
  have hc : w.cell? ⟨b, j, none⟩ = some cs[j] := h.cell (List.getElem?_eq_getElem hj)
  have hb : w.heap[b]? = some (.cells cs.toArray T (0, 0)) := h
  have hf : w.frozen? ⟨b, j, none⟩ = false := by simp [World.frozen?, hb]
  have hcs : u.cells = #[u] := by cases u <;> first | rfl | simp [Value.oneCell'] at hu
  have hst : (store (⟨b, j, none⟩ : Addr) u).run P w = .ok () (w.setCell ⟨b, j, none⟩ u) := by
    rw [run_store P w _ u _ hu, hc]; simp [hf]
  have hset := setCell_eq_setRow w b j cs.toArray T (0, 0) u hb
  refine EL_do (w.setCell ⟨b, j, none⟩ u) ?_ (hk _ ?_ ?_ (by simp [World.setCell]))
  · simp only [execOp, hx, hy, ptr]
    simp [Instr.storeAt, Instr.sureAddr, storeVar, hcs, sizeOf, typeInfo, hinf, hsz, storeCells, Addr.add, hst]
  · rw [hset]
    have := setRow_heap w b cs.toArray (cs.toArray.setIfInBounds j u) T (0, 0) hb
    simp only [Arr]
    rw [this]
    simp
  · rw [hset]; exact kept_setRow b _
theorem int_get {k:IntKind} {l:List Int} {j:Nat} {n:Int} (h:l[j]?=some n):(l.map (Value.int k))[j]?=some (.int k n):=by simp [h]
/-- []byte("..") of a constant: the bytes were laid in a row of their own; it is marked. -/
theorem EL_mark {base n : Nat} {xs : List Value} (hd : Nat.blt d N = true) (hx : ev E x = v) (hown : w.ownsRow base e 1 v n xs) (hn : 0 < n) (ht : P.underlying t = some (.slice e)) (he : P.underlying e = some (.int .u8))
    (h : ∀ w', Row w' v xs → w.grownBy w' v.ownBlock → w'.heap.size = w.heap.size → EL P N ops Q L (upd E d v) w') : EL P N ops Q (⟨some d, .convert t t x, ty, pos, aft, none⟩ :: L) E w := by
  have hrow := own_row hown
  rcases hown.2 with ⟨_, h0⟩ | ⟨g, cap, cur, rfl, hb, hg, hnc, hcm, hcs, htk⟩
  · omega
  · refine EL_val _ (w.freeze ⟨g, cur.size, none⟩ 1) hd ?_ (h _ ?_ ?_ ?_)
    · simp only [execOp, hx, convert]
      have hsh : w.shape? g = some (e, cur.size) := by simp [World.shape?, hg]
      simp [run_underlying ht, run_underlying he, markStringish, shape, freeze, Sem.run, hsh]
    · refine hrow.keepCells fun a => ?_
      simp only [World.freeze, World.cell?, Nat.one_ne_zero, if_false, Array.getElem?_modify]
      by_cases hgb : g = a.block
      · subst hgb; simp [hg]
      · simp [hgb]
    · refine ⟨by simp [World.freeze], by simp [World.freeze], by simp [World.freeze], by simp [World.freeze], fun k hk hne => ?_⟩
      have : g ≠ k := fun h => hne (by simp [Value.ownBlock, h])
      simp [World.freeze, Array.getElem?_modify, this]
    · simp [World.freeze]
end
end Go.Ecal
namespace Go.Ecal
open Go.RowKit
theorem rng_i64 {n:Int} (h:(Lit.int .i64 n).wf=true):-9223372036854775808≤n∧n≤9223372036854775807:=by
 simp [Lit.wf,IntKind.min,IntKind.max,IntKind.bits,IntKind.signed] at h;omega
theorem rng_u8 {n:Int} (h:(Lit.int .u8 n).wf=true):0≤n∧n≤255:=by
 simp [Lit.wf,IntKind.min,IntKind.max,IntKind.bits,IntKind.signed] at h;omega
def ofInts (zs:List Int):List UInt8:=zs.map fun n=>UInt8.ofNat n.toNat
theorem ofInts_get {zs:List Int} (hw:∀n∈zs,(Lit.int .u8 n).wf=true) (j:Nat) (hj:j<zs.length):((ofInts zs).map byt)[j]?=some (.int .u8 (zs.getD j 0)):=by
 have h:=rng_u8 (hw zs[j] (List.getElem_mem hj))
 have h2:zs[j].toNat % 256=zs[j].toNat:=Nat.mod_eq_of_lt (by omega)
 simp [ofInts,List.getElem?_eq_getElem hj,byt,h2]
 omega
end Go.Ecal
namespace Go.Ecal
open Go.RowKit
section
variable {P : Program} {N : Nat} {Q : Exit → Env → World → Prop} {E : Env} {w w' : World} {ops : Array Oper} {L : List Oper}
variable {d : Nat} {ty : TypeId} {pos : String} {aft : Array Edge} {t ti e : TypeId} {x y : Operand} {v : Value} {xs : List Value}
end
end Go.Ecal
namespace Go.Ecal
open Go.RowKit
section
variable {P : Program} {N : Nat} {Q : Exit → Env → World → Prop} {E : Env} {w w' : World} {ops : Array Oper} {L : List Oper}
variable {d : Nat} {op : Op} {ty : TypeId} {pos : String} {aft : Array Edge} {dst : Option Tmp} {gd : Option (Nat × Bool)}
variable {t t2 T e : TypeId} {x y : Operand} {v : Value} {b : Nat} {cs : List Value}
/-- A loop that is run out round by round. -/
def Unr (P:Program) (N:Nat) (c:Code) (Q:Exit→Env→World→Prop):Nat→Env→World→Prop
 | 0,_,_=>False
 | n+1,E,w=>EC P N c (thn (Unr P N c Q n) Q) E w
theorem U_step {c:Code} {n:Nat} (h:EC P N c (thn (Unr P N c Q n) Q) E w):Unr P N c Q (n+1) E w:=h
theorem EC_for (n:Nat) {c:Code} (h:Unr P N c Q n E w):EC P N (.loop c) Q E w:=by
 refine EC_loop (Unr P N c Q) n h ?_
 intro n E w hn
 cases n with
 | zero=>exact hn.elim
 | succ n =>
  refine EC_mono hn fun e E w hh=>?_
  cases e<;>first | exact ⟨n,Nat.lt_succ_self n,hh⟩ | exact hh
theorem r_asn {k:IntKind} {m n:Int} {o:Oper} (h:m=n) (hg:Gives P E w o (.int k m) w'):Gives P E w o (.int k n) w':=h ▸ hg
theorem r_asv {u v:Value} {o:Oper} (h:u=v) (hg:Gives P E w o u w'):Gives P E w o v w':=h ▸ hg
theorem r_nil {j:Nat} (hx:ev E x=ptr b j):Gives P E w ⟨dst,.nilCheck x,ty,pos,aft,gd⟩ (ptr b j) w:=by
 simp only [Gives,execOp,hx,ptr];rfl
section words
variable {m n : Int} {k2 : IntKind}
end words
/-- What is told is a variable's value. -/
theorem fin1c {fn : Func} {R : Ending → World → Prop} {q : Nat} {tt : TypeId} {ds : TypeDesc} (hr : fn.results = #[.cell q tt]) (hE : E q = ptr b) (hA : Arr w b T cs) (hu : P.underlying tt = some ds) (hd : oneB ds = false) (hs : (P.info? tt).map (·.size) = some cs.length)
    (h : R (.returned (.agg cs.toArray)) w) : fin P fn R .ret E w := fun tmps ht =>
  ⟨_, results_cell_row hr tmps w b T cs.toArray (0, 0) ds (by rw [ht, hE]) hA hu (by cases ds <;> simp_all [oneB]) (by simpa using hs), h⟩
theorem own_appF {f:Int→Value} {base n:Nat} {l l2:List Int} (h:w.ownsRow base e 1 v n (l.map f++l2.map f)):w.ownsRow base e 1 v (l++l2).length ((l++l2).map f):=by
 rw [←List.map_append] at h
 simpa using own_len h
theorem own_eqF {f:Int→Value} {base n:Nat} {l:List Int} {xs:List Value} (h:w.ownsRow base e 1 v n xs) (he:xs=l.map f):w.ownsRow base e 1 v l.length (l.map f):=by
 subst he;simpa using own_len h
theorem int_one {k:IntKind} (l:List Int):∀u∈l.map (Value.int k),u.oneCell'=true:=by
 intro u hu;obtain ⟨n,_,rfl⟩:=List.mem_map.1 hu;rfl
theorem lenF {k:IntKind} {l:List Int} {o:Oper} (h:Gives P E w o (.int .i64 ((l.map (Value.int k)).length:Int)) w):Gives P E w o (.int .i64 (l.length:Int)) w:=by simpa using h
end
end Go.Ecal
namespace Go.Ecal
open Go.RowKit
section
variable {P : Program} {E : Env} {w : World} {dst : Option Tmp} {ty : TypeId} {pos : String} {aft : Array Edge} {gd : Option (Nat × Bool)} {t t2 : TypeId} {x y z : Operand}
theorem run_callX {f:FuncId} {args:Array Operand} {ats:Array TypeId}:(execOp (ev E) ⟨dst,.call { callee:=.value (.func f),args,argTypes:=ats },ty,pos,aft,gd⟩).run P w=(callFunc f (args.map (ev E))).run P w:=by
 simp [execOp,resolve,ev,Deferred.ofValue,invoke]
end
end Go.Ecal
namespace Go.Ecal
open Go.RowKit
section
variable {H : Type} {enc : TypeId × Value → H} {P : Program} {k e : TypeId} {n : Nat} {W : World} {base : Nat} {sp : Nat → Bool} {held : Bool}
end
end Go.Ecal
namespace Go.Ecal
open Go.RowKit
section
variable {P : Program} {ops : Array Oper} {md : Region.Mode}
/-- Does j wait for i,by way of others too? -/
def reachB (md:Region.Mode) (ops:Array Oper):Nat→Nat→Nat→Bool
 | 0,_,_=>false
 | f+1,j,i=>((ops[j]?).map fun o=>o.after.any fun e=>Region.binds md e&&(e.on == i||reachB md ops f e.on i)).getD false
def Closed (md:Region.Mode) (ops:Array Oper) (l:Array Bool):Prop:=∀j oj,ops[j]?=some oj→l.getD j false=true→∀e∈oj.after,Region.binds md e=true→l.getD e.on false=true
theorem reach_closed {l:Array Bool} (hc:Closed md ops l) (i:Nat):∀(f j:Nat),reachB md ops f j i=true→l.getD j false=true→l.getD i false=true
 | 0,j,h,_=>by simp [reachB] at h
 | f+1,j,h,hj=>by
  simp only [reachB] at h
  cases ho:ops[j]? with
  | none=>simp [ho] at h
  | some o =>
   simp only [ho,Option.map_some,Option.getD_some,Array.any_eq_true'] at h
   obtain ⟨e,he,h⟩:=h
   simp only [Bool.and_eq_true,Bool.or_eq_true,beq_iff_eq] at h
   have h1:=hc j o ho hj e he h.1
   rcases h.2 with h2 | h2
   ·rw [h2] at h1;exact h1
   ·exact reach_closed hc i f e.on h2 h1
theorem getD_ne {l:Array Bool} {i j:Nat} (h:i≠j):(l.setIfInBounds i true).getD j false=l.getD j false:=by
 simp only [Array.getD_eq_getD_getElem?,Array.getElem?_setIfInBounds_ne h]
theorem closed_set {l:Array Bool} (hc:Closed md ops l) {k:Nat} (hk:k∈Region.ready md ops l):Closed md ops (l.setIfInBounds k true):=by
 obtain ⟨h0,ok,hok,hall⟩:=mem_ready.1 hk
 intro j oj hj hl e he hb
 have up:l.getD e.on false=true→(l.setIfInBounds k true).getD e.on false=true:=fun h=>by
  by_cases hek:e.on=k
  ·rw [hek]
   have:k<l.size:=by
    rcases Nat.lt_or_ge k l.size with h' | h'
    ·exact h'
    ·simp [Array.getElem?_eq_none h'] at h0
   simp [this]
  ·rw [getD_ne (fun h1=>hek h1.symm)];exact h
 by_cases hjk:k=j
 ·subst hjk
  rw [hok] at hj;cases hj
  exact up (hall e he hb)
 ·rw [getD_ne hjk] at hl
  exact up (hc j oj hj hl e he hb)
variable {Q : Exit → Act → World → Prop} {g : Nat} {T : World → Prop}
end
section
variable {P : Program} {N : Nat} {Q : Exit → Env → World → Prop} {E : Env} {w : World} {ops : Array Oper}
variable {d : Nat} {op : Op} {ty : TypeId} {pos : String} {aft : Array Edge} {j g fuel : Nat} {t b : Bool} {listed : Array Bool} {w1 : World}
theorem closed_none (n:Nat):Closed .any ops (Array.replicate n false):=by
 intro j oj _ hl
 simp [Array.getElem?_replicate] at hl
 split at hl<;>simp at hl
variable {T : World → Prop}
end
end Go.Ecal
