import Derived.Test.YtieaebbnmebbfaaWalksD
set_option linter.unusedVariables false
set_option linter.unusedSimpArgs false
set_option exponentiation.threshold 2000
namespace Go.Proofs.Ytieaebbnmebbfaa
open Go.RowKit Go.Ecal
section
open Ieee
theorem ord_any {s : Bool} {m : Nat} {e : Int} {y : Datum} {b : Int} (hy : IsI y b) (q : Nat) (hq : 0 ≤ e + q) : (Datum.number s m e).order y = some (compare (sg s m * 2 ^ (e + q).toNat) (b * 2 ^ q)) := by
  obtain ⟨t, n, j, rfl, _⟩ := id hy
  simp only [Datum.order, Option.some.injEq]
  have h2 := scale hy (show min e j ≤ j by omega) (q + (-(min e j)).toNat) (by omega)
  refine compare_scale (p := (min e j + ((q + (-(min e j)).toNat : Nat) : Int)).toNat) (q := (-(min e j)).toNat) ?_ ?_
  · rw [signed_sg, Int.mul_assoc, Int.mul_assoc, ← Int.pow_add, ← Int.pow_add]; congr 2; omega
  · rw [h2, Int.pow_add, Int.mul_assoc]
end
def fge (x y : Nat) : Bool := FloatKind.f64.format.order x y == some .gt || FloatKind.f64.format.order x y == some .eq
def fle (x y : Nat) : Bool := FloatKind.f64.format.order x y == some .lt || FloatKind.f64.format.order x y == some .eq
def feq (x y : Nat) : Bool := FloatKind.f64.format.order x y == some .eq
def tr (x : Nat) : Nat := FloatKind.f64.encode ((FloatKind.f64.decode x).integral .zero)
/-- It is a whole number from l to 2^40. -/
def Wh (x : Nat) (l : Int) : Prop := ∃ n, Fw x n ∧ l ≤ n ∧ n ≤ 1099511627776
theorem num_of {x lo hi : Nat} {l h : Int} (hl : Fw lo l) (hh : Fw hi h) (h1 : fge x lo = true) (h2 : fle x hi = true) : ∃ s m e, Ieee.double.read x = .number s m e := by
  have e1 : ∀ y, FloatKind.f64.format.order x y = (Ieee.double.read x).order (Ieee.double.read y) := fun y => rfl
  obtain ⟨s1, m1, j1, r1, _⟩ := hl
  obtain ⟨s2, m2, j2, r2, _⟩ := hh
  simp only [fge, fle, e1, r1, r2] at h1 h2
  cases hx : Ieee.double.read x with
  | number s m e => exact ⟨s, m, e, rfl⟩
  | infinity s => rw [hx] at h1 h2; cases s <;> simp [Ieee.Datum.order] at h1 h2
  | nan s t => rw [hx] at h1; simp [Ieee.Datum.order] at h1
theorem cut_le {s : Bool} {m : Nat} {e : Int} {q : Nat} (hq : 0 ≤ e + q) : ((m <<< e.toNat) / 2 ^ (-e).toNat : Nat) * 2 ^ q ≤ m * 2 ^ (e + q).toNat := by
  have h1 := Nat.div_mul_le_self (m <<< e.toNat) (2 ^ (-e).toNat)
  rw [Nat.shiftLeft_eq] at h1 ⊢
  rcases Int.le_total 0 e with he | he
  · rw [show (-e).toNat = 0 from by omega, Nat.pow_zero, Nat.div_one, Nat.mul_assoc, ← Nat.pow_add]
    exact Nat.le_of_eq (by congr 2; omega)
  · rw [show e.toNat = 0 from by omega, Nat.pow_zero, Nat.mul_one] at h1 ⊢
    have e1 : q = (-e).toNat + (e + q).toNat := by omega
    generalize hr : (e + q).toNat = r at *
    rw [e1, Nat.pow_add, ← Nat.mul_assoc]
    exact Nat.mul_le_mul_right _ h1
theorem whole_wit {x lo hi : Nat} {l : Int} (hl : Fw lo l) (hh : Fw hi 1099511627776) (hlo : -1099511627776 ≤ l) (h1 : fge x lo = true) (h2 : fle x hi = true) :
    (∃ t, Fw (tr x) t ∧ -1099511627776 ≤ t ∧ t ≤ 1099511627776 ∧ (FloatKind.f64.decode x).toInt .zero = some t) ∧ ∀ z t, Fw z t → feq x z = true → Wh x l := by
  obtain ⟨s, m, e, hx⟩ := num_of hl hh h1 h2
  have e1 : ∀ y, FloatKind.f64.format.order x y = (Ieee.double.read x).order (Ieee.double.read y) := fun y => rfl
  simp only [fge, e1, hx] at h1
  simp only [fle, e1, hx] at h2
  have hq : 0 ≤ e + ((-e).toNat : Int) := by omega
  rw [ord_any hl (-e).toNat hq, cmp_ge] at h1
  rw [ord_any hh (-e).toNat hq, cmp_le] at h2
  have h1' := of_decide_eq_true h1; have h2' := of_decide_eq_true h2
  have hp := two_pos (-e).toNat
  constructor
  · have hc := cut_le (s := s) (m := m) hq
    generalize hk : (m <<< e.toNat) / 2 ^ (-e).toNat = k at hc
    have hc' : (k : Int) * 2 ^ (-e).toNat ≤ (m : Int) * 2 ^ (e + ((-e).toNat : Int)).toNat := by exact_mod_cast hc
    have hm : (m : Int) * 2 ^ (e + ((-e).toNat : Int)).toNat ≤ 1099511627776 * 2 ^ (-e).toNat := by
      cases s
      · simpa [sg] using h2'
      · have h3 : l * 2 ^ (-e).toNat ≤ -((m : Int) * 2 ^ (e + ((-e).toNat : Int)).toNat) := by simpa [sg, Int.neg_mul] using h1'
        have h4 : -1099511627776 * 2 ^ (-e).toNat ≤ l * 2 ^ (-e).toNat := Int.mul_le_mul_of_nonneg_right hlo (Int.le_of_lt hp)
        rw [Int.neg_mul] at h4; omega
    have hk2 : (k : Int) ≤ 1099511627776 := by
      have := Int.le_trans hc' hm
      exact Int.le_of_mul_le_mul_right this hp
    have ht : IsI ((FloatKind.f64.decode x).integral .zero) (sg s k) := by
      have hd : FloatKind.f64.decode x = .number s m e := hx
      rw [hd]
      refine ⟨s, _, 0, rfl, 0, by omega, ?_⟩
      rw [cut_zero, hk]; simp
    have hb : (sg s k).natAbs = k := by cases s <;> simp [sg]
    refine ⟨sg s k, write_is ht (by omega), by omega, by omega, ?_⟩
    have hd : FloatKind.f64.decode x = .number s m e := hx
    rw [hd]
    simp only [Ieee.Datum.toInt, Ieee.Datum.integral]
    rw [cut_zero, hk, signed_sg]; simp
  · intro z t hz h3
    simp only [feq, e1, hx] at h3
    rw [ord_any hz (-e).toNat hq, cmp_eq] at h3
    have h3' := of_decide_eq_true h3
    have hF : Fw x t := by unfold Fw; rw [hx]; exact ⟨s, m, e, rfl, (-e).toNat, hq, h3'⟩
    rw [h3'] at h1' h2'
    exact ⟨t, hF, Int.le_of_mul_le_mul_right h1' hp, Int.le_of_mul_le_mul_right h2' hp⟩
theorem r_trunc1 {P : Program} {E : Env} {w : World} {dst : Option Tmp} {ty : TypeId} {pos : String} {aft : Array Edge} {gd : Option (Nat × Bool)} {x : Operand} {f : FuncId} {fn : Func} {ats : Array TypeId} {u : Nat} (hf : P.funcs[f]? = some fn) (hname : (fn.name == "runtime.NumGoroutine") = false) (hb : fn.body.isNone = true) (hn : Extern.findNext fn = none) (he : Extern.find fn = some truncEntry)
    (hx : ev E x = .float .f64 u) (hu : ∃ s m e, Ieee.double.read u = .number s m e) :
    Gives P E w ⟨dst, .call { callee := .value (.func f), args := #[x], argTypes := ats }, ty, pos, aft, gd⟩ (.float .f64 (tr u)) w := by
  have h := run_callFunc_extern (P := P) (args := #[.float .f64 u]) (w := w) hf hname hb hn he
  have hm : (#[x] : Array Operand).map (ev E) = #[.float .f64 u] := by simp [hx]
  simp only [Gives]
  rw [run_callX, hm, h]
  obtain ⟨s, m, e, hd⟩ := hu
  have hd' : FloatKind.f64.decode u = .number s m e := hd
  have : (truncEntry #[.float .f64 u]).run P w = .ok (.float .f64 (tr u)) w := by
    unfold tr
    change Sem.run P (match FloatKind.f64.decode u with
      | .nan s t => if FloatKind.f64.format.quiet t = t then pure (.float .f64 u) else do
        let kept ← choose (.extern "math.Floor,Ceil,Trunc,RoundToEven.signallingNaN kept" 2)
        pure (.float .f64 (if kept == 1 then u else FloatKind.f64.encode (.nan s (FloatKind.f64.format.quiet t))))
      | d => pure (Value.float .f64 (FloatKind.f64.encode (d.integral .zero)))) w = _
    rw [hd']; rfl
  rw [this]; rfl
section
variable {P : Program} {E : Env} {w : World} {dst : Option Tmp} {ty t t2 : TypeId} {pos : String} {aft : Array Edge} {gd : Option (Nat × Bool)} {x y : Operand} {u v : Nat} {a : Int}
theorem r_fleq0 (hx : ev E x = .float .f64 u) (hy : ev E y = .float .f64 v) : Gives P E w ⟨dst, .binOp .leq t x y t2, ty, pos, aft, gd⟩ (.bool (fle u v)) w := by
  simp only [Gives, execOp, hx, hy]; rfl
theorem r_fgeq0 (hx : ev E x = .float .f64 u) (hy : ev E y = .float .f64 v) : Gives P E w ⟨dst, .binOp .geq t x y t2, ty, pos, aft, gd⟩ (.bool (fge u v)) w := by
  simp only [Gives, execOp, hx, hy]; rfl
theorem r_feql0 (hx : ev E x = .float .f64 u) (hy : ev E y = .float .f64 v) : Gives P E w ⟨dst, .binOp .eql t x y t2, ty, pos, aft, gd⟩ (.bool (feq u v)) w := by
  simp only [Gives, execOp, hx, hy]; rfl
theorem r_f2i0 {src dt : TypeId} (hx : ev E x = .float .f64 u) (ht : (FloatKind.f64.decode u).toInt .zero = some a) (hr : -9223372036854775808 ≤ a ∧ a ≤ 9223372036854775807) (hs : (P.underlying src).isSome = true) (hd : P.underlying dt = some (.int .i64)) : Gives P E w ⟨dst, .convert src dt x, ty, pos, aft, gd⟩ (.int .i64 a) w := by
  have hv : floatToIntVal .f64 u .i64 = some a := by
    unfold floatToIntVal
    rw [ht]
    have : IntKind.i64.min ≤ a ∧ a ≤ IntKind.i64.max := hr
    show (if IntKind.i64.min ≤ a ∧ a ≤ IntKind.i64.max then some a else none) = some a
    rw [if_pos this]
  have h := run_convert_float_int (P := P) w src dt .f64 .i64 u a hs hd hv
  simp only [Gives, execOp, hx]
  simp [h]
theorem run_callV {f : FuncId} {fn : Func} {c : Operand} {args : Array Operand} {ats : Array TypeId} (hc : ev E c = .func (.func f) #[] #[]) (hf : P.funcs[f]? = some fn) (hb : fn.body.isNone = false) (hnm : (fn.name == "runtime.NumGoroutine") = false) :
    (execOp (ev E) ⟨dst, .call { callee := .value c, args, argTypes := ats }, ty, pos, aft, gd⟩).run P w = .ok (.enter f (args.map (ev E))) w := by
  have h1 : fn.name ≠ "runtime.NumGoroutine" := by simpa using hnm
  have h2 : fn.body ≠ none := by intro h; rw [h] at hb; cases hb
  simp [execOp, resolve, hc, Deferred.ofValue, invoke, callFunc, hf, h1, h2]
variable {N d j : Nat} {ops : Array Oper} {Q : Exit → Env → World → Prop} {L : List Oper} {tt b : Bool}
theorem EL_retv {f : FuncId} {fn : Func} {c : Operand} {args : Array Operand} {ats : Array TypeId} {R : Value → World → Prop} (l : List Value) (hd : Nat.blt d N = true) (hcv : ev E c = .func (.func f) #[] #[]) (hf : P.funcs[f]? = some fn) (hb : fn.body.isNone = false) (hnm : (fn.name == "runtime.NumGoroutine") = false)
    (ha : args.toList.map (ev E) = l) (hc : Ret P f l w R) (h : ∀ v w', R v w' → EL P N ops Q L (upd E d v) w') :
    EL P N ops Q (⟨some d, .call { callee := .value c, args, argTypes := ats }, ty, pos, aft, none⟩ :: L) E w := by
  subst ha
  refine EL_call (f := f) (args := args.map (ev E)) (R := fun e w' => ∃ v, e = .returned v ∧ R v w') hd (run_callV hcv hf hb hnm) ?_ (fun e w' ⟨v, he, _⟩ => ⟨v, he⟩) (fun v w' ⟨v', he, hr⟩ => ?_)
  · have : args.map (ev E) = (args.toList.map (ev E)).toArray := by rw [← Array.toList_map, Array.toArray_toList]
    rw [this]; exact hc
  · injection he with he; subst he; exact h _ _ hr
theorem EL_gretv (e : Nat) (hdst : (ops[j]?).bind (·.dst) = some e) (he : E e = .bool b) (heN : Nat.blt e N = true) (hb' : (b == tt) = true) {f : FuncId} {fn : Func} {c : Operand} {args : Array Operand} {ats : Array TypeId} {R : Value → World → Prop} (l : List Value) (hd : Nat.blt d N = true) (hcv : ev E c = .func (.func f) #[] #[]) (hf : P.funcs[f]? = some fn) (hb : fn.body.isNone = false) (hnm : (fn.name == "runtime.NumGoroutine") = false)
    (ha : args.toList.map (ev E) = l) (hc : Ret P f l w R) (h : ∀ v w', R v w' → EL P N ops Q L (upd E d v) w') :
    EL P N ops Q (⟨some d, .call { callee := .value c, args, argTypes := ats }, ty, pos, aft, some (j, tt)⟩ :: L) E w := by
  subst ha
  refine EL_gcall e hdst he heN hb' (f := f) (args := args.map (ev E)) (R := fun e w' => ∃ v, e = .returned v ∧ R v w') hd (run_callV hcv hf hb hnm) ?_ (fun e w' ⟨v, he, _⟩ => ⟨v, he⟩) (fun v w' ⟨v', he, hr⟩ => ?_)
  · have : args.map (ev E) = (args.toList.map (ev E)).toArray := by rw [← Array.toList_map, Array.toArray_toList]
    rw [this]; exact hc
  · injection he with he; subst he; exact h _ _ hr
end

set_option maxRecDepth 100000 in
set_option maxHeartbeats 4000000 in
theorem trunc_n (x : Nat) (w : World) (hu : ∃ s m e, Ieee.double.read x = .number s m e) : Ret Try.prog 24 [.float .f64 x] w fun v w' => v = .float .f64 (tr x) ∧ w = w' := by
  refine ret_E Try.func24 rfl Try.ntmps24 (by simp) ?_
  refine EC_seq ?_
  refine EC_reg ?_
  refine EL_val (.float .f64 0) w rfl (r_assign rfl) ?_
  refine EL_nil ?_
  refine thn_n ?_
  refine EC_seq ?_
  refine EC_cond_true rfl ?_
  refine EC_seq ?_
  refine EC_reg ?_
  refine EL_val (.float .f64 x) w rfl (r_move rfl) ?_
  refine EL_val (.float .f64 (tr x)) w rfl (r_trunc1 Try.func25 nm25 (by kernel_rfl) (by kernel_rfl) (by kernel_rfl) rfl hu) ?_
  refine EL_val (.float .f64 (tr x)) w rfl (r_assign rfl) ?_
  refine EL_nil ?_
  refine thn_n ?_
  refine EC_ret ?_
  refine thn_r ?_
  refine fin1 Try.results24 (show _ = .float .f64 (tr x) from rfl) ⟨_, rfl, ?_⟩
  exact ⟨rfl, rfl⟩

set_option maxRecDepth 100000 in
set_option maxHeartbeats 4000000 in
theorem whole_no (x lo : Nat) (l : Int) (w : World) (Fl : Fw lo l) (hlo : -1099511627776 ≤ l) (hn : ¬ Wh x l) : Ret Try.prog 23 [.float .f64 x, .float .f64 lo] w fun v w' => v = .bool false ∧ w = w' := by
  refine ret_E Try.func23 rfl Try.ntmps23 (by simp) ?_
  refine EC_seq ?_
  refine EC_reg ?_
  refine EL_val (.bool false) w rfl (r_assign rfl) ?_
  refine EL_nil ?_
  refine thn_n ?_
  refine EC_seq ?_
  refine EC_reg ?_
  refine EL_val (.float .f64 x) w rfl (r_move rfl) ?_
  refine EL_val (.float .f64 lo) w rfl (r_move rfl) ?_
  refine EL_val (.bool (fge x lo)) w rfl (r_fgeq0 rfl rfl) ?_
  refine EL_val (.bool (fge x lo)) w rfl (r_move rfl) ?_
  rcases Bool.eq_false_or_eq_true (fge x lo) with q11 | q11
  · refine EL_gval 8 rfl (by exact congrArg Value.bool q11) rfl rfl (.float .f64 x) w rfl (r_move rfl) ?_
    refine EL_gval 8 rfl (by exact congrArg Value.bool q11) rfl rfl (.bool (fle x 4787326403894837248)) w rfl (r_fleq0 rfl rfl) ?_
    refine EL_val (.bool (fle x 4787326403894837248)) w rfl (r_pickT (by exact congrArg Value.bool q11) rfl) ?_
    refine EL_val (.bool (fle x 4787326403894837248)) w rfl (r_move rfl) ?_
    refine EL_gite 12 rfl rfl rfl (.float .f64 x) rfl (fun g12 => r_move rfl) ?_
    refine EL_gite 12 rfl rfl rfl (.float .f64 x) rfl (fun g13 => r_move rfl) ?_
    rcases Bool.eq_false_or_eq_true (fle x 4787326403894837248) with q14 | q14
    · obtain ⟨⟨t9, Ft9, tb1, tb2, ht9⟩, hw9⟩ := whole_wit (hi := 4787326403894837248) Fl (fw_const (by decide +kernel) (by decide)) hlo q11 q14
      refine EL_gret 12 rfl (by exact congrArg Value.bool q14) rfl rfl [.float .f64 x] rfl Try.func24 rfl nm24 (by exact args1 (by exact cond_of (show ((fle x 4787326403894837248) == true) = true from by rw [q14]; rfl) rfl)) (trunc_n x w (num_of Fl (fw_const (x := 4787326403894837248) (n := 1099511627776) (by decide +kernel) (by decide)) q11 q14)) ?_
      rintro _ _ ⟨rfl, rfl⟩
      refine EL_gval 12 rfl (by exact congrArg Value.bool q14) rfl rfl (.bool (feq x (tr x))) w rfl (r_feql0 (by exact cond_of (show ((fle x 4787326403894837248) == true) = true from by rw [q14]; rfl) rfl) rfl) ?_
      refine EL_val (.bool (feq x (tr x))) w rfl (r_pickT (by exact congrArg Value.bool q14) rfl) ?_
      refine EL_val (.bool (feq x (tr x))) w rfl (r_assign rfl) ?_
      refine EL_nil ?_
      refine thn_n ?_
      refine EC_ret ?_
      refine fin1 Try.results23 (show _ = .bool (feq x (tr x)) from rfl) ⟨_, rfl, ?_⟩
      exact ⟨congrArg Value.bool (by cases hc : feq x (tr x) with
    | false => rfl
    | true => exact absurd (hw9 _ _ Ft9 hc) hn), rfl⟩
    · refine EL_pass 12 rfl (by exact congrArg Value.bool q14) rfl rfl rfl ?_
      refine EL_pass 12 rfl (by exact congrArg Value.bool q14) rfl rfl rfl ?_
      refine EL_val (.bool false) w rfl (r_pickF (by exact congrArg Value.bool q14) rfl) ?_
      refine EL_val (.bool false) w rfl (r_assign rfl) ?_
      refine EL_nil ?_
      refine thn_n ?_
      refine EC_ret ?_
      refine fin1 Try.results23 (show _ = .bool false from rfl) ⟨_, rfl, ?_⟩
      exact ⟨rfl, rfl⟩
  · refine EL_pass 8 rfl (by exact congrArg Value.bool q11) rfl rfl rfl ?_
    refine EL_pass 8 rfl (by exact congrArg Value.bool q11) rfl rfl rfl ?_
    refine EL_val (.bool false) w rfl (r_pickF (by exact congrArg Value.bool q11) rfl) ?_
    refine EL_val (.bool false) w rfl (r_move rfl) ?_
    refine EL_pass 12 rfl rfl rfl rfl rfl ?_
    refine EL_pass 12 rfl rfl rfl rfl rfl ?_
    refine EL_pass 12 rfl rfl rfl rfl rfl ?_
    refine EL_pass 12 rfl rfl rfl rfl rfl ?_
    refine EL_val (.bool false) w rfl (r_pickF rfl rfl) ?_
    refine EL_val (.bool false) w rfl (r_assign rfl) ?_
    refine EL_nil ?_
    refine thn_n ?_
    refine EC_ret ?_
    refine fin1 Try.results23 (show _ = .bool false from rfl) ⟨_, rfl, ?_⟩
    exact ⟨rfl, rfl⟩

set_option maxRecDepth 100000 in
set_option maxHeartbeats 4000000 in
theorem wl_no (x : Nat) (w : World) (hn : ¬ Wh x 0) : Ret Try.prog 20 [.float .f64 x] w fun v w' => v = .bool false ∧ w = w' := by
  refine ret_E Try.func20 rfl Try.ntmps20 (by simp) ?_
  refine EC_seq ?_
  refine EC_reg ?_
  refine EL_val (.bool false) w rfl (r_assign rfl) ?_
  refine EL_nil ?_
  refine thn_n ?_
  refine EC_seq ?_
  refine EC_reg ?_
  refine EL_val (.float .f64 x) w rfl (r_move rfl) ?_
  refine EL_val (.bool (fge x 0)) w rfl (r_fgeq0 rfl rfl) ?_
  refine EL_val (.bool (fge x 0)) w rfl (r_move rfl) ?_
  rcases Bool.eq_false_or_eq_true (fge x 0) with q11 | q11
  · refine EL_gval 5 rfl (by exact congrArg Value.bool q11) rfl rfl (.float .f64 x) w rfl (r_move rfl) ?_
    refine EL_gval 5 rfl (by exact congrArg Value.bool q11) rfl rfl (.bool (fle x 4787326403894837248)) w rfl (r_fleq0 rfl rfl) ?_
    refine EL_val (.bool (fle x 4787326403894837248)) w rfl (r_pickT (by exact congrArg Value.bool q11) rfl) ?_
    refine EL_val (.bool (fle x 4787326403894837248)) w rfl (r_move rfl) ?_
    rcases Bool.eq_false_or_eq_true (fle x 4787326403894837248) with q12 | q12
    · refine EL_gval 9 rfl (by exact congrArg Value.bool q12) rfl rfl (.float .f64 x) w rfl (r_move rfl) ?_
      refine EL_gval 9 rfl (by exact congrArg Value.bool q12) rfl rfl (.float .f64 x) w rfl (r_move rfl) ?_
      obtain ⟨⟨t9, Ft9, tb1, tb2, ht9⟩, hw9⟩ := whole_wit (hi := 4787326403894837248) (fw_const (x := 0) (n := 0) (by decide +kernel) (by decide)) (fw_const (by decide +kernel) (by decide)) (by decide) q11 q12
      refine EL_gval 9 rfl (by exact congrArg Value.bool q12) rfl rfl (.int .i64 t9) w rfl (r_f2i0 rfl ht9 (by omega) (by rw [Try.underlying34]; rfl) Try.underlying3) ?_
      refine EL_gval 9 rfl (by exact congrArg Value.bool q12) rfl rfl (.float .f64 (fw t9)) w rfl (r_i2f rfl (by rw [Try.underlying3]; rfl) Try.underlying34) ?_
      refine EL_gval 9 rfl (by exact congrArg Value.bool q12) rfl rfl (.bool (feq x (fw t9))) w rfl (r_feql0 rfl rfl) ?_
      refine EL_val (.bool (feq x (fw t9))) w rfl (r_pickT (by exact congrArg Value.bool q12) rfl) ?_
      refine EL_val (.bool (feq x (fw t9))) w rfl (r_assign rfl) ?_
      refine EL_nil ?_
      refine thn_n ?_
      refine EC_ret ?_
      refine fin1 Try.results20 (show _ = .bool (feq x (fw t9)) from rfl) ⟨_, rfl, ?_⟩
      exact ⟨congrArg Value.bool (by cases hc : feq x (fw t9) with
    | false => rfl
    | true => exact absurd (hw9 _ _ (fw_is (by omega)) hc) hn), rfl⟩
    · refine EL_pass 9 rfl (by exact congrArg Value.bool q12) rfl rfl rfl ?_
      refine EL_pass 9 rfl (by exact congrArg Value.bool q12) rfl rfl rfl ?_
      refine EL_pass 9 rfl (by exact congrArg Value.bool q12) rfl rfl rfl ?_
      refine EL_pass 9 rfl (by exact congrArg Value.bool q12) rfl rfl rfl ?_
      refine EL_pass 9 rfl (by exact congrArg Value.bool q12) rfl rfl rfl ?_
      refine EL_val (.bool false) w rfl (r_pickF (by exact congrArg Value.bool q12) rfl) ?_
      refine EL_val (.bool false) w rfl (r_assign rfl) ?_
      refine EL_nil ?_
      refine thn_n ?_
      refine EC_ret ?_
      refine fin1 Try.results20 (show _ = .bool false from rfl) ⟨_, rfl, ?_⟩
      exact ⟨rfl, rfl⟩
  · refine EL_pass 5 rfl (by exact congrArg Value.bool q11) rfl rfl rfl ?_
    refine EL_pass 5 rfl (by exact congrArg Value.bool q11) rfl rfl rfl ?_
    refine EL_val (.bool false) w rfl (r_pickF (by exact congrArg Value.bool q11) rfl) ?_
    refine EL_val (.bool false) w rfl (r_move rfl) ?_
    refine EL_pass 9 rfl rfl rfl rfl rfl ?_
    refine EL_pass 9 rfl rfl rfl rfl rfl ?_
    refine EL_pass 9 rfl rfl rfl rfl rfl ?_
    refine EL_pass 9 rfl rfl rfl rfl rfl ?_
    refine EL_pass 9 rfl rfl rfl rfl rfl ?_
    refine EL_val (.bool false) w rfl (r_pickF rfl rfl) ?_
    refine EL_val (.bool false) w rfl (r_assign rfl) ?_
    refine EL_nil ?_
    refine thn_n ?_
    refine EC_ret ?_
    refine fin1 Try.results20 (show _ = .bool false from rfl) ⟨_, rfl, ?_⟩
    exact ⟨rfl, rfl⟩

set_option maxRecDepth 100000 in
set_option maxHeartbeats 4000000 in
theorem wl_yes (x : Nat) (m : Int) (w : World) (Fx : Fw x m) (hm : 0 ≤ m ∧ m ≤ 1099511627776) : Ret Try.prog 20 [.float .f64 x] w fun v w' => v = .bool true ∧ w = w' := by
  refine ret_E Try.func20 rfl Try.ntmps20 (by simp) ?_
  refine EC_seq ?_
  refine EC_reg ?_
  refine EL_val (.bool false) w rfl (r_assign rfl) ?_
  refine EL_nil ?_
  refine thn_n ?_
  refine EC_seq ?_
  refine EC_reg ?_
  refine EL_val (.float .f64 x) w rfl (r_move rfl) ?_
  refine EL_val (.bool true) w rfl (r_dec (show (decide ((0 : Int) ≤ m)) = true from by first | (simp; done) | (simp; omega)) (r_fgeq rfl rfl Fx (fw_const (x := 0) (n := 0) (by decide +kernel) (by decide)))) ?_
  refine EL_val (.bool true) w rfl (r_move rfl) ?_
  refine EL_gval 5 rfl rfl rfl rfl (.float .f64 x) w rfl (r_move rfl) ?_
  refine EL_gval 5 rfl rfl rfl rfl (.bool true) w rfl (r_dec (show (decide (m ≤ (1099511627776 : Int))) = true from by first | (simp; done) | (simp; omega)) (r_fleq rfl rfl Fx (fw_const (x := 4787326403894837248) (n := 1099511627776) (by decide +kernel) (by decide)))) ?_
  refine EL_val (.bool true) w rfl (r_pickT rfl rfl) ?_
  refine EL_val (.bool true) w rfl (r_move rfl) ?_
  refine EL_gval 9 rfl rfl rfl rfl (.float .f64 x) w rfl (r_move rfl) ?_
  refine EL_gval 9 rfl rfl rfl rfl (.float .f64 x) w rfl (r_move rfl) ?_
  refine EL_gval 9 rfl rfl rfl rfl (.int .i64 m) w rfl (r_f2i rfl Fx (by omega) (by rw [Try.underlying34]; rfl) Try.underlying3) ?_
  refine EL_gval 9 rfl rfl rfl rfl (.float .f64 (fw m)) w rfl (r_i2f rfl (by rw [Try.underlying3]; rfl) Try.underlying34) ?_
  refine EL_gval 9 rfl rfl rfl rfl (.bool true) w rfl (r_dec (show (decide (m = m)) = true from by first | (simp; done) | (simp; omega)) (r_feql rfl rfl Fx (fw_is (n := m) (by omega)))) ?_
  refine EL_val (.bool true) w rfl (r_pickT rfl rfl) ?_
  refine EL_val (.bool true) w rfl (r_assign rfl) ?_
  refine EL_nil ?_
  refine thn_n ?_
  refine EC_ret ?_
  refine fin1 Try.results20 (show _ = .bool true from rfl) ⟨_, rfl, ?_⟩
  exact ⟨rfl, rfl⟩

end Go.Proofs.Ytieaebbnmebbfaa
