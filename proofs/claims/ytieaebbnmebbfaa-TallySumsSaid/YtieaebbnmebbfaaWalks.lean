import Derived.Test.YtieaebbnmebbfaaFloat
import Derived.Test.YtieaebbnmebbfaaProg
set_option linter.unusedVariables false
set_option linter.unusedSimpArgs false
set_option exponentiation.threshold 2000
namespace Go.Proofs.Ytieaebbnmebbfaa
open Go.RowKit Go.Ecal
theorem nm3 : (Try.f3.name == "runtime.NumGoroutine") = false := by kernel_rfl
theorem nm4 : (Try.f4.name == "runtime.NumGoroutine") = false := by kernel_rfl
theorem nm5 : (Try.f5.name == "runtime.NumGoroutine") = false := by kernel_rfl
theorem nm6 : (Try.f6.name == "runtime.NumGoroutine") = false := by kernel_rfl
theorem nm7 : (Try.f7.name == "runtime.NumGoroutine") = false := by kernel_rfl
theorem nm8 : (Try.f8.name == "runtime.NumGoroutine") = false := by kernel_rfl
theorem nm9 : (Try.f9.name == "runtime.NumGoroutine") = false := by kernel_rfl
theorem nm10 : (Try.f10.name == "runtime.NumGoroutine") = false := by kernel_rfl
theorem nm11 : (Try.f11.name == "runtime.NumGoroutine") = false := by kernel_rfl
theorem nm12 : (Try.f12.name == "runtime.NumGoroutine") = false := by kernel_rfl
theorem nm13 : (Try.f13.name == "runtime.NumGoroutine") = false := by kernel_rfl
theorem nm14 : (Try.f14.name == "runtime.NumGoroutine") = false := by kernel_rfl
theorem nm15 : (Try.f15.name == "runtime.NumGoroutine") = false := by kernel_rfl
theorem nm16 : (Try.f16.name == "runtime.NumGoroutine") = false := by kernel_rfl
theorem nm17 : (Try.f17.name == "runtime.NumGoroutine") = false := by kernel_rfl
theorem nm18 : (Try.f18.name == "runtime.NumGoroutine") = false := by kernel_rfl
theorem nm19 : (Try.f19.name == "runtime.NumGoroutine") = false := by kernel_rfl
theorem nm20 : (Try.f20.name == "runtime.NumGoroutine") = false := by kernel_rfl
theorem nm21 : (Try.f21.name == "runtime.NumGoroutine") = false := by kernel_rfl
theorem nm22 : (Try.f22.name == "runtime.NumGoroutine") = false := by kernel_rfl
theorem nm23 : (Try.f23.name == "runtime.NumGoroutine") = false := by kernel_rfl
theorem nm24 : (Try.f24.name == "runtime.NumGoroutine") = false := by kernel_rfl
theorem nm25 : (Try.f25.name == "runtime.NumGoroutine") = false := by kernel_rfl
theorem nm26 : (Try.f26.name == "runtime.NumGoroutine") = false := by kernel_rfl
theorem nm27 : (Try.f27.name == "runtime.NumGoroutine") = false := by kernel_rfl
theorem nm28 : (Try.f28.name == "runtime.NumGoroutine") = false := by kernel_rfl
theorem nm29 : (Try.f29.name == "runtime.NumGoroutine") = false := by kernel_rfl
theorem nm30 : (Try.f30.name == "runtime.NumGoroutine") = false := by kernel_rfl
theorem trunc_is {x : Nat} {n : Int} (hx : Fw x n) (h : n.natAbs < 9007199254740992) : ∃ z, z = FloatKind.f64.encode ((FloatKind.f64.decode x).integral .zero) ∧ Fw z n :=
  ⟨_, rfl, write_is (integral_is hx).1 h⟩
def truncEntry : Array Value → Sem Value := Extern.MathFloor.toIntegral "math.archTrunc" .zero
theorem r_trunc {P : Program} {E : Env} {w : World} {dst : Option Tmp} {ty : TypeId} {pos : String} {aft : Array Edge} {gd : Option (Nat × Bool)} {x : Operand} {f : FuncId} {fn : Func} {ats : Array TypeId} {u z : Nat} {n : Int} (hf : P.funcs[f]? = some fn) (hname : (fn.name == "runtime.NumGoroutine") = false) (hb : fn.body.isNone = true) (hn : Extern.findNext fn = none) (he : Extern.find fn = some truncEntry)
    (hx : ev E x = .float .f64 u) (hu : Fw u n) (hz : z = FloatKind.f64.encode ((FloatKind.f64.decode u).integral .zero)) :
    Gives P E w ⟨dst, .call { callee := .value (.func f), args := #[x], argTypes := ats }, ty, pos, aft, gd⟩ (.float .f64 z) w := by
  have h := run_callFunc_extern (P := P) (args := #[.float .f64 u]) (w := w) hf hname hb hn he
  have hm : (#[x] : Array Operand).map (ev E) = #[.float .f64 u] := by simp [hx]
  simp only [Gives]
  rw [run_callX, hm, h]
  obtain ⟨s, m, e, hd, _⟩ := hu
  have hd' : FloatKind.f64.decode u = .number s m e := hd
  have : (truncEntry #[.float .f64 u]).run P w = .ok (.float .f64 z) w := by
    rw [hz]
    change Sem.run P (match FloatKind.f64.decode u with
      | .nan s t => if FloatKind.f64.format.quiet t = t then pure (.float .f64 u) else do
        let kept ← choose (.extern "math.Floor,Ceil,Trunc,RoundToEven.signallingNaN kept" 2)
        pure (.float .f64 (if kept == 1 then u else FloatKind.f64.encode (.nan s (FloatKind.f64.format.quiet t))))
      | d => pure (Value.float .f64 (FloatKind.f64.encode (d.integral .zero)))) w = _
    rw [hd']; rfl
  rw [this]; rfl

set_option maxRecDepth 100000 in
set_option maxHeartbeats 4000000 in
theorem trunc_c (x : Nat) (n : Int) (w : World) (Fx : Fw x n) (bn : n.natAbs < 9007199254740992) : Ret Try.prog 24 [.float .f64 x] w fun v w' => ∃ z, v = .float .f64 z ∧ Fw z n ∧ w = w' := by
  refine ret_E Try.func24 rfl Try.ntmps24 (by simp) ?_
  refine EC_seq ?_
  refine EC_reg ?_
  refine EL_val (.float .f64 0) w rfl (r_assign rfl) ?_
  refine EL_nil ?_
  refine thn_n ?_
  refine EC_seq ?_
  refine EC_cond_true rfl ?_
  refine EC_seq ?_
  refine EC_reg ?_
  refine EL_val (.float .f64 x) w rfl (r_move rfl) ?_
  obtain ⟨tz, htz, Ftz⟩ := trunc_is Fx (by omega)
  refine EL_val (.float .f64 tz) w rfl (r_trunc Try.func25 nm25 (by kernel_rfl) (by kernel_rfl) (by kernel_rfl) rfl Fx htz) ?_
  refine EL_val (.float .f64 tz) w rfl (r_assign rfl) ?_
  refine EL_nil ?_
  refine thn_n ?_
  refine EC_ret ?_
  refine thn_r ?_
  refine fin1 Try.results24 (show _ = .float .f64 tz from rfl) ⟨_, rfl, ?_⟩
  exact ⟨_, rfl, Ftz, rfl⟩

set_option maxRecDepth 100000 in
set_option maxHeartbeats 4000000 in
theorem whole_c (x : Nat) (n : Int) (lo : Nat) (l : Int) (w : World) (Fx : Fw x n) (Fl : Fw lo l) (bn : n.natAbs < 9007199254740992) : Ret Try.prog 23 [.float .f64 x, .float .f64 lo] w fun v w' => v = .bool (decide (l ≤ n ∧ n ≤ 1099511627776)) ∧ w = w' := by
  refine ret_E Try.func23 rfl Try.ntmps23 (by simp) ?_
  refine EC_seq ?_
  refine EC_reg ?_
  refine EL_val (.bool false) w rfl (r_assign rfl) ?_
  refine EL_nil ?_
  refine thn_n ?_
  refine EC_seq ?_
  refine EC_reg ?_
  refine EL_val (.float .f64 x) w rfl (r_move rfl) ?_
  refine EL_val (.float .f64 lo) w rfl (r_move rfl) ?_
  refine EL_val (.bool (decide (l ≤ n))) w rfl (r_fgeq rfl rfl Fx Fl) ?_
  refine EL_val (.bool (decide (l ≤ n))) w rfl (r_move rfl) ?_
  rcases Bool.eq_false_or_eq_true (decide (l ≤ n)) with q11 | q11
  · have q11' : l ≤ n := of_decide_eq_true q11
    refine EL_gval 8 rfl (by exact congrArg Value.bool q11) rfl rfl (.float .f64 x) w rfl (r_move rfl) ?_
    refine EL_gval 8 rfl (by exact congrArg Value.bool q11) rfl rfl (.bool (decide (n ≤ (1099511627776 : Int)))) w rfl (r_fleq rfl rfl Fx (fw_const (x := 4787326403894837248) (n := 1099511627776) (by decide +kernel) (by decide))) ?_
    refine EL_val (.bool (decide (n ≤ (1099511627776 : Int)))) w rfl (r_pickT (by exact congrArg Value.bool q11) rfl) ?_
    refine EL_val (.bool (decide (n ≤ (1099511627776 : Int)))) w rfl (r_move rfl) ?_
    refine EL_gite 12 rfl rfl rfl (.float .f64 x) rfl (fun g12 => r_move rfl) ?_
    refine EL_gite 12 rfl rfl rfl (.float .f64 x) rfl (fun g13 => r_move rfl) ?_
    rcases Bool.eq_false_or_eq_true (decide (n ≤ (1099511627776 : Int))) with q14 | q14
    · have q14' : n ≤ (1099511627776 : Int) := of_decide_eq_true q14
      refine EL_gret 12 rfl (by exact congrArg Value.bool q14) rfl rfl [.float .f64 x] rfl Try.func24 rfl nm24 (by exact args1 (by exact cond_of (show ((decide (n ≤ (1099511627776 : Int))) == true) = true from by rw [q14]; rfl) rfl)) (trunc_c x n w Fx (by omega)) ?_
      rintro _ _ ⟨z15, rfl, Fz16, rfl⟩
      refine EL_gval 12 rfl (by exact congrArg Value.bool q14) rfl rfl (.bool (decide (n = n))) w rfl (r_feql (by exact cond_of (show ((decide (n ≤ (1099511627776 : Int))) == true) = true from by rw [q14]; rfl) rfl) rfl Fx Fz16) ?_
      refine EL_val (.bool (decide (n = n))) w rfl (r_pickT (by exact congrArg Value.bool q14) rfl) ?_
      refine EL_val (.bool (decide (n = n))) w rfl (r_assign rfl) ?_
      refine EL_nil ?_
      refine thn_n ?_
      refine EC_ret ?_
      refine fin1 Try.results23 (show _ = .bool (decide (n = n)) from rfl) ⟨_, rfl, ?_⟩
      exact ⟨congrArg Value.bool (by apply decide_eq_decide.2; omega), rfl⟩
    · have q14' : ¬ (n ≤ (1099511627776 : Int)) := of_decide_eq_false q14
      refine EL_pass 12 rfl (by exact congrArg Value.bool q14) rfl rfl rfl ?_
      refine EL_pass 12 rfl (by exact congrArg Value.bool q14) rfl rfl rfl ?_
      refine EL_val (.bool false) w rfl (r_pickF (by exact congrArg Value.bool q14) rfl) ?_
      refine EL_val (.bool false) w rfl (r_assign rfl) ?_
      refine EL_nil ?_
      refine thn_n ?_
      refine EC_ret ?_
      refine fin1 Try.results23 (show _ = .bool false from rfl) ⟨_, rfl, ?_⟩
      exact ⟨congrArg Value.bool (decide_eq_false (by omega)).symm, rfl⟩
  · have q11' : ¬ (l ≤ n) := of_decide_eq_false q11
    refine EL_pass 8 rfl (by exact congrArg Value.bool q11) rfl rfl rfl ?_
    refine EL_pass 8 rfl (by exact congrArg Value.bool q11) rfl rfl rfl ?_
    refine EL_val (.bool false) w rfl (r_pickF (by exact congrArg Value.bool q11) rfl) ?_
    refine EL_val (.bool false) w rfl (r_move rfl) ?_
    refine EL_pass 12 rfl rfl rfl rfl rfl ?_
    refine EL_pass 12 rfl rfl rfl rfl rfl ?_
    refine EL_pass 12 rfl rfl rfl rfl rfl ?_
    refine EL_pass 12 rfl rfl rfl rfl rfl ?_
    refine EL_val (.bool false) w rfl (r_pickF rfl rfl) ?_
    refine EL_val (.bool false) w rfl (r_assign rfl) ?_
    refine EL_nil ?_
    refine thn_n ?_
    refine EC_ret ?_
    refine fin1 Try.results23 (show _ = .bool false from rfl) ⟨_, rfl, ?_⟩
    exact ⟨congrArg Value.bool (decide_eq_false (by omega)).symm, rfl⟩

set_option maxRecDepth 100000 in
set_option maxHeartbeats 4000000 in
theorem tally_c (x : Nat) (a : Int) (y : Nat) (b : Int) (w : World) (Fx : Fw x a) (Fy : Fw y b) (ba : a.natAbs < 9007199254740992) (bb : b.natAbs < 9007199254740992) : Ret Try.prog 21 [.complex .f64 x y] w fun v w' => v = .bool (decide ((0 : Int) ≤ a ∧ a ≤ 1099511627776 ∧ (0 : Int) ≤ b ∧ b ≤ 1099511627776)) ∧ w = w' := by
  refine ret_E Try.func21 rfl Try.ntmps21 (by simp) ?_
  refine EC_seq ?_
  refine EC_reg ?_
  refine EL_val (.bool false) w rfl (r_assign rfl) ?_
  refine EL_nil ?_
  refine thn_n ?_
  refine EC_seq ?_
  refine EC_reg ?_
  refine EL_val (.complex .f64 x y) w rfl (r_move rfl) ?_
  refine EL_val (.float .f64 x) w rfl (r_real rfl) ?_
  refine EL_ret [.float .f64 x, .float .f64 0] rfl Try.func23 rfl nm23 rfl (whole_c x a 0 (0 : Int) w Fx (fw_const (x := 0) (n := 0) (by decide +kernel) (by decide)) (by omega)) ?_
  rintro _ _ ⟨rfl, rfl⟩
  refine EL_val (.bool (decide ((0 : Int) ≤ a ∧ a ≤ 1099511627776))) w rfl (r_move rfl) ?_
  refine EL_gite 6 rfl rfl rfl (.complex .f64 x y) rfl (fun g11 => r_move rfl) ?_
  refine EL_gite 6 rfl rfl rfl (.float .f64 y) rfl (fun g12 => r_imag (cond_of g12 rfl)) ?_
  rcases Bool.eq_false_or_eq_true (decide ((0 : Int) ≤ a ∧ a ≤ 1099511627776)) with q13 | q13
  · have q13' : (0 : Int) ≤ a ∧ a ≤ 1099511627776 := of_decide_eq_true q13
    refine EL_gret 6 rfl (by exact congrArg Value.bool q13) rfl rfl [.float .f64 y, .float .f64 0] rfl Try.func23 rfl nm23 (by exact args2 (by exact cond_of (show ((decide ((0 : Int) ≤ a ∧ a ≤ 1099511627776)) == true) = true from by rw [q13]; rfl) rfl) rfl) (whole_c y b 0 (0 : Int) w Fy (fw_const (x := 0) (n := 0) (by decide +kernel) (by decide)) (by omega)) ?_
    rintro _ _ ⟨rfl, rfl⟩
    refine EL_val (.bool (decide ((0 : Int) ≤ b ∧ b ≤ 1099511627776))) w rfl (r_pickT (by exact congrArg Value.bool q13) rfl) ?_
    refine EL_val (.bool (decide ((0 : Int) ≤ b ∧ b ≤ 1099511627776))) w rfl (r_assign rfl) ?_
    refine EL_nil ?_
    refine thn_n ?_
    refine EC_ret ?_
    refine fin1 Try.results21 (show _ = .bool (decide ((0 : Int) ≤ b ∧ b ≤ 1099511627776)) from rfl) ⟨_, rfl, ?_⟩
    exact ⟨congrArg Value.bool (by apply decide_eq_decide.2; omega), rfl⟩
  · have q13' : ¬ ((0 : Int) ≤ a ∧ a ≤ 1099511627776) := of_decide_eq_false q13
    refine EL_pass 6 rfl (by exact congrArg Value.bool q13) rfl rfl rfl ?_
    refine EL_val (.bool false) w rfl (r_pickF (by exact congrArg Value.bool q13) rfl) ?_
    refine EL_val (.bool false) w rfl (r_assign rfl) ?_
    refine EL_nil ?_
    refine thn_n ?_
    refine EC_ret ?_
    refine fin1 Try.results21 (show _ = .bool false from rfl) ⟨_, rfl, ?_⟩
    exact ⟨congrArg Value.bool (decide_eq_false (by omega)).symm, rfl⟩

set_option maxRecDepth 100000 in
set_option maxHeartbeats 4000000 in
theorem step_c (x : Nat) (a : Int) (y : Nat) (b : Int) (w : World) (Fx : Fw x a) (Fy : Fw y b) (ba : a.natAbs < 9007199254740992) (bb : b.natAbs < 9007199254740992) : Ret Try.prog 22 [.complex .f64 x y] w fun v w' => v = .bool (decide ((-1099511627776 : Int) ≤ a ∧ a ≤ 1099511627776 ∧ (-1099511627776 : Int) ≤ b ∧ b ≤ 1099511627776)) ∧ w = w' := by
  refine ret_E Try.func22 rfl Try.ntmps22 (by simp) ?_
  refine EC_seq ?_
  refine EC_reg ?_
  refine EL_val (.bool false) w rfl (r_assign rfl) ?_
  refine EL_nil ?_
  refine thn_n ?_
  refine EC_seq ?_
  refine EC_reg ?_
  refine EL_val (.complex .f64 x y) w rfl (r_move rfl) ?_
  refine EL_val (.float .f64 x) w rfl (r_real rfl) ?_
  refine EL_ret [.float .f64 x, .float .f64 14010698440749613056] rfl Try.func23 rfl nm23 rfl (whole_c x a 14010698440749613056 (-1099511627776 : Int) w Fx (fw_const (x := 14010698440749613056) (n := -1099511627776) (by decide +kernel) (by decide)) (by omega)) ?_
  rintro _ _ ⟨rfl, rfl⟩
  refine EL_val (.bool (decide ((-1099511627776 : Int) ≤ a ∧ a ≤ 1099511627776))) w rfl (r_move rfl) ?_
  refine EL_gite 6 rfl rfl rfl (.complex .f64 x y) rfl (fun g11 => r_move rfl) ?_
  refine EL_gite 6 rfl rfl rfl (.float .f64 y) rfl (fun g12 => r_imag (cond_of g12 rfl)) ?_
  rcases Bool.eq_false_or_eq_true (decide ((-1099511627776 : Int) ≤ a ∧ a ≤ 1099511627776)) with q13 | q13
  · have q13' : (-1099511627776 : Int) ≤ a ∧ a ≤ 1099511627776 := of_decide_eq_true q13
    refine EL_gret 6 rfl (by exact congrArg Value.bool q13) rfl rfl [.float .f64 y, .float .f64 14010698440749613056] rfl Try.func23 rfl nm23 (by exact args2 (by exact cond_of (show ((decide ((-1099511627776 : Int) ≤ a ∧ a ≤ 1099511627776)) == true) = true from by rw [q13]; rfl) rfl) rfl) (whole_c y b 14010698440749613056 (-1099511627776 : Int) w Fy (fw_const (x := 14010698440749613056) (n := -1099511627776) (by decide +kernel) (by decide)) (by omega)) ?_
    rintro _ _ ⟨rfl, rfl⟩
    refine EL_val (.bool (decide ((-1099511627776 : Int) ≤ b ∧ b ≤ 1099511627776))) w rfl (r_pickT (by exact congrArg Value.bool q13) rfl) ?_
    refine EL_val (.bool (decide ((-1099511627776 : Int) ≤ b ∧ b ≤ 1099511627776))) w rfl (r_assign rfl) ?_
    refine EL_nil ?_
    refine thn_n ?_
    refine EC_ret ?_
    refine fin1 Try.results22 (show _ = .bool (decide ((-1099511627776 : Int) ≤ b ∧ b ≤ 1099511627776)) from rfl) ⟨_, rfl, ?_⟩
    exact ⟨congrArg Value.bool (by apply decide_eq_decide.2; omega), rfl⟩
  · have q13' : ¬ ((-1099511627776 : Int) ≤ a ∧ a ≤ 1099511627776) := of_decide_eq_false q13
    refine EL_pass 6 rfl (by exact congrArg Value.bool q13) rfl rfl rfl ?_
    refine EL_val (.bool false) w rfl (r_pickF (by exact congrArg Value.bool q13) rfl) ?_
    refine EL_val (.bool false) w rfl (r_assign rfl) ?_
    refine EL_nil ?_
    refine thn_n ?_
    refine EC_ret ?_
    refine fin1 Try.results22 (show _ = .bool false from rfl) ⟨_, rfl, ?_⟩
    exact ⟨congrArg Value.bool (decide_eq_false (by omega)).symm, rfl⟩

end Go.Proofs.Ytieaebbnmebbfaa
