import Derived.Test.YtieaebbnmebbfaaWalksE
set_option linter.unusedVariables false
set_option linter.unusedSimpArgs false
set_option exponentiation.threshold 2000
namespace Go.Proofs.Ytieaebbnmebbfaa
open Go.RowKit Go.Ecal

set_option maxRecDepth 100000 in
set_option maxHeartbeats 4000000 in
theorem tally_no (x y : Nat) (w : World) (hn : ¬ (Wh x 0 ∧ Wh y 0)) : Ret Try.prog 21 [.complex .f64 x y] w fun v w' => v = .bool false ∧ w = w' := by
  refine ret_E Try.func21 rfl Try.ntmps21 (by simp) ?_
  refine EC_seq ?_
  refine EC_reg ?_
  refine EL_val (.bool false) w rfl (r_assign rfl) ?_
  refine EL_nil ?_
  refine thn_n ?_
  refine EC_seq ?_
  by_cases hx : Wh x 0
  · obtain ⟨a, Fx, ha⟩ := hx
    refine EC_reg ?_
    refine EL_val (.complex .f64 x y) w rfl (r_move rfl) ?_
    refine EL_val (.float .f64 x) w rfl (r_real rfl) ?_
    refine EL_ret [.float .f64 x, .float .f64 0] rfl Try.func23 rfl nm23 rfl (whole_c x a 0 0 w Fx (fw_const (x := 0) (n := 0) (by decide +kernel) (by decide)) (by omega)) ?_
    rintro _ _ ⟨rfl, rfl⟩
    refine EL_val (.bool (decide ((0 : Int) ≤ a ∧ a ≤ 1099511627776))) w rfl (r_move rfl) ?_
    refine EL_gite 6 rfl rfl rfl (.complex .f64 x y) rfl (fun g11 => r_move rfl) ?_
    refine EL_gite 6 rfl rfl rfl (.float .f64 y) rfl (fun g12 => r_imag (cond_of g12 rfl)) ?_
    rcases Bool.eq_false_or_eq_true (decide ((0 : Int) ≤ a ∧ a ≤ 1099511627776)) with q13 | q13
    · have q13' : (0 : Int) ≤ a ∧ a ≤ 1099511627776 := of_decide_eq_true q13
      refine EL_gret 6 rfl (by exact congrArg Value.bool q13) rfl rfl [.float .f64 y, .float .f64 0] rfl Try.func23 rfl nm23 (by exact args2 (by exact cond_of (show ((decide ((0 : Int) ≤ a ∧ a ≤ 1099511627776)) == true) = true from by rw [q13]; rfl) rfl) rfl) (whole_no y 0 0 w (fw_const (x := 0) (n := 0) (by decide +kernel) (by decide)) (by decide) (fun h => hn ⟨⟨a, Fx, ha⟩, h⟩)) ?_
      rintro _ _ ⟨rfl, rfl⟩
      refine EL_val (.bool false) w rfl (r_pickT (by exact congrArg Value.bool q13) rfl) ?_
      refine EL_val (.bool false) w rfl (r_assign rfl) ?_
      refine EL_nil ?_
      refine thn_n ?_
      refine EC_ret ?_
      refine fin1 Try.results21 (show _ = .bool false from rfl) ⟨_, rfl, ?_⟩
      first | exact ⟨rfl, rfl⟩ | (exfalso; omega)
    · have q13' : ¬ ((0 : Int) ≤ a ∧ a ≤ 1099511627776) := of_decide_eq_false q13
      refine EL_pass 6 rfl (by exact congrArg Value.bool q13) rfl rfl rfl ?_
      refine EL_val (.bool false) w rfl (r_pickF (by exact congrArg Value.bool q13) rfl) ?_
      refine EL_val (.bool false) w rfl (r_assign rfl) ?_
      refine EL_nil ?_
      refine thn_n ?_
      refine EC_ret ?_
      refine fin1 Try.results21 (show _ = .bool false from rfl) ⟨_, rfl, ?_⟩
      first | exact ⟨rfl, rfl⟩ | (exfalso; omega)
  · refine EC_reg ?_
    refine EL_val (.complex .f64 x y) w rfl (r_move rfl) ?_
    refine EL_val (.float .f64 x) w rfl (r_real rfl) ?_
    refine EL_ret [.float .f64 x, .float .f64 0] rfl Try.func23 rfl nm23 rfl (whole_no x 0 0 w (fw_const (x := 0) (n := 0) (by decide +kernel) (by decide)) (by decide) hx) ?_
    rintro _ _ ⟨rfl, rfl⟩
    refine EL_val (.bool false) w rfl (r_move rfl) ?_
    refine EL_pass 6 rfl rfl rfl rfl rfl ?_
    refine EL_pass 6 rfl rfl rfl rfl rfl ?_
    refine EL_pass 6 rfl rfl rfl rfl rfl ?_
    refine EL_val (.bool false) w rfl (r_pickF rfl rfl) ?_
    refine EL_val (.bool false) w rfl (r_assign rfl) ?_
    refine EL_nil ?_
    refine thn_n ?_
    refine EC_ret ?_
    refine fin1 Try.results21 (show _ = .bool false from rfl) ⟨_, rfl, ?_⟩
    first | exact ⟨rfl, rfl⟩ | (exfalso; omega)

set_option maxRecDepth 100000 in
set_option maxHeartbeats 4000000 in
theorem Parts_nf (x y : Nat) (w : World) (hn : ¬ (Wh x 0 ∧ Wh y 0)) : Ret Try.prog 12 [.complex .f64 x y] w fun v w' => v = .tuple #[.int .i64 0, .int .i64 0, .bool false] ∧ w = w' := by
  refine ret_E Try.func12 rfl Try.ntmps12 (by simp) ?_
  refine EC_seq ?_
  refine EC_reg ?_
  refine EL_val (.int .i64 0) w rfl (r_assign rfl) ?_
  refine EL_val (.int .i64 0) w rfl (r_assign rfl) ?_
  refine EL_val (.bool false) w rfl (r_assign rfl) ?_
  refine EL_nil ?_
  refine thn_n ?_
  refine EC_seq ?_
  refine EC_seq ?_
  refine EC_reg ?_
  refine EL_val (.complex .f64 x y) w rfl (r_move rfl) ?_
  refine EL_ret [.complex .f64 x y] rfl Try.func21 rfl nm21 rfl (tally_no x y w hn) ?_
  rintro _ _ ⟨rfl, rfl⟩
  refine EL_val (.bool true) w rfl (r_dec (show (!false) = true from rfl) (r_not rfl)) ?_
  refine EL_nil ?_
  refine thn_n ?_
  refine EC_cond_true rfl ?_
  refine EC_seq ?_
  refine EC_reg ?_
  refine EL_val (.int .i64 0) w rfl (r_assign rfl) ?_
  refine EL_val (.int .i64 0) w rfl (r_assign rfl) ?_
  refine EL_val (.bool false) w rfl (r_assign rfl) ?_
  refine EL_nil ?_
  refine thn_n ?_
  refine EC_ret ?_
  refine thn_r ?_
  refine fin3 Try.results12 (show _ = .int .i64 0 from rfl) (show _ = .int .i64 0 from rfl) (show _ = .bool false from rfl) ⟨_, rfl, ?_⟩
  exact ⟨rfl, rfl⟩

set_option maxRecDepth 100000 in
set_option maxHeartbeats 4000000 in
theorem Sum_nf (x y : Nat) (v1 : Value) (w : World) (hn : ¬ (Wh x 0 ∧ Wh y 0)) : Ret Try.prog 18 [.complex .f64 x y, v1] w fun v w' => v = .tuple #[.complex .f64 0 0, .int .i64 10] ∧ w = w' := by
  refine ret_E Try.func18 rfl Try.ntmps18 (by simp) ?_
  refine EC_seq ?_
  refine EC_reg ?_
  refine EL_val (.complex .f64 0 0) w rfl (r_assign rfl) ?_
  refine EL_val (.int .i64 0) w rfl (r_assign rfl) ?_
  refine EL_nil ?_
  refine thn_n ?_
  refine EC_scope (fun _ _ _ _ => False) 1 ?_ ?_
  · refine EC_seq ?_
    refine EC_seq ?_
    refine EC_reg ?_
    refine EL_val (.complex .f64 x y) w rfl (r_move rfl) ?_
    refine EL_ret [.complex .f64 x y] rfl Try.func21 rfl nm21 rfl (tally_no x y w hn) ?_
    rintro _ _ ⟨rfl, rfl⟩
    refine EL_val (.bool true) w rfl (r_dec (show (!false) = true from rfl) (r_not rfl)) ?_
    refine EL_nil ?_
    refine thn_n ?_
    refine EC_cond_true rfl ?_
    refine EC_seq ?_
    refine EC_reg ?_
    refine EL_val (.complex .f64 0 0) w rfl (r_assign rfl) ?_
    refine EL_val (.int .i64 10) w rfl (r_assign rfl) ?_
    refine EL_nil ?_
    refine thn_n ?_
    refine EC_ret ?_
    refine thn_r ?_
    refine jmp_r ?_
    refine fin2 Try.results18 (show _ = .complex .f64 0 0 from rfl) (show _ = .int .i64 10 from rfl) ⟨_, rfl, ?_⟩
    exact ⟨rfl, rfl⟩
  · exact fun _ _ _ _ hF => hF.elim

set_option maxRecDepth 100000 in
set_option maxHeartbeats 4000000 in
theorem Step_nf (x y : Nat) (w : World) (hn : ¬ (Wh x 0 ∧ Wh y 0)) : Ret Try.prog 19 [.complex .f64 x y, .complex .f64 0 0] w fun v w' => v = .tuple #[.complex .f64 0 0, .int .i64 10] ∧ w = w' := by
  refine ret_E Try.func19 rfl Try.ntmps19 (by simp) ?_
  refine EC_seq ?_
  refine EC_reg ?_
  refine EL_val (.complex .f64 0 0) w rfl (r_assign rfl) ?_
  refine EL_val (.int .i64 0) w rfl (r_assign rfl) ?_
  refine EL_nil ?_
  refine thn_n ?_
  refine EC_seq ?_
  refine EC_seq ?_
  refine EC_reg ?_
  refine EL_val (.complex .f64 x y) w rfl (r_move rfl) ?_
  refine EL_ret [.complex .f64 x y] rfl Try.func21 rfl nm21 rfl (tally_no x y w hn) ?_
  rintro _ _ ⟨rfl, rfl⟩
  refine EL_val (.bool true) w rfl (r_dec (show (!false) = true from rfl) (r_not rfl)) ?_
  refine EL_val (.bool true) w rfl (r_move rfl) ?_
  refine EL_pass 9 rfl rfl rfl rfl rfl ?_
  refine EL_pass 9 rfl rfl rfl rfl rfl ?_
  refine EL_pass 9 rfl rfl rfl rfl rfl ?_
  refine EL_val (.bool true) w rfl (r_pickT rfl rfl) ?_
  refine EL_nil ?_
  refine thn_n ?_
  refine EC_cond_true rfl ?_
  refine EC_seq ?_
  refine EC_reg ?_
  refine EL_val (.complex .f64 0 0) w rfl (r_assign rfl) ?_
  refine EL_val (.int .i64 10) w rfl (r_assign rfl) ?_
  refine EL_nil ?_
  refine thn_n ?_
  refine EC_ret ?_
  refine thn_r ?_
  refine fin2 Try.results19 (show _ = .complex .f64 0 0 from rfl) (show _ = .int .i64 10 from rfl) ⟨_, rfl, ?_⟩
  exact ⟨rfl, rfl⟩

set_option maxRecDepth 100000 in
set_option maxHeartbeats 4000000 in
theorem Finish_nf (x y : Nat) (n : Int) (w : World) (hn : ¬ (Wh x 0 ∧ Wh y 0)) : Ret Try.prog 14 [.complex .f64 x y, .int .i64 n] w fun v w' => v = .tuple #[.complex .f64 0 0, .int .i64 10] ∧ w = w' := by
  refine ret_E Try.func14 rfl Try.ntmps14 (by simp) ?_
  refine EC_seq ?_
  refine EC_reg ?_
  refine EL_val (.complex .f64 0 0) w rfl (r_assign rfl) ?_
  refine EL_val (.int .i64 0) w rfl (r_assign rfl) ?_
  refine EL_nil ?_
  refine thn_n ?_
  refine EC_seq ?_
  refine EC_reg ?_
  refine EL_val (.complex .f64 x y) w rfl (r_move rfl) ?_
  refine EL_ret [.complex .f64 x y] rfl Try.func12 rfl nm12 rfl (Parts_nf x y w hn) ?_
  rintro _ _ ⟨rfl, rfl⟩
  refine EL_val (.tuple #[.int .i64 0, .int .i64 0, .bool false]) w rfl (r_move rfl) ?_
  refine EL_val (.int .i64 0) w rfl (r_extract rfl rfl) ?_
  refine EL_val (.int .i64 0) w rfl (r_extract rfl rfl) ?_
  refine EL_val (.bool false) w rfl (r_extract rfl rfl) ?_
  refine EL_val (.int .i64 0) w rfl (r_assign rfl) ?_
  refine EL_val (.int .i64 0) w rfl (r_assign rfl) ?_
  refine EL_val (.bool false) w rfl (r_assign rfl) ?_
  refine EL_nil ?_
  refine thn_n ?_
  refine EC_seq ?_
  refine EC_block ?_
  refine EC_seq ?_
  refine EC_reg ?_
  refine EL_val (.bool false) w rfl (r_move rfl) ?_
  refine EL_val (.bool true) w rfl (r_dec (show (!false) = true from rfl) (r_not rfl)) ?_
  refine EL_val (.bool true) w rfl (r_assign rfl) ?_
  refine EL_nil ?_
  refine thn_n ?_
  refine EC_cond_true rfl ?_
  refine EC_seq ?_
  refine EC_reg ?_
  refine EL_val (.complex .f64 0 0) w rfl (r_assign rfl) ?_
  refine EL_val (.int .i64 10) w rfl (r_assign rfl) ?_
  refine EL_nil ?_
  refine thn_n ?_
  refine EC_ret ?_
  refine inB_r ?_
  refine thn_r ?_
  refine fin2 Try.results14 (show _ = .complex .f64 0 0 from rfl) (show _ = .int .i64 10 from rfl) ⟨_, rfl, ?_⟩
  exact ⟨rfl, rfl⟩

set_option maxRecDepth 100000 in
set_option maxHeartbeats 4000000 in
theorem Mirror_nf (x y : Nat) (w : World) (hn : ¬ (Wh x 0 ∧ Wh y 0)) : Ret Try.prog 16 [.complex .f64 x y] w fun v w' => v = .complex .f64 0 0 ∧ w = w' := by
  refine ret_E Try.func16 rfl Try.ntmps16 (by simp) ?_
  refine EC_seq ?_
  refine EC_reg ?_
  refine EL_val (.complex .f64 0 0) w rfl (r_assign rfl) ?_
  refine EL_nil ?_
  refine thn_n ?_
  refine EC_seq ?_
  refine EC_seq ?_
  refine EC_reg ?_
  refine EL_val (.complex .f64 x y) w rfl (r_move rfl) ?_
  refine EL_ret [.complex .f64 x y] rfl Try.func21 rfl nm21 rfl (tally_no x y w hn) ?_
  rintro _ _ ⟨rfl, rfl⟩
  refine EL_val (.bool true) w rfl (r_dec (show (!false) = true from rfl) (r_not rfl)) ?_
  refine EL_nil ?_
  refine thn_n ?_
  refine EC_cond_true rfl ?_
  refine EC_seq ?_
  refine EC_reg ?_
  refine EL_val (.complex .f64 0 0) w rfl (r_assign rfl) ?_
  refine EL_nil ?_
  refine thn_n ?_
  refine EC_ret ?_
  refine thn_r ?_
  refine fin1 Try.results16 (show _ = .complex .f64 0 0 from rfl) ⟨_, rfl, ?_⟩
  exact ⟨rfl, rfl⟩

set_option maxRecDepth 100000 in
set_option maxHeartbeats 4000000 in
theorem Within_n1 (x y : Nat) (u v2 : Nat) (w : World) (hn : ¬ (Wh x 0 ∧ Wh y 0)) : Ret Try.prog 15 [.complex .f64 x y, .complex .f64 u v2] w fun v w' => v = .bool false ∧ w = w' := by
  refine ret_E Try.func15 rfl Try.ntmps15 (by simp) ?_
  refine EC_seq ?_
  refine EC_reg ?_
  refine EL_val (.bool false) w rfl (r_assign rfl) ?_
  refine EL_nil ?_
  refine thn_n ?_
  refine EC_seq ?_
  refine EC_reg ?_
  refine EL_val (.complex .f64 x y) w rfl (r_move rfl) ?_
  refine EL_ret [.complex .f64 x y] rfl Try.func21 rfl nm21 rfl (tally_no x y w hn) ?_
  rintro _ _ ⟨rfl, rfl⟩
  refine EL_val (.bool false) w rfl (r_move rfl) ?_
  refine EL_pass 7 rfl rfl rfl rfl rfl ?_
  refine EL_pass 7 rfl rfl rfl rfl rfl ?_
  refine EL_val (.bool false) w rfl (r_pickF rfl rfl) ?_
  refine EL_val (.bool false) w rfl (r_move rfl) ?_
  refine EL_pass 11 rfl rfl rfl rfl rfl ?_
  refine EL_pass 11 rfl rfl rfl rfl rfl ?_
  refine EL_pass 11 rfl rfl rfl rfl rfl ?_
  refine EL_pass 11 rfl rfl rfl rfl rfl ?_
  refine EL_pass 11 rfl rfl rfl rfl rfl ?_
  refine EL_val (.bool false) w rfl (r_pickF rfl rfl) ?_
  refine EL_val (.bool false) w rfl (r_move rfl) ?_
  refine EL_pass 18 rfl rfl rfl rfl rfl ?_
  refine EL_pass 18 rfl rfl rfl rfl rfl ?_
  refine EL_pass 18 rfl rfl rfl rfl rfl ?_
  refine EL_pass 18 rfl rfl rfl rfl rfl ?_
  refine EL_pass 18 rfl rfl rfl rfl rfl ?_
  refine EL_val (.bool false) w rfl (r_pickF rfl rfl) ?_
  refine EL_val (.bool false) w rfl (r_assign rfl) ?_
  refine EL_nil ?_
  refine thn_n ?_
  refine EC_ret ?_
  refine fin1 Try.results15 (show _ = .bool false from rfl) ⟨_, rfl, ?_⟩
  exact ⟨rfl, rfl⟩

set_option maxRecDepth 100000 in
set_option maxHeartbeats 4000000 in
theorem Within_n2 (x y : Nat) (w : World) (hn : ¬ (Wh x 0 ∧ Wh y 0)) : Ret Try.prog 15 [.complex .f64 0 0, .complex .f64 x y] w fun v w' => v = .bool false ∧ w = w' := by
  refine ret_E Try.func15 rfl Try.ntmps15 (by simp) ?_
  refine EC_seq ?_
  refine EC_reg ?_
  refine EL_val (.bool false) w rfl (r_assign rfl) ?_
  refine EL_nil ?_
  refine thn_n ?_
  refine EC_seq ?_
  refine EC_reg ?_
  refine EL_val (.complex .f64 0 0) w rfl (r_move rfl) ?_
  refine EL_ret [.complex .f64 0 0] rfl Try.func21 rfl nm21 rfl (tally_c 0 (0 : Int) 0 (0 : Int) w (fw_const (x := 0) (n := 0) (by decide +kernel) (by decide)) (fw_const (x := 0) (n := 0) (by decide +kernel) (by decide)) (by omega) (by omega)) ?_
  rintro _ _ ⟨rfl, rfl⟩
  refine EL_val (.bool (decide ((0 : Int) ≤ (0 : Int) ∧ (0 : Int) ≤ 1099511627776 ∧ (0 : Int) ≤ (0 : Int) ∧ (0 : Int) ≤ 1099511627776))) w rfl (r_move rfl) ?_
  rcases Bool.eq_false_or_eq_true (decide ((0 : Int) ≤ (0 : Int) ∧ (0 : Int) ≤ 1099511627776 ∧ (0 : Int) ≤ (0 : Int) ∧ (0 : Int) ≤ 1099511627776)) with q11 | q11
  · have q11' : (0 : Int) ≤ (0 : Int) ∧ (0 : Int) ≤ 1099511627776 ∧ (0 : Int) ≤ (0 : Int) ∧ (0 : Int) ≤ 1099511627776 := of_decide_eq_true q11
    refine EL_gval 7 rfl (by exact congrArg Value.bool q11) rfl rfl (.complex .f64 x y) w rfl (r_move rfl) ?_
    refine EL_gret 7 rfl (by exact congrArg Value.bool q11) rfl rfl [.complex .f64 x y] rfl Try.func21 rfl nm21 rfl (tally_no x y w hn) ?_
    rintro _ _ ⟨rfl, rfl⟩
    refine EL_val (.bool false) w rfl (r_pickT (by exact congrArg Value.bool q11) rfl) ?_
    refine EL_val (.bool false) w rfl (r_move rfl) ?_
    refine EL_pass 11 rfl rfl rfl rfl rfl ?_
    refine EL_pass 11 rfl rfl rfl rfl rfl ?_
    refine EL_pass 11 rfl rfl rfl rfl rfl ?_
    refine EL_pass 11 rfl rfl rfl rfl rfl ?_
    refine EL_pass 11 rfl rfl rfl rfl rfl ?_
    refine EL_val (.bool false) w rfl (r_pickF rfl rfl) ?_
    refine EL_val (.bool false) w rfl (r_move rfl) ?_
    refine EL_pass 18 rfl rfl rfl rfl rfl ?_
    refine EL_pass 18 rfl rfl rfl rfl rfl ?_
    refine EL_pass 18 rfl rfl rfl rfl rfl ?_
    refine EL_pass 18 rfl rfl rfl rfl rfl ?_
    refine EL_pass 18 rfl rfl rfl rfl rfl ?_
    refine EL_val (.bool false) w rfl (r_pickF rfl rfl) ?_
    refine EL_val (.bool false) w rfl (r_assign rfl) ?_
    refine EL_nil ?_
    refine thn_n ?_
    refine EC_ret ?_
    refine fin1 Try.results15 (show _ = .bool false from rfl) ⟨_, rfl, ?_⟩
    first | exact ⟨rfl, rfl⟩ | (exfalso; omega)
  · have q11' : ¬ ((0 : Int) ≤ (0 : Int) ∧ (0 : Int) ≤ 1099511627776 ∧ (0 : Int) ≤ (0 : Int) ∧ (0 : Int) ≤ 1099511627776) := of_decide_eq_false q11
    refine EL_pass 7 rfl (by exact congrArg Value.bool q11) rfl rfl rfl ?_
    refine EL_pass 7 rfl (by exact congrArg Value.bool q11) rfl rfl rfl ?_
    refine EL_val (.bool false) w rfl (r_pickF (by exact congrArg Value.bool q11) rfl) ?_
    refine EL_val (.bool false) w rfl (r_move rfl) ?_
    refine EL_pass 11 rfl rfl rfl rfl rfl ?_
    refine EL_pass 11 rfl rfl rfl rfl rfl ?_
    refine EL_pass 11 rfl rfl rfl rfl rfl ?_
    refine EL_pass 11 rfl rfl rfl rfl rfl ?_
    refine EL_pass 11 rfl rfl rfl rfl rfl ?_
    refine EL_val (.bool false) w rfl (r_pickF rfl rfl) ?_
    refine EL_val (.bool false) w rfl (r_move rfl) ?_
    refine EL_pass 18 rfl rfl rfl rfl rfl ?_
    refine EL_pass 18 rfl rfl rfl rfl rfl ?_
    refine EL_pass 18 rfl rfl rfl rfl rfl ?_
    refine EL_pass 18 rfl rfl rfl rfl rfl ?_
    refine EL_pass 18 rfl rfl rfl rfl rfl ?_
    refine EL_val (.bool false) w rfl (r_pickF rfl rfl) ?_
    refine EL_val (.bool false) w rfl (r_assign rfl) ?_
    refine EL_nil ?_
    refine thn_n ?_
    refine EC_ret ?_
    refine fin1 Try.results15 (show _ = .bool false from rfl) ⟨_, rfl, ?_⟩
    first | exact ⟨rfl, rfl⟩ | (exfalso; omega)

end Go.Proofs.Ytieaebbnmebbfaa
