import Derived.Test.YtieaebbnmebbfaaWalksB
set_option linter.unusedVariables false
set_option linter.unusedSimpArgs false
set_option exponentiation.threshold 2000
namespace Go.Proofs.Ytieaebbnmebbfaa
open Go.RowKit Go.Ecal

set_option maxRecDepth 100000 in
set_option maxHeartbeats 4000000 in
theorem anchor_c (w : World) : Ret Try.prog 9 [] w fun v w' => v = .bool true ∧ w = w' := by
  refine ret_E Try.func9 rfl Try.ntmps9 (by simp) ?_
  refine EC_seq ?_
  refine EC_reg ?_
  refine EL_val (.bool false) w rfl (r_assign rfl) ?_
  refine EL_nil ?_
  refine thn_n ?_
  refine EC_seq ?_
  refine EC_reg ?_
  refine EL_ret [.int .i64 2, .int .i64 3] rfl Try.func10 rfl nm10 rfl (Make_ok 2 3 w (by omega) (by omega) (by omega)) ?_
  rintro _ _ ⟨rfl, rfl⟩
  refine EL_val (.tuple #[.complex .f64 (fw 2) (fw 3), .int .i64 0]) w rfl (r_move rfl) ?_
  refine EL_val (.complex .f64 (fw 2) (fw 3)) w rfl (r_extract rfl rfl) ?_
  refine EL_val (.int .i64 0) w rfl (r_extract rfl rfl) ?_
  refine EL_val (.complex .f64 (fw 2) (fw 3)) w rfl (r_assign rfl) ?_
  refine EL_val (.int .i64 0) w rfl (r_assign rfl) ?_
  refine EL_nil ?_
  refine thn_n ?_
  refine EC_seq ?_
  refine EC_reg ?_
  refine EL_val (.complex .f64 (fw 2) (fw 3)) w rfl (r_move rfl) ?_
  refine EL_ret [.complex .f64 (fw 2) (fw 3), .int .i64 1] rfl Try.func14 rfl nm14 rfl (Finish_ok (fw 2) (2 : Int) (fw 3) (3 : Int) 1 w (fw_is (n := 2) (by omega)) (fw_is (n := 3) (by omega)) (by omega) (by omega) (by omega) (by omega) (by omega)) ?_
  rintro _ _ ⟨z11, z12, rfl, Fz13, Fz14, rfl⟩
  refine EL_val (.tuple #[.complex .f64 z11 z12, .int .i64 0]) w rfl (r_move rfl) ?_
  refine EL_val (.complex .f64 z11 z12) w rfl (r_extract rfl rfl) ?_
  refine EL_val (.int .i64 0) w rfl (r_extract rfl rfl) ?_
  refine EL_val (.complex .f64 z11 z12) w rfl (r_assign rfl) ?_
  refine EL_val (.int .i64 0) w rfl (r_assign rfl) ?_
  refine EL_nil ?_
  refine thn_n ?_
  refine EC_seq ?_
  refine EC_reg ?_
  refine EL_val (.complex .f64 (fw 2) (fw 3)) w rfl (r_move rfl) ?_
  refine EL_val (.complex .f64 z11 z12) w rfl (r_move rfl) ?_
  refine EL_ret [.complex .f64 (fw 2) (fw 3), .complex .f64 z11 z12] rfl Try.func19 rfl nm19 rfl (Step_ok (fw 2) (2 : Int) (fw 3) (3 : Int) z11 ((2 : Int) + 1) z12 ((3 : Int) + -1) w (fw_is (n := 2) (by omega)) (fw_is (n := 3) (by omega)) (by omega) (by omega) Fz13 Fz14 (by omega) (by omega) (by omega) (by omega)) ?_
  rintro _ _ ⟨z15, z16, rfl, Fz17, Fz18, rfl⟩
  refine EL_val (.tuple #[.complex .f64 z15 z16, .int .i64 0]) w rfl (r_move rfl) ?_
  refine EL_val (.complex .f64 z15 z16) w rfl (r_extract rfl rfl) ?_
  refine EL_val (.int .i64 0) w rfl (r_extract rfl rfl) ?_
  refine EL_val (.complex .f64 z15 z16) w rfl (r_assign rfl) ?_
  refine EL_val (.int .i64 0) w rfl (r_assign rfl) ?_
  refine EL_nil ?_
  refine thn_n ?_
  refine EC_seq ?_
  refine EC_reg ?_
  refine EL_val (.int .i64 0) w rfl (r_move rfl) ?_
  refine EL_val (.bool true) w rfl (r_dec (by decide) (r_eql rfl rfl)) ?_
  refine EL_val (.bool true) w rfl (r_move rfl) ?_
  refine EL_gval 24 rfl rfl rfl rfl (.int .i64 0) w rfl (r_move rfl) ?_
  refine EL_gval 24 rfl rfl rfl rfl (.bool true) w rfl (r_dec (by decide) (r_eql rfl rfl)) ?_
  refine EL_val (.bool true) w rfl (r_pickT rfl rfl) ?_
  refine EL_val (.bool true) w rfl (r_move rfl) ?_
  refine EL_gval 28 rfl rfl rfl rfl (.int .i64 0) w rfl (r_move rfl) ?_
  refine EL_gval 28 rfl rfl rfl rfl (.bool true) w rfl (r_dec (by decide) (r_eql rfl rfl)) ?_
  refine EL_val (.bool true) w rfl (r_pickT rfl rfl) ?_
  refine EL_val (.bool true) w rfl (r_move rfl) ?_
  refine EL_gval 32 rfl rfl rfl rfl (.complex .f64 (fw 2) (fw 3)) w rfl (r_move rfl) ?_
  refine EL_gval 32 rfl rfl rfl rfl (.bool true) w rfl (r_dec (show (decide ((2 : Int) = (2 : Int)) && decide ((3 : Int) = (3 : Int))) = true from by decide) (r_ceql rfl rfl (fw_is (n := 2) (by omega)) (fw_is (n := 3) (by omega)) (fw_const (x := 4611686018427387904) (n := 2) (by decide +kernel) (by decide)) (fw_const (x := 4613937818241073152) (n := 3) (by decide +kernel) (by decide)))) ?_
  refine EL_val (.bool true) w rfl (r_pickT rfl rfl) ?_
  refine EL_val (.bool true) w rfl (r_move rfl) ?_
  refine EL_gval 36 rfl rfl rfl rfl (.complex .f64 z11 z12) w rfl (r_move rfl) ?_
  refine EL_gval 36 rfl rfl rfl rfl (.bool true) w rfl (r_dec (show (decide (((2 : Int) + 1) = (3 : Int)) && decide (((3 : Int) + -1) = (2 : Int))) = true from by decide) (r_ceql rfl rfl Fz13 Fz14 (fw_const (x := 4613937818241073152) (n := 3) (by decide +kernel) (by decide)) (fw_const (x := 4611686018427387904) (n := 2) (by decide +kernel) (by decide)))) ?_
  refine EL_val (.bool true) w rfl (r_pickT rfl rfl) ?_
  refine EL_val (.bool true) w rfl (r_move rfl) ?_
  refine EL_gval 40 rfl rfl rfl rfl (.complex .f64 z15 z16) w rfl (r_move rfl) ?_
  refine EL_gval 40 rfl rfl rfl rfl (.bool true) w rfl (r_dec (show (decide ((((2 : Int) + 1) - (2 : Int)) = (1 : Int)) && decide ((((3 : Int) + -1) - (3 : Int)) = (-1 : Int))) = true from by decide) (r_ceql rfl rfl Fz17 Fz18 (fw_const (x := 4607182418800017408) (n := 1) (by decide +kernel) (by decide)) (fw_const (x := 13830554455654793216) (n := -1) (by decide +kernel) (by decide)))) ?_
  refine EL_val (.bool true) w rfl (r_pickT rfl rfl) ?_
  refine EL_val (.bool true) w rfl (r_assign rfl) ?_
  refine EL_nil ?_
  refine thn_n ?_
  refine EC_ret ?_
  refine fin1 Try.results9 (show _ = .bool true from rfl) ⟨_, rfl, ?_⟩
  exact ⟨rfl, rfl⟩

end Go.Proofs.Ytieaebbnmebbfaa
