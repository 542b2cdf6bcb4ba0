import Derived.Test.YtieaebbnmebbfaaWalks
set_option linter.unusedVariables false
set_option linter.unusedSimpArgs false
set_option exponentiation.threshold 2000
namespace Go.Proofs.Ytieaebbnmebbfaa
open Go.RowKit Go.Ecal

set_option maxRecDepth 100000 in
set_option maxHeartbeats 4000000 in
theorem Make_ok (a : Int) (b : Int) (w : World) (ra : -9223372036854775808 ≤ a ∧ a ≤ 9223372036854775807) (rb : -9223372036854775808 ≤ b ∧ b ≤ 9223372036854775807) (h : (0 : Int) ≤ a ∧ a ≤ 1099511627776 ∧ (0 : Int) ≤ b ∧ b ≤ 1099511627776) : Ret Try.prog 10 [.int .i64 a, .int .i64 b] w fun v w' => v = .tuple #[.complex .f64 (fw a) (fw b), .int .i64 0] ∧ w = w' := by
  refine ret_E Try.func10 rfl Try.ntmps10 (by simp) ?_
  refine EC_seq ?_
  refine EC_reg ?_
  refine EL_val (.complex .f64 0 0) w rfl (r_assign rfl) ?_
  refine EL_val (.int .i64 0) w rfl (r_assign rfl) ?_
  refine EL_nil ?_
  refine thn_n ?_
  refine EC_seq ?_
  refine EC_seq ?_
  refine EC_reg ?_
  refine EL_val (.int .i64 a) w rfl (r_move rfl) ?_
  refine EL_val (.bool (decide (a < 0))) w rfl (r_lss rfl rfl) ?_
  refine EL_val (.bool (decide (a < 0))) w rfl (r_move rfl) ?_
  refine EL_gite 8 rfl rfl rfl (.int .i64 a) rfl (fun g11 => r_move rfl) ?_
  refine EL_gite 8 rfl rfl rfl (.bool (decide (1099511627776 < a))) rfl (fun g12 => r_gtr (cond_of g12 rfl) rfl) ?_
  refine EL_val (.bool ((decide (a < 0)) || (decide (1099511627776 < a)))) w rfl (r_or rfl rfl rfl) ?_
  refine EL_val (.bool ((decide (a < 0)) || (decide (1099511627776 < a)))) w rfl (r_move rfl) ?_
  refine EL_gite 12 rfl rfl rfl (.int .i64 b) rfl (fun g13 => r_move rfl) ?_
  refine EL_gite 12 rfl rfl rfl (.bool (decide (b < 0))) rfl (fun g14 => r_lss (cond_of g14 rfl) rfl) ?_
  refine EL_val (.bool (((decide (a < 0)) || (decide (1099511627776 < a))) || (decide (b < 0)))) w rfl (r_or rfl rfl rfl) ?_
  refine EL_val (.bool (((decide (a < 0)) || (decide (1099511627776 < a))) || (decide (b < 0)))) w rfl (r_move rfl) ?_
  refine EL_gite 16 rfl rfl rfl (.int .i64 b) rfl (fun g15 => r_move rfl) ?_
  refine EL_gite 16 rfl rfl rfl (.bool (decide (1099511627776 < b))) rfl (fun g16 => r_gtr (cond_of g16 rfl) rfl) ?_
  refine EL_val (.bool ((((decide (a < 0)) || (decide (1099511627776 < a))) || (decide (b < 0))) || (decide (1099511627776 < b)))) w rfl (r_or rfl rfl rfl) ?_
  refine EL_nil ?_
  refine thn_n ?_
  refine EC_cond_false (Eq.trans (show _ = Value.bool ((((decide (a < 0)) || (decide (1099511627776 < a))) || (decide (b < 0))) || (decide (1099511627776 < b))) from rfl) (congrArg Value.bool (show ((((decide (a < 0)) || (decide (1099511627776 < a))) || (decide (b < 0))) || (decide (1099511627776 < b))) = false from by simp; omega))) ?_
  refine EC_skip ?_
  refine thn_n ?_
  refine EC_seq ?_
  refine EC_reg ?_
  refine EL_val (.int .i64 a) w rfl (r_move rfl) ?_
  refine EL_val (.float .f64 (fw a)) w rfl (r_i2f rfl (by rw [Try.underlying3]; rfl) Try.underlying34) ?_
  refine EL_val (.int .i64 b) w rfl (r_move rfl) ?_
  refine EL_val (.float .f64 (fw b)) w rfl (r_i2f rfl (by rw [Try.underlying3]; rfl) Try.underlying34) ?_
  refine EL_val (.complex .f64 (fw a) (fw b)) w rfl (r_complex rfl rfl) ?_
  refine EL_val (.complex .f64 (fw a) (fw b)) w rfl (r_assign rfl) ?_
  refine EL_val (.int .i64 0) w rfl (r_assign rfl) ?_
  refine EL_nil ?_
  refine thn_n ?_
  refine EC_ret ?_
  refine fin2 Try.results10 (show _ = .complex .f64 (fw a) (fw b) from rfl) (show _ = .int .i64 0 from rfl) ⟨_, rfl, ?_⟩
  exact ⟨rfl, rfl⟩

set_option maxRecDepth 100000 in
set_option maxHeartbeats 4000000 in
theorem Make_no (a : Int) (b : Int) (w : World) (ra : -9223372036854775808 ≤ a ∧ a ≤ 9223372036854775807) (rb : -9223372036854775808 ≤ b ∧ b ≤ 9223372036854775807) (h : ¬ ((0 : Int) ≤ a ∧ a ≤ 1099511627776 ∧ (0 : Int) ≤ b ∧ b ≤ 1099511627776)) : Ret Try.prog 10 [.int .i64 a, .int .i64 b] w fun v w' => v = .tuple #[.complex .f64 0 0, .int .i64 12] ∧ w = w' := by
  refine ret_E Try.func10 rfl Try.ntmps10 (by simp) ?_
  refine EC_seq ?_
  refine EC_reg ?_
  refine EL_val (.complex .f64 0 0) w rfl (r_assign rfl) ?_
  refine EL_val (.int .i64 0) w rfl (r_assign rfl) ?_
  refine EL_nil ?_
  refine thn_n ?_
  refine EC_seq ?_
  refine EC_seq ?_
  refine EC_reg ?_
  refine EL_val (.int .i64 a) w rfl (r_move rfl) ?_
  refine EL_val (.bool (decide (a < 0))) w rfl (r_lss rfl rfl) ?_
  refine EL_val (.bool (decide (a < 0))) w rfl (r_move rfl) ?_
  refine EL_gite 8 rfl rfl rfl (.int .i64 a) rfl (fun g11 => r_move rfl) ?_
  refine EL_gite 8 rfl rfl rfl (.bool (decide (1099511627776 < a))) rfl (fun g12 => r_gtr (cond_of g12 rfl) rfl) ?_
  refine EL_val (.bool ((decide (a < 0)) || (decide (1099511627776 < a)))) w rfl (r_or rfl rfl rfl) ?_
  refine EL_val (.bool ((decide (a < 0)) || (decide (1099511627776 < a)))) w rfl (r_move rfl) ?_
  refine EL_gite 12 rfl rfl rfl (.int .i64 b) rfl (fun g13 => r_move rfl) ?_
  refine EL_gite 12 rfl rfl rfl (.bool (decide (b < 0))) rfl (fun g14 => r_lss (cond_of g14 rfl) rfl) ?_
  refine EL_val (.bool (((decide (a < 0)) || (decide (1099511627776 < a))) || (decide (b < 0)))) w rfl (r_or rfl rfl rfl) ?_
  refine EL_val (.bool (((decide (a < 0)) || (decide (1099511627776 < a))) || (decide (b < 0)))) w rfl (r_move rfl) ?_
  refine EL_gite 16 rfl rfl rfl (.int .i64 b) rfl (fun g15 => r_move rfl) ?_
  refine EL_gite 16 rfl rfl rfl (.bool (decide (1099511627776 < b))) rfl (fun g16 => r_gtr (cond_of g16 rfl) rfl) ?_
  refine EL_val (.bool ((((decide (a < 0)) || (decide (1099511627776 < a))) || (decide (b < 0))) || (decide (1099511627776 < b)))) w rfl (r_or rfl rfl rfl) ?_
  refine EL_nil ?_
  refine thn_n ?_
  refine EC_cond_true (Eq.trans (show _ = Value.bool ((((decide (a < 0)) || (decide (1099511627776 < a))) || (decide (b < 0))) || (decide (1099511627776 < b))) from rfl) (congrArg Value.bool (show ((((decide (a < 0)) || (decide (1099511627776 < a))) || (decide (b < 0))) || (decide (1099511627776 < b))) = true from by simp; omega))) ?_
  refine EC_seq ?_
  refine EC_reg ?_
  refine EL_val (.complex .f64 0 0) w rfl (r_assign rfl) ?_
  refine EL_val (.int .i64 12) w rfl (r_assign rfl) ?_
  refine EL_nil ?_
  refine thn_n ?_
  refine EC_ret ?_
  refine thn_r ?_
  refine fin2 Try.results10 (show _ = .complex .f64 0 0 from rfl) (show _ = .int .i64 12 from rfl) ⟨_, rfl, ?_⟩
  exact ⟨rfl, rfl⟩

set_option maxRecDepth 100000 in
set_option maxHeartbeats 4000000 in
theorem Parts_ok (x : Nat) (a : Int) (y : Nat) (b : Int) (w : World) (Fx : Fw x a) (Fy : Fw y b) (ba : a.natAbs < 9007199254740992) (bb : b.natAbs < 9007199254740992) (h : (0 : Int) ≤ a ∧ a ≤ 1099511627776 ∧ (0 : Int) ≤ b ∧ b ≤ 1099511627776) : Ret Try.prog 12 [.complex .f64 x y] w fun v w' => v = .tuple #[.int .i64 a, .int .i64 b, .bool true] ∧ w = w' := by
  refine ret_E Try.func12 rfl Try.ntmps12 (by simp) ?_
  refine EC_seq ?_
  refine EC_reg ?_
  refine EL_val (.int .i64 0) w rfl (r_assign rfl) ?_
  refine EL_val (.int .i64 0) w rfl (r_assign rfl) ?_
  refine EL_val (.bool false) w rfl (r_assign rfl) ?_
  refine EL_nil ?_
  refine thn_n ?_
  refine EC_seq ?_
  refine EC_seq ?_
  refine EC_reg ?_
  refine EL_val (.complex .f64 x y) w rfl (r_move rfl) ?_
  refine EL_ret [.complex .f64 x y] rfl Try.func21 rfl nm21 rfl (tally_c x a y b w Fx Fy (by omega) (by omega)) ?_
  rintro _ _ ⟨rfl, rfl⟩
  refine EL_val (.bool (!(decide ((0 : Int) ≤ a ∧ a ≤ 1099511627776 ∧ (0 : Int) ≤ b ∧ b ≤ 1099511627776)))) w rfl (r_not rfl) ?_
  refine EL_nil ?_
  refine thn_n ?_
  refine EC_cond_false (Eq.trans (show _ = Value.bool (!(decide ((0 : Int) ≤ a ∧ a ≤ 1099511627776 ∧ (0 : Int) ≤ b ∧ b ≤ 1099511627776))) from rfl) (congrArg Value.bool (show (!(decide ((0 : Int) ≤ a ∧ a ≤ 1099511627776 ∧ (0 : Int) ≤ b ∧ b ≤ 1099511627776))) = false from by simp; omega))) ?_
  refine EC_skip ?_
  refine thn_n ?_
  refine EC_seq ?_
  refine EC_reg ?_
  refine EL_val (.complex .f64 x y) w rfl (r_move rfl) ?_
  refine EL_val (.float .f64 x) w rfl (r_real rfl) ?_
  refine EL_val (.int .i64 a) w rfl (r_f2i rfl Fx (by omega) (by rw [Try.underlying34]; rfl) Try.underlying3) ?_
  refine EL_val (.complex .f64 x y) w rfl (r_move rfl) ?_
  refine EL_val (.float .f64 y) w rfl (r_imag rfl) ?_
  refine EL_val (.int .i64 b) w rfl (r_f2i rfl Fy (by omega) (by rw [Try.underlying34]; rfl) Try.underlying3) ?_
  refine EL_val (.int .i64 a) w rfl (r_assign rfl) ?_
  refine EL_val (.int .i64 b) w rfl (r_assign rfl) ?_
  refine EL_val (.bool true) w rfl (r_assign rfl) ?_
  refine EL_nil ?_
  refine thn_n ?_
  refine EC_ret ?_
  refine fin3 Try.results12 (show _ = .int .i64 a from rfl) (show _ = .int .i64 b from rfl) (show _ = .bool true from rfl) ⟨_, rfl, ?_⟩
  exact ⟨rfl, rfl⟩

set_option maxRecDepth 100000 in
set_option maxHeartbeats 4000000 in
theorem Parts_no (x : Nat) (a : Int) (y : Nat) (b : Int) (w : World) (Fx : Fw x a) (Fy : Fw y b) (ba : a.natAbs < 9007199254740992) (bb : b.natAbs < 9007199254740992) (h : ¬ ((0 : Int) ≤ a ∧ a ≤ 1099511627776 ∧ (0 : Int) ≤ b ∧ b ≤ 1099511627776)) : Ret Try.prog 12 [.complex .f64 x y] w fun v w' => v = .tuple #[.int .i64 0, .int .i64 0, .bool false] ∧ w = w' := by
  refine ret_E Try.func12 rfl Try.ntmps12 (by simp) ?_
  refine EC_seq ?_
  refine EC_reg ?_
  refine EL_val (.int .i64 0) w rfl (r_assign rfl) ?_
  refine EL_val (.int .i64 0) w rfl (r_assign rfl) ?_
  refine EL_val (.bool false) w rfl (r_assign rfl) ?_
  refine EL_nil ?_
  refine thn_n ?_
  refine EC_seq ?_
  refine EC_seq ?_
  refine EC_reg ?_
  refine EL_val (.complex .f64 x y) w rfl (r_move rfl) ?_
  refine EL_ret [.complex .f64 x y] rfl Try.func21 rfl nm21 rfl (tally_c x a y b w Fx Fy (by omega) (by omega)) ?_
  rintro _ _ ⟨rfl, rfl⟩
  refine EL_val (.bool (!(decide ((0 : Int) ≤ a ∧ a ≤ 1099511627776 ∧ (0 : Int) ≤ b ∧ b ≤ 1099511627776)))) w rfl (r_not rfl) ?_
  refine EL_nil ?_
  refine thn_n ?_
  refine EC_cond_true (Eq.trans (show _ = Value.bool (!(decide ((0 : Int) ≤ a ∧ a ≤ 1099511627776 ∧ (0 : Int) ≤ b ∧ b ≤ 1099511627776))) from rfl) (congrArg Value.bool (show (!(decide ((0 : Int) ≤ a ∧ a ≤ 1099511627776 ∧ (0 : Int) ≤ b ∧ b ≤ 1099511627776))) = true from by simp; omega))) ?_
  refine EC_seq ?_
  refine EC_reg ?_
  refine EL_val (.int .i64 0) w rfl (r_assign rfl) ?_
  refine EL_val (.int .i64 0) w rfl (r_assign rfl) ?_
  refine EL_val (.bool false) w rfl (r_assign rfl) ?_
  refine EL_nil ?_
  refine thn_n ?_
  refine EC_ret ?_
  refine thn_r ?_
  refine fin3 Try.results12 (show _ = .int .i64 0 from rfl) (show _ = .int .i64 0 from rfl) (show _ = .bool false from rfl) ⟨_, rfl, ?_⟩
  exact ⟨rfl, rfl⟩

set_option maxRecDepth 100000 in
set_option maxHeartbeats 4000000 in
theorem Mirror_ok (x : Nat) (a : Int) (y : Nat) (b : Int) (w : World) (Fx : Fw x a) (Fy : Fw y b) (ba : a.natAbs < 9007199254740992) (bb : b.natAbs < 9007199254740992) (h : (0 : Int) ≤ a ∧ a ≤ 1099511627776 ∧ (0 : Int) ≤ b ∧ b ≤ 1099511627776) : Ret Try.prog 16 [.complex .f64 x y] w fun v w' => v = .complex .f64 y x ∧ w = w' := by
  refine ret_E Try.func16 rfl Try.ntmps16 (by simp) ?_
  refine EC_seq ?_
  refine EC_reg ?_
  refine EL_val (.complex .f64 0 0) w rfl (r_assign rfl) ?_
  refine EL_nil ?_
  refine thn_n ?_
  refine EC_seq ?_
  refine EC_seq ?_
  refine EC_reg ?_
  refine EL_val (.complex .f64 x y) w rfl (r_move rfl) ?_
  refine EL_ret [.complex .f64 x y] rfl Try.func21 rfl nm21 rfl (tally_c x a y b w Fx Fy (by omega) (by omega)) ?_
  rintro _ _ ⟨rfl, rfl⟩
  refine EL_val (.bool (!(decide ((0 : Int) ≤ a ∧ a ≤ 1099511627776 ∧ (0 : Int) ≤ b ∧ b ≤ 1099511627776)))) w rfl (r_not rfl) ?_
  refine EL_nil ?_
  refine thn_n ?_
  refine EC_cond_false (Eq.trans (show _ = Value.bool (!(decide ((0 : Int) ≤ a ∧ a ≤ 1099511627776 ∧ (0 : Int) ≤ b ∧ b ≤ 1099511627776))) from rfl) (congrArg Value.bool (show (!(decide ((0 : Int) ≤ a ∧ a ≤ 1099511627776 ∧ (0 : Int) ≤ b ∧ b ≤ 1099511627776))) = false from by simp; omega))) ?_
  refine EC_skip ?_
  refine thn_n ?_
  refine EC_seq ?_
  refine EC_reg ?_
  refine EL_val (.complex .f64 x y) w rfl (r_move rfl) ?_
  refine EL_val (.float .f64 y) w rfl (r_imag rfl) ?_
  refine EL_val (.complex .f64 x y) w rfl (r_move rfl) ?_
  refine EL_val (.float .f64 x) w rfl (r_real rfl) ?_
  refine EL_val (.complex .f64 y x) w rfl (r_complex rfl rfl) ?_
  refine EL_val (.complex .f64 y x) w rfl (r_assign rfl) ?_
  refine EL_nil ?_
  refine thn_n ?_
  refine EC_ret ?_
  refine fin1 Try.results16 (show _ = .complex .f64 y x from rfl) ⟨_, rfl, ?_⟩
  exact ⟨rfl, rfl⟩

set_option maxRecDepth 100000 in
set_option maxHeartbeats 4000000 in
theorem Step_ok (x : Nat) (a : Int) (y : Nat) (b : Int) (x2 : Nat) (c : Int) (y2 : Nat) (d : Int) (w : World) (Fx : Fw x a) (Fy : Fw y b) (ba : a.natAbs < 9007199254740992) (bb : b.natAbs < 9007199254740992) (Fx2 : Fw x2 c) (Fy2 : Fw y2 d) (bc : c.natAbs < 9007199254740992) (bd : d.natAbs < 9007199254740992) (h : (0 : Int) ≤ a ∧ a ≤ 1099511627776 ∧ (0 : Int) ≤ b ∧ b ≤ 1099511627776) (h2 : (0 : Int) ≤ c ∧ c ≤ 1099511627776 ∧ (0 : Int) ≤ d ∧ d ≤ 1099511627776) : Ret Try.prog 19 [.complex .f64 x y, .complex .f64 x2 y2] w fun v w' => ∃ z1 z2, v = .tuple #[.complex .f64 z1 z2, .int .i64 0] ∧ Fw z1 (c - a) ∧ Fw z2 (d - b) ∧ w = w' := by
  refine ret_E Try.func19 rfl Try.ntmps19 (by simp) ?_
  refine EC_seq ?_
  refine EC_reg ?_
  refine EL_val (.complex .f64 0 0) w rfl (r_assign rfl) ?_
  refine EL_val (.int .i64 0) w rfl (r_assign rfl) ?_
  refine EL_nil ?_
  refine thn_n ?_
  refine EC_seq ?_
  refine EC_seq ?_
  refine EC_reg ?_
  refine EL_val (.complex .f64 x y) w rfl (r_move rfl) ?_
  refine EL_ret [.complex .f64 x y] rfl Try.func21 rfl nm21 rfl (tally_c x a y b w Fx Fy (by omega) (by omega)) ?_
  rintro _ _ ⟨rfl, rfl⟩
  refine EL_val (.bool (!(decide ((0 : Int) ≤ a ∧ a ≤ 1099511627776 ∧ (0 : Int) ≤ b ∧ b ≤ 1099511627776)))) w rfl (r_not rfl) ?_
  refine EL_val (.bool (!(decide ((0 : Int) ≤ a ∧ a ≤ 1099511627776 ∧ (0 : Int) ≤ b ∧ b ≤ 1099511627776)))) w rfl (r_move rfl) ?_
  refine EL_gite 9 rfl rfl rfl (.complex .f64 x2 y2) rfl (fun g11 => r_move rfl) ?_
  rcases Bool.eq_false_or_eq_true (!(decide ((0 : Int) ≤ a ∧ a ≤ 1099511627776 ∧ (0 : Int) ≤ b ∧ b ≤ 1099511627776))) with q12 | q12
  · have q12' : ¬ ((0 : Int) ≤ a ∧ a ≤ 1099511627776 ∧ (0 : Int) ≤ b ∧ b ≤ 1099511627776) := of_decide_eq_false ((Bool.not_eq_true' _).mp q12)
    refine EL_pass 9 rfl (by exact congrArg Value.bool q12) rfl rfl rfl ?_
    refine EL_pass 9 rfl (by exact congrArg Value.bool q12) rfl rfl rfl ?_
    refine EL_val (.bool true) w rfl (r_pickT (by exact congrArg Value.bool q12) rfl) ?_
    refine EL_nil ?_
    refine thn_n ?_
    refine EC_cond_true rfl ?_
    refine EC_seq ?_
    refine EC_reg ?_
    refine EL_val (.complex .f64 0 0) w rfl (r_assign rfl) ?_
    refine EL_val (.int .i64 10) w rfl (r_assign rfl) ?_
    refine EL_nil ?_
    refine thn_n ?_
    refine EC_ret ?_
    refine thn_r ?_
    refine fin2 Try.results19 (show _ = .complex .f64 0 0 from rfl) (show _ = .int .i64 10 from rfl) ⟨_, rfl, ?_⟩
    exfalso; omega
  · have q12' : (0 : Int) ≤ a ∧ a ≤ 1099511627776 ∧ (0 : Int) ≤ b ∧ b ≤ 1099511627776 := of_decide_eq_true ((Bool.not_eq_false' _).mp q12)
    refine EL_gret 9 rfl (by exact congrArg Value.bool q12) rfl rfl [.complex .f64 x2 y2] rfl Try.func21 rfl nm21 (by exact args1 (by exact cond_of (show ((!(decide ((0 : Int) ≤ a ∧ a ≤ 1099511627776 ∧ (0 : Int) ≤ b ∧ b ≤ 1099511627776))) == false) = true from by rw [q12]; rfl) rfl)) (tally_c x2 c y2 d w Fx2 Fy2 (by omega) (by omega)) ?_
    rintro _ _ ⟨rfl, rfl⟩
    refine EL_gval 9 rfl (by exact congrArg Value.bool q12) rfl rfl (.bool (!(decide ((0 : Int) ≤ c ∧ c ≤ 1099511627776 ∧ (0 : Int) ≤ d ∧ d ≤ 1099511627776)))) w rfl (r_not rfl) ?_
    refine EL_val (.bool (!(decide ((0 : Int) ≤ c ∧ c ≤ 1099511627776 ∧ (0 : Int) ≤ d ∧ d ≤ 1099511627776)))) w rfl (r_pickF (by exact congrArg Value.bool q12) rfl) ?_
    refine EL_nil ?_
    refine thn_n ?_
    refine EC_cond_false (Eq.trans (show _ = Value.bool (!(decide ((0 : Int) ≤ c ∧ c ≤ 1099511627776 ∧ (0 : Int) ≤ d ∧ d ≤ 1099511627776))) from rfl) (congrArg Value.bool (show (!(decide ((0 : Int) ≤ c ∧ c ≤ 1099511627776 ∧ (0 : Int) ≤ d ∧ d ≤ 1099511627776))) = false from by simp; omega))) ?_
    refine EC_skip ?_
    refine thn_n ?_
    refine EC_seq ?_
    refine EC_reg ?_
    refine EL_val (.complex .f64 x2 y2) w rfl (r_move rfl) ?_
    refine EL_val (.complex .f64 x y) w rfl (r_move rfl) ?_
    obtain ⟨z13, hz14, Fz15⟩ := fsub Fx2 Fx (by omega)
    obtain ⟨z16, hz17, Fz18⟩ := fsub Fy2 Fy (by omega)
    refine EL_val (.complex .f64 z13 z16) w rfl (r_csum (.inr rfl) rfl rfl hz14 hz17) ?_
    refine EL_val (.complex .f64 z13 z16) w rfl (r_assign rfl) ?_
    refine EL_val (.int .i64 0) w rfl (r_assign rfl) ?_
    refine EL_nil ?_
    refine thn_n ?_
    refine EC_ret ?_
    refine fin2 Try.results19 (show _ = .complex .f64 z13 z16 from rfl) (show _ = .int .i64 0 from rfl) ⟨_, rfl, ?_⟩
    exact ⟨_, _, rfl, Fz15, Fz18, rfl⟩

set_option maxRecDepth 100000 in
set_option maxHeartbeats 4000000 in
theorem Within_c (x : Nat) (a : Int) (y : Nat) (b : Int) (x2 : Nat) (c : Int) (y2 : Nat) (d : Int) (w : World) (Fx : Fw x a) (Fy : Fw y b) (ba : a.natAbs < 9007199254740992) (bb : b.natAbs < 9007199254740992) (Fx2 : Fw x2 c) (Fy2 : Fw y2 d) (bc : c.natAbs < 9007199254740992) (bd : d.natAbs < 9007199254740992) : Ret Try.prog 15 [.complex .f64 x y, .complex .f64 x2 y2] w fun v w' => v = .bool (decide (((0 : Int) ≤ a ∧ a ≤ 1099511627776 ∧ (0 : Int) ≤ b ∧ b ≤ 1099511627776) ∧ ((0 : Int) ≤ c ∧ c ≤ 1099511627776 ∧ (0 : Int) ≤ d ∧ d ≤ 1099511627776) ∧ a ≤ c ∧ b ≤ d)) ∧ w = w' := by
  refine ret_E Try.func15 rfl Try.ntmps15 (by simp) ?_
  refine EC_seq ?_
  refine EC_reg ?_
  refine EL_val (.bool false) w rfl (r_assign rfl) ?_
  refine EL_nil ?_
  refine thn_n ?_
  refine EC_seq ?_
  refine EC_reg ?_
  refine EL_val (.complex .f64 x y) w rfl (r_move rfl) ?_
  refine EL_ret [.complex .f64 x y] rfl Try.func21 rfl nm21 rfl (tally_c x a y b w Fx Fy (by omega) (by omega)) ?_
  rintro _ _ ⟨rfl, rfl⟩
  refine EL_val (.bool (decide ((0 : Int) ≤ a ∧ a ≤ 1099511627776 ∧ (0 : Int) ≤ b ∧ b ≤ 1099511627776))) w rfl (r_move rfl) ?_
  refine EL_gite 7 rfl rfl rfl (.complex .f64 x2 y2) rfl (fun g11 => r_move rfl) ?_
  rcases Bool.eq_false_or_eq_true (decide ((0 : Int) ≤ a ∧ a ≤ 1099511627776 ∧ (0 : Int) ≤ b ∧ b ≤ 1099511627776)) with q12 | q12
  · have q12' : (0 : Int) ≤ a ∧ a ≤ 1099511627776 ∧ (0 : Int) ≤ b ∧ b ≤ 1099511627776 := of_decide_eq_true q12
    refine EL_gret 7 rfl (by exact congrArg Value.bool q12) rfl rfl [.complex .f64 x2 y2] rfl Try.func21 rfl nm21 (by exact args1 (by exact cond_of (show ((decide ((0 : Int) ≤ a ∧ a ≤ 1099511627776 ∧ (0 : Int) ≤ b ∧ b ≤ 1099511627776)) == true) = true from by rw [q12]; rfl) rfl)) (tally_c x2 c y2 d w Fx2 Fy2 (by omega) (by omega)) ?_
    rintro _ _ ⟨rfl, rfl⟩
    refine EL_val (.bool (decide ((0 : Int) ≤ c ∧ c ≤ 1099511627776 ∧ (0 : Int) ≤ d ∧ d ≤ 1099511627776))) w rfl (r_pickT (by exact congrArg Value.bool q12) rfl) ?_
    refine EL_val (.bool (decide ((0 : Int) ≤ c ∧ c ≤ 1099511627776 ∧ (0 : Int) ≤ d ∧ d ≤ 1099511627776))) w rfl (r_move rfl) ?_
    rcases Bool.eq_false_or_eq_true (decide ((0 : Int) ≤ c ∧ c ≤ 1099511627776 ∧ (0 : Int) ≤ d ∧ d ≤ 1099511627776)) with q13 | q13
    · have q13' : (0 : Int) ≤ c ∧ c ≤ 1099511627776 ∧ (0 : Int) ≤ d ∧ d ≤ 1099511627776 := of_decide_eq_true q13
      refine EL_gval 11 rfl (by exact congrArg Value.bool q13) rfl rfl (.complex .f64 x y) w rfl (r_move rfl) ?_
      refine EL_gval 11 rfl (by exact congrArg Value.bool q13) rfl rfl (.float .f64 x) w rfl (r_real rfl) ?_
      refine EL_gval 11 rfl (by exact congrArg Value.bool q13) rfl rfl (.complex .f64 x2 y2) w rfl (r_move rfl) ?_
      refine EL_gval 11 rfl (by exact congrArg Value.bool q13) rfl rfl (.float .f64 x2) w rfl (r_real rfl) ?_
      refine EL_gval 11 rfl (by exact congrArg Value.bool q13) rfl rfl (.bool (decide (a ≤ c))) w rfl (r_fleq rfl rfl Fx Fx2) ?_
      refine EL_val (.bool (decide (a ≤ c))) w rfl (r_pickT (by exact congrArg Value.bool q13) rfl) ?_
      refine EL_val (.bool (decide (a ≤ c))) w rfl (r_move rfl) ?_
      refine EL_gite 18 rfl rfl rfl (.complex .f64 x y) rfl (fun g14 => r_move rfl) ?_
      refine EL_gite 18 rfl rfl rfl (.float .f64 y) rfl (fun g15 => r_imag (cond_of g15 rfl)) ?_
      refine EL_gite 18 rfl rfl rfl (.complex .f64 x2 y2) rfl (fun g16 => r_move rfl) ?_
      refine EL_gite 18 rfl rfl rfl (.float .f64 y2) rfl (fun g17 => r_imag (cond_of g17 rfl)) ?_
      refine EL_gite 18 rfl rfl rfl (.bool (decide (b ≤ d))) rfl (fun g18 => r_fleq (cond_of g18 rfl) (cond_of g18 rfl) Fy Fy2) ?_
      refine EL_val (.bool ((decide (a ≤ c)) && (decide (b ≤ d)))) w rfl (r_and rfl rfl rfl) ?_
      refine EL_val (.bool ((decide (a ≤ c)) && (decide (b ≤ d)))) w rfl (r_assign rfl) ?_
      refine EL_nil ?_
      refine thn_n ?_
      refine EC_ret ?_
      refine fin1 Try.results15 (show _ = .bool ((decide (a ≤ c)) && (decide (b ≤ d))) from rfl) ⟨_, rfl, ?_⟩
      exact ⟨congrArg Value.bool (by first | (rw [← Bool.decide_and]; apply decide_eq_decide.2; omega) | (apply decide_eq_decide.2; omega)), rfl⟩
    · have q13' : ¬ ((0 : Int) ≤ c ∧ c ≤ 1099511627776 ∧ (0 : Int) ≤ d ∧ d ≤ 1099511627776) := of_decide_eq_false q13
      refine EL_pass 11 rfl (by exact congrArg Value.bool q13) rfl rfl rfl ?_
      refine EL_pass 11 rfl (by exact congrArg Value.bool q13) rfl rfl rfl ?_
      refine EL_pass 11 rfl (by exact congrArg Value.bool q13) rfl rfl rfl ?_
      refine EL_pass 11 rfl (by exact congrArg Value.bool q13) rfl rfl rfl ?_
      refine EL_pass 11 rfl (by exact congrArg Value.bool q13) rfl rfl rfl ?_
      refine EL_val (.bool false) w rfl (r_pickF (by exact congrArg Value.bool q13) rfl) ?_
      refine EL_val (.bool false) w rfl (r_move rfl) ?_
      refine EL_pass 18 rfl rfl rfl rfl rfl ?_
      refine EL_pass 18 rfl rfl rfl rfl rfl ?_
      refine EL_pass 18 rfl rfl rfl rfl rfl ?_
      refine EL_pass 18 rfl rfl rfl rfl rfl ?_
      refine EL_pass 18 rfl rfl rfl rfl rfl ?_
      refine EL_val (.bool false) w rfl (r_pickF rfl rfl) ?_
      refine EL_val (.bool false) w rfl (r_assign rfl) ?_
      refine EL_nil ?_
      refine thn_n ?_
      refine EC_ret ?_
      refine fin1 Try.results15 (show _ = .bool false from rfl) ⟨_, rfl, ?_⟩
      exact ⟨congrArg Value.bool (decide_eq_false (by omega)).symm, rfl⟩
  · have q12' : ¬ ((0 : Int) ≤ a ∧ a ≤ 1099511627776 ∧ (0 : Int) ≤ b ∧ b ≤ 1099511627776) := of_decide_eq_false q12
    refine EL_pass 7 rfl (by exact congrArg Value.bool q12) rfl rfl rfl ?_
    refine EL_val (.bool false) w rfl (r_pickF (by exact congrArg Value.bool q12) rfl) ?_
    refine EL_val (.bool false) w rfl (r_move rfl) ?_
    refine EL_pass 11 rfl rfl rfl rfl rfl ?_
    refine EL_pass 11 rfl rfl rfl rfl rfl ?_
    refine EL_pass 11 rfl rfl rfl rfl rfl ?_
    refine EL_pass 11 rfl rfl rfl rfl rfl ?_
    refine EL_pass 11 rfl rfl rfl rfl rfl ?_
    refine EL_val (.bool false) w rfl (r_pickF rfl rfl) ?_
    refine EL_val (.bool false) w rfl (r_move rfl) ?_
    refine EL_pass 18 rfl rfl rfl rfl rfl ?_
    refine EL_pass 18 rfl rfl rfl rfl rfl ?_
    refine EL_pass 18 rfl rfl rfl rfl rfl ?_
    refine EL_pass 18 rfl rfl rfl rfl rfl ?_
    refine EL_pass 18 rfl rfl rfl rfl rfl ?_
    refine EL_val (.bool false) w rfl (r_pickF rfl rfl) ?_
    refine EL_val (.bool false) w rfl (r_assign rfl) ?_
    refine EL_nil ?_
    refine thn_n ?_
    refine EC_ret ?_
    refine fin1 Try.results15 (show _ = .bool false from rfl) ⟨_, rfl, ?_⟩
    exact ⟨congrArg Value.bool (decide_eq_false (by omega)).symm, rfl⟩

set_option maxRecDepth 100000 in
set_option maxHeartbeats 4000000 in
theorem Finish_ok (x : Nat) (a : Int) (y : Nat) (b : Int) (n : Int) (w : World) (Fx : Fw x a) (Fy : Fw y b) (ba : a.natAbs < 9007199254740992) (bb : b.natAbs < 9007199254740992) (rn : -9223372036854775808 ≤ n ∧ n ≤ 9223372036854775807) (h : (0 : Int) ≤ a ∧ a ≤ 1099511627776 ∧ (0 : Int) ≤ b ∧ b ≤ 1099511627776) (hn : 0 ≤ n ∧ n ≤ b ∧ n ≤ 1099511627776 - a) : Ret Try.prog 14 [.complex .f64 x y, .int .i64 n] w fun v w' => ∃ z1 z2, v = .tuple #[.complex .f64 z1 z2, .int .i64 0] ∧ Fw z1 (a + n) ∧ Fw z2 (b + -n) ∧ w = w' := by
  refine ret_E Try.func14 rfl Try.ntmps14 (by simp) ?_
  refine EC_seq ?_
  refine EC_reg ?_
  refine EL_val (.complex .f64 0 0) w rfl (r_assign rfl) ?_
  refine EL_val (.int .i64 0) w rfl (r_assign rfl) ?_
  refine EL_nil ?_
  refine thn_n ?_
  refine EC_seq ?_
  refine EC_reg ?_
  refine EL_val (.complex .f64 x y) w rfl (r_move rfl) ?_
  refine EL_ret [.complex .f64 x y] rfl Try.func12 rfl nm12 rfl (Parts_ok x a y b w Fx Fy (by omega) (by omega) (by omega)) ?_
  rintro _ _ ⟨rfl, rfl⟩
  refine EL_val (.tuple #[.int .i64 a, .int .i64 b, .bool true]) w rfl (r_move rfl) ?_
  refine EL_val (.int .i64 a) w rfl (r_extract rfl rfl) ?_
  refine EL_val (.int .i64 b) w rfl (r_extract rfl rfl) ?_
  refine EL_val (.bool true) w rfl (r_extract rfl rfl) ?_
  refine EL_val (.int .i64 a) w rfl (r_assign rfl) ?_
  refine EL_val (.int .i64 b) w rfl (r_assign rfl) ?_
  refine EL_val (.bool true) w rfl (r_assign rfl) ?_
  refine EL_nil ?_
  refine thn_n ?_
  refine EC_seq ?_
  refine EC_block ?_
  refine EC_seq ?_
  refine EC_reg ?_
  refine EL_val (.bool true) w rfl (r_move rfl) ?_
  refine EL_val (.bool false) w rfl (r_dec (show (!true) = false from rfl) (r_not rfl)) ?_
  refine EL_val (.bool false) w rfl (r_assign rfl) ?_
  refine EL_nil ?_
  refine thn_n ?_
  refine EC_cond_false rfl ?_
  refine EC_seq ?_
  refine EC_reg ?_
  refine EL_val (.int .i64 n) w rfl (r_move rfl) ?_
  refine EL_val (.bool (decide (n < 0))) w rfl (r_lss rfl rfl) ?_
  refine EL_val (.bool (decide (n < 0))) w rfl (r_move rfl) ?_
  refine EL_gite 21 rfl rfl rfl (.int .i64 n) rfl (fun g11 => r_move rfl) ?_
  refine EL_gite 21 rfl rfl rfl (.int .i64 b) rfl (fun g12 => r_move rfl) ?_
  refine EL_gite 21 rfl rfl rfl (.bool (decide (b < n))) rfl (fun g13 => r_gtr (cond_of g13 rfl) (cond_of g13 rfl)) ?_
  refine EL_val (.bool ((decide (n < 0)) || (decide (b < n)))) w rfl (r_or rfl rfl rfl) ?_
  refine EL_val (.bool ((decide (n < 0)) || (decide (b < n)))) w rfl (r_move rfl) ?_
  refine EL_gite 26 rfl rfl rfl (.int .i64 n) rfl (fun g14 => r_move rfl) ?_
  refine EL_gite 26 rfl rfl rfl (.int .i64 a) rfl (fun g15 => r_move rfl) ?_
  refine EL_gite 26 rfl rfl rfl (.int .i64 (1099511627776 - a)) rfl (fun g16 => r_subi rfl (cond_of g16 rfl) (by first | omega | (simp at g16; omega))) ?_
  refine EL_gite 26 rfl rfl rfl (.bool (decide ((1099511627776 - a) < n))) rfl (fun g17 => r_gtr (cond_of g17 rfl) (cond_of g17 rfl)) ?_
  refine EL_val (.bool (((decide (n < 0)) || (decide (b < n))) || (decide ((1099511627776 - a) < n)))) w rfl (r_or rfl rfl rfl) ?_
  refine EL_val (.bool (((decide (n < 0)) || (decide (b < n))) || (decide ((1099511627776 - a) < n)))) w rfl (r_assign rfl) ?_
  refine EL_nil ?_
  refine thn_n ?_
  refine EC_cond_false (Eq.trans (show _ = Value.bool (((decide (n < 0)) || (decide (b < n))) || (decide ((1099511627776 - a) < n))) from rfl) (congrArg Value.bool (show (((decide (n < 0)) || (decide (b < n))) || (decide ((1099511627776 - a) < n))) = false from by simp; omega))) ?_
  refine EC_skip ?_
  refine inB_n ?_
  refine thn_n ?_
  refine EC_seq ?_
  refine EC_reg ?_
  refine EL_val (.complex .f64 x y) w rfl (r_move rfl) ?_
  refine EL_val (.int .i64 n) w rfl (r_move rfl) ?_
  refine EL_val (.float .f64 (fw n)) w rfl (r_i2f rfl (by rw [Try.underlying3]; rfl) Try.underlying34) ?_
  refine EL_val (.complex .f64 (fw n) 0) w rfl (r_complex rfl rfl) ?_
  obtain ⟨m1, mh1, Z1⟩ := fmul (fw_is (n := n) (by omega)) (fw_const (x := 4607182418800017408) (n := 1) (by decide +kernel) (by decide)) (by omega)
  obtain ⟨m2, mh2, Z2⟩ := fmul (fw_const (x := 0) (n := 0) (by decide +kernel) (by decide)) (fw_const (x := 13830554455654793216) (n := -1) (by decide +kernel) (by decide)) (by omega)
  obtain ⟨m3, mh3, Z3⟩ := fsub Z1 Z2 (by omega)
  obtain ⟨m4, mh4, Z4⟩ := fmul (fw_is (n := n) (by omega)) (fw_const (x := 13830554455654793216) (n := -1) (by decide +kernel) (by decide)) (by omega)
  obtain ⟨m5, mh5, Z5⟩ := fmul (fw_const (x := 0) (n := 0) (by decide +kernel) (by decide)) (fw_const (x := 4607182418800017408) (n := 1) (by decide +kernel) (by decide)) (by omega)
  obtain ⟨m6, mh6, Z6⟩ := fadd Z4 Z5 (by omega)
  have me : cMulBits (fw n) 0 4607182418800017408 13830554455654793216 = some (m3, m6) := by simp only [cMulBits, mh1, mh2, mh3, mh4, mh5, mh6, Option.bind_some]
  have Za : Fw m3 n := by rw [show n * 1 - 0 * -1 = n from by omega] at Z3; exact Z3
  have Zb : Fw m6 (-n) := by rw [show n * -1 + 0 * 1 = -n from by omega] at Z6; exact Z6
  refine EL_val (.complex .f64 m3 m6) w rfl (r_cmul rfl rfl me) ?_
  obtain ⟨z18, hz19, Fz20⟩ := fadd Fx Za (by omega)
  obtain ⟨z21, hz22, Fz23⟩ := fadd Fy Zb (by omega)
  refine EL_val (.complex .f64 z18 z21) w rfl (r_csum (.inl rfl) rfl rfl hz19 hz22) ?_
  refine EL_val (.complex .f64 z18 z21) w rfl (r_assign rfl) ?_
  refine EL_val (.int .i64 0) w rfl (r_assign rfl) ?_
  refine EL_nil ?_
  refine thn_n ?_
  refine EC_ret ?_
  refine fin2 Try.results14 (show _ = .complex .f64 z18 z21 from rfl) (show _ = .int .i64 0 from rfl) ⟨_, rfl, ?_⟩
  exact ⟨_, _, rfl, Fz20, Fz23, rfl⟩

set_option maxRecDepth 100000 in
set_option maxHeartbeats 4000000 in
theorem Finish_no (x : Nat) (a : Int) (y : Nat) (b : Int) (n : Int) (w : World) (Fx : Fw x a) (Fy : Fw y b) (ba : a.natAbs < 9007199254740992) (bb : b.natAbs < 9007199254740992) (rn : -9223372036854775808 ≤ n ∧ n ≤ 9223372036854775807) (h : (0 : Int) ≤ a ∧ a ≤ 1099511627776 ∧ (0 : Int) ≤ b ∧ b ≤ 1099511627776) (hn : ¬ (0 ≤ n ∧ n ≤ b ∧ n ≤ 1099511627776 - a)) : Ret Try.prog 14 [.complex .f64 x y, .int .i64 n] w fun v w' => v = .tuple #[.complex .f64 0 0, .int .i64 12] ∧ w = w' := by
  refine ret_E Try.func14 rfl Try.ntmps14 (by simp) ?_
  refine EC_seq ?_
  refine EC_reg ?_
  refine EL_val (.complex .f64 0 0) w rfl (r_assign rfl) ?_
  refine EL_val (.int .i64 0) w rfl (r_assign rfl) ?_
  refine EL_nil ?_
  refine thn_n ?_
  refine EC_seq ?_
  refine EC_reg ?_
  refine EL_val (.complex .f64 x y) w rfl (r_move rfl) ?_
  refine EL_ret [.complex .f64 x y] rfl Try.func12 rfl nm12 rfl (Parts_ok x a y b w Fx Fy (by omega) (by omega) (by omega)) ?_
  rintro _ _ ⟨rfl, rfl⟩
  refine EL_val (.tuple #[.int .i64 a, .int .i64 b, .bool true]) w rfl (r_move rfl) ?_
  refine EL_val (.int .i64 a) w rfl (r_extract rfl rfl) ?_
  refine EL_val (.int .i64 b) w rfl (r_extract rfl rfl) ?_
  refine EL_val (.bool true) w rfl (r_extract rfl rfl) ?_
  refine EL_val (.int .i64 a) w rfl (r_assign rfl) ?_
  refine EL_val (.int .i64 b) w rfl (r_assign rfl) ?_
  refine EL_val (.bool true) w rfl (r_assign rfl) ?_
  refine EL_nil ?_
  refine thn_n ?_
  refine EC_seq ?_
  refine EC_block ?_
  refine EC_seq ?_
  refine EC_reg ?_
  refine EL_val (.bool true) w rfl (r_move rfl) ?_
  refine EL_val (.bool false) w rfl (r_dec (show (!true) = false from rfl) (r_not rfl)) ?_
  refine EL_val (.bool false) w rfl (r_assign rfl) ?_
  refine EL_nil ?_
  refine thn_n ?_
  refine EC_cond_false rfl ?_
  refine EC_seq ?_
  refine EC_reg ?_
  refine EL_val (.int .i64 n) w rfl (r_move rfl) ?_
  refine EL_val (.bool (decide (n < 0))) w rfl (r_lss rfl rfl) ?_
  refine EL_val (.bool (decide (n < 0))) w rfl (r_move rfl) ?_
  refine EL_gite 21 rfl rfl rfl (.int .i64 n) rfl (fun g11 => r_move rfl) ?_
  refine EL_gite 21 rfl rfl rfl (.int .i64 b) rfl (fun g12 => r_move rfl) ?_
  refine EL_gite 21 rfl rfl rfl (.bool (decide (b < n))) rfl (fun g13 => r_gtr (cond_of g13 rfl) (cond_of g13 rfl)) ?_
  refine EL_val (.bool ((decide (n < 0)) || (decide (b < n)))) w rfl (r_or rfl rfl rfl) ?_
  refine EL_val (.bool ((decide (n < 0)) || (decide (b < n)))) w rfl (r_move rfl) ?_
  refine EL_gite 26 rfl rfl rfl (.int .i64 n) rfl (fun g14 => r_move rfl) ?_
  refine EL_gite 26 rfl rfl rfl (.int .i64 a) rfl (fun g15 => r_move rfl) ?_
  refine EL_gite 26 rfl rfl rfl (.int .i64 (1099511627776 - a)) rfl (fun g16 => r_subi rfl (cond_of g16 rfl) (by first | omega | (simp at g16; omega))) ?_
  refine EL_gite 26 rfl rfl rfl (.bool (decide ((1099511627776 - a) < n))) rfl (fun g17 => r_gtr (cond_of g17 rfl) (cond_of g17 rfl)) ?_
  refine EL_val (.bool (((decide (n < 0)) || (decide (b < n))) || (decide ((1099511627776 - a) < n)))) w rfl (r_or rfl rfl rfl) ?_
  refine EL_val (.bool (((decide (n < 0)) || (decide (b < n))) || (decide ((1099511627776 - a) < n)))) w rfl (r_assign rfl) ?_
  refine EL_nil ?_
  refine thn_n ?_
  refine EC_cond_true (Eq.trans (show _ = Value.bool (((decide (n < 0)) || (decide (b < n))) || (decide ((1099511627776 - a) < n))) from rfl) (congrArg Value.bool (show (((decide (n < 0)) || (decide (b < n))) || (decide ((1099511627776 - a) < n))) = true from by simp; omega))) ?_
  refine EC_seq ?_
  refine EC_reg ?_
  refine EL_val (.complex .f64 0 0) w rfl (r_assign rfl) ?_
  refine EL_val (.int .i64 12) w rfl (r_assign rfl) ?_
  refine EL_nil ?_
  refine thn_n ?_
  refine EC_ret ?_
  refine inB_r ?_
  refine thn_r ?_
  refine fin2 Try.results14 (show _ = .complex .f64 0 0 from rfl) (show _ = .int .i64 12 from rfl) ⟨_, rfl, ?_⟩
  exact ⟨rfl, rfl⟩

set_option maxRecDepth 100000 in
set_option maxHeartbeats 4000000 in
theorem right_c (a : Int) (b : Int) (w : World) (ra : -9223372036854775808 ≤ a ∧ a ≤ 9223372036854775807) (rb : -9223372036854775808 ≤ b ∧ b ≤ 9223372036854775807) : Ret Try.prog 11 [.agg (([a, b] : List Int).map (Value.int .i64)).toArray] w fun v w' => v = .bool (decide ((0 : Int) ≤ a ∧ a ≤ 1099511627776 ∧ (0 : Int) ≤ b ∧ b ≤ 1099511627776)) ∧ Below w.heap.size w w' := by
  refine ret_E Try.func11 rfl Try.ntmps11 (by simp) ?_
  refine EC_seq ?_
  refine EC_reg ?_
  refine EL_box (([a, b] : List Int).map (Value.int .i64)) rfl rfl rfl ?_
  intro b11 w12 k13 A14 B15 z16
  have B17 : Below w.heap.size w w12 := B15
  have A14' : Arr w12 b11 23 (([a, b] : List Int).map (Value.int .i64)) := A14
  refine EL_val (.bool false) w12 rfl (r_assign rfl) ?_
  refine EL_nil ?_
  refine thn_n ?_
  refine EC_seq ?_
  refine EC_reg ?_
  refine EL_val (ptr b11 0) w12 rfl (r_fieldA rfl Try.underlying23 rfl (fun _ => rfl)) ?_
  refine EL_val (.int .i64 a) w12 rfl (r_loadA rfl A14' (u := .int .i64 a) rfl Try.underlying3 rfl) ?_
  refine EL_val (.bool (decide (0 ≤ a))) w12 rfl (r_geq rfl rfl) ?_
  refine EL_val (.bool (decide (0 ≤ a))) w12 rfl (r_move rfl) ?_
  refine EL_gite 6 rfl rfl rfl (ptr b11 0) rfl (fun g18 => r_fieldA rfl Try.underlying23 rfl (fun _ => rfl)) ?_
  refine EL_gite 6 rfl rfl rfl (.int .i64 a) rfl (fun g19 => r_loadA (cond_of g19 rfl) A14' (u := .int .i64 a) rfl Try.underlying3 rfl) ?_
  refine EL_gite 6 rfl rfl rfl (.bool (decide (a ≤ 1099511627776))) rfl (fun g20 => r_leq (cond_of g20 rfl) rfl) ?_
  refine EL_val (.bool ((decide (0 ≤ a)) && (decide (a ≤ 1099511627776)))) w12 rfl (r_and rfl rfl rfl) ?_
  refine EL_val (.bool ((decide (0 ≤ a)) && (decide (a ≤ 1099511627776)))) w12 rfl (r_move rfl) ?_
  refine EL_gite 11 rfl rfl rfl (ptr b11 1) rfl (fun g21 => r_fieldA rfl Try.underlying23 rfl (fun _ => rfl)) ?_
  refine EL_gite 11 rfl rfl rfl (.int .i64 b) rfl (fun g22 => r_loadA (cond_of g22 rfl) A14' (u := .int .i64 b) rfl Try.underlying3 rfl) ?_
  refine EL_gite 11 rfl rfl rfl (.bool (decide (0 ≤ b))) rfl (fun g23 => r_geq (cond_of g23 rfl) rfl) ?_
  refine EL_val (.bool (((decide (0 ≤ a)) && (decide (a ≤ 1099511627776))) && (decide (0 ≤ b)))) w12 rfl (r_and rfl rfl rfl) ?_
  refine EL_val (.bool (((decide (0 ≤ a)) && (decide (a ≤ 1099511627776))) && (decide (0 ≤ b)))) w12 rfl (r_move rfl) ?_
  refine EL_gite 16 rfl rfl rfl (ptr b11 1) rfl (fun g24 => r_fieldA rfl Try.underlying23 rfl (fun _ => rfl)) ?_
  refine EL_gite 16 rfl rfl rfl (.int .i64 b) rfl (fun g25 => r_loadA (cond_of g25 rfl) A14' (u := .int .i64 b) rfl Try.underlying3 rfl) ?_
  refine EL_gite 16 rfl rfl rfl (.bool (decide (b ≤ 1099511627776))) rfl (fun g26 => r_leq (cond_of g26 rfl) rfl) ?_
  refine EL_val (.bool ((((decide (0 ≤ a)) && (decide (a ≤ 1099511627776))) && (decide (0 ≤ b))) && (decide (b ≤ 1099511627776)))) w12 rfl (r_and rfl rfl rfl) ?_
  refine EL_val (.bool ((((decide (0 ≤ a)) && (decide (a ≤ 1099511627776))) && (decide (0 ≤ b))) && (decide (b ≤ 1099511627776)))) w12 rfl (r_assign rfl) ?_
  refine EL_nil ?_
  refine thn_n ?_
  refine EC_ret ?_
  refine fin1 Try.results11 (show _ = .bool ((((decide (0 ≤ a)) && (decide (a ≤ 1099511627776))) && (decide (0 ≤ b))) && (decide (b ≤ 1099511627776))) from rfl) ⟨_, rfl, ?_⟩
  exact ⟨congrArg Value.bool (by simp only [← Bool.decide_and]; apply decide_eq_decide.2; omega), B17⟩

set_option maxRecDepth 100000 in
set_option maxHeartbeats 4000000 in
theorem pstep_c (a : Int) (b : Int) (w : World) (ra : -9223372036854775808 ≤ a ∧ a ≤ 9223372036854775807) (rb : -9223372036854775808 ≤ b ∧ b ≤ 9223372036854775807) : Ret Try.prog 17 [.agg (([a, b] : List Int).map (Value.int .i64)).toArray] w fun v w' => v = .bool (decide ((-1099511627776 : Int) ≤ a ∧ a ≤ 1099511627776 ∧ (-1099511627776 : Int) ≤ b ∧ b ≤ 1099511627776)) ∧ Below w.heap.size w w' := by
  refine ret_E Try.func17 rfl Try.ntmps17 (by simp) ?_
  refine EC_seq ?_
  refine EC_reg ?_
  refine EL_box (([a, b] : List Int).map (Value.int .i64)) rfl rfl rfl ?_
  intro b11 w12 k13 A14 B15 z16
  have B17 : Below w.heap.size w w12 := B15
  have A14' : Arr w12 b11 23 (([a, b] : List Int).map (Value.int .i64)) := A14
  refine EL_val (.bool false) w12 rfl (r_assign rfl) ?_
  refine EL_nil ?_
  refine thn_n ?_
  refine EC_seq ?_
  refine EC_reg ?_
  refine EL_val (ptr b11 0) w12 rfl (r_fieldA rfl Try.underlying23 rfl (fun _ => rfl)) ?_
  refine EL_val (.int .i64 a) w12 rfl (r_loadA rfl A14' (u := .int .i64 a) rfl Try.underlying3 rfl) ?_
  refine EL_val (.bool (decide ((-1099511627776) ≤ a))) w12 rfl (r_geq rfl rfl) ?_
  refine EL_val (.bool (decide ((-1099511627776) ≤ a))) w12 rfl (r_move rfl) ?_
  refine EL_gite 6 rfl rfl rfl (ptr b11 0) rfl (fun g18 => r_fieldA rfl Try.underlying23 rfl (fun _ => rfl)) ?_
  refine EL_gite 6 rfl rfl rfl (.int .i64 a) rfl (fun g19 => r_loadA (cond_of g19 rfl) A14' (u := .int .i64 a) rfl Try.underlying3 rfl) ?_
  refine EL_gite 6 rfl rfl rfl (.bool (decide (a ≤ 1099511627776))) rfl (fun g20 => r_leq (cond_of g20 rfl) rfl) ?_
  refine EL_val (.bool ((decide ((-1099511627776) ≤ a)) && (decide (a ≤ 1099511627776)))) w12 rfl (r_and rfl rfl rfl) ?_
  refine EL_val (.bool ((decide ((-1099511627776) ≤ a)) && (decide (a ≤ 1099511627776)))) w12 rfl (r_move rfl) ?_
  refine EL_gite 11 rfl rfl rfl (ptr b11 1) rfl (fun g21 => r_fieldA rfl Try.underlying23 rfl (fun _ => rfl)) ?_
  refine EL_gite 11 rfl rfl rfl (.int .i64 b) rfl (fun g22 => r_loadA (cond_of g22 rfl) A14' (u := .int .i64 b) rfl Try.underlying3 rfl) ?_
  refine EL_gite 11 rfl rfl rfl (.bool (decide ((-1099511627776) ≤ b))) rfl (fun g23 => r_geq (cond_of g23 rfl) rfl) ?_
  refine EL_val (.bool (((decide ((-1099511627776) ≤ a)) && (decide (a ≤ 1099511627776))) && (decide ((-1099511627776) ≤ b)))) w12 rfl (r_and rfl rfl rfl) ?_
  refine EL_val (.bool (((decide ((-1099511627776) ≤ a)) && (decide (a ≤ 1099511627776))) && (decide ((-1099511627776) ≤ b)))) w12 rfl (r_move rfl) ?_
  refine EL_gite 16 rfl rfl rfl (ptr b11 1) rfl (fun g24 => r_fieldA rfl Try.underlying23 rfl (fun _ => rfl)) ?_
  refine EL_gite 16 rfl rfl rfl (.int .i64 b) rfl (fun g25 => r_loadA (cond_of g25 rfl) A14' (u := .int .i64 b) rfl Try.underlying3 rfl) ?_
  refine EL_gite 16 rfl rfl rfl (.bool (decide (b ≤ 1099511627776))) rfl (fun g26 => r_leq (cond_of g26 rfl) rfl) ?_
  refine EL_val (.bool ((((decide ((-1099511627776) ≤ a)) && (decide (a ≤ 1099511627776))) && (decide ((-1099511627776) ≤ b))) && (decide (b ≤ 1099511627776)))) w12 rfl (r_and rfl rfl rfl) ?_
  refine EL_val (.bool ((((decide ((-1099511627776) ≤ a)) && (decide (a ≤ 1099511627776))) && (decide ((-1099511627776) ≤ b))) && (decide (b ≤ 1099511627776)))) w12 rfl (r_assign rfl) ?_
  refine EL_nil ?_
  refine thn_n ?_
  refine EC_ret ?_
  refine fin1 Try.results17 (show _ = .bool ((((decide ((-1099511627776) ≤ a)) && (decide (a ≤ 1099511627776))) && (decide ((-1099511627776) ≤ b))) && (decide (b ≤ 1099511627776))) from rfl) ⟨_, rfl, ?_⟩
  exact ⟨congrArg Value.bool (by simp only [← Bool.decide_and]; apply decide_eq_decide.2; omega), B17⟩

set_option maxRecDepth 100000 in
set_option maxHeartbeats 4000000 in
theorem number_c (a : Int) (b : Int) (w : World) (ra : -9223372036854775808 ≤ a ∧ a ≤ 9223372036854775807) (rb : -9223372036854775808 ≤ b ∧ b ≤ 9223372036854775807) : Ret Try.prog 13 [.agg (([a, b] : List Int).map (Value.int .i64)).toArray] w fun v w' => v = .complex .f64 (fw a) (fw b) ∧ Below w.heap.size w w' := by
  refine ret_E Try.func13 rfl Try.ntmps13 (by simp) ?_
  refine EC_seq ?_
  refine EC_reg ?_
  refine EL_box (([a, b] : List Int).map (Value.int .i64)) rfl rfl rfl ?_
  intro b11 w12 k13 A14 B15 z16
  have B17 : Below w.heap.size w w12 := B15
  have A14' : Arr w12 b11 23 (([a, b] : List Int).map (Value.int .i64)) := A14
  refine EL_val (.complex .f64 0 0) w12 rfl (r_assign rfl) ?_
  refine EL_nil ?_
  refine thn_n ?_
  refine EC_seq ?_
  refine EC_reg ?_
  refine EL_val (ptr b11 0) w12 rfl (r_fieldA rfl Try.underlying23 rfl (fun _ => rfl)) ?_
  refine EL_val (.int .i64 a) w12 rfl (r_loadA rfl A14' (u := .int .i64 a) rfl Try.underlying3 rfl) ?_
  refine EL_val (.float .f64 (fw a)) w12 rfl (r_i2f rfl (by rw [Try.underlying3]; rfl) Try.underlying34) ?_
  refine EL_val (ptr b11 1) w12 rfl (r_fieldA rfl Try.underlying23 rfl (fun _ => rfl)) ?_
  refine EL_val (.int .i64 b) w12 rfl (r_loadA rfl A14' (u := .int .i64 b) rfl Try.underlying3 rfl) ?_
  refine EL_val (.float .f64 (fw b)) w12 rfl (r_i2f rfl (by rw [Try.underlying3]; rfl) Try.underlying34) ?_
  refine EL_val (.complex .f64 (fw a) (fw b)) w12 rfl (r_complex rfl rfl) ?_
  refine EL_val (.complex .f64 (fw a) (fw b)) w12 rfl (r_assign rfl) ?_
  refine EL_nil ?_
  refine thn_n ?_
  refine EC_ret ?_
  refine fin1 Try.results13 (show _ = .complex .f64 (fw a) (fw b) from rfl) ⟨_, rfl, ?_⟩
  exact ⟨rfl, B17⟩

end Go.Proofs.Ytieaebbnmebbfaa
