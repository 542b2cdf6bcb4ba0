/-
  Numbers whose parts are not whole, or beyond the bounds, are no tallies: no parts, no sum, no step, nothing within.
  Its conditions: none: whatever the input, in whatever memory.
-/
import Derived.Test.YtieaebbnmebbfaaRows
import Derived.Test.YtieaebbnmebbfaaWalksF
import Derived.ProofKit
import Derived.OpenShut
import Derived.ShutString
import Derived.ChangeOld
set_option linter.unusedVariables false
set_option linter.unusedSimpArgs false
namespace Go.Proofs.Ytieaebbnmebbfaa.tallyForms
open Go.ChangeShapes Go.WideShapes Go.ChangeAt Go.RowKit Go.Ecal
open Go.ChangeMaps (open_string shut_string)
theorem three (x y : Nat) : (∃ m n, Fw x m ∧ Fw y n ∧ (0 ≤ m ∧ m ≤ 1099511627776) ∧ (0 ≤ n ∧ n ≤ 1099511627776)) ∨ (∃ m, Fw x m ∧ (0 ≤ m ∧ m ≤ 1099511627776) ∧ ¬ Wh y 0) ∨ ¬ Wh x 0 := by
  by_cases hx : Wh x 0
  · obtain ⟨m, Fm, hm⟩ := hx
    by_cases hy : Wh y 0
    · obtain ⟨n, Fn, hn⟩ := hy; exact .inl ⟨m, n, Fm, Fn, hm, hn⟩
    · exact .inr (.inl ⟨m, Fm, hm, hy⟩)
  · exact .inr (.inr hx)
set_option maxRecDepth 100000 in
set_option maxHeartbeats 4000000 in
theorem TallyForms_c (xa : Nat) (xb : Nat) (w : World) : Ret Try.prog 8 [.float .f64 xa, .float .f64 xb] w fun v w' => v = .bool true ∧ Below w.heap.size w w' := by
  refine ret_E Try.func8 rfl Try.ntmps8 (by simp) ?_
  refine EC_seq ?_
  refine EC_reg ?_
  refine EL_val (.bool false) w rfl (r_assign rfl) ?_
  refine EL_nil ?_
  refine thn_n ?_
  refine EC_seq ?_
  refine EC_seq ?_
  refine EC_reg ?_
  refine EL_ret [] rfl Try.func9 rfl nm9 rfl (anchor_c w) ?_
  rintro _ _ ⟨rfl, rfl⟩
  refine EL_val (.bool false) w rfl (r_dec (show (!true) = false from rfl) (r_not rfl)) ?_
  refine EL_nil ?_
  refine thn_n ?_
  refine EC_cond_false rfl ?_
  refine EC_skip ?_
  refine thn_n ?_
  refine EC_seq ?_
  rcases three xa xb with ⟨m, n, Fm, Fn, hm, hn9⟩ | ⟨m, Fm, hm, hy⟩ | hx
  · refine EC_reg ?_
    refine EL_val (.float .f64 xa) w rfl (r_move rfl) ?_
    refine EL_val (.float .f64 xb) w rfl (r_move rfl) ?_
    refine EL_val (.complex .f64 xa xb) w rfl (r_complex rfl rfl) ?_
    refine EL_val (.complex .f64 xa xb) w rfl (r_assign rfl) ?_
    refine EL_nil ?_
    refine thn_n ?_
    refine EC_seq ?_
    refine EC_reg ?_
    refine EL_val (.func (.func 20) #[] #[]) w rfl (r_assign rfl) ?_
    refine EL_nil ?_
    refine thn_n ?_
    refine EC_seq ?_
    refine EC_reg ?_
    refine EL_val (.func (.func 20) #[] #[]) w rfl (r_move rfl) ?_
    refine EL_val (.float .f64 xa) w rfl (r_move rfl) ?_
    refine EL_retv [.float .f64 xa] rfl rfl Try.func20 rfl nm20 rfl (wl_yes xa m w Fm (by omega)) ?_
    rintro _ _ ⟨rfl, rfl⟩
    refine EL_val (.bool true) w rfl (r_move rfl) ?_
    refine EL_gval 25 rfl rfl rfl rfl (.func (.func 20) #[] #[]) w rfl (r_move rfl) ?_
    refine EL_gval 25 rfl rfl rfl rfl (.float .f64 xb) w rfl (r_move rfl) ?_
    refine EL_gretv 25 rfl rfl rfl rfl [.float .f64 xb] rfl rfl Try.func20 rfl nm20 rfl (wl_yes xb n w Fn (by omega)) ?_
    rintro _ _ ⟨rfl, rfl⟩
    refine EL_val (.bool true) w rfl (r_pickT rfl rfl) ?_
    refine EL_val (.bool true) w rfl (r_assign rfl) ?_
    refine EL_nil ?_
    refine thn_n ?_
    refine EC_seq ?_
    refine EC_reg ?_
    refine EL_val (.complex .f64 xa xb) w rfl (r_move rfl) ?_
    refine EL_ret [.complex .f64 xa xb] rfl Try.func12 rfl nm12 rfl (Parts_ok xa m xb n w Fm Fn (by omega) (by omega) (by omega)) ?_
    rintro _ _ ⟨rfl, rfl⟩
    refine EL_val (.tuple #[.int .i64 m, .int .i64 n, .bool true]) w rfl (r_move rfl) ?_
    refine EL_val (.int .i64 m) w rfl (r_extract rfl rfl) ?_
    refine EL_val (.int .i64 n) w rfl (r_extract rfl rfl) ?_
    refine EL_val (.bool true) w rfl (r_extract rfl rfl) ?_
    refine EL_val (.int .i64 m) w rfl (r_assign rfl) ?_
    refine EL_val (.int .i64 n) w rfl (r_assign rfl) ?_
    refine EL_val (.bool true) w rfl (r_assign rfl) ?_
    refine EL_nil ?_
    refine thn_n ?_
    refine EC_seq ?_
    refine EC_reg ?_
    refine EL_val (.complex .f64 xa xb) w rfl (r_move rfl) ?_
    refine EL_ret [.complex .f64 xa xb, .slice none 0 0] rfl Try.func18 rfl nm18 rfl (Sum_ok xa m xb n (.slice none 0 0) [] [] ⟨rfl, fun j p hj => by simp at hj⟩ w Fm Fn (by omega) (by omega) (Row.nil _) (by omega) m n rfl) ?_
    rintro _ _ ⟨z11, z12, rfl, Fz13, Fz14, rfl⟩
    refine EL_val (.tuple #[.complex .f64 z11 z12, .int .i64 0]) w rfl (r_move rfl) ?_
    refine EL_val (.complex .f64 z11 z12) w rfl (r_extract rfl rfl) ?_
    refine EL_val (.int .i64 0) w rfl (r_extract rfl rfl) ?_
    refine EL_val (.complex .f64 z11 z12) w rfl (r_assign rfl) ?_
    refine EL_val (.int .i64 0) w rfl (r_assign rfl) ?_
    refine EL_nil ?_
    refine thn_n ?_
    refine EC_seq ?_
    refine EC_reg ?_
    refine EL_val (.complex .f64 xa xb) w rfl (r_move rfl) ?_
    refine EL_ret [.complex .f64 xa xb, .complex .f64 0 0] rfl Try.func19 rfl nm19 rfl (Step_ok xa m xb n 0 (0 : Int) 0 (0 : Int) w Fm Fn (by omega) (by omega) (fw_const (x := 0) (n := 0) (by decide +kernel) (by decide)) (fw_const (x := 0) (n := 0) (by decide +kernel) (by decide)) (by omega) (by omega) (by omega) (by omega)) ?_
    rintro _ _ ⟨z15, z16, rfl, Fz17, Fz18, rfl⟩
    refine EL_val (.tuple #[.complex .f64 z15 z16, .int .i64 0]) w rfl (r_move rfl) ?_
    refine EL_val (.complex .f64 z15 z16) w rfl (r_extract rfl rfl) ?_
    refine EL_val (.int .i64 0) w rfl (r_extract rfl rfl) ?_
    refine EL_val (.complex .f64 z15 z16) w rfl (r_assign rfl) ?_
    refine EL_val (.int .i64 0) w rfl (r_assign rfl) ?_
    refine EL_nil ?_
    refine thn_n ?_
    refine EC_seq ?_
    refine EC_reg ?_
    refine EL_val (.complex .f64 xa xb) w rfl (r_move rfl) ?_
    refine EL_ret [.complex .f64 xa xb, .int .i64 0] rfl Try.func14 rfl nm14 rfl (Finish_ok xa m xb n 0 w Fm Fn (by omega) (by omega) (by omega) (by omega) (by omega)) ?_
    rintro _ _ ⟨z19, z20, rfl, Fz21, Fz22, rfl⟩
    refine EL_val (.tuple #[.complex .f64 z19 z20, .int .i64 0]) w rfl (r_move rfl) ?_
    refine EL_val (.complex .f64 z19 z20) w rfl (r_extract rfl rfl) ?_
    refine EL_val (.int .i64 0) w rfl (r_extract rfl rfl) ?_
    refine EL_val (.complex .f64 z19 z20) w rfl (r_assign rfl) ?_
    refine EL_val (.int .i64 0) w rfl (r_assign rfl) ?_
    refine EL_nil ?_
    refine thn_n ?_
    refine EC_seq ?_
    refine EC_seq ?_
    refine EC_reg ?_
    refine EL_val (.bool true) w rfl (r_move rfl) ?_
    refine EL_nil ?_
    refine thn_n ?_
    refine EC_cond_true rfl ?_
    refine EC_seq ?_
    refine EC_reg ?_
    refine EL_val (.bool true) w rfl (r_move rfl) ?_
    refine EL_val (.bool true) w rfl (r_move rfl) ?_
    refine EL_gval 53 rfl rfl rfl rfl (.int .i64 0) w rfl (r_move rfl) ?_
    refine EL_gval 53 rfl rfl rfl rfl (.bool true) w rfl (r_dec (by decide) (r_eql rfl rfl)) ?_
    refine EL_val (.bool true) w rfl (r_pickT rfl rfl) ?_
    refine EL_val (.bool true) w rfl (r_move rfl) ?_
    refine EL_gval 57 rfl rfl rfl rfl (.int .i64 0) w rfl (r_move rfl) ?_
    refine EL_gval 57 rfl rfl rfl rfl (.bool true) w rfl (r_dec (by decide) (r_eql rfl rfl)) ?_
    refine EL_val (.bool true) w rfl (r_pickT rfl rfl) ?_
    refine EL_val (.bool true) w rfl (r_move rfl) ?_
    refine EL_gval 61 rfl rfl rfl rfl (.int .i64 0) w rfl (r_move rfl) ?_
    refine EL_gval 61 rfl rfl rfl rfl (.bool true) w rfl (r_dec (by decide) (r_eql rfl rfl)) ?_
    refine EL_val (.bool true) w rfl (r_pickT rfl rfl) ?_
    refine EL_val (.bool true) w rfl (r_move rfl) ?_
    refine EL_gval 65 rfl rfl rfl rfl (.complex .f64 z11 z12) w rfl (r_move rfl) ?_
    refine EL_gval 65 rfl rfl rfl rfl (.complex .f64 xa xb) w rfl (r_move rfl) ?_
    refine EL_gval 65 rfl rfl rfl rfl (.bool true) w rfl (r_dec (show (decide (m = m) && decide (n = n)) = true from by first | (simp; done) | (simp; omega)) (r_ceql rfl rfl Fz13 Fz14 Fm Fn)) ?_
    refine EL_val (.bool true) w rfl (r_pickT rfl rfl) ?_
    refine EL_val (.bool true) w rfl (r_move rfl) ?_
    refine EL_gval 70 rfl rfl rfl rfl (.complex .f64 z15 z16) w rfl (r_move rfl) ?_
    refine EL_gval 70 rfl rfl rfl rfl (.complex .f64 xa xb) w rfl (r_move rfl) ?_
    refine EL_gval 70 rfl rfl rfl rfl (.complex .f64 (Op.negFloat .f64 xa) (Op.negFloat .f64 xb)) w rfl (r_cneg rfl) ?_
    refine EL_gval 70 rfl rfl rfl rfl (.bool true) w rfl (r_dec (show (decide (((0 : Int) - m) = (-m)) && decide (((0 : Int) - n) = (-n))) = true from by first | (simp; done) | (simp; omega)) (r_ceql rfl rfl Fz17 Fz18 (neg_is Fm) (neg_is Fn))) ?_
    refine EL_val (.bool true) w rfl (r_pickT rfl rfl) ?_
    refine EL_val (.bool true) w rfl (r_move rfl) ?_
    refine EL_gval 76 rfl rfl rfl rfl (.complex .f64 z19 z20) w rfl (r_move rfl) ?_
    refine EL_gval 76 rfl rfl rfl rfl (.complex .f64 xa xb) w rfl (r_move rfl) ?_
    refine EL_gval 76 rfl rfl rfl rfl (.bool true) w rfl (r_dec (show (decide ((m + 0) = m) && decide ((n + -0) = n)) = true from by first | (simp; done) | (simp; omega)) (r_ceql rfl rfl Fz21 Fz22 Fm Fn)) ?_
    refine EL_val (.bool true) w rfl (r_pickT rfl rfl) ?_
    refine EL_val (.bool true) w rfl (r_move rfl) ?_
    refine EL_gval 81 rfl rfl rfl rfl (.complex .f64 xa xb) w rfl (r_move rfl) ?_
    refine EL_gval 81 rfl rfl rfl rfl (.complex .f64 xa xb) w rfl (r_move rfl) ?_
    refine EL_gret 81 rfl rfl rfl rfl [.complex .f64 xa xb, .complex .f64 xa xb] rfl Try.func15 rfl nm15 rfl (Within_c xa m xb n xa m xb n w Fm Fn (by omega) (by omega) Fm Fn (by omega) (by omega)) ?_
    rintro _ _ ⟨rfl, rfl⟩
    refine EL_val (.bool (decide (((0 : Int) ≤ m ∧ m ≤ 1099511627776 ∧ (0 : Int) ≤ n ∧ n ≤ 1099511627776) ∧ ((0 : Int) ≤ m ∧ m ≤ 1099511627776 ∧ (0 : Int) ≤ n ∧ n ≤ 1099511627776) ∧ m ≤ m ∧ n ≤ n))) w rfl (r_pickT rfl rfl) ?_
    refine EL_val (.bool (decide (((0 : Int) ≤ m ∧ m ≤ 1099511627776 ∧ (0 : Int) ≤ n ∧ n ≤ 1099511627776) ∧ ((0 : Int) ≤ m ∧ m ≤ 1099511627776 ∧ (0 : Int) ≤ n ∧ n ≤ 1099511627776) ∧ m ≤ m ∧ n ≤ n))) w rfl (r_move rfl) ?_
    refine EL_gite 86 rfl rfl rfl (.int .i64 m) rfl (fun g23 => r_move rfl) ?_
    refine EL_gite 86 rfl rfl rfl (.float .f64 (fw m)) rfl (fun g24 => r_i2f (cond_of g24 rfl) (by rw [Try.underlying3]; rfl) Try.underlying34) ?_
    refine EL_gite 86 rfl rfl rfl (.float .f64 xa) rfl (fun g25 => r_move rfl) ?_
    refine EL_gite 86 rfl rfl rfl (.bool true) rfl (fun g26 => r_dec (show (decide (m = m)) = true from by first | (simp; done) | (simp; omega)) (r_feql (cond_of g26 rfl) (cond_of g26 rfl) (fw_is (n := m) (by omega)) Fm)) ?_
    refine EL_val (.bool true) w rfl (r_dec (show ((decide (((0 : Int) ≤ m ∧ m ≤ 1099511627776 ∧ (0 : Int) ≤ n ∧ n ≤ 1099511627776) ∧ ((0 : Int) ≤ m ∧ m ≤ 1099511627776 ∧ (0 : Int) ≤ n ∧ n ≤ 1099511627776) ∧ m ≤ m ∧ n ≤ n)) && true) = true from by first | (simp; done) | (simp; omega)) (r_and rfl rfl rfl)) ?_
    refine EL_val (.bool true) w rfl (r_move rfl) ?_
    refine EL_gval 92 rfl rfl rfl rfl (.int .i64 n) w rfl (r_move rfl) ?_
    refine EL_gval 92 rfl rfl rfl rfl (.float .f64 (fw n)) w rfl (r_i2f rfl (by rw [Try.underlying3]; rfl) Try.underlying34) ?_
    refine EL_gval 92 rfl rfl rfl rfl (.float .f64 xb) w rfl (r_move rfl) ?_
    refine EL_gval 92 rfl rfl rfl rfl (.bool true) w rfl (r_dec (show (decide (n = n)) = true from by first | (simp; done) | (simp; omega)) (r_feql rfl rfl (fw_is (n := n) (by omega)) Fn)) ?_
    refine EL_val (.bool true) w rfl (r_pickT rfl rfl) ?_
    refine EL_val (.bool true) w rfl (r_assign rfl) ?_
    refine EL_nil ?_
    refine thn_n ?_
    refine EC_ret ?_
    refine thn_r ?_
    refine fin1 Try.results8 (show _ = .bool true from rfl) ⟨_, rfl, ?_⟩
    exact ⟨rfl, (Below.refl _ _)⟩
  · have hn : ¬ (Wh xa 0 ∧ Wh xb 0) := fun h => hy h.2
    refine EC_reg ?_
    refine EL_val (.float .f64 xa) w rfl (r_move rfl) ?_
    refine EL_val (.float .f64 xb) w rfl (r_move rfl) ?_
    refine EL_val (.complex .f64 xa xb) w rfl (r_complex rfl rfl) ?_
    refine EL_val (.complex .f64 xa xb) w rfl (r_assign rfl) ?_
    refine EL_nil ?_
    refine thn_n ?_
    refine EC_seq ?_
    refine EC_reg ?_
    refine EL_val (.func (.func 20) #[] #[]) w rfl (r_assign rfl) ?_
    refine EL_nil ?_
    refine thn_n ?_
    refine EC_seq ?_
    refine EC_reg ?_
    refine EL_val (.func (.func 20) #[] #[]) w rfl (r_move rfl) ?_
    refine EL_val (.float .f64 xa) w rfl (r_move rfl) ?_
    refine EL_retv [.float .f64 xa] rfl rfl Try.func20 rfl nm20 rfl (wl_yes xa m w Fm (by omega)) ?_
    rintro _ _ ⟨rfl, rfl⟩
    refine EL_val (.bool true) w rfl (r_move rfl) ?_
    refine EL_gval 25 rfl rfl rfl rfl (.func (.func 20) #[] #[]) w rfl (r_move rfl) ?_
    refine EL_gval 25 rfl rfl rfl rfl (.float .f64 xb) w rfl (r_move rfl) ?_
    refine EL_gretv 25 rfl rfl rfl rfl [.float .f64 xb] rfl rfl Try.func20 rfl nm20 rfl (wl_no xb w hy) ?_
    rintro _ _ ⟨rfl, rfl⟩
    refine EL_val (.bool false) w rfl (r_pickT rfl rfl) ?_
    refine EL_val (.bool false) w rfl (r_assign rfl) ?_
    refine EL_nil ?_
    refine thn_n ?_
    refine EC_seq ?_
    refine EC_reg ?_
    refine EL_val (.complex .f64 xa xb) w rfl (r_move rfl) ?_
    refine EL_ret [.complex .f64 xa xb] rfl Try.func12 rfl nm12 rfl (Parts_nf xa xb w hn) ?_
    rintro _ _ ⟨rfl, rfl⟩
    refine EL_val (.tuple #[.int .i64 0, .int .i64 0, .bool false]) w rfl (r_move rfl) ?_
    refine EL_val (.int .i64 0) w rfl (r_extract rfl rfl) ?_
    refine EL_val (.int .i64 0) w rfl (r_extract rfl rfl) ?_
    refine EL_val (.bool false) w rfl (r_extract rfl rfl) ?_
    refine EL_val (.int .i64 0) w rfl (r_assign rfl) ?_
    refine EL_val (.int .i64 0) w rfl (r_assign rfl) ?_
    refine EL_val (.bool false) w rfl (r_assign rfl) ?_
    refine EL_nil ?_
    refine thn_n ?_
    refine EC_seq ?_
    refine EC_reg ?_
    refine EL_val (.complex .f64 xa xb) w rfl (r_move rfl) ?_
    refine EL_ret [.complex .f64 xa xb, .slice none 0 0] rfl Try.func18 rfl nm18 rfl (Sum_nf xa xb (.slice none 0 0) w hn) ?_
    rintro _ _ ⟨rfl, rfl⟩
    refine EL_val (.tuple #[.complex .f64 0 0, .int .i64 10]) w rfl (r_move rfl) ?_
    refine EL_val (.complex .f64 0 0) w rfl (r_extract rfl rfl) ?_
    refine EL_val (.int .i64 10) w rfl (r_extract rfl rfl) ?_
    refine EL_val (.complex .f64 0 0) w rfl (r_assign rfl) ?_
    refine EL_val (.int .i64 10) w rfl (r_assign rfl) ?_
    refine EL_nil ?_
    refine thn_n ?_
    refine EC_seq ?_
    refine EC_reg ?_
    refine EL_val (.complex .f64 xa xb) w rfl (r_move rfl) ?_
    refine EL_ret [.complex .f64 xa xb, .complex .f64 0 0] rfl Try.func19 rfl nm19 rfl (Step_nf xa xb w hn) ?_
    rintro _ _ ⟨rfl, rfl⟩
    refine EL_val (.tuple #[.complex .f64 0 0, .int .i64 10]) w rfl (r_move rfl) ?_
    refine EL_val (.complex .f64 0 0) w rfl (r_extract rfl rfl) ?_
    refine EL_val (.int .i64 10) w rfl (r_extract rfl rfl) ?_
    refine EL_val (.complex .f64 0 0) w rfl (r_assign rfl) ?_
    refine EL_val (.int .i64 10) w rfl (r_assign rfl) ?_
    refine EL_nil ?_
    refine thn_n ?_
    refine EC_seq ?_
    refine EC_reg ?_
    refine EL_val (.complex .f64 xa xb) w rfl (r_move rfl) ?_
    refine EL_ret [.complex .f64 xa xb, .int .i64 0] rfl Try.func14 rfl nm14 rfl (Finish_nf xa xb 0 w hn) ?_
    rintro _ _ ⟨rfl, rfl⟩
    refine EL_val (.tuple #[.complex .f64 0 0, .int .i64 10]) w rfl (r_move rfl) ?_
    refine EL_val (.complex .f64 0 0) w rfl (r_extract rfl rfl) ?_
    refine EL_val (.int .i64 10) w rfl (r_extract rfl rfl) ?_
    refine EL_val (.complex .f64 0 0) w rfl (r_assign rfl) ?_
    refine EL_val (.int .i64 10) w rfl (r_assign rfl) ?_
    refine EL_nil ?_
    refine thn_n ?_
    refine EC_seq ?_
    refine EC_seq ?_
    refine EC_reg ?_
    refine EL_val (.bool false) w rfl (r_move rfl) ?_
    refine EL_nil ?_
    refine thn_n ?_
    refine EC_cond_false rfl ?_
    refine EC_skip ?_
    refine thn_n ?_
    refine EC_seq ?_
    refine EC_reg ?_
    refine EL_val (.bool false) w rfl (r_move rfl) ?_
    refine EL_val (.bool true) w rfl (r_dec (show (!false) = true from rfl) (r_not rfl)) ?_
    refine EL_val (.bool true) w rfl (r_move rfl) ?_
    refine EL_gval 100 rfl rfl rfl rfl (.int .i64 0) w rfl (r_move rfl) ?_
    refine EL_gval 100 rfl rfl rfl rfl (.bool true) w rfl (r_dec (by decide) (r_eql rfl rfl)) ?_
    refine EL_val (.bool true) w rfl (r_pickT rfl rfl) ?_
    refine EL_val (.bool true) w rfl (r_move rfl) ?_
    refine EL_gval 104 rfl rfl rfl rfl (.int .i64 0) w rfl (r_move rfl) ?_
    refine EL_gval 104 rfl rfl rfl rfl (.bool true) w rfl (r_dec (by decide) (r_eql rfl rfl)) ?_
    refine EL_val (.bool true) w rfl (r_pickT rfl rfl) ?_
    refine EL_val (.bool true) w rfl (r_move rfl) ?_
    refine EL_gval 108 rfl rfl rfl rfl (.int .i64 10) w rfl (r_move rfl) ?_
    refine EL_gval 108 rfl rfl rfl rfl (.bool true) w rfl (r_dec (by decide) (r_eql rfl rfl)) ?_
    refine EL_val (.bool true) w rfl (r_pickT rfl rfl) ?_
    refine EL_val (.bool true) w rfl (r_move rfl) ?_
    refine EL_gval 112 rfl rfl rfl rfl (.int .i64 10) w rfl (r_move rfl) ?_
    refine EL_gval 112 rfl rfl rfl rfl (.bool true) w rfl (r_dec (by decide) (r_eql rfl rfl)) ?_
    refine EL_val (.bool true) w rfl (r_pickT rfl rfl) ?_
    refine EL_val (.bool true) w rfl (r_move rfl) ?_
    refine EL_gval 116 rfl rfl rfl rfl (.int .i64 10) w rfl (r_move rfl) ?_
    refine EL_gval 116 rfl rfl rfl rfl (.bool true) w rfl (r_dec (by decide) (r_eql rfl rfl)) ?_
    refine EL_val (.bool true) w rfl (r_pickT rfl rfl) ?_
    refine EL_val (.bool true) w rfl (r_move rfl) ?_
    refine EL_gval 120 rfl rfl rfl rfl (.complex .f64 0 0) w rfl (r_move rfl) ?_
    refine EL_gval 120 rfl rfl rfl rfl (.bool true) w rfl (r_dec (show (decide ((0 : Int) = (0 : Int)) && decide ((0 : Int) = (0 : Int))) = true from by decide) (r_ceql rfl rfl (fw_const (x := 0) (n := 0) (by decide +kernel) (by decide)) (fw_const (x := 0) (n := 0) (by decide +kernel) (by decide)) (fw_const (x := 0) (n := 0) (by decide +kernel) (by decide)) (fw_const (x := 0) (n := 0) (by decide +kernel) (by decide)))) ?_
    refine EL_val (.bool true) w rfl (r_pickT rfl rfl) ?_
    refine EL_val (.bool true) w rfl (r_move rfl) ?_
    refine EL_gval 124 rfl rfl rfl rfl (.complex .f64 0 0) w rfl (r_move rfl) ?_
    refine EL_gval 124 rfl rfl rfl rfl (.bool true) w rfl (r_dec (show (decide ((0 : Int) = (0 : Int)) && decide ((0 : Int) = (0 : Int))) = true from by decide) (r_ceql rfl rfl (fw_const (x := 0) (n := 0) (by decide +kernel) (by decide)) (fw_const (x := 0) (n := 0) (by decide +kernel) (by decide)) (fw_const (x := 0) (n := 0) (by decide +kernel) (by decide)) (fw_const (x := 0) (n := 0) (by decide +kernel) (by decide)))) ?_
    refine EL_val (.bool true) w rfl (r_pickT rfl rfl) ?_
    refine EL_val (.bool true) w rfl (r_move rfl) ?_
    refine EL_gval 128 rfl rfl rfl rfl (.complex .f64 0 0) w rfl (r_move rfl) ?_
    refine EL_gval 128 rfl rfl rfl rfl (.bool true) w rfl (r_dec (show (decide ((0 : Int) = (0 : Int)) && decide ((0 : Int) = (0 : Int))) = true from by decide) (r_ceql rfl rfl (fw_const (x := 0) (n := 0) (by decide +kernel) (by decide)) (fw_const (x := 0) (n := 0) (by decide +kernel) (by decide)) (fw_const (x := 0) (n := 0) (by decide +kernel) (by decide)) (fw_const (x := 0) (n := 0) (by decide +kernel) (by decide)))) ?_
    refine EL_val (.bool true) w rfl (r_pickT rfl rfl) ?_
    refine EL_val (.bool true) w rfl (r_move rfl) ?_
    refine EL_gval 132 rfl rfl rfl rfl (.complex .f64 xa xb) w rfl (r_move rfl) ?_
    refine EL_gval 132 rfl rfl rfl rfl (.complex .f64 xa xb) w rfl (r_move rfl) ?_
    refine EL_gret 132 rfl rfl rfl rfl [.complex .f64 xa xb, .complex .f64 xa xb] rfl Try.func15 rfl nm15 rfl (Within_n1 xa xb xa xb w hn) ?_
    rintro _ _ ⟨rfl, rfl⟩
    refine EL_gval 132 rfl rfl rfl rfl (.bool true) w rfl (r_dec (show (!false) = true from rfl) (r_not rfl)) ?_
    refine EL_val (.bool true) w rfl (r_pickT rfl rfl) ?_
    refine EL_val (.bool true) w rfl (r_move rfl) ?_
    refine EL_gval 138 rfl rfl rfl rfl (.complex .f64 xa xb) w rfl (r_move rfl) ?_
    refine EL_gret 138 rfl rfl rfl rfl [.complex .f64 0 0, .complex .f64 xa xb] rfl Try.func15 rfl nm15 rfl (Within_n2 xa xb w hn) ?_
    rintro _ _ ⟨rfl, rfl⟩
    refine EL_gval 138 rfl rfl rfl rfl (.bool true) w rfl (r_dec (show (!false) = true from rfl) (r_not rfl)) ?_
    refine EL_val (.bool true) w rfl (r_pickT rfl rfl) ?_
    refine EL_val (.bool true) w rfl (r_move rfl) ?_
    refine EL_gval 143 rfl rfl rfl rfl (.complex .f64 xa xb) w rfl (r_move rfl) ?_
    refine EL_gret 143 rfl rfl rfl rfl [.complex .f64 xa xb, .complex .f64 0 0] rfl Try.func15 rfl nm15 rfl (Within_n1 xa xb 0 0 w hn) ?_
    rintro _ _ ⟨rfl, rfl⟩
    refine EL_gval 143 rfl rfl rfl rfl (.bool true) w rfl (r_dec (show (!false) = true from rfl) (r_not rfl)) ?_
    refine EL_val (.bool true) w rfl (r_pickT rfl rfl) ?_
    refine EL_val (.bool true) w rfl (r_move rfl) ?_
    refine EL_gval 148 rfl rfl rfl rfl (.complex .f64 xa xb) w rfl (r_move rfl) ?_
    refine EL_gret 148 rfl rfl rfl rfl [.complex .f64 xa xb] rfl Try.func16 rfl nm16 rfl (Mirror_nf xa xb w hn) ?_
    rintro _ _ ⟨rfl, rfl⟩
    refine EL_gval 148 rfl rfl rfl rfl (.bool true) w rfl (r_dec (show (decide ((0 : Int) = (0 : Int)) && decide ((0 : Int) = (0 : Int))) = true from by decide) (r_ceql rfl rfl (fw_const (x := 0) (n := 0) (by decide +kernel) (by decide)) (fw_const (x := 0) (n := 0) (by decide +kernel) (by decide)) (fw_const (x := 0) (n := 0) (by decide +kernel) (by decide)) (fw_const (x := 0) (n := 0) (by decide +kernel) (by decide)))) ?_
    refine EL_val (.bool true) w rfl (r_pickT rfl rfl) ?_
    refine EL_val (.bool true) w rfl (r_assign rfl) ?_
    refine EL_nil ?_
    refine thn_n ?_
    refine EC_ret ?_
    refine fin1 Try.results8 (show _ = .bool true from rfl) ⟨_, rfl, ?_⟩
    exact ⟨rfl, (Below.refl _ _)⟩
  · have hn : ¬ (Wh xa 0 ∧ Wh xb 0) := fun h => hx h.1
    refine EC_reg ?_
    refine EL_val (.float .f64 xa) w rfl (r_move rfl) ?_
    refine EL_val (.float .f64 xb) w rfl (r_move rfl) ?_
    refine EL_val (.complex .f64 xa xb) w rfl (r_complex rfl rfl) ?_
    refine EL_val (.complex .f64 xa xb) w rfl (r_assign rfl) ?_
    refine EL_nil ?_
    refine thn_n ?_
    refine EC_seq ?_
    refine EC_reg ?_
    refine EL_val (.func (.func 20) #[] #[]) w rfl (r_assign rfl) ?_
    refine EL_nil ?_
    refine thn_n ?_
    refine EC_seq ?_
    refine EC_reg ?_
    refine EL_val (.func (.func 20) #[] #[]) w rfl (r_move rfl) ?_
    refine EL_val (.float .f64 xa) w rfl (r_move rfl) ?_
    refine EL_retv [.float .f64 xa] rfl rfl Try.func20 rfl nm20 rfl (wl_no xa w hx) ?_
    rintro _ _ ⟨rfl, rfl⟩
    refine EL_val (.bool false) w rfl (r_move rfl) ?_
    refine EL_pass 25 rfl rfl rfl rfl rfl ?_
    refine EL_pass 25 rfl rfl rfl rfl rfl ?_
    refine EL_pass 25 rfl rfl rfl rfl rfl ?_
    refine EL_val (.bool false) w rfl (r_pickF rfl rfl) ?_
    refine EL_val (.bool false) w rfl (r_assign rfl) ?_
    refine EL_nil ?_
    refine thn_n ?_
    refine EC_seq ?_
    refine EC_reg ?_
    refine EL_val (.complex .f64 xa xb) w rfl (r_move rfl) ?_
    refine EL_ret [.complex .f64 xa xb] rfl Try.func12 rfl nm12 rfl (Parts_nf xa xb w hn) ?_
    rintro _ _ ⟨rfl, rfl⟩
    refine EL_val (.tuple #[.int .i64 0, .int .i64 0, .bool false]) w rfl (r_move rfl) ?_
    refine EL_val (.int .i64 0) w rfl (r_extract rfl rfl) ?_
    refine EL_val (.int .i64 0) w rfl (r_extract rfl rfl) ?_
    refine EL_val (.bool false) w rfl (r_extract rfl rfl) ?_
    refine EL_val (.int .i64 0) w rfl (r_assign rfl) ?_
    refine EL_val (.int .i64 0) w rfl (r_assign rfl) ?_
    refine EL_val (.bool false) w rfl (r_assign rfl) ?_
    refine EL_nil ?_
    refine thn_n ?_
    refine EC_seq ?_
    refine EC_reg ?_
    refine EL_val (.complex .f64 xa xb) w rfl (r_move rfl) ?_
    refine EL_ret [.complex .f64 xa xb, .slice none 0 0] rfl Try.func18 rfl nm18 rfl (Sum_nf xa xb (.slice none 0 0) w hn) ?_
    rintro _ _ ⟨rfl, rfl⟩
    refine EL_val (.tuple #[.complex .f64 0 0, .int .i64 10]) w rfl (r_move rfl) ?_
    refine EL_val (.complex .f64 0 0) w rfl (r_extract rfl rfl) ?_
    refine EL_val (.int .i64 10) w rfl (r_extract rfl rfl) ?_
    refine EL_val (.complex .f64 0 0) w rfl (r_assign rfl) ?_
    refine EL_val (.int .i64 10) w rfl (r_assign rfl) ?_
    refine EL_nil ?_
    refine thn_n ?_
    refine EC_seq ?_
    refine EC_reg ?_
    refine EL_val (.complex .f64 xa xb) w rfl (r_move rfl) ?_
    refine EL_ret [.complex .f64 xa xb, .complex .f64 0 0] rfl Try.func19 rfl nm19 rfl (Step_nf xa xb w hn) ?_
    rintro _ _ ⟨rfl, rfl⟩
    refine EL_val (.tuple #[.complex .f64 0 0, .int .i64 10]) w rfl (r_move rfl) ?_
    refine EL_val (.complex .f64 0 0) w rfl (r_extract rfl rfl) ?_
    refine EL_val (.int .i64 10) w rfl (r_extract rfl rfl) ?_
    refine EL_val (.complex .f64 0 0) w rfl (r_assign rfl) ?_
    refine EL_val (.int .i64 10) w rfl (r_assign rfl) ?_
    refine EL_nil ?_
    refine thn_n ?_
    refine EC_seq ?_
    refine EC_reg ?_
    refine EL_val (.complex .f64 xa xb) w rfl (r_move rfl) ?_
    refine EL_ret [.complex .f64 xa xb, .int .i64 0] rfl Try.func14 rfl nm14 rfl (Finish_nf xa xb 0 w hn) ?_
    rintro _ _ ⟨rfl, rfl⟩
    refine EL_val (.tuple #[.complex .f64 0 0, .int .i64 10]) w rfl (r_move rfl) ?_
    refine EL_val (.complex .f64 0 0) w rfl (r_extract rfl rfl) ?_
    refine EL_val (.int .i64 10) w rfl (r_extract rfl rfl) ?_
    refine EL_val (.complex .f64 0 0) w rfl (r_assign rfl) ?_
    refine EL_val (.int .i64 10) w rfl (r_assign rfl) ?_
    refine EL_nil ?_
    refine thn_n ?_
    refine EC_seq ?_
    refine EC_seq ?_
    refine EC_reg ?_
    refine EL_val (.bool false) w rfl (r_move rfl) ?_
    refine EL_nil ?_
    refine thn_n ?_
    refine EC_cond_false rfl ?_
    refine EC_skip ?_
    refine thn_n ?_
    refine EC_seq ?_
    refine EC_reg ?_
    refine EL_val (.bool false) w rfl (r_move rfl) ?_
    refine EL_val (.bool true) w rfl (r_dec (show (!false) = true from rfl) (r_not rfl)) ?_
    refine EL_val (.bool true) w rfl (r_move rfl) ?_
    refine EL_gval 100 rfl rfl rfl rfl (.int .i64 0) w rfl (r_move rfl) ?_
    refine EL_gval 100 rfl rfl rfl rfl (.bool true) w rfl (r_dec (by decide) (r_eql rfl rfl)) ?_
    refine EL_val (.bool true) w rfl (r_pickT rfl rfl) ?_
    refine EL_val (.bool true) w rfl (r_move rfl) ?_
    refine EL_gval 104 rfl rfl rfl rfl (.int .i64 0) w rfl (r_move rfl) ?_
    refine EL_gval 104 rfl rfl rfl rfl (.bool true) w rfl (r_dec (by decide) (r_eql rfl rfl)) ?_
    refine EL_val (.bool true) w rfl (r_pickT rfl rfl) ?_
    refine EL_val (.bool true) w rfl (r_move rfl) ?_
    refine EL_gval 108 rfl rfl rfl rfl (.int .i64 10) w rfl (r_move rfl) ?_
    refine EL_gval 108 rfl rfl rfl rfl (.bool true) w rfl (r_dec (by decide) (r_eql rfl rfl)) ?_
    refine EL_val (.bool true) w rfl (r_pickT rfl rfl) ?_
    refine EL_val (.bool true) w rfl (r_move rfl) ?_
    refine EL_gval 112 rfl rfl rfl rfl (.int .i64 10) w rfl (r_move rfl) ?_
    refine EL_gval 112 rfl rfl rfl rfl (.bool true) w rfl (r_dec (by decide) (r_eql rfl rfl)) ?_
    refine EL_val (.bool true) w rfl (r_pickT rfl rfl) ?_
    refine EL_val (.bool true) w rfl (r_move rfl) ?_
    refine EL_gval 116 rfl rfl rfl rfl (.int .i64 10) w rfl (r_move rfl) ?_
    refine EL_gval 116 rfl rfl rfl rfl (.bool true) w rfl (r_dec (by decide) (r_eql rfl rfl)) ?_
    refine EL_val (.bool true) w rfl (r_pickT rfl rfl) ?_
    refine EL_val (.bool true) w rfl (r_move rfl) ?_
    refine EL_gval 120 rfl rfl rfl rfl (.complex .f64 0 0) w rfl (r_move rfl) ?_
    refine EL_gval 120 rfl rfl rfl rfl (.bool true) w rfl (r_dec (show (decide ((0 : Int) = (0 : Int)) && decide ((0 : Int) = (0 : Int))) = true from by decide) (r_ceql rfl rfl (fw_const (x := 0) (n := 0) (by decide +kernel) (by decide)) (fw_const (x := 0) (n := 0) (by decide +kernel) (by decide)) (fw_const (x := 0) (n := 0) (by decide +kernel) (by decide)) (fw_const (x := 0) (n := 0) (by decide +kernel) (by decide)))) ?_
    refine EL_val (.bool true) w rfl (r_pickT rfl rfl) ?_
    refine EL_val (.bool true) w rfl (r_move rfl) ?_
    refine EL_gval 124 rfl rfl rfl rfl (.complex .f64 0 0) w rfl (r_move rfl) ?_
    refine EL_gval 124 rfl rfl rfl rfl (.bool true) w rfl (r_dec (show (decide ((0 : Int) = (0 : Int)) && decide ((0 : Int) = (0 : Int))) = true from by decide) (r_ceql rfl rfl (fw_const (x := 0) (n := 0) (by decide +kernel) (by decide)) (fw_const (x := 0) (n := 0) (by decide +kernel) (by decide)) (fw_const (x := 0) (n := 0) (by decide +kernel) (by decide)) (fw_const (x := 0) (n := 0) (by decide +kernel) (by decide)))) ?_
    refine EL_val (.bool true) w rfl (r_pickT rfl rfl) ?_
    refine EL_val (.bool true) w rfl (r_move rfl) ?_
    refine EL_gval 128 rfl rfl rfl rfl (.complex .f64 0 0) w rfl (r_move rfl) ?_
    refine EL_gval 128 rfl rfl rfl rfl (.bool true) w rfl (r_dec (show (decide ((0 : Int) = (0 : Int)) && decide ((0 : Int) = (0 : Int))) = true from by decide) (r_ceql rfl rfl (fw_const (x := 0) (n := 0) (by decide +kernel) (by decide)) (fw_const (x := 0) (n := 0) (by decide +kernel) (by decide)) (fw_const (x := 0) (n := 0) (by decide +kernel) (by decide)) (fw_const (x := 0) (n := 0) (by decide +kernel) (by decide)))) ?_
    refine EL_val (.bool true) w rfl (r_pickT rfl rfl) ?_
    refine EL_val (.bool true) w rfl (r_move rfl) ?_
    refine EL_gval 132 rfl rfl rfl rfl (.complex .f64 xa xb) w rfl (r_move rfl) ?_
    refine EL_gval 132 rfl rfl rfl rfl (.complex .f64 xa xb) w rfl (r_move rfl) ?_
    refine EL_gret 132 rfl rfl rfl rfl [.complex .f64 xa xb, .complex .f64 xa xb] rfl Try.func15 rfl nm15 rfl (Within_n1 xa xb xa xb w hn) ?_
    rintro _ _ ⟨rfl, rfl⟩
    refine EL_gval 132 rfl rfl rfl rfl (.bool true) w rfl (r_dec (show (!false) = true from rfl) (r_not rfl)) ?_
    refine EL_val (.bool true) w rfl (r_pickT rfl rfl) ?_
    refine EL_val (.bool true) w rfl (r_move rfl) ?_
    refine EL_gval 138 rfl rfl rfl rfl (.complex .f64 xa xb) w rfl (r_move rfl) ?_
    refine EL_gret 138 rfl rfl rfl rfl [.complex .f64 0 0, .complex .f64 xa xb] rfl Try.func15 rfl nm15 rfl (Within_n2 xa xb w hn) ?_
    rintro _ _ ⟨rfl, rfl⟩
    refine EL_gval 138 rfl rfl rfl rfl (.bool true) w rfl (r_dec (show (!false) = true from rfl) (r_not rfl)) ?_
    refine EL_val (.bool true) w rfl (r_pickT rfl rfl) ?_
    refine EL_val (.bool true) w rfl (r_move rfl) ?_
    refine EL_gval 143 rfl rfl rfl rfl (.complex .f64 xa xb) w rfl (r_move rfl) ?_
    refine EL_gret 143 rfl rfl rfl rfl [.complex .f64 xa xb, .complex .f64 0 0] rfl Try.func15 rfl nm15 rfl (Within_n1 xa xb 0 0 w hn) ?_
    rintro _ _ ⟨rfl, rfl⟩
    refine EL_gval 143 rfl rfl rfl rfl (.bool true) w rfl (r_dec (show (!false) = true from rfl) (r_not rfl)) ?_
    refine EL_val (.bool true) w rfl (r_pickT rfl rfl) ?_
    refine EL_val (.bool true) w rfl (r_move rfl) ?_
    refine EL_gval 148 rfl rfl rfl rfl (.complex .f64 xa xb) w rfl (r_move rfl) ?_
    refine EL_gret 148 rfl rfl rfl rfl [.complex .f64 xa xb] rfl Try.func16 rfl nm16 rfl (Mirror_nf xa xb w hn) ?_
    rintro _ _ ⟨rfl, rfl⟩
    refine EL_gval 148 rfl rfl rfl rfl (.bool true) w rfl (r_dec (show (decide ((0 : Int) = (0 : Int)) && decide ((0 : Int) = (0 : Int))) = true from by decide) (r_ceql rfl rfl (fw_const (x := 0) (n := 0) (by decide +kernel) (by decide)) (fw_const (x := 0) (n := 0) (by decide +kernel) (by decide)) (fw_const (x := 0) (n := 0) (by decide +kernel) (by decide)) (fw_const (x := 0) (n := 0) (by decide +kernel) (by decide)))) ?_
    refine EL_val (.bool true) w rfl (r_pickT rfl rfl) ?_
    refine EL_val (.bool true) w rfl (r_assign rfl) ?_
    refine EL_nil ?_
    refine thn_n ?_
    refine EC_ret ?_
    refine fin1 Try.results8 (show _ = .bool true from rfl) ⟨_, rfl, ?_⟩
    exact ⟨rfl, (Below.refl _ _)⟩
theorem own : ownKnob Try.prog.godebug = none := by kernel_rfl
theorem laidOut : laidOutB Try.prog = true := by kernel_rfl
set_option maxRecDepth 100000 in
theorem lifted (os : Os) (started : os.Started) (H : Type) (enc : TypeId × Value → H) :
    ReturnsInHanded {} Try.checked os 8 .any (Rows.tallyFormsSpec.pre6 enc Try.prog Try.f8 Rows.tallyFormsRow.domain false) (Rows.tallyFormsSpec.post enc Try.prog Try.f8 false true false false) := by
  refine returnsInHanded_of_change (C := Try.checked) own started (by kernel_rfl) Try.func8
    (ChangeSpec.witness6 (enc := enc) (C := Try.checked) false ⟨#[], #[.float .f64 0, .float .f64 0], []⟩ 8 (by kernel_rfl) (by kernel_rfl) (by kernel_rfl) (by kernel_rfl)) ?_
  intro W base args ds gs before hval0 hW hcnd _
  have hval : ∀ (j : Nat) t v, Try.f8.params[j]? = some t → args[j]? = some v → Value.okWide Try.prog W .any base t v := hval0
  have hW' := hW
  obtain ⟨p, q, hA0, hV, rfl, hfz, hnd⟩ := hW
  have hA : DataW.TrodAll enc Try.prog W 0 (fun _ => true) true Try.f8.params.toList args.toList ds p := hA0
  rw [Try.params8] at hA hval
  obtain ⟨v0, vs0, d0, ds0, p0, q0, hargs, rfl, rfl, h0, r0⟩ := trodAll_cons hA
  obtain ⟨v1, vs1, d1, ds1, p1, q1, rfl, rfl, rfl, h1, r1⟩ := trodAll_cons r0
  obtain ⟨rfl, rfl, rfl⟩ := trodAll_nil r1
  obtain rfl : args = #[v0, v1] := by cases args; simp_all
  obtain ⟨rfl, rfl⟩ := trodVars_none hV
  have k0 := h0
  have lt0 : ∀ x ∈ p0, x.block < W.heap.size := by obtain ⟨m, hm⟩ := k0; exact DataW.trod_lt m _ _ _ hm
  obtain ⟨a0, rfl, rfl, rfl, w0⟩ := open_float Try.underlying34 (hval 0 34 v0 rfl rfl) h0
  have k1 := h1
  have lt1 : ∀ x ∈ p1, x.block < W.heap.size := by obtain ⟨m, hm⟩ := k1; exact DataW.trod_lt m _ _ _ hm
  obtain ⟨a1, rfl, rfl, rfl, w1⟩ := open_float Try.underlying34 (hval 1 34 v1 rfl rfl) h1
  clear hA0 hval0
  refine Calls.mono (TallyForms_c a0 a1 W ) fun e W' ⟨v', he, hv, bel⟩ => ?_
  subst he
  subst hv
  exact ⟨_, rfl, _, _, _, [], _, [], hW', trodAll_mk1 (shut_bool Try.underlying4 _), (trodAll_cons_mk (Below.trod laidOut (by kernel_rfl) (of_decide_eq_true (by kernel_rfl)) k0 bel lt0) (trodAll_cons_mk (Below.trod laidOut (by kernel_rfl) (of_decide_eq_true (by kernel_rfl)) k1 bel lt1) trodAll_mk0)), rfl, bel.frame _, fun h => by cases h⟩
theorem over : Rows.tallyFormsRow.holds Try.pinned (OpenSpec.ofChange Rows.tallyFormsSpec) :=
  OpenClaim.holds_of_wide 8 Try.f8 rfl rfl rfl rfl rfl rfl rfl ⟨rfl, rfl, rfl, rfl, rfl⟩ rfl rfl rfl rfl rfl (by kernel_rfl) Try.func8 (by kernel_rfl)
    (of_decide_eq_true (by kernel_rfl)) (by unfold Func.isWrapper; first | (rw [if_pos (by decide +kernel)]; kernel_rfl) | (rw [if_neg (by decide +kernel)]; exact ⟨rfl, rfl⟩))
    (fun os started H enc _ => lifted os started H enc)
end Go.Proofs.Ytieaebbnmebbfaa.tallyForms
namespace Go.Proofs.Ytieaebbnmebbfaa
theorem TallyForms_holds : Rows.TallyFormsSaid := tallyForms.over
end Go.Proofs.Ytieaebbnmebbfaa
