/-
  Finishing keeps how many there are in all; never more than are open; some and then the rest is all.
  Its conditions: none: whatever the input, in whatever memory.
-/
import Derived.Test.YtieaebbnmebbfaaRows
import Derived.Test.YtieaebbnmebbfaaWalksC
import Derived.ProofKit
import Derived.OpenShut
import Derived.ShutString
import Derived.ChangeOld
set_option linter.unusedVariables false
set_option linter.unusedSimpArgs false
namespace Go.Proofs.Ytieaebbnmebbfaa.tallyEnds
open Go.ChangeShapes Go.WideShapes Go.ChangeAt Go.RowKit Go.Ecal
open Go.ChangeMaps (open_string shut_string)
set_option maxRecDepth 100000 in
set_option maxHeartbeats 4000000 in
theorem TallyEnds_c (a : Int) (b : Int) (n : Int) (w : World) (ra : -9223372036854775808 ≤ a ∧ a ≤ 9223372036854775807) (rb : -9223372036854775808 ≤ b ∧ b ≤ 9223372036854775807) (rn : -9223372036854775808 ≤ n ∧ n ≤ 9223372036854775807) : Ret Try.prog 4 [.agg (([a, b] : List Int).map (Value.int .i64)).toArray, .int .i64 n] w fun v w' => v = .bool true ∧ Below w.heap.size w w' := by
  refine ret_E Try.func4 rfl Try.ntmps4 (by simp) ?_
  refine EC_seq ?_
  refine EC_reg ?_
  refine EL_box (([a, b] : List Int).map (Value.int .i64)) rfl rfl rfl ?_
  intro b11 w12 k13 A14 B15 z16
  have B17 : Below w.heap.size w w12 := B15
  have A14' : Arr w12 b11 23 (([a, b] : List Int).map (Value.int .i64)) := A14
  refine EL_val (.bool false) w12 rfl (r_assign rfl) ?_
  refine EL_nil ?_
  refine thn_n ?_
  refine EC_seq ?_
  refine EC_seq ?_
  refine EC_reg ?_
  refine EL_ret [] rfl Try.func9 rfl nm9 rfl (anchor_c w12) ?_
  rintro _ _ ⟨rfl, rfl⟩
  refine EL_val (.bool false) w12 rfl (r_dec (show (!true) = false from rfl) (r_not rfl)) ?_
  refine EL_nil ?_
  refine thn_n ?_
  refine EC_cond_false rfl ?_
  refine EC_skip ?_
  refine thn_n ?_
  refine EC_seq ?_
  refine EC_seq ?_
  refine EC_reg ?_
  refine EL_val (.agg (([a, b] : List Int).map (Value.int .i64)).toArray) w12 rfl (r_loadAll rfl A14' Try.underlying23 rfl (Eq.trans (show _ = some 2 from by kernel_rfl) (congrArg some (by first | (simp; done) | (simp; omega) | rfl)))) ?_
  refine EL_ret [.agg (([a, b] : List Int).map (Value.int .i64)).toArray] rfl Try.func11 rfl nm11 rfl (right_c a b w12 (by omega) (by omega)) ?_
  rintro _ w18 ⟨rfl, B19⟩
  have B20 : Below w.heap.size w w18 := below_full B17 B17.size B19
  have B21 : Below w12.heap.size w12 w18 := B19
  refine EL_val (.bool (!(decide ((0 : Int) ≤ a ∧ a ≤ 1099511627776 ∧ (0 : Int) ≤ b ∧ b ≤ 1099511627776)))) w18 rfl (r_not rfl) ?_
  refine EL_nil ?_
  refine thn_n ?_
  refine EC_cond (t := !(decide ((0 : Int) ≤ a ∧ a ≤ 1099511627776 ∧ (0 : Int) ≤ b ∧ b ≤ 1099511627776))) rfl (fun h22 => ?_) (fun h22 => ?_)
  · refine EC_seq ?_
    refine EC_reg ?_
    refine EL_val (.bool true) w18 rfl (r_assign rfl) ?_
    refine EL_nil ?_
    refine thn_n ?_
    refine EC_ret ?_
    refine thn_r ?_
    refine fin1 Try.results4 (show _ = .bool true from rfl) ⟨_, rfl, ?_⟩
    exact ⟨rfl, B20⟩
  · have hr : (0 : Int) ≤ a ∧ a ≤ 1099511627776 ∧ (0 : Int) ≤ b ∧ b ≤ 1099511627776 := of_decide_eq_true ((Bool.not_eq_false' _).mp h22)
    refine EC_skip ?_
    refine thn_n ?_
    refine EC_seq ?_
    by_cases hn : 0 ≤ n ∧ n ≤ b ∧ n ≤ 1099511627776 - a
    · refine EC_reg ?_
      refine EL_val (.agg (([a, b] : List Int).map (Value.int .i64)).toArray) w18 rfl (r_loadAll rfl (A14'.below B21) Try.underlying23 rfl (Eq.trans (show _ = some 2 from by kernel_rfl) (congrArg some (by first | (simp; done) | (simp; omega) | rfl)))) ?_
      refine EL_ret [.agg (([a, b] : List Int).map (Value.int .i64)).toArray] rfl Try.func13 rfl nm13 rfl (number_c a b w18 (by omega) (by omega)) ?_
      rintro _ w23 ⟨rfl, B24⟩
      have B25 : Below w.heap.size w w23 := below_full B20 B20.size B24
      have B26 : Below w12.heap.size w12 w23 := below_full B21 B21.size B24
      have B27 : Below w18.heap.size w18 w23 := B24
      refine EL_val (.int .i64 n) w23 rfl (r_move rfl) ?_
      refine EL_ret [.complex .f64 (fw a) (fw b), .int .i64 n] rfl Try.func14 rfl nm14 rfl (Finish_ok (fw a) a (fw b) b n w23 (fw_is (n := a) (by omega)) (fw_is (n := b) (by omega)) (by omega) (by omega) (by omega) (by omega) (by omega)) ?_
      rintro _ _ ⟨z28, z29, rfl, Fz30, Fz31, rfl⟩
      refine EL_val (.tuple #[.complex .f64 z28 z29, .int .i64 0]) w23 rfl (r_move rfl) ?_
      refine EL_val (.complex .f64 z28 z29) w23 rfl (r_extract rfl rfl) ?_
      refine EL_val (.int .i64 0) w23 rfl (r_extract rfl rfl) ?_
      refine EL_val (.complex .f64 z28 z29) w23 rfl (r_assign rfl) ?_
      refine EL_val (.int .i64 0) w23 rfl (r_assign rfl) ?_
      refine EL_nil ?_
      refine thn_n ?_
      refine EC_seq ?_
      refine EC_seq ?_
      refine EC_reg ?_
      refine EL_val (.int .i64 n) w23 rfl (r_move rfl) ?_
      refine EL_val (.bool (decide (n < 0))) w23 rfl (r_lss rfl rfl) ?_
      refine EL_val (.bool (decide (n < 0))) w23 rfl (r_move rfl) ?_
      refine EL_gite 26 rfl rfl rfl (.int .i64 n) rfl (fun g32 => r_move rfl) ?_
      refine EL_gite 26 rfl rfl rfl (ptr b11 1) rfl (fun g33 => r_fieldA rfl Try.underlying23 rfl (fun _ => rfl)) ?_
      refine EL_gite 26 rfl rfl rfl (.int .i64 b) rfl (fun g34 => r_loadA (cond_of g34 rfl) (A14'.below B26) (u := .int .i64 b) rfl Try.underlying3 rfl) ?_
      refine EL_gite 26 rfl rfl rfl (.bool (decide (b < n))) rfl (fun g35 => r_gtr (cond_of g35 rfl) (cond_of g35 rfl)) ?_
      refine EL_val (.bool ((decide (n < 0)) || (decide (b < n)))) w23 rfl (r_or rfl rfl rfl) ?_
      refine EL_val (.bool ((decide (n < 0)) || (decide (b < n)))) w23 rfl (r_move rfl) ?_
      refine EL_gite 32 rfl rfl rfl (.int .i64 n) rfl (fun g36 => r_move rfl) ?_
      refine EL_gite 32 rfl rfl rfl (ptr b11 0) rfl (fun g37 => r_fieldA rfl Try.underlying23 rfl (fun _ => rfl)) ?_
      refine EL_gite 32 rfl rfl rfl (.int .i64 a) rfl (fun g38 => r_loadA (cond_of g38 rfl) (A14'.below B26) (u := .int .i64 a) rfl Try.underlying3 rfl) ?_
      refine EL_gite 32 rfl rfl rfl (.int .i64 (1099511627776 - a)) rfl (fun g39 => r_subi rfl (cond_of g39 rfl) (by first | omega | (simp at g39; omega))) ?_
      refine EL_gite 32 rfl rfl rfl (.bool (decide ((1099511627776 - a) < n))) rfl (fun g40 => r_gtr (cond_of g40 rfl) (cond_of g40 rfl)) ?_
      refine EL_val (.bool (((decide (n < 0)) || (decide (b < n))) || (decide ((1099511627776 - a) < n)))) w23 rfl (r_or rfl rfl rfl) ?_
      refine EL_nil ?_
      refine thn_n ?_
      refine EC_cond_false (Eq.trans (show _ = Value.bool (((decide (n < 0)) || (decide (b < n))) || (decide ((1099511627776 - a) < n))) from rfl) (congrArg Value.bool (show (((decide (n < 0)) || (decide (b < n))) || (decide ((1099511627776 - a) < n))) = false from by simp; omega))) ?_
      refine EC_skip ?_
      refine thn_n ?_
      refine EC_seq ?_
      refine EC_reg ?_
      refine EL_val (.complex .f64 z28 z29) w23 rfl (r_move rfl) ?_
      refine EL_ret [.complex .f64 z28 z29] rfl Try.func12 rfl nm12 rfl (Parts_ok z28 (a + n) z29 (b + -n) w23 Fz30 Fz31 (by omega) (by omega) (by omega)) ?_
      rintro _ _ ⟨rfl, rfl⟩
      refine EL_val (.tuple #[.int .i64 (a + n), .int .i64 (b + -n), .bool true]) w23 rfl (r_move rfl) ?_
      refine EL_val (.int .i64 (a + n)) w23 rfl (r_extract rfl rfl) ?_
      refine EL_val (.int .i64 (b + -n)) w23 rfl (r_extract rfl rfl) ?_
      refine EL_val (.bool true) w23 rfl (r_extract rfl rfl) ?_
      refine EL_val (.int .i64 (a + n)) w23 rfl (r_assign rfl) ?_
      refine EL_val (.int .i64 (b + -n)) w23 rfl (r_assign rfl) ?_
      refine EL_val (.bool true) w23 rfl (r_assign rfl) ?_
      refine EL_nil ?_
      refine thn_n ?_
      refine EC_seq ?_
      refine EC_seq ?_
      refine EC_reg ?_
      refine EL_val (.int .i64 0) w23 rfl (r_move rfl) ?_
      refine EL_val (.bool false) w23 rfl (r_dec (by decide) (r_neq rfl rfl)) ?_
      refine EL_val (.bool false) w23 rfl (r_move rfl) ?_
      refine EL_gval 53 rfl rfl rfl rfl (.bool true) w23 rfl (r_move rfl) ?_
      refine EL_gval 53 rfl rfl rfl rfl (.bool false) w23 rfl (r_dec (show (!true) = false from rfl) (r_not rfl)) ?_
      refine EL_val (.bool false) w23 rfl (r_pickF rfl rfl) ?_
      refine EL_val (.bool false) w23 rfl (r_move rfl) ?_
      refine EL_gval 57 rfl rfl rfl rfl (.int .i64 (a + n)) w23 rfl (r_move rfl) ?_
      refine EL_gval 57 rfl rfl rfl rfl (ptr b11 0) w23 rfl (r_fieldA rfl Try.underlying23 rfl (fun _ => rfl)) ?_
      refine EL_gval 57 rfl rfl rfl rfl (.int .i64 a) w23 rfl (r_loadA rfl (A14'.below B26) (u := .int .i64 a) rfl Try.underlying3 rfl) ?_
      refine EL_gval 57 rfl rfl rfl rfl (.int .i64 n) w23 rfl (r_move rfl) ?_
      refine EL_gval 57 rfl rfl rfl rfl (.int .i64 (a + n)) w23 rfl (r_addi rfl rfl (by omega)) ?_
      refine EL_gval 57 rfl rfl rfl rfl (.bool false) w23 rfl (r_dec (show (decide ((a + n) ≠ (a + n))) = false from by first | (simp; done) | (simp; omega)) (r_neq rfl rfl)) ?_
      refine EL_val (.bool false) w23 rfl (r_pickF rfl rfl) ?_
      refine EL_val (.bool false) w23 rfl (r_move rfl) ?_
      refine EL_gval 65 rfl rfl rfl rfl (.int .i64 (b + -n)) w23 rfl (r_move rfl) ?_
      refine EL_gval 65 rfl rfl rfl rfl (ptr b11 1) w23 rfl (r_fieldA rfl Try.underlying23 rfl (fun _ => rfl)) ?_
      refine EL_gval 65 rfl rfl rfl rfl (.int .i64 b) w23 rfl (r_loadA rfl (A14'.below B26) (u := .int .i64 b) rfl Try.underlying3 rfl) ?_
      refine EL_gval 65 rfl rfl rfl rfl (.int .i64 n) w23 rfl (r_move rfl) ?_
      refine EL_gval 65 rfl rfl rfl rfl (.int .i64 (b - n)) w23 rfl (r_subi rfl rfl (by omega)) ?_
      refine EL_gval 65 rfl rfl rfl rfl (.bool false) w23 rfl (r_dec (show (decide ((b + -n) ≠ (b - n))) = false from by first | (simp; done) | (simp; omega)) (r_neq rfl rfl)) ?_
      refine EL_val (.bool false) w23 rfl (r_pickF rfl rfl) ?_
      refine EL_nil ?_
      refine thn_n ?_
      refine EC_cond_false rfl ?_
      refine EC_skip ?_
      refine thn_n ?_
      refine EC_seq ?_
      by_cases hb : b ≤ 1099511627776 - a
      · refine EC_reg ?_
        refine EL_val (.complex .f64 z28 z29) w23 rfl (r_move rfl) ?_
        refine EL_val (.int .i64 (b + -n)) w23 rfl (r_move rfl) ?_
        refine EL_ret [.complex .f64 z28 z29, .int .i64 (b + -n)] rfl Try.func14 rfl nm14 rfl (Finish_ok z28 (a + n) z29 (b + -n) (b + -n) w23 Fz30 Fz31 (by omega) (by omega) (by omega) (by omega) (by omega)) ?_
        rintro _ _ ⟨z43, z44, rfl, Fz45, Fz46, rfl⟩
        refine EL_val (.tuple #[.complex .f64 z43 z44, .int .i64 0]) w23 rfl (r_move rfl) ?_
        refine EL_val (.complex .f64 z43 z44) w23 rfl (r_extract rfl rfl) ?_
        refine EL_val (.int .i64 0) w23 rfl (r_extract rfl rfl) ?_
        refine EL_val (.complex .f64 z43 z44) w23 rfl (r_assign rfl) ?_
        refine EL_val (.int .i64 0) w23 rfl (r_assign rfl) ?_
        refine EL_nil ?_
        refine thn_n ?_
        refine EC_seq ?_
        refine EC_reg ?_
        refine EL_val (ptr b11 1) w23 rfl (r_fieldA rfl Try.underlying23 rfl (fun _ => rfl)) ?_
        refine EL_val (.int .i64 b) w23 rfl (r_loadA rfl (A14'.below B26) (u := .int .i64 b) rfl Try.underlying3 rfl) ?_
        refine EL_val (ptr b11 0) w23 rfl (r_fieldA rfl Try.underlying23 rfl (fun _ => rfl)) ?_
        refine EL_val (.int .i64 a) w23 rfl (r_loadA rfl (A14'.below B26) (u := .int .i64 a) rfl Try.underlying3 rfl) ?_
        refine EL_int (1099511627776 - a) rfl (r_subi rfl rfl (by omega)) ?_
        intro x47 hx47
        refine EL_val (.bool false) w23 rfl (r_dec (show (decide (x47 < b)) = false from by simp; omega) (r_gtr rfl rfl)) ?_
        refine EL_val (.bool false) w23 rfl (r_move rfl) ?_
        refine EL_gval 85 rfl rfl rfl rfl (.int .i64 0) w23 rfl (r_move rfl) ?_
        refine EL_gval 85 rfl rfl rfl rfl (.bool true) w23 rfl (r_dec (by decide) (r_eql rfl rfl)) ?_
        refine EL_gval 85 rfl rfl rfl rfl (.bool true) w23 rfl (r_move rfl) ?_
        refine EL_gval 88 rfl rfl rfl rfl (.complex .f64 z43 z44) w23 rfl (r_move rfl) ?_
        refine EL_gval 88 rfl rfl rfl rfl (ptr b11 0) w23 rfl (r_fieldA rfl Try.underlying23 rfl (fun _ => rfl)) ?_
        refine EL_gval 88 rfl rfl rfl rfl (.int .i64 a) w23 rfl (r_loadA rfl (A14'.below B26) (u := .int .i64 a) rfl Try.underlying3 rfl) ?_
        refine EL_gval 88 rfl rfl rfl rfl (ptr b11 1) w23 rfl (r_fieldA rfl Try.underlying23 rfl (fun _ => rfl)) ?_
        refine EL_gval 88 rfl rfl rfl rfl (.int .i64 b) w23 rfl (r_loadA rfl (A14'.below B26) (u := .int .i64 b) rfl Try.underlying3 rfl) ?_
        refine EL_gval 88 rfl rfl rfl rfl (.int .i64 (a + b)) w23 rfl (r_addi rfl rfl (by omega)) ?_
        refine EL_gval 88 rfl rfl rfl rfl (.float .f64 (fw (a + b))) w23 rfl (r_i2f rfl (by rw [Try.underlying3]; rfl) Try.underlying34) ?_
        refine EL_gval 88 rfl rfl rfl rfl (.complex .f64 (fw (a + b)) 0) w23 rfl (r_complex rfl rfl) ?_
        refine EL_gval 88 rfl rfl rfl rfl (.bool true) w23 rfl (r_dec (show (decide (((a + n) + (b + -n)) = (a + b)) && decide (((b + -n) + -(b + -n)) = (0 : Int))) = true from by first | (simp; done) | (simp; omega)) (r_ceql rfl rfl Fz45 Fz46 (fw_is (n := a + b) (by omega)) (fw_const (x := 0) (n := 0) (by decide +kernel) (by decide)))) ?_
        refine EL_gval 85 rfl rfl rfl rfl (.bool true) w23 rfl (r_pickT rfl rfl) ?_
        refine EL_val (.bool true) w23 rfl (r_pickF rfl rfl) ?_
        refine EL_val (.bool true) w23 rfl (r_assign rfl) ?_
        refine EL_nil ?_
        refine thn_n ?_
        refine EC_ret ?_
        refine fin1 Try.results4 (show _ = .bool true from rfl) ⟨_, rfl, ?_⟩
        exact ⟨rfl, B25⟩
      · refine EC_reg ?_
        refine EL_val (.complex .f64 z28 z29) w23 rfl (r_move rfl) ?_
        refine EL_val (.int .i64 (b + -n)) w23 rfl (r_move rfl) ?_
        refine EL_ret [.complex .f64 z28 z29, .int .i64 (b + -n)] rfl Try.func14 rfl nm14 rfl (Finish_no z28 (a + n) z29 (b + -n) (b + -n) w23 Fz30 Fz31 (by omega) (by omega) (by omega) (by omega) (by omega)) ?_
        rintro _ _ ⟨rfl, rfl⟩
        refine EL_val (.tuple #[.complex .f64 0 0, .int .i64 12]) w23 rfl (r_move rfl) ?_
        refine EL_val (.complex .f64 0 0) w23 rfl (r_extract rfl rfl) ?_
        refine EL_val (.int .i64 12) w23 rfl (r_extract rfl rfl) ?_
        refine EL_val (.complex .f64 0 0) w23 rfl (r_assign rfl) ?_
        refine EL_val (.int .i64 12) w23 rfl (r_assign rfl) ?_
        refine EL_nil ?_
        refine thn_n ?_
        refine EC_seq ?_
        refine EC_reg ?_
        refine EL_val (ptr b11 1) w23 rfl (r_fieldA rfl Try.underlying23 rfl (fun _ => rfl)) ?_
        refine EL_val (.int .i64 b) w23 rfl (r_loadA rfl (A14'.below B26) (u := .int .i64 b) rfl Try.underlying3 rfl) ?_
        refine EL_val (ptr b11 0) w23 rfl (r_fieldA rfl Try.underlying23 rfl (fun _ => rfl)) ?_
        refine EL_val (.int .i64 a) w23 rfl (r_loadA rfl (A14'.below B26) (u := .int .i64 a) rfl Try.underlying3 rfl) ?_
        refine EL_int (1099511627776 - a) rfl (r_subi rfl rfl (by omega)) ?_
        intro x49 hx49
        refine EL_val (.bool true) w23 rfl (r_dec (show (decide (x49 < b)) = true from by simp; omega) (r_gtr rfl rfl)) ?_
        refine EL_val (.bool true) w23 rfl (r_move rfl) ?_
        refine EL_pass 85 rfl rfl rfl rfl rfl ?_
        refine EL_pass 85 rfl rfl rfl rfl rfl ?_
        refine EL_pass 85 rfl rfl rfl rfl rfl ?_
        refine EL_passU 88 rfl rfl rfl rfl ?_
        refine EL_passU 88 rfl rfl rfl rfl ?_
        refine EL_passU 88 rfl rfl rfl rfl ?_
        refine EL_passU 88 rfl rfl rfl rfl ?_
        refine EL_passU 88 rfl rfl rfl rfl ?_
        refine EL_passU 88 rfl rfl rfl rfl ?_
        refine EL_passU 88 rfl rfl rfl rfl ?_
        refine EL_passU 88 rfl rfl rfl rfl ?_
        refine EL_passU 88 rfl rfl rfl rfl ?_
        refine EL_pass 85 rfl rfl rfl rfl rfl ?_
        refine EL_val (.bool true) w23 rfl (r_pickT rfl rfl) ?_
        refine EL_val (.bool true) w23 rfl (r_assign rfl) ?_
        refine EL_nil ?_
        refine thn_n ?_
        refine EC_ret ?_
        refine fin1 Try.results4 (show _ = .bool true from rfl) ⟨_, rfl, ?_⟩
        exact ⟨rfl, B25⟩
    · refine EC_reg ?_
      refine EL_val (.agg (([a, b] : List Int).map (Value.int .i64)).toArray) w18 rfl (r_loadAll rfl (A14'.below B21) Try.underlying23 rfl (Eq.trans (show _ = some 2 from by kernel_rfl) (congrArg some (by first | (simp; done) | (simp; omega) | rfl)))) ?_
      refine EL_ret [.agg (([a, b] : List Int).map (Value.int .i64)).toArray] rfl Try.func13 rfl nm13 rfl (number_c a b w18 (by omega) (by omega)) ?_
      rintro _ w50 ⟨rfl, B51⟩
      have B52 : Below w.heap.size w w50 := below_full B20 B20.size B51
      have B53 : Below w12.heap.size w12 w50 := below_full B21 B21.size B51
      have B54 : Below w18.heap.size w18 w50 := B51
      refine EL_val (.int .i64 n) w50 rfl (r_move rfl) ?_
      refine EL_ret [.complex .f64 (fw a) (fw b), .int .i64 n] rfl Try.func14 rfl nm14 rfl (Finish_no (fw a) a (fw b) b n w50 (fw_is (n := a) (by omega)) (fw_is (n := b) (by omega)) (by omega) (by omega) (by omega) (by omega) (by omega)) ?_
      rintro _ _ ⟨rfl, rfl⟩
      refine EL_val (.tuple #[.complex .f64 0 0, .int .i64 12]) w50 rfl (r_move rfl) ?_
      refine EL_val (.complex .f64 0 0) w50 rfl (r_extract rfl rfl) ?_
      refine EL_val (.int .i64 12) w50 rfl (r_extract rfl rfl) ?_
      refine EL_val (.complex .f64 0 0) w50 rfl (r_assign rfl) ?_
      refine EL_val (.int .i64 12) w50 rfl (r_assign rfl) ?_
      refine EL_nil ?_
      refine thn_n ?_
      refine EC_seq ?_
      refine EC_seq ?_
      refine EC_reg ?_
      refine EL_val (.int .i64 n) w50 rfl (r_move rfl) ?_
      refine EL_val (.bool (decide (n < 0))) w50 rfl (r_lss rfl rfl) ?_
      refine EL_val (.bool (decide (n < 0))) w50 rfl (r_move rfl) ?_
      refine EL_gite 26 rfl rfl rfl (.int .i64 n) rfl (fun g55 => r_move rfl) ?_
      refine EL_gite 26 rfl rfl rfl (ptr b11 1) rfl (fun g56 => r_fieldA rfl Try.underlying23 rfl (fun _ => rfl)) ?_
      refine EL_gite 26 rfl rfl rfl (.int .i64 b) rfl (fun g57 => r_loadA (cond_of g57 rfl) (A14'.below B53) (u := .int .i64 b) rfl Try.underlying3 rfl) ?_
      refine EL_gite 26 rfl rfl rfl (.bool (decide (b < n))) rfl (fun g58 => r_gtr (cond_of g58 rfl) (cond_of g58 rfl)) ?_
      refine EL_val (.bool ((decide (n < 0)) || (decide (b < n)))) w50 rfl (r_or rfl rfl rfl) ?_
      refine EL_val (.bool ((decide (n < 0)) || (decide (b < n)))) w50 rfl (r_move rfl) ?_
      refine EL_gite 32 rfl rfl rfl (.int .i64 n) rfl (fun g59 => r_move rfl) ?_
      refine EL_gite 32 rfl rfl rfl (ptr b11 0) rfl (fun g60 => r_fieldA rfl Try.underlying23 rfl (fun _ => rfl)) ?_
      refine EL_gite 32 rfl rfl rfl (.int .i64 a) rfl (fun g61 => r_loadA (cond_of g61 rfl) (A14'.below B53) (u := .int .i64 a) rfl Try.underlying3 rfl) ?_
      refine EL_gite 32 rfl rfl rfl (.int .i64 (1099511627776 - a)) rfl (fun g62 => r_subi rfl (cond_of g62 rfl) (by first | omega | (simp at g62; omega))) ?_
      refine EL_gite 32 rfl rfl rfl (.bool (decide ((1099511627776 - a) < n))) rfl (fun g63 => r_gtr (cond_of g63 rfl) (cond_of g63 rfl)) ?_
      refine EL_val (.bool (((decide (n < 0)) || (decide (b < n))) || (decide ((1099511627776 - a) < n)))) w50 rfl (r_or rfl rfl rfl) ?_
      refine EL_nil ?_
      refine thn_n ?_
      refine EC_cond_true (Eq.trans (show _ = Value.bool (((decide (n < 0)) || (decide (b < n))) || (decide ((1099511627776 - a) < n))) from rfl) (congrArg Value.bool (show (((decide (n < 0)) || (decide (b < n))) || (decide ((1099511627776 - a) < n))) = true from by simp; omega))) ?_
      refine EC_seq ?_
      refine EC_reg ?_
      refine EL_val (.int .i64 12) w50 rfl (r_move rfl) ?_
      refine EL_val (.bool true) w50 rfl (r_dec (by decide) (r_eql rfl rfl)) ?_
      refine EL_val (.bool true) w50 rfl (r_move rfl) ?_
      refine EL_gval 41 rfl rfl rfl rfl (.complex .f64 0 0) w50 rfl (r_move rfl) ?_
      refine EL_gval 41 rfl rfl rfl rfl (.bool true) w50 rfl (r_dec (show (decide ((0 : Int) = (0 : Int)) && decide ((0 : Int) = (0 : Int))) = true from by decide) (r_ceql rfl rfl (fw_const (x := 0) (n := 0) (by decide +kernel) (by decide)) (fw_const (x := 0) (n := 0) (by decide +kernel) (by decide)) (fw_const (x := 0) (n := 0) (by decide +kernel) (by decide)) (fw_const (x := 0) (n := 0) (by decide +kernel) (by decide)))) ?_
      refine EL_val (.bool true) w50 rfl (r_pickT rfl rfl) ?_
      refine EL_val (.bool true) w50 rfl (r_assign rfl) ?_
      refine EL_nil ?_
      refine thn_n ?_
      refine EC_ret ?_
      refine thn_r ?_
      refine fin1 Try.results4 (show _ = .bool true from rfl) ⟨_, rfl, ?_⟩
      exact ⟨rfl, B52⟩
theorem own : ownKnob Try.prog.godebug = none := by kernel_rfl
theorem laidOut : laidOutB Try.prog = true := by kernel_rfl
set_option maxRecDepth 100000 in
theorem lifted (os : Os) (started : os.Started) (H : Type) (enc : TypeId × Value → H) :
    ReturnsInHanded {} Try.checked os 4 .any (Rows.tallyEndsSpec.pre6 enc Try.prog Try.f4 Rows.tallyEndsRow.domain false) (Rows.tallyEndsSpec.post enc Try.prog Try.f4 false true false false) := by
  refine returnsInHanded_of_change (C := Try.checked) own started (by kernel_rfl) Try.func4
    (ChangeSpec.witness6 (enc := enc) (C := Try.checked) false ⟨#[], #[.agg #[.int .i64 0, .int .i64 0], .int .i64 0], []⟩ 8 (by kernel_rfl) (by kernel_rfl) (by kernel_rfl) (by kernel_rfl)) ?_
  intro W base args ds gs before hval0 hW hcnd _
  have hval : ∀ (j : Nat) t v, Try.f4.params[j]? = some t → args[j]? = some v → Value.okWide Try.prog W .any base t v := hval0
  have hW' := hW
  obtain ⟨p, q, hA0, hV, rfl, hfz, hnd⟩ := hW
  have hA : DataW.TrodAll enc Try.prog W 0 (fun _ => true) true Try.f4.params.toList args.toList ds p := hA0
  rw [Try.params4] at hA hval
  obtain ⟨v0, vs0, d0, ds0, p0, q0, hargs, rfl, rfl, h0, r0⟩ := trodAll_cons hA
  obtain ⟨v1, vs1, d1, ds1, p1, q1, rfl, rfl, rfl, h1, r1⟩ := trodAll_cons r0
  obtain ⟨rfl, rfl, rfl⟩ := trodAll_nil r1
  obtain rfl : args = #[v0, v1] := by cases args; simp_all
  obtain ⟨rfl, rfl⟩ := trodVars_none hV
  have k0 := h0
  have lt0 : ∀ x ∈ p0, x.block < W.heap.size := by obtain ⟨m, hm⟩ := k0; exact DataW.trod_lt m _ _ _ hm
  obtain ⟨c0, e0, y0, z0, m0, rfl, rfl, rfl, hy0, hz0⟩ := Go.Joins.open_agg2 Try.underlying23 (by kernel_rfl) (by kernel_rfl) (hval 0 23 v0 rfl rfl) h0
  obtain ⟨a0, ea0, rfl, wa0⟩ := DataW.trod_int Try.underlying3 hy0
  obtain ⟨b0, eb0, rfl, wb0⟩ := DataW.trod_int Try.underlying3 hz0
  simp at ea0 eb0
  subst ea0 eb0
  have k1 := h1
  have lt1 : ∀ x ∈ p1, x.block < W.heap.size := by obtain ⟨m, hm⟩ := k1; exact DataW.trod_lt m _ _ _ hm
  obtain ⟨a1, rfl, rfl, rfl, w1⟩ := open_int Try.underlying3 (hval 1 3 v1 rfl rfl) h1
  clear hA0 hval0
  refine Calls.mono (TallyEnds_c a0 b0 a1 W (rng_i64 wa0) (rng_i64 wb0) (rng_i64 w1)) fun e W' ⟨v', he, hv, bel⟩ => ?_
  subst he
  subst hv
  exact ⟨_, rfl, _, _, _, [], _, [], hW', trodAll_mk1 (shut_bool Try.underlying4 _), (trodAll_cons_mk (Below.trod laidOut (by kernel_rfl) (of_decide_eq_true (by kernel_rfl)) k0 bel lt0) (trodAll_cons_mk (Below.trod laidOut (by kernel_rfl) (of_decide_eq_true (by kernel_rfl)) k1 bel lt1) trodAll_mk0)), rfl, bel.frame _, fun h => by cases h⟩
theorem over : Rows.tallyEndsRow.holds Try.pinned (OpenSpec.ofChange Rows.tallyEndsSpec) :=
  OpenClaim.holds_of_wide 4 Try.f4 rfl rfl rfl rfl rfl rfl rfl ⟨rfl, rfl, rfl, rfl, rfl⟩ rfl rfl rfl rfl rfl (by kernel_rfl) Try.func4 (by kernel_rfl)
    (of_decide_eq_true (by kernel_rfl)) (by unfold Func.isWrapper; first | (rw [if_pos (by decide +kernel)]; kernel_rfl) | (rw [if_neg (by decide +kernel)]; exact ⟨rfl, rfl⟩))
    (fun os started H enc _ => lifted os started H enc)
end Go.Proofs.Ytieaebbnmebbfaa.tallyEnds
namespace Go.Proofs.Ytieaebbnmebbfaa
theorem TallyEnds_holds : Rows.TallyEndsSaid := tallyEnds.over
end Go.Proofs.Ytieaebbnmebbfaa
