/-
  The step from any tally to any other one leads there, and its reverse back.
  Its conditions: none: whatever the input, in whatever memory.
-/
import Derived.Test.YtieaebbnmebbfaaRows
import Derived.Test.YtieaebbnmebbfaaWalksD
import Derived.ProofKit
import Derived.OpenShut
import Derived.ShutString
import Derived.ChangeOld
set_option linter.unusedVariables false
set_option linter.unusedSimpArgs false
namespace Go.Proofs.Ytieaebbnmebbfaa.tallySteps
open Go.ChangeShapes Go.WideShapes Go.ChangeAt Go.RowKit Go.Ecal
open Go.ChangeMaps (open_string shut_string)
theorem elC : Elem Try.prog 40 25 (.complex .f64 0 0) 16 := ⟨Try.underlying40, by kernel_rfl, rfl⟩
theorem steps_one {x y : Nat} {m n : Int} (hx : Fw x m) (hy : Fw y n) (h : -1099511627776 ≤ m ∧ m ≤ 1099511627776 ∧ -1099511627776 ≤ n ∧ n ≤ 1099511627776) : StepsOf [(x, y)] [(m, n)] := by
  refine ⟨rfl, fun j p hj => ?_⟩
  cases j with
  | zero => simp at hj; subst hj; exact ⟨(m, n), rfl, hx, hy, h⟩
  | succ j => simp at hj
theorem smS_one {a b m n : Int} (h : (0 : Int) ≤ a + m ∧ a + m ≤ 1099511627776 ∧ (0 : Int) ≤ b + n ∧ b + n ≤ 1099511627776) : smS a b [(m, n)] = some (a + m, b + n) := by
  rw [smS, if_pos h]; rfl
set_option maxRecDepth 100000 in
set_option maxHeartbeats 4000000 in
theorem TallySteps_c (a : Int) (b : Int) (c : Int) (d : Int) (w : World) (ra : -9223372036854775808 ≤ a ∧ a ≤ 9223372036854775807) (rb : -9223372036854775808 ≤ b ∧ b ≤ 9223372036854775807) (rc : -9223372036854775808 ≤ c ∧ c ≤ 9223372036854775807) (rd : -9223372036854775808 ≤ d ∧ d ≤ 9223372036854775807) : Ret Try.prog 7 [.agg (([a, b] : List Int).map (Value.int .i64)).toArray, .agg (([c, d] : List Int).map (Value.int .i64)).toArray] w fun v w' => v = .bool true ∧ Below w.heap.size w w' := by
  refine ret_E Try.func7 rfl Try.ntmps7 (by simp) ?_
  refine EC_seq ?_
  refine EC_reg ?_
  refine EL_box (([a, b] : List Int).map (Value.int .i64)) rfl rfl rfl ?_
  intro b11 w12 k13 A14 B15 z16
  have B17 : Below w.heap.size w w12 := B15
  have A14' : Arr w12 b11 23 (([a, b] : List Int).map (Value.int .i64)) := A14
  refine EL_box (([c, d] : List Int).map (Value.int .i64)) rfl rfl rfl ?_
  intro b18 w19 k20 A21 B22 z23
  have ne24 : b11 < b18 := by have := (A14').lt; omega
  have B25 : Below w.heap.size w w19 := below_full B17 B17.size B22
  have B26 : Below w12.heap.size w12 w19 := B22
  have A21' : Arr w19 b18 23 (([c, d] : List Int).map (Value.int .i64)) := A21
  refine EL_val (.bool false) w19 rfl (r_assign rfl) ?_
  refine EL_nil ?_
  refine thn_n ?_
  refine EC_seq ?_
  refine EC_seq ?_
  refine EC_reg ?_
  refine EL_ret [] rfl Try.func9 rfl nm9 rfl (anchor_c w19) ?_
  rintro _ _ ⟨rfl, rfl⟩
  refine EL_val (.bool false) w19 rfl (r_dec (show (!true) = false from rfl) (r_not rfl)) ?_
  refine EL_nil ?_
  refine thn_n ?_
  refine EC_cond_false rfl ?_
  refine EC_skip ?_
  refine thn_n ?_
  refine EC_seq ?_
  refine EC_seq ?_
  refine EC_reg ?_
  refine EL_val (.agg (([a, b] : List Int).map (Value.int .i64)).toArray) w19 rfl (r_loadAll rfl (A14'.below B26) Try.underlying23 rfl (Eq.trans (show _ = some 2 from by kernel_rfl) (congrArg some (by first | (simp; done) | (simp; omega) | rfl)))) ?_
  refine EL_ret [.agg (([a, b] : List Int).map (Value.int .i64)).toArray] rfl Try.func11 rfl nm11 rfl (right_c a b w19 (by omega) (by omega)) ?_
  rintro _ w27 ⟨rfl, B28⟩
  have B29 : Below w.heap.size w w27 := below_full B25 B25.size B28
  have B30 : Below w12.heap.size w12 w27 := below_full B26 B26.size B28
  have B31 : Below w19.heap.size w19 w27 := B28
  refine EL_val (.bool (!(decide ((0 : Int) ≤ a ∧ a ≤ 1099511627776 ∧ (0 : Int) ≤ b ∧ b ≤ 1099511627776)))) w27 rfl (r_not rfl) ?_
  refine EL_val (.bool (!(decide ((0 : Int) ≤ a ∧ a ≤ 1099511627776 ∧ (0 : Int) ≤ b ∧ b ≤ 1099511627776)))) w27 rfl (r_move rfl) ?_
  refine EL_gite 16 rfl rfl rfl (.agg (([c, d] : List Int).map (Value.int .i64)).toArray) rfl (fun g32 => r_loadAll rfl (A21'.below B31) Try.underlying23 rfl (Eq.trans (show _ = some 2 from by kernel_rfl) (congrArg some (by first | (simp; done) | (simp; omega) | rfl)))) ?_
  rcases Bool.eq_false_or_eq_true (!(decide ((0 : Int) ≤ a ∧ a ≤ 1099511627776 ∧ (0 : Int) ≤ b ∧ b ≤ 1099511627776))) with q33 | q33
  · have q33' : ¬ ((0 : Int) ≤ a ∧ a ≤ 1099511627776 ∧ (0 : Int) ≤ b ∧ b ≤ 1099511627776) := of_decide_eq_false ((Bool.not_eq_true' _).mp q33)
    refine EL_pass 16 rfl (by exact congrArg Value.bool q33) rfl rfl rfl ?_
    refine EL_pass 16 rfl (by exact congrArg Value.bool q33) rfl rfl rfl ?_
    refine EL_val (.bool true) w27 rfl (r_pickT (by exact congrArg Value.bool q33) rfl) ?_
    refine EL_nil ?_
    refine thn_n ?_
    refine EC_cond_true rfl ?_
    refine EC_seq ?_
    refine EC_reg ?_
    refine EL_val (.bool true) w27 rfl (r_assign rfl) ?_
    refine EL_nil ?_
    refine thn_n ?_
    refine EC_ret ?_
    refine thn_r ?_
    refine fin1 Try.results7 (show _ = .bool true from rfl) ⟨_, rfl, ?_⟩
    exact ⟨rfl, B29⟩
  · have q33' : (0 : Int) ≤ a ∧ a ≤ 1099511627776 ∧ (0 : Int) ≤ b ∧ b ≤ 1099511627776 := of_decide_eq_true ((Bool.not_eq_false' _).mp q33)
    refine EL_gret 16 rfl (by exact congrArg Value.bool q33) rfl rfl [.agg (([c, d] : List Int).map (Value.int .i64)).toArray] rfl Try.func11 rfl nm11 (by exact args1 (by exact cond_of (show ((!(decide ((0 : Int) ≤ a ∧ a ≤ 1099511627776 ∧ (0 : Int) ≤ b ∧ b ≤ 1099511627776))) == false) = true from by rw [q33]; rfl) rfl)) (right_c c d w27 (by omega) (by omega)) ?_
    rintro _ w34 ⟨rfl, B35⟩
    have B36 : Below w.heap.size w w34 := below_full B29 B29.size B35
    have B37 : Below w12.heap.size w12 w34 := below_full B30 B30.size B35
    have B38 : Below w19.heap.size w19 w34 := below_full B31 B31.size B35
    have B39 : Below w27.heap.size w27 w34 := B35
    refine EL_gval 16 rfl (by exact congrArg Value.bool q33) rfl rfl (.bool (!(decide ((0 : Int) ≤ c ∧ c ≤ 1099511627776 ∧ (0 : Int) ≤ d ∧ d ≤ 1099511627776)))) w34 rfl (r_not rfl) ?_
    refine EL_val (.bool (!(decide ((0 : Int) ≤ c ∧ c ≤ 1099511627776 ∧ (0 : Int) ≤ d ∧ d ≤ 1099511627776)))) w34 rfl (r_pickF (by exact congrArg Value.bool q33) rfl) ?_
    refine EL_nil ?_
    refine thn_n ?_
    refine EC_cond (t := !(decide ((0 : Int) ≤ c ∧ c ≤ 1099511627776 ∧ (0 : Int) ≤ d ∧ d ≤ 1099511627776))) rfl (fun h40 => ?_) (fun h40 => ?_)
    · refine EC_seq ?_
      refine EC_reg ?_
      refine EL_val (.bool true) w34 rfl (r_assign rfl) ?_
      refine EL_nil ?_
      refine thn_n ?_
      refine EC_ret ?_
      refine thn_r ?_
      refine fin1 Try.results7 (show _ = .bool true from rfl) ⟨_, rfl, ?_⟩
      exact ⟨rfl, B36⟩
    · have hr2 : (0 : Int) ≤ c ∧ c ≤ 1099511627776 ∧ (0 : Int) ≤ d ∧ d ≤ 1099511627776 := of_decide_eq_true ((Bool.not_eq_false' _).mp h40)
      refine EC_skip ?_
      refine thn_n ?_
      refine EC_cut (fun E' w' => ∃ z1 : Nat, ∃ z2 : Nat, E' 5 = .complex .f64 z1 z2 ∧ E' 6 = .int .i64 0 ∧ E' 2 = ptr b11 ∧ E' 3 = ptr b18 ∧ E' 4 = .bool false ∧ (Fw z1 (c - a)) ∧ (Fw z2 (d - b)) ∧ Below w.heap.size w w' ∧ Below w12.heap.size w12 w' ∧ Below w19.heap.size w19 w' ∧ Below w27.heap.size w27 w') ?_ ?_
      · refine EC_until 4 (by kernel_rfl) ?_
        intro w41 B42 z43
        have B44 : Below w.heap.size w w41 := below_full B36 B36.size B42
        have B45 : Below w12.heap.size w12 w41 := below_full B37 B37.size B42
        have B46 : Below w19.heap.size w19 w41 := below_full B38 B38.size B42
        have B47 : Below w27.heap.size w27 w41 := below_full B39 B39.size B42
        have B48 : Below w34.heap.size w34 w41 := B42
        refine EH_take 0 rfl (by kernel_rfl) (by kernel_rfl) (by kernel_rfl) rfl 40 (by kernel_rfl) (.agg (([a, b] : List Int).map (Value.int .i64)).toArray) rfl (fun _ hw => r_loadAll rfl ((A14'.below B45).below hw) Try.underlying23 rfl (Eq.trans (show _ = some 2 from by kernel_rfl) (congrArg some (by first | (simp; done) | (simp; omega) | rfl)))) (Below.refl _ _) ?_
        refine EH_take 2 rfl (by kernel_rfl) (by kernel_rfl) (by kernel_rfl) rfl 40 (by kernel_rfl) (.agg (([c, d] : List Int).map (Value.int .i64)).toArray) rfl (fun _ hw => r_loadAll rfl ((A21'.below B46).below hw) Try.underlying23 rfl (Eq.trans (show _ = some 2 from by kernel_rfl) (congrArg some (by first | (simp; done) | (simp; omega) | rfl)))) (Below.refl _ _) ?_
        refine EH_one 1 (by kernel_rfl) ⟨_, rfl, ?_⟩
        refine EL_ret [.agg (([a, b] : List Int).map (Value.int .i64)).toArray] rfl Try.func13 rfl nm13 rfl (number_c a b w41 (by omega) (by omega)) ?_
        rintro _ w49 ⟨rfl, B50⟩
        have B51 : Below w.heap.size w w49 := below_full B44 B44.size B50
        have B52 : Below w12.heap.size w12 w49 := below_full B45 B45.size B50
        have B53 : Below w19.heap.size w19 w49 := below_full B46 B46.size B50
        have B54 : Below w27.heap.size w27 w49 := below_full B47 B47.size B50
        have B55 : Below w34.heap.size w34 w49 := below_full B48 B48.size B50
        have B56 : Below w41.heap.size w41 w49 := B50
        refine EL_nil ?_
        refine ⟨rfl, .inr B56, ?_⟩
        refine EH_one 3 (by kernel_rfl) ⟨_, rfl, ?_⟩
        refine EL_ret [.agg (([c, d] : List Int).map (Value.int .i64)).toArray] rfl Try.func13 rfl nm13 rfl (number_c c d w49 (by omega) (by omega)) ?_
        rintro _ w57 ⟨rfl, B58⟩
        have B59 : Below w.heap.size w w57 := below_full B51 B51.size B58
        have B60 : Below w12.heap.size w12 w57 := below_full B52 B52.size B58
        have B61 : Below w19.heap.size w19 w57 := below_full B53 B53.size B58
        have B62 : Below w27.heap.size w27 w57 := below_full B54 B54.size B58
        have B63 : Below w34.heap.size w34 w57 := below_full B55 B55.size B58
        have B64 : Below w41.heap.size w41 w57 := below_full B56 B56.size B58
        have B65 : Below w49.heap.size w49 w57 := B58
        refine EL_nil ?_
        refine ⟨rfl, .inr B64, ?_⟩
        refine EH_one 4 (by kernel_rfl) ⟨_, rfl, ?_⟩
        refine EL_ret [.complex .f64 (fw a) (fw b), .complex .f64 (fw c) (fw d)] rfl Try.func19 rfl nm19 rfl (Step_ok (fw a) a (fw b) b (fw c) c (fw d) d w57 (fw_is (n := a) (by omega)) (fw_is (n := b) (by omega)) (by omega) (by omega) (fw_is (n := c) (by omega)) (fw_is (n := d) (by omega)) (by omega) (by omega) (by omega) (by omega)) ?_
        rintro _ _ ⟨z66, z67, rfl, Fz68, Fz69, rfl⟩
        refine EL_nil ?_
        refine ⟨rfl, .inl (by kernel_rfl), ?_⟩
        refine EH_float 5 rfl (by kernel_rfl) (by kernel_rfl) (by kernel_rfl) rfl (.inl (by kernel_rfl)) (.tuple #[.complex .f64 z66 z67, .int .i64 0]) rfl (fun _ => r_move rfl) ?_
        refine EH_float 6 rfl (by kernel_rfl) (by kernel_rfl) (by kernel_rfl) rfl (.inl (by kernel_rfl)) (.complex .f64 z66 z67) rfl (fun _ => r_extract rfl rfl) ?_
        refine EH_float 7 rfl (by kernel_rfl) (by kernel_rfl) (by kernel_rfl) rfl (.inl (by kernel_rfl)) (.int .i64 0) rfl (fun _ => r_extract rfl rfl) ?_
        refine EH_float 8 rfl (by kernel_rfl) (by kernel_rfl) (by kernel_rfl) rfl (.inl (by kernel_rfl)) (.complex .f64 z66 z67) rfl (fun _ => r_assign rfl) ?_
        refine EH_float 9 rfl (by kernel_rfl) (by kernel_rfl) (by kernel_rfl) rfl (.inl (by kernel_rfl)) (.int .i64 0) rfl (fun _ => r_assign rfl) ?_
        refine EH_done (by kernel_rfl) ?_
        refine thn_n ?_
        exact ⟨z66, z67, rfl, rfl, rfl, rfl, rfl, Fz68, Fz69, B59, B60, B61, B62⟩
      · rintro E70 w71 ⟨z1, z2, e72, e73, e74, e75, e76, Fz1, Fz2, B77, B78, B79, B80⟩
        refine EC_seq ?_
        refine EC_reg ?_
        refine EL_val (.agg (([a, b] : List Int).map (Value.int .i64)).toArray) w71 rfl (r_loadAll (by exact e74) (A14'.below B78) Try.underlying23 rfl (Eq.trans (show _ = some 2 from by kernel_rfl) (congrArg some (by first | (simp; done) | (simp; omega) | rfl)))) ?_
        refine EL_ret [.agg (([a, b] : List Int).map (Value.int .i64)).toArray] rfl Try.func13 rfl nm13 rfl (number_c a b w71 (by omega) (by omega)) ?_
        rintro _ w81 ⟨rfl, B82⟩
        have B83 : Below w.heap.size w w81 := below_full B77 B77.size B82
        have B84 : Below w12.heap.size w12 w81 := below_full B78 B78.size B82
        have B85 : Below w19.heap.size w19 w81 := below_full B79 B79.size B82
        have B86 : Below w27.heap.size w27 w81 := below_full B80 B80.size B82
        have B87 : Below w71.heap.size w71 w81 := B82
        refine EL_val (.complex .f64 z1 z2) w81 rfl (r_move (by exact e72)) ?_
        refine EL_lit w81.heap.size #[.complex .f64 z1 z2] elC rfl (by decide) rfl (Nat.le_refl _) (by kernel_rfl) ?_
        intro v88 w89 O90 B91 k92 z93
        have B95 : Below w.heap.size w w89 := below_full B83 B83.size B91
        have B96 : Below w12.heap.size w12 w89 := below_full B84 B84.size B91
        have B97 : Below w19.heap.size w19 w89 := below_full B85 B85.size B91
        have B98 : Below w27.heap.size w27 w89 := below_full B86 B86.size B91
        have B99 : Below w71.heap.size w71 w89 := below_full B87 B87.size B91
        have B100 : Below w81.heap.size w81 w89 := B91
        have R94 : Row w89 v88 (([(z1, z2)] : List (Nat × Nat)).map cv) := own_row O90
        refine EL_ret [.complex .f64 (fw a) (fw b), v88] rfl Try.func18 rfl nm18 rfl (Sum_ok (fw a) a (fw b) b v88 [(z1, z2)] [(c - a, d - b)] (steps_one Fz1 Fz2 (by omega)) w89 (fw_is (n := a) (by omega)) (fw_is (n := b) (by omega)) (by omega) (by omega) R94 (by omega) (a + (c - a)) (b + (d - b)) (smS_one (by omega))) ?_
        rintro _ _ ⟨z101, z102, rfl, Fz103, Fz104, rfl⟩
        refine EL_val (.tuple #[.complex .f64 z101 z102, .int .i64 0]) w89 rfl (r_move rfl) ?_
        refine EL_val (.complex .f64 z101 z102) w89 rfl (r_extract rfl rfl) ?_
        refine EL_val (.int .i64 0) w89 rfl (r_extract rfl rfl) ?_
        refine EL_val (.complex .f64 z101 z102) w89 rfl (r_assign rfl) ?_
        refine EL_val (.int .i64 0) w89 rfl (r_assign rfl) ?_
        refine EL_nil ?_
        refine thn_n ?_
        refine EC_seq ?_
        refine EC_reg ?_
        refine EL_val (.agg (([c, d] : List Int).map (Value.int .i64)).toArray) w89 rfl (r_loadAll (by exact e75) (A21'.below B97) Try.underlying23 rfl (Eq.trans (show _ = some 2 from by kernel_rfl) (congrArg some (by first | (simp; done) | (simp; omega) | rfl)))) ?_
        refine EL_ret [.agg (([c, d] : List Int).map (Value.int .i64)).toArray] rfl Try.func13 rfl nm13 rfl (number_c c d w89 (by omega) (by omega)) ?_
        rintro _ w105 ⟨rfl, B106⟩
        have B107 : Below w.heap.size w w105 := below_full B95 B95.size B106
        have B108 : Below w12.heap.size w12 w105 := below_full B96 B96.size B106
        have B109 : Below w19.heap.size w19 w105 := below_full B97 B97.size B106
        have B110 : Below w27.heap.size w27 w105 := below_full B98 B98.size B106
        have B111 : Below w71.heap.size w71 w105 := below_full B99 B99.size B106
        have B112 : Below w81.heap.size w81 w105 := below_full B100 B100.size B106
        have B113 : Below w89.heap.size w89 w105 := B106
        refine EL_val (.complex .f64 z1 z2) w105 rfl (r_move (by exact e72)) ?_
        refine EL_val (.complex .f64 (Op.negFloat .f64 z1) (Op.negFloat .f64 z2)) w105 rfl (r_cneg rfl) ?_
        refine EL_lit w105.heap.size #[.complex .f64 (Op.negFloat .f64 z1) (Op.negFloat .f64 z2)] elC rfl (by decide) rfl (Nat.le_refl _) (by kernel_rfl) ?_
        intro v114 w115 O116 B117 k118 z119
        have B121 : Below w.heap.size w w115 := below_full B107 B107.size B117
        have B122 : Below w12.heap.size w12 w115 := below_full B108 B108.size B117
        have B123 : Below w19.heap.size w19 w115 := below_full B109 B109.size B117
        have B124 : Below w27.heap.size w27 w115 := below_full B110 B110.size B117
        have B125 : Below w71.heap.size w71 w115 := below_full B111 B111.size B117
        have B126 : Below w81.heap.size w81 w115 := below_full B112 B112.size B117
        have B127 : Below w89.heap.size w89 w115 := below_full B113 B113.size B117
        have B128 : Below w105.heap.size w105 w115 := B117
        have R120 : Row w115 v114 (([((Op.negFloat .f64 z1), (Op.negFloat .f64 z2))] : List (Nat × Nat)).map cv) := own_row O116
        refine EL_ret [.complex .f64 (fw c) (fw d), v114] rfl Try.func18 rfl nm18 rfl (Sum_ok (fw c) c (fw d) d v114 [((Op.negFloat .f64 z1), (Op.negFloat .f64 z2))] [(-(c - a), -(d - b))] (steps_one (neg_is Fz1) (neg_is Fz2) (by omega)) w115 (fw_is (n := c) (by omega)) (fw_is (n := d) (by omega)) (by omega) (by omega) R120 (by omega) (c + (-(c - a))) (d + (-(d - b))) (smS_one (by omega))) ?_
        rintro _ _ ⟨z129, z130, rfl, Fz131, Fz132, rfl⟩
        refine EL_val (.tuple #[.complex .f64 z129 z130, .int .i64 0]) w115 rfl (r_move rfl) ?_
        refine EL_val (.complex .f64 z129 z130) w115 rfl (r_extract rfl rfl) ?_
        refine EL_val (.int .i64 0) w115 rfl (r_extract rfl rfl) ?_
        refine EL_val (.complex .f64 z129 z130) w115 rfl (r_assign rfl) ?_
        refine EL_val (.int .i64 0) w115 rfl (r_assign rfl) ?_
        refine EL_nil ?_
        refine thn_n ?_
        refine EC_seq ?_
        refine EC_reg ?_
        refine EL_val (.int .i64 0) w115 rfl (r_move (by exact e73)) ?_
        refine EL_val (.bool true) w115 rfl (r_dec (by decide) (r_eql rfl rfl)) ?_
        refine EL_val (.bool true) w115 rfl (r_move rfl) ?_
        refine EL_gval 48 rfl rfl rfl rfl (.int .i64 0) w115 rfl (r_move rfl) ?_
        refine EL_gval 48 rfl rfl rfl rfl (.bool true) w115 rfl (r_dec (by decide) (r_eql rfl rfl)) ?_
        refine EL_val (.bool true) w115 rfl (r_pickT rfl rfl) ?_
        refine EL_val (.bool true) w115 rfl (r_move rfl) ?_
        refine EL_gval 52 rfl rfl rfl rfl (.int .i64 0) w115 rfl (r_move rfl) ?_
        refine EL_gval 52 rfl rfl rfl rfl (.bool true) w115 rfl (r_dec (by decide) (r_eql rfl rfl)) ?_
        refine EL_val (.bool true) w115 rfl (r_pickT rfl rfl) ?_
        refine EL_val (.bool true) w115 rfl (r_move rfl) ?_
        refine EL_gval 56 rfl rfl rfl rfl (.complex .f64 z101 z102) w115 rfl (r_move rfl) ?_
        refine EL_gval 56 rfl rfl rfl rfl (.agg (([c, d] : List Int).map (Value.int .i64)).toArray) w115 rfl (r_loadAll (by exact e75) (A21'.below B123) Try.underlying23 rfl (Eq.trans (show _ = some 2 from by kernel_rfl) (congrArg some (by first | (simp; done) | (simp; omega) | rfl)))) ?_
        refine EL_gret 56 rfl rfl rfl rfl [.agg (([c, d] : List Int).map (Value.int .i64)).toArray] rfl Try.func13 rfl nm13 rfl (number_c c d w115 (by omega) (by omega)) ?_
        rintro _ w133 ⟨rfl, B134⟩
        have B135 : Below w.heap.size w w133 := below_full B121 B121.size B134
        have B136 : Below w12.heap.size w12 w133 := below_full B122 B122.size B134
        have B137 : Below w19.heap.size w19 w133 := below_full B123 B123.size B134
        have B138 : Below w27.heap.size w27 w133 := below_full B124 B124.size B134
        have B139 : Below w71.heap.size w71 w133 := below_full B125 B125.size B134
        have B140 : Below w81.heap.size w81 w133 := below_full B126 B126.size B134
        have B141 : Below w89.heap.size w89 w133 := below_full B127 B127.size B134
        have B142 : Below w105.heap.size w105 w133 := below_full B128 B128.size B134
        have B143 : Below w115.heap.size w115 w133 := B134
        refine EL_gval 56 rfl rfl rfl rfl (.bool true) w133 rfl (r_dec (show (decide ((a + (c - a)) = c) && decide ((b + (d - b)) = d)) = true from by first | (simp; done) | (simp; omega)) (r_ceql rfl rfl Fz103 Fz104 (fw_is (n := c) (by omega)) (fw_is (n := d) (by omega)))) ?_
        refine EL_val (.bool true) w133 rfl (r_pickT rfl rfl) ?_
        refine EL_val (.bool true) w133 rfl (r_move rfl) ?_
        refine EL_gval 62 rfl rfl rfl rfl (.complex .f64 z129 z130) w133 rfl (r_move rfl) ?_
        refine EL_gval 62 rfl rfl rfl rfl (.agg (([a, b] : List Int).map (Value.int .i64)).toArray) w133 rfl (r_loadAll (by exact e74) (A14'.below B136) Try.underlying23 rfl (Eq.trans (show _ = some 2 from by kernel_rfl) (congrArg some (by first | (simp; done) | (simp; omega) | rfl)))) ?_
        refine EL_gret 62 rfl rfl rfl rfl [.agg (([a, b] : List Int).map (Value.int .i64)).toArray] rfl Try.func13 rfl nm13 rfl (number_c a b w133 (by omega) (by omega)) ?_
        rintro _ w144 ⟨rfl, B145⟩
        have B146 : Below w.heap.size w w144 := below_full B135 B135.size B145
        have B147 : Below w12.heap.size w12 w144 := below_full B136 B136.size B145
        have B148 : Below w19.heap.size w19 w144 := below_full B137 B137.size B145
        have B149 : Below w27.heap.size w27 w144 := below_full B138 B138.size B145
        have B150 : Below w71.heap.size w71 w144 := below_full B139 B139.size B145
        have B151 : Below w81.heap.size w81 w144 := below_full B140 B140.size B145
        have B152 : Below w89.heap.size w89 w144 := below_full B141 B141.size B145
        have B153 : Below w105.heap.size w105 w144 := below_full B142 B142.size B145
        have B154 : Below w115.heap.size w115 w144 := below_full B143 B143.size B145
        have B155 : Below w133.heap.size w133 w144 := B145
        refine EL_gval 62 rfl rfl rfl rfl (.bool true) w144 rfl (r_dec (show (decide ((c + (-(c - a))) = a) && decide ((d + (-(d - b))) = b)) = true from by first | (simp; done) | (simp; omega)) (r_ceql rfl rfl Fz131 Fz132 (fw_is (n := a) (by omega)) (fw_is (n := b) (by omega)))) ?_
        refine EL_val (.bool true) w144 rfl (r_pickT rfl rfl) ?_
        refine EL_val (.bool true) w144 rfl (r_move rfl) ?_
        refine EL_gval 68 rfl rfl rfl rfl (.complex .f64 z1 z2) w144 rfl (r_move (by exact e72)) ?_
        refine EL_gval 68 rfl rfl rfl rfl (ptr b18 0) w144 rfl (r_fieldA (by exact e75) Try.underlying23 rfl (fun _ => rfl)) ?_
        refine EL_gval 68 rfl rfl rfl rfl (.int .i64 c) w144 rfl (r_loadA rfl (A21'.below B148) (u := .int .i64 c) rfl Try.underlying3 rfl) ?_
        refine EL_gval 68 rfl rfl rfl rfl (ptr b11 0) w144 rfl (r_fieldA (by exact e74) Try.underlying23 rfl (fun _ => rfl)) ?_
        refine EL_gval 68 rfl rfl rfl rfl (.int .i64 a) w144 rfl (r_loadA rfl (A14'.below B147) (u := .int .i64 a) rfl Try.underlying3 rfl) ?_
        refine EL_gval 68 rfl rfl rfl rfl (.int .i64 (c - a)) w144 rfl (r_subi rfl rfl (by omega)) ?_
        refine EL_gval 68 rfl rfl rfl rfl (.float .f64 (fw (c - a))) w144 rfl (r_i2f rfl (by rw [Try.underlying3]; rfl) Try.underlying34) ?_
        refine EL_gval 68 rfl rfl rfl rfl (ptr b18 1) w144 rfl (r_fieldA (by exact e75) Try.underlying23 rfl (fun _ => rfl)) ?_
        refine EL_gval 68 rfl rfl rfl rfl (.int .i64 d) w144 rfl (r_loadA rfl (A21'.below B148) (u := .int .i64 d) rfl Try.underlying3 rfl) ?_
        refine EL_gval 68 rfl rfl rfl rfl (ptr b11 1) w144 rfl (r_fieldA (by exact e74) Try.underlying23 rfl (fun _ => rfl)) ?_
        refine EL_gval 68 rfl rfl rfl rfl (.int .i64 b) w144 rfl (r_loadA rfl (A14'.below B147) (u := .int .i64 b) rfl Try.underlying3 rfl) ?_
        refine EL_gval 68 rfl rfl rfl rfl (.int .i64 (d - b)) w144 rfl (r_subi rfl rfl (by omega)) ?_
        refine EL_gval 68 rfl rfl rfl rfl (.float .f64 (fw (d - b))) w144 rfl (r_i2f rfl (by rw [Try.underlying3]; rfl) Try.underlying34) ?_
        refine EL_gval 68 rfl rfl rfl rfl (.complex .f64 (fw (c - a)) (fw (d - b))) w144 rfl (r_complex rfl rfl) ?_
        refine EL_gval 68 rfl rfl rfl rfl (.bool true) w144 rfl (r_dec (show (decide ((c - a) = (c - a)) && decide ((d - b) = (d - b))) = true from by first | (simp; done) | (simp; omega)) (r_ceql rfl rfl Fz1 Fz2 (fw_is (n := c - a) (by omega)) (fw_is (n := d - b) (by omega)))) ?_
        refine EL_val (.bool true) w144 rfl (r_pickT rfl rfl) ?_
        refine EL_val (.bool true) w144 rfl (r_assign rfl) ?_
        refine EL_nil ?_
        refine thn_n ?_
        refine EC_ret ?_
        refine fin1 Try.results7 (show _ = .bool true from rfl) ⟨_, rfl, ?_⟩
        exact ⟨rfl, B146⟩
theorem own : ownKnob Try.prog.godebug = none := by kernel_rfl
theorem laidOut : laidOutB Try.prog = true := by kernel_rfl
set_option maxRecDepth 100000 in
theorem lifted (os : Os) (started : os.Started) (H : Type) (enc : TypeId × Value → H) :
    ReturnsInHanded {} Try.checked os 7 .any (Rows.tallyStepsSpec.pre6 enc Try.prog Try.f7 Rows.tallyStepsRow.domain false) (Rows.tallyStepsSpec.post enc Try.prog Try.f7 false true false false) := by
  refine returnsInHanded_of_change (C := Try.checked) own started (by kernel_rfl) Try.func7
    (ChangeSpec.witness6 (enc := enc) (C := Try.checked) false ⟨#[], #[.agg #[.int .i64 0, .int .i64 0], .agg #[.int .i64 0, .int .i64 0]], []⟩ 8 (by kernel_rfl) (by kernel_rfl) (by kernel_rfl) (by kernel_rfl)) ?_
  intro W base args ds gs before hval0 hW hcnd _
  have hval : ∀ (j : Nat) t v, Try.f7.params[j]? = some t → args[j]? = some v → Value.okWide Try.prog W .any base t v := hval0
  have hW' := hW
  obtain ⟨p, q, hA0, hV, rfl, hfz, hnd⟩ := hW
  have hA : DataW.TrodAll enc Try.prog W 0 (fun _ => true) true Try.f7.params.toList args.toList ds p := hA0
  rw [Try.params7] at hA hval
  obtain ⟨v0, vs0, d0, ds0, p0, q0, hargs, rfl, rfl, h0, r0⟩ := trodAll_cons hA
  obtain ⟨v1, vs1, d1, ds1, p1, q1, rfl, rfl, rfl, h1, r1⟩ := trodAll_cons r0
  obtain ⟨rfl, rfl, rfl⟩ := trodAll_nil r1
  obtain rfl : args = #[v0, v1] := by cases args; simp_all
  obtain ⟨rfl, rfl⟩ := trodVars_none hV
  have k0 := h0
  have lt0 : ∀ x ∈ p0, x.block < W.heap.size := by obtain ⟨m, hm⟩ := k0; exact DataW.trod_lt m _ _ _ hm
  obtain ⟨c0, e0, y0, z0, m0, rfl, rfl, rfl, hy0, hz0⟩ := Go.Joins.open_agg2 Try.underlying23 (by kernel_rfl) (by kernel_rfl) (hval 0 23 v0 rfl rfl) h0
  obtain ⟨a0, ea0, rfl, wa0⟩ := DataW.trod_int Try.underlying3 hy0
  obtain ⟨b0, eb0, rfl, wb0⟩ := DataW.trod_int Try.underlying3 hz0
  simp at ea0 eb0
  subst ea0 eb0
  have k1 := h1
  have lt1 : ∀ x ∈ p1, x.block < W.heap.size := by obtain ⟨m, hm⟩ := k1; exact DataW.trod_lt m _ _ _ hm
  obtain ⟨c1, e1, y1, z1, m1, rfl, rfl, rfl, hy1, hz1⟩ := Go.Joins.open_agg2 Try.underlying23 (by kernel_rfl) (by kernel_rfl) (hval 1 23 v1 rfl rfl) h1
  obtain ⟨a1, ea1, rfl, wa1⟩ := DataW.trod_int Try.underlying3 hy1
  obtain ⟨b1, eb1, rfl, wb1⟩ := DataW.trod_int Try.underlying3 hz1
  simp at ea1 eb1
  subst ea1 eb1
  clear hA0 hval0
  refine Calls.mono (TallySteps_c a0 b0 a1 b1 W (rng_i64 wa0) (rng_i64 wb0) (rng_i64 wa1) (rng_i64 wb1)) fun e W' ⟨v', he, hv, bel⟩ => ?_
  subst he
  subst hv
  exact ⟨_, rfl, _, _, _, [], _, [], hW', trodAll_mk1 (shut_bool Try.underlying4 _), (trodAll_cons_mk (Below.trod laidOut (by kernel_rfl) (of_decide_eq_true (by kernel_rfl)) k0 bel lt0) (trodAll_cons_mk (Below.trod laidOut (by kernel_rfl) (of_decide_eq_true (by kernel_rfl)) k1 bel lt1) trodAll_mk0)), rfl, bel.frame _, fun h => by cases h⟩
theorem over : Rows.tallyStepsRow.holds Try.pinned (OpenSpec.ofChange Rows.tallyStepsSpec) :=
  OpenClaim.holds_of_wide 7 Try.f7 rfl rfl rfl rfl rfl rfl rfl ⟨rfl, rfl, rfl, rfl, rfl⟩ rfl rfl rfl rfl rfl (by kernel_rfl) Try.func7 (by kernel_rfl)
    (of_decide_eq_true (by kernel_rfl)) (by unfold Func.isWrapper; first | (rw [if_pos (by decide +kernel)]; kernel_rfl) | (rw [if_neg (by decide +kernel)]; exact ⟨rfl, rfl⟩))
    (fun os started H enc _ => lifted os started H enc)
end Go.Proofs.Ytieaebbnmebbfaa.tallySteps
namespace Go.Proofs.Ytieaebbnmebbfaa
theorem TallySteps_holds : Rows.TallyStepsSaid := tallySteps.over
end Go.Proofs.Ytieaebbnmebbfaa
