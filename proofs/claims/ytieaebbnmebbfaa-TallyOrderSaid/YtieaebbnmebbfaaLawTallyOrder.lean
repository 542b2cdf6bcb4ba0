/-
  One tally is within another one just if both counts are; what is within both of two is within where both meet; mirrored it is the same.
  Its conditions: none: whatever the input, in whatever memory.
-/
import Derived.Test.YtieaebbnmebbfaaRows
import Derived.Test.YtieaebbnmebbfaaWalksC
import Derived.ProofKit
import Derived.OpenShut
import Derived.ShutString
import Derived.ChangeOld
set_option linter.unusedVariables false
set_option linter.unusedSimpArgs false
namespace Go.Proofs.Ytieaebbnmebbfaa.tallyOrder
open Go.ChangeShapes Go.WideShapes Go.ChangeAt Go.RowKit Go.Ecal
open Go.ChangeMaps (open_string shut_string)
theorem r_build2 {P : Program} {E : Env} {w : World} {dst : Option Tmp} {t ty : TypeId} {pos : String} {aft : Array Edge} {gd : Option (Nat × Bool)} {x y : Operand} {a b : Int} {f0 f1 : Field} (hx : ev E x = .int .i64 a) (hy : ev E y = .int .i64 b)
    (ht : P.underlying t = some (.struct #[f0, f1])) (hz : (P.info? t).bind (·.zero) = some (.agg #[.int .i64 0, .int .i64 0])) (h0 : f0.offset = 0) (h1 : f1.offset = 1) (s0 : (P.info? f0.type).map (·.size) = some 1) (s1 : (P.info? f1.type).map (·.size) = some 1) :
    Gives P E w ⟨dst, .build t #[(0, x), (1, y)], ty, pos, aft, gd⟩ (.agg (([a, b] : List Int).map (Value.int .i64)).toArray) w := by
  obtain ⟨i, hi, hz'⟩ := Option.bind_eq_some_iff.1 hz
  obtain ⟨i0, k0, l0⟩ := Option.map_eq_some_iff.1 s0
  obtain ⟨i1, k1, l1⟩ := Option.map_eq_some_iff.1 s1
  simp [Gives, execOp, Instr.build, zeroValue, typeInfo, hi, hz', run_underlying ht, sizeOf, k0, l0, k1, l1, h0, h1, hx, hy, Instr.fill, Value.cells]
set_option maxRecDepth 100000 in
set_option maxHeartbeats 4000000 in
theorem TallyOrder_c (a : Int) (b : Int) (c : Int) (d : Int) (w : World) (ra : -9223372036854775808 ≤ a ∧ a ≤ 9223372036854775807) (rb : -9223372036854775808 ≤ b ∧ b ≤ 9223372036854775807) (rc : -9223372036854775808 ≤ c ∧ c ≤ 9223372036854775807) (rd : -9223372036854775808 ≤ d ∧ d ≤ 9223372036854775807) : Ret Try.prog 5 [.agg (([a, b] : List Int).map (Value.int .i64)).toArray, .agg (([c, d] : List Int).map (Value.int .i64)).toArray] w fun v w' => v = .bool true ∧ Below w.heap.size w w' := by
  refine ret_E Try.func5 rfl Try.ntmps5 (by simp) ?_
  refine EC_seq ?_
  refine EC_reg ?_
  refine EL_box (([a, b] : List Int).map (Value.int .i64)) rfl rfl rfl ?_
  intro b11 w12 k13 A14 B15 z16
  have B17 : Below w.heap.size w w12 := B15
  have A14' : Arr w12 b11 23 (([a, b] : List Int).map (Value.int .i64)) := A14
  refine EL_box (([c, d] : List Int).map (Value.int .i64)) rfl rfl rfl ?_
  intro b18 w19 k20 A21 B22 z23
  have ne24 : b11 < b18 := by have := (A14').lt; omega
  have B25 : Below w.heap.size w w19 := below_full B17 B17.size B22
  have B26 : Below w12.heap.size w12 w19 := B22
  have A21' : Arr w19 b18 23 (([c, d] : List Int).map (Value.int .i64)) := A21
  refine EL_val (.bool false) w19 rfl (r_assign rfl) ?_
  refine EL_nil ?_
  refine thn_n ?_
  refine EC_seq ?_
  refine EC_seq ?_
  refine EC_reg ?_
  refine EL_ret [] rfl Try.func9 rfl nm9 rfl (anchor_c w19) ?_
  rintro _ _ ⟨rfl, rfl⟩
  refine EL_val (.bool false) w19 rfl (r_dec (show (!true) = false from rfl) (r_not rfl)) ?_
  refine EL_nil ?_
  refine thn_n ?_
  refine EC_cond_false rfl ?_
  refine EC_skip ?_
  refine thn_n ?_
  refine EC_seq ?_
  refine EC_seq ?_
  refine EC_reg ?_
  refine EL_val (.agg (([a, b] : List Int).map (Value.int .i64)).toArray) w19 rfl (r_loadAll rfl (A14'.below B26) Try.underlying23 rfl (Eq.trans (show _ = some 2 from by kernel_rfl) (congrArg some (by first | (simp; done) | (simp; omega) | rfl)))) ?_
  refine EL_ret [.agg (([a, b] : List Int).map (Value.int .i64)).toArray] rfl Try.func11 rfl nm11 rfl (right_c a b w19 (by omega) (by omega)) ?_
  rintro _ w27 ⟨rfl, B28⟩
  have B29 : Below w.heap.size w w27 := below_full B25 B25.size B28
  have B30 : Below w12.heap.size w12 w27 := below_full B26 B26.size B28
  have B31 : Below w19.heap.size w19 w27 := B28
  refine EL_val (.bool (!(decide ((0 : Int) ≤ a ∧ a ≤ 1099511627776 ∧ (0 : Int) ≤ b ∧ b ≤ 1099511627776)))) w27 rfl (r_not rfl) ?_
  refine EL_val (.bool (!(decide ((0 : Int) ≤ a ∧ a ≤ 1099511627776 ∧ (0 : Int) ≤ b ∧ b ≤ 1099511627776)))) w27 rfl (r_move rfl) ?_
  refine EL_gite 14 rfl rfl rfl (.agg (([c, d] : List Int).map (Value.int .i64)).toArray) rfl (fun g32 => r_loadAll rfl (A21'.below B31) Try.underlying23 rfl (Eq.trans (show _ = some 2 from by kernel_rfl) (congrArg some (by first | (simp; done) | (simp; omega) | rfl)))) ?_
  rcases Bool.eq_false_or_eq_true (!(decide ((0 : Int) ≤ a ∧ a ≤ 1099511627776 ∧ (0 : Int) ≤ b ∧ b ≤ 1099511627776))) with q33 | q33
  · have q33' : ¬ ((0 : Int) ≤ a ∧ a ≤ 1099511627776 ∧ (0 : Int) ≤ b ∧ b ≤ 1099511627776) := of_decide_eq_false ((Bool.not_eq_true' _).mp q33)
    refine EL_pass 14 rfl (by exact congrArg Value.bool q33) rfl rfl rfl ?_
    refine EL_pass 14 rfl (by exact congrArg Value.bool q33) rfl rfl rfl ?_
    refine EL_val (.bool true) w27 rfl (r_pickT (by exact congrArg Value.bool q33) rfl) ?_
    refine EL_nil ?_
    refine thn_n ?_
    refine EC_cond_true rfl ?_
    refine EC_seq ?_
    refine EC_reg ?_
    refine EL_val (.bool true) w27 rfl (r_assign rfl) ?_
    refine EL_nil ?_
    refine thn_n ?_
    refine EC_ret ?_
    refine thn_r ?_
    refine fin1 Try.results5 (show _ = .bool true from rfl) ⟨_, rfl, ?_⟩
    exact ⟨rfl, B29⟩
  · have q33' : (0 : Int) ≤ a ∧ a ≤ 1099511627776 ∧ (0 : Int) ≤ b ∧ b ≤ 1099511627776 := of_decide_eq_true ((Bool.not_eq_false' _).mp q33)
    refine EL_gret 14 rfl (by exact congrArg Value.bool q33) rfl rfl [.agg (([c, d] : List Int).map (Value.int .i64)).toArray] rfl Try.func11 rfl nm11 (by exact args1 (by exact cond_of (show ((!(decide ((0 : Int) ≤ a ∧ a ≤ 1099511627776 ∧ (0 : Int) ≤ b ∧ b ≤ 1099511627776))) == false) = true from by rw [q33]; rfl) rfl)) (right_c c d w27 (by omega) (by omega)) ?_
    rintro _ w34 ⟨rfl, B35⟩
    have B36 : Below w.heap.size w w34 := below_full B29 B29.size B35
    have B37 : Below w12.heap.size w12 w34 := below_full B30 B30.size B35
    have B38 : Below w19.heap.size w19 w34 := below_full B31 B31.size B35
    have B39 : Below w27.heap.size w27 w34 := B35
    refine EL_gval 14 rfl (by exact congrArg Value.bool q33) rfl rfl (.bool (!(decide ((0 : Int) ≤ c ∧ c ≤ 1099511627776 ∧ (0 : Int) ≤ d ∧ d ≤ 1099511627776)))) w34 rfl (r_not rfl) ?_
    refine EL_val (.bool (!(decide ((0 : Int) ≤ c ∧ c ≤ 1099511627776 ∧ (0 : Int) ≤ d ∧ d ≤ 1099511627776)))) w34 rfl (r_pickF (by exact congrArg Value.bool q33) rfl) ?_
    refine EL_nil ?_
    refine thn_n ?_
    refine EC_cond (t := !(decide ((0 : Int) ≤ c ∧ c ≤ 1099511627776 ∧ (0 : Int) ≤ d ∧ d ≤ 1099511627776))) rfl (fun h40 => ?_) (fun h40 => ?_)
    · refine EC_seq ?_
      refine EC_reg ?_
      refine EL_val (.bool true) w34 rfl (r_assign rfl) ?_
      refine EL_nil ?_
      refine thn_n ?_
      refine EC_ret ?_
      refine thn_r ?_
      refine fin1 Try.results5 (show _ = .bool true from rfl) ⟨_, rfl, ?_⟩
      exact ⟨rfl, B36⟩
    · have hr2 : (0 : Int) ≤ c ∧ c ≤ 1099511627776 ∧ (0 : Int) ≤ d ∧ d ≤ 1099511627776 := of_decide_eq_true ((Bool.not_eq_false' _).mp h40)
      refine EC_skip ?_
      refine thn_n ?_
      refine EC_cut (fun E' w' => E' 5 = .complex .f64 (fw a) (fw b) ∧ E' 6 = .complex .f64 (fw c) (fw d) ∧ E' 2 = ptr b11 ∧ E' 3 = ptr b18 ∧ E' 4 = .bool false ∧ Below w.heap.size w w' ∧ Below w12.heap.size w12 w' ∧ Below w19.heap.size w19 w' ∧ Below w27.heap.size w27 w') ?_ ?_
      · refine EC_held (fun w' => Below w34.heap.size w34 w') (by kernel_rfl) ?_
        intro w41 B42 z43
        have B44 : Below w.heap.size w w41 := below_full B36 B36.size B42
        have B45 : Below w12.heap.size w12 w41 := below_full B37 B37.size B42
        have B46 : Below w19.heap.size w19 w41 := below_full B38 B38.size B42
        have B47 : Below w27.heap.size w27 w41 := below_full B39 B39.size B42
        have B48 : Below w34.heap.size w34 w41 := B42
        refine EA_strong (fun w' => Below w41.heap.size w41 w') (fun _ hw => below_full B48 B48.size hw) ?_
        refine EA_take 0 rfl (by kernel_rfl) (by kernel_rfl) (by kernel_rfl) (.agg (([a, b] : List Int).map (Value.int .i64)).toArray) rfl (fun _ hw => r_loadAll rfl ((A14'.below B45).below hw) Try.underlying23 rfl (Eq.trans (show _ = some 2 from by kernel_rfl) (congrArg some (by first | (simp; done) | (simp; omega) | rfl)))) (Below.refl _ _) ?_
        refine EA_take 2 rfl (by kernel_rfl) (by kernel_rfl) (by kernel_rfl) (.agg (([c, d] : List Int).map (Value.int .i64)).toArray) rfl (fun _ hw => r_loadAll rfl ((A21'.below B46).below hw) Try.underlying23 rfl (Eq.trans (show _ = some 2 from by kernel_rfl) (congrArg some (by first | (simp; done) | (simp; omega) | rfl)))) (Below.refl _ _) ?_
        refine EA_call 1 rfl (by kernel_rfl) [.agg (([a, b] : List Int).map (Value.int .i64)).toArray] (.inl rfl) rfl Try.func13 rfl nm13 rfl (number_c a b w41 (by omega) (by omega)) ?_
        rintro _ w49 ⟨rfl, B50⟩
        have B51 : Below w.heap.size w w49 := below_full B44 B44.size B50
        have B52 : Below w12.heap.size w12 w49 := below_full B45 B45.size B50
        have B53 : Below w19.heap.size w19 w49 := below_full B46 B46.size B50
        have B54 : Below w27.heap.size w27 w49 := below_full B47 B47.size B50
        have B55 : Below w34.heap.size w34 w49 := below_full B48 B48.size B50
        have B56 : Below w41.heap.size w41 w49 := B50
        refine ⟨B56, ?_⟩
        refine EA_strong (fun w' => Below w49.heap.size w49 w') (fun _ hw => below_full B56 B56.size hw) ?_
        refine EA_call 3 rfl (by kernel_rfl) [.agg (([c, d] : List Int).map (Value.int .i64)).toArray] (.inl rfl) rfl Try.func13 rfl nm13 rfl (number_c c d w49 (by omega) (by omega)) ?_
        rintro _ w57 ⟨rfl, B58⟩
        have B59 : Below w.heap.size w w57 := below_full B51 B51.size B58
        have B60 : Below w12.heap.size w12 w57 := below_full B52 B52.size B58
        have B61 : Below w19.heap.size w19 w57 := below_full B53 B53.size B58
        have B62 : Below w27.heap.size w27 w57 := below_full B54 B54.size B58
        have B63 : Below w34.heap.size w34 w57 := below_full B55 B55.size B58
        have B64 : Below w41.heap.size w41 w57 := below_full B56 B56.size B58
        have B65 : Below w49.heap.size w49 w57 := B58
        refine ⟨B65, ?_⟩
        refine EA_strong (fun w' => Below w57.heap.size w57 w') (fun _ hw => below_full B65 B65.size hw) ?_
        refine EA_take 4 rfl (by kernel_rfl) (by kernel_rfl) (by kernel_rfl) (.complex .f64 (fw a) (fw b)) rfl (fun _ hw => r_assign rfl) (Below.refl _ _) ?_
        refine EA_take 5 rfl (by kernel_rfl) (by kernel_rfl) (by kernel_rfl) (.complex .f64 (fw c) (fw d)) rfl (fun _ hw => r_assign rfl) (Below.refl _ _) ?_
        refine EA_done (by kernel_rfl) ?_
        refine thn_n ?_
        exact ⟨rfl, rfl, rfl, rfl, rfl, B59, B60, B61, B62⟩
      · rintro E66 w67 ⟨e68, e69, e70, e71, e72, B73, B74, B75, B76⟩
        refine EC_seq ?_
        refine EC_reg ?_
        refine EL_val (ptr b11 0) w67 rfl (r_fieldA (by exact e70) Try.underlying23 rfl (fun _ => rfl)) ?_
        refine EL_val (.int .i64 a) w67 rfl (r_loadA rfl (A14'.below B74) (u := .int .i64 a) rfl Try.underlying3 rfl) ?_
        refine EL_val (ptr b18 0) w67 rfl (r_fieldA (by exact e71) Try.underlying23 rfl (fun _ => rfl)) ?_
        refine EL_val (.int .i64 c) w67 rfl (r_loadA rfl (A21'.below B75) (u := .int .i64 c) rfl Try.underlying3 rfl) ?_
        refine EL_val (.bool (decide (a ≤ c))) w67 rfl (r_leq rfl rfl) ?_
        refine EL_val (.bool (decide (a ≤ c))) w67 rfl (r_move rfl) ?_
        refine EL_gite 28 rfl rfl rfl (ptr b11 1) rfl (fun g77 => r_fieldA (by exact e70) Try.underlying23 rfl (fun _ => rfl)) ?_
        refine EL_gite 28 rfl rfl rfl (.int .i64 b) rfl (fun g78 => r_loadA (cond_of g78 rfl) (A14'.below B74) (u := .int .i64 b) rfl Try.underlying3 rfl) ?_
        refine EL_gite 28 rfl rfl rfl (ptr b18 1) rfl (fun g79 => r_fieldA (by exact e71) Try.underlying23 rfl (fun _ => rfl)) ?_
        refine EL_gite 28 rfl rfl rfl (.int .i64 d) rfl (fun g80 => r_loadA (cond_of g80 rfl) (A21'.below B75) (u := .int .i64 d) rfl Try.underlying3 rfl) ?_
        refine EL_gite 28 rfl rfl rfl (.bool (decide (b ≤ d))) rfl (fun g81 => r_leq (cond_of g81 rfl) (cond_of g81 rfl)) ?_
        refine EL_val (.bool ((decide (a ≤ c)) && (decide (b ≤ d)))) w67 rfl (r_and rfl rfl rfl) ?_
        refine EL_val (.bool ((decide (a ≤ c)) && (decide (b ≤ d)))) w67 rfl (r_assign rfl) ?_
        refine EL_nil ?_
        refine thn_n ?_
        refine EC_seq ?_
        refine EC_reg ?_
        refine EL_val (ptr b11 0) w67 rfl (r_fieldA (by exact e70) Try.underlying23 rfl (fun _ => rfl)) ?_
        refine EL_val (.int .i64 a) w67 rfl (r_loadA rfl (A14'.below B74) (u := .int .i64 a) rfl Try.underlying3 rfl) ?_
        refine EL_val (ptr b18 0) w67 rfl (r_fieldA (by exact e71) Try.underlying23 rfl (fun _ => rfl)) ?_
        refine EL_val (.int .i64 c) w67 rfl (r_loadA rfl (A21'.below B75) (u := .int .i64 c) rfl Try.underlying3 rfl) ?_
        refine EL_int (if c < a then c else a) rfl (r_min rfl rfl) ?_
        intro x82 hx82
        refine EL_val (ptr b11 1) w67 rfl (r_fieldA (by exact e70) Try.underlying23 rfl (fun _ => rfl)) ?_
        refine EL_val (.int .i64 b) w67 rfl (r_loadA rfl (A14'.below B74) (u := .int .i64 b) rfl Try.underlying3 rfl) ?_
        refine EL_val (ptr b18 1) w67 rfl (r_fieldA (by exact e71) Try.underlying23 rfl (fun _ => rfl)) ?_
        refine EL_val (.int .i64 d) w67 rfl (r_loadA rfl (A21'.below B75) (u := .int .i64 d) rfl Try.underlying3 rfl) ?_
        refine EL_int (if d < b then d else b) rfl (r_min rfl rfl) ?_
        intro x83 hx83
        refine EL_val (.agg (([x82, x83] : List Int).map (Value.int .i64)).toArray) w67 rfl (r_build2 rfl rfl Try.underlying23 (by kernel_rfl) rfl rfl (by kernel_rfl) (by kernel_rfl)) ?_
        refine EL_ret [.agg (([x82, x83] : List Int).map (Value.int .i64)).toArray] rfl Try.func13 rfl nm13 rfl (number_c x82 x83 w67 (by omega) (by omega)) ?_
        rintro _ w84 ⟨rfl, B85⟩
        have B86 : Below w.heap.size w w84 := below_full B73 B73.size B85
        have B87 : Below w12.heap.size w12 w84 := below_full B74 B74.size B85
        have B88 : Below w19.heap.size w19 w84 := below_full B75 B75.size B85
        have B89 : Below w27.heap.size w27 w84 := below_full B76 B76.size B85
        have B90 : Below w67.heap.size w67 w84 := B85
        refine EL_val (.complex .f64 (fw x82) (fw x83)) w84 rfl (r_assign rfl) ?_
        refine EL_nil ?_
        refine thn_n ?_
        refine EC_seq ?_
        refine EC_reg ?_
        refine EL_val (.complex .f64 (fw a) (fw b)) w84 rfl (r_move (by exact e68)) ?_
        refine EL_val (.complex .f64 (fw c) (fw d)) w84 rfl (r_move (by exact e69)) ?_
        refine EL_ret [.complex .f64 (fw a) (fw b), .complex .f64 (fw c) (fw d)] rfl Try.func15 rfl nm15 rfl (Within_c (fw a) a (fw b) b (fw c) c (fw d) d w84 (fw_is (n := a) (by omega)) (fw_is (n := b) (by omega)) (by omega) (by omega) (fw_is (n := c) (by omega)) (fw_is (n := d) (by omega)) (by omega) (by omega)) ?_
        rintro _ _ ⟨rfl, rfl⟩
        refine EL_val (.bool ((decide (a ≤ c)) && (decide (b ≤ d)))) w84 rfl (r_move rfl) ?_
        refine EL_val (.bool true) w84 rfl (r_dec (show ((decide (((0 : Int) ≤ a ∧ a ≤ 1099511627776 ∧ (0 : Int) ≤ b ∧ b ≤ 1099511627776) ∧ ((0 : Int) ≤ c ∧ c ≤ 1099511627776 ∧ (0 : Int) ≤ d ∧ d ≤ 1099511627776) ∧ a ≤ c ∧ b ≤ d)) == ((decide (a ≤ c)) && (decide (b ≤ d)))) = true from by first | (simp; done) | (simp; omega) | (apply decide_eq_true; omega) | (rw [beq_iff_eq, ← Bool.decide_and]; apply decide_eq_decide.2; omega)) (r_eqlb rfl rfl Try.underlying4)) ?_
        refine EL_val (.bool true) w84 rfl (r_move rfl) ?_
        refine EL_gval 52 rfl rfl rfl rfl (.complex .f64 (fw a) (fw b)) w84 rfl (r_move (by exact e68)) ?_
        refine EL_gret 52 rfl rfl rfl rfl [.complex .f64 (fw a) (fw b)] rfl Try.func16 rfl nm16 rfl (Mirror_ok (fw a) a (fw b) b w84 (fw_is (n := a) (by omega)) (fw_is (n := b) (by omega)) (by omega) (by omega) (by omega)) ?_
        rintro _ _ ⟨rfl, rfl⟩
        refine EL_gval 52 rfl rfl rfl rfl (.complex .f64 (fw c) (fw d)) w84 rfl (r_move (by exact e69)) ?_
        refine EL_gret 52 rfl rfl rfl rfl [.complex .f64 (fw c) (fw d)] rfl Try.func16 rfl nm16 rfl (Mirror_ok (fw c) c (fw d) d w84 (fw_is (n := c) (by omega)) (fw_is (n := d) (by omega)) (by omega) (by omega) (by omega)) ?_
        rintro _ _ ⟨rfl, rfl⟩
        refine EL_gret 52 rfl rfl rfl rfl [.complex .f64 (fw b) (fw a), .complex .f64 (fw d) (fw c)] rfl Try.func15 rfl nm15 rfl (Within_c (fw b) b (fw a) a (fw d) d (fw c) c w84 (fw_is (n := b) (by omega)) (fw_is (n := a) (by omega)) (by omega) (by omega) (fw_is (n := d) (by omega)) (fw_is (n := c) (by omega)) (by omega) (by omega)) ?_
        rintro _ _ ⟨rfl, rfl⟩
        refine EL_gval 52 rfl rfl rfl rfl (.bool ((decide (a ≤ c)) && (decide (b ≤ d)))) w84 rfl (r_move rfl) ?_
        refine EL_gval 52 rfl rfl rfl rfl (.bool true) w84 rfl (r_dec (show ((decide (((0 : Int) ≤ b ∧ b ≤ 1099511627776 ∧ (0 : Int) ≤ a ∧ a ≤ 1099511627776) ∧ ((0 : Int) ≤ d ∧ d ≤ 1099511627776 ∧ (0 : Int) ≤ c ∧ c ≤ 1099511627776) ∧ b ≤ d ∧ a ≤ c)) == ((decide (a ≤ c)) && (decide (b ≤ d)))) = true from by first | (simp; done) | (simp; omega) | (apply decide_eq_true; omega) | (rw [beq_iff_eq, ← Bool.decide_and]; apply decide_eq_decide.2; omega)) (r_eqlb rfl rfl Try.underlying4)) ?_
        refine EL_val (.bool true) w84 rfl (r_pickT rfl rfl) ?_
        refine EL_val (.bool true) w84 rfl (r_move rfl) ?_
        refine EL_gval 61 rfl rfl rfl rfl (.complex .f64 (fw x82) (fw x83)) w84 rfl (r_move rfl) ?_
        refine EL_gval 61 rfl rfl rfl rfl (.complex .f64 (fw a) (fw b)) w84 rfl (r_move (by exact e68)) ?_
        refine EL_gret 61 rfl rfl rfl rfl [.complex .f64 (fw x82) (fw x83), .complex .f64 (fw a) (fw b)] rfl Try.func15 rfl nm15 rfl (Within_c (fw x82) x82 (fw x83) x83 (fw a) a (fw b) b w84 (fw_is (n := x82) (by omega)) (fw_is (n := x83) (by omega)) (by omega) (by omega) (fw_is (n := a) (by omega)) (fw_is (n := b) (by omega)) (by omega) (by omega)) ?_
        rintro _ _ ⟨rfl, rfl⟩
        refine EL_val (.bool (decide (((0 : Int) ≤ x82 ∧ x82 ≤ 1099511627776 ∧ (0 : Int) ≤ x83 ∧ x83 ≤ 1099511627776) ∧ ((0 : Int) ≤ a ∧ a ≤ 1099511627776 ∧ (0 : Int) ≤ b ∧ b ≤ 1099511627776) ∧ x82 ≤ a ∧ x83 ≤ b))) w84 rfl (r_pickT rfl rfl) ?_
        refine EL_val (.bool (decide (((0 : Int) ≤ x82 ∧ x82 ≤ 1099511627776 ∧ (0 : Int) ≤ x83 ∧ x83 ≤ 1099511627776) ∧ ((0 : Int) ≤ a ∧ a ≤ 1099511627776 ∧ (0 : Int) ≤ b ∧ b ≤ 1099511627776) ∧ x82 ≤ a ∧ x83 ≤ b))) w84 rfl (r_move rfl) ?_
        refine EL_gite 66 rfl rfl rfl (.complex .f64 (fw x82) (fw x83)) rfl (fun g91 => r_move rfl) ?_
        refine EL_gite 66 rfl rfl rfl (.complex .f64 (fw c) (fw d)) rfl (fun g92 => r_move (by exact e69)) ?_
        rcases Bool.eq_false_or_eq_true (decide (((0 : Int) ≤ x82 ∧ x82 ≤ 1099511627776 ∧ (0 : Int) ≤ x83 ∧ x83 ≤ 1099511627776) ∧ ((0 : Int) ≤ a ∧ a ≤ 1099511627776 ∧ (0 : Int) ≤ b ∧ b ≤ 1099511627776) ∧ x82 ≤ a ∧ x83 ≤ b)) with q93 | q93
        · have q93' : ((0 : Int) ≤ x82 ∧ x82 ≤ 1099511627776 ∧ (0 : Int) ≤ x83 ∧ x83 ≤ 1099511627776) ∧ ((0 : Int) ≤ a ∧ a ≤ 1099511627776 ∧ (0 : Int) ≤ b ∧ b ≤ 1099511627776) ∧ x82 ≤ a ∧ x83 ≤ b := of_decide_eq_true q93
          refine EL_gret 66 rfl (by exact congrArg Value.bool q93) rfl rfl [.complex .f64 (fw x82) (fw x83), .complex .f64 (fw c) (fw d)] rfl Try.func15 rfl nm15 (by exact args2 (by exact cond_of (show ((decide (((0 : Int) ≤ x82 ∧ x82 ≤ 1099511627776 ∧ (0 : Int) ≤ x83 ∧ x83 ≤ 1099511627776) ∧ ((0 : Int) ≤ a ∧ a ≤ 1099511627776 ∧ (0 : Int) ≤ b ∧ b ≤ 1099511627776) ∧ x82 ≤ a ∧ x83 ≤ b)) == true) = true from by rw [q93]; rfl) rfl) (by exact cond_of (show ((decide (((0 : Int) ≤ x82 ∧ x82 ≤ 1099511627776 ∧ (0 : Int) ≤ x83 ∧ x83 ≤ 1099511627776) ∧ ((0 : Int) ≤ a ∧ a ≤ 1099511627776 ∧ (0 : Int) ≤ b ∧ b ≤ 1099511627776) ∧ x82 ≤ a ∧ x83 ≤ b)) == true) = true from by rw [q93]; rfl) rfl)) (Within_c (fw x82) x82 (fw x83) x83 (fw c) c (fw d) d w84 (fw_is (n := x82) (by omega)) (fw_is (n := x83) (by omega)) (by omega) (by omega) (fw_is (n := c) (by omega)) (fw_is (n := d) (by omega)) (by omega) (by omega)) ?_
          rintro _ _ ⟨rfl, rfl⟩
          refine EL_val (.bool (decide (((0 : Int) ≤ x82 ∧ x82 ≤ 1099511627776 ∧ (0 : Int) ≤ x83 ∧ x83 ≤ 1099511627776) ∧ ((0 : Int) ≤ c ∧ c ≤ 1099511627776 ∧ (0 : Int) ≤ d ∧ d ≤ 1099511627776) ∧ x82 ≤ c ∧ x83 ≤ d))) w84 rfl (r_pickT (by exact congrArg Value.bool q93) rfl) ?_
          refine EL_val (.bool (decide (((0 : Int) ≤ x82 ∧ x82 ≤ 1099511627776 ∧ (0 : Int) ≤ x83 ∧ x83 ≤ 1099511627776) ∧ ((0 : Int) ≤ c ∧ c ≤ 1099511627776 ∧ (0 : Int) ≤ d ∧ d ≤ 1099511627776) ∧ x82 ≤ c ∧ x83 ≤ d))) w84 rfl (r_move rfl) ?_
          refine EL_gite 71 rfl rfl rfl (.complex .f64 (fw a) (fw b)) rfl (fun g94 => r_move (by exact e68)) ?_
          rcases Bool.eq_false_or_eq_true (decide (((0 : Int) ≤ x82 ∧ x82 ≤ 1099511627776 ∧ (0 : Int) ≤ x83 ∧ x83 ≤ 1099511627776) ∧ ((0 : Int) ≤ c ∧ c ≤ 1099511627776 ∧ (0 : Int) ≤ d ∧ d ≤ 1099511627776) ∧ x82 ≤ c ∧ x83 ≤ d)) with q95 | q95
          · have q95' : ((0 : Int) ≤ x82 ∧ x82 ≤ 1099511627776 ∧ (0 : Int) ≤ x83 ∧ x83 ≤ 1099511627776) ∧ ((0 : Int) ≤ c ∧ c ≤ 1099511627776 ∧ (0 : Int) ≤ d ∧ d ≤ 1099511627776) ∧ x82 ≤ c ∧ x83 ≤ d := of_decide_eq_true q95
            refine EL_gret 71 rfl (by exact congrArg Value.bool q95) rfl rfl [.complex .f64 (fw a) (fw b)] rfl Try.func16 rfl nm16 (by exact args1 (by exact cond_of (show ((decide (((0 : Int) ≤ x82 ∧ x82 ≤ 1099511627776 ∧ (0 : Int) ≤ x83 ∧ x83 ≤ 1099511627776) ∧ ((0 : Int) ≤ c ∧ c ≤ 1099511627776 ∧ (0 : Int) ≤ d ∧ d ≤ 1099511627776) ∧ x82 ≤ c ∧ x83 ≤ d)) == true) = true from by rw [q95]; rfl) rfl)) (Mirror_ok (fw a) a (fw b) b w84 (fw_is (n := a) (by omega)) (fw_is (n := b) (by omega)) (by omega) (by omega) (by omega)) ?_
            rintro _ _ ⟨rfl, rfl⟩
            refine EL_gret 71 rfl (by exact congrArg Value.bool q95) rfl rfl [.complex .f64 (fw b) (fw a)] rfl Try.func16 rfl nm16 rfl (Mirror_ok (fw b) b (fw a) a w84 (fw_is (n := b) (by omega)) (fw_is (n := a) (by omega)) (by omega) (by omega) (by omega)) ?_
            rintro _ _ ⟨rfl, rfl⟩
            refine EL_gval 71 rfl (by exact congrArg Value.bool q95) rfl rfl (.complex .f64 (fw a) (fw b)) w84 rfl (r_move (by exact e68)) ?_
            refine EL_gval 71 rfl (by exact congrArg Value.bool q95) rfl rfl (.bool true) w84 rfl (r_dec (show (decide (a = a) && decide (b = b)) = true from by first | (simp; done) | (simp; omega) | (apply decide_eq_true; omega) | (rw [beq_iff_eq, ← Bool.decide_and]; apply decide_eq_decide.2; omega)) (r_ceql rfl rfl (fw_is (n := a) (by omega)) (fw_is (n := b) (by omega)) (fw_is (n := a) (by omega)) (fw_is (n := b) (by omega)))) ?_
            refine EL_val (.bool true) w84 rfl (r_pickT (by exact congrArg Value.bool q95) rfl) ?_
            refine EL_val (.bool true) w84 rfl (r_assign rfl) ?_
            refine EL_nil ?_
            refine thn_n ?_
            refine EC_ret ?_
            refine fin1 Try.results5 (show _ = .bool true from rfl) ⟨_, rfl, ?_⟩
            exact ⟨rfl, B86⟩
          · have q95' : ¬ (((0 : Int) ≤ x82 ∧ x82 ≤ 1099511627776 ∧ (0 : Int) ≤ x83 ∧ x83 ≤ 1099511627776) ∧ ((0 : Int) ≤ c ∧ c ≤ 1099511627776 ∧ (0 : Int) ≤ d ∧ d ≤ 1099511627776) ∧ x82 ≤ c ∧ x83 ≤ d) := of_decide_eq_false q95
            refine EL_pass 71 rfl (by exact congrArg Value.bool q95) rfl rfl rfl ?_
            refine EL_pass 71 rfl (by exact congrArg Value.bool q95) rfl rfl rfl ?_
            refine EL_pass 71 rfl (by exact congrArg Value.bool q95) rfl rfl rfl ?_
            refine EL_pass 71 rfl (by exact congrArg Value.bool q95) rfl rfl rfl ?_
            refine EL_val (.bool false) w84 rfl (r_pickF (by exact congrArg Value.bool q95) rfl) ?_
            refine EL_val (.bool false) w84 rfl (r_assign rfl) ?_
            refine EL_nil ?_
            refine thn_n ?_
            refine EC_ret ?_
            refine fin1 Try.results5 (show _ = .bool false from rfl) ⟨_, rfl, ?_⟩
            exfalso; omega
        · have q93' : ¬ (((0 : Int) ≤ x82 ∧ x82 ≤ 1099511627776 ∧ (0 : Int) ≤ x83 ∧ x83 ≤ 1099511627776) ∧ ((0 : Int) ≤ a ∧ a ≤ 1099511627776 ∧ (0 : Int) ≤ b ∧ b ≤ 1099511627776) ∧ x82 ≤ a ∧ x83 ≤ b) := of_decide_eq_false q93
          refine EL_pass 66 rfl (by exact congrArg Value.bool q93) rfl rfl rfl ?_
          refine EL_val (.bool false) w84 rfl (r_pickF (by exact congrArg Value.bool q93) rfl) ?_
          refine EL_val (.bool false) w84 rfl (r_move rfl) ?_
          refine EL_pass 71 rfl rfl rfl rfl rfl ?_
          refine EL_pass 71 rfl rfl rfl rfl rfl ?_
          refine EL_pass 71 rfl rfl rfl rfl rfl ?_
          refine EL_pass 71 rfl rfl rfl rfl rfl ?_
          refine EL_pass 71 rfl rfl rfl rfl rfl ?_
          refine EL_val (.bool false) w84 rfl (r_pickF rfl rfl) ?_
          refine EL_val (.bool false) w84 rfl (r_assign rfl) ?_
          refine EL_nil ?_
          refine thn_n ?_
          refine EC_ret ?_
          refine fin1 Try.results5 (show _ = .bool false from rfl) ⟨_, rfl, ?_⟩
          exfalso; omega
theorem own : ownKnob Try.prog.godebug = none := by kernel_rfl
theorem laidOut : laidOutB Try.prog = true := by kernel_rfl
set_option maxRecDepth 100000 in
theorem lifted (os : Os) (started : os.Started) (H : Type) (enc : TypeId × Value → H) :
    ReturnsInHanded {} Try.checked os 5 .any (Rows.tallyOrderSpec.pre6 enc Try.prog Try.f5 Rows.tallyOrderRow.domain false) (Rows.tallyOrderSpec.post enc Try.prog Try.f5 false true false false) := by
  refine returnsInHanded_of_change (C := Try.checked) own started (by kernel_rfl) Try.func5
    (ChangeSpec.witness6 (enc := enc) (C := Try.checked) false ⟨#[], #[.agg #[.int .i64 0, .int .i64 0], .agg #[.int .i64 0, .int .i64 0]], []⟩ 8 (by kernel_rfl) (by kernel_rfl) (by kernel_rfl) (by kernel_rfl)) ?_
  intro W base args ds gs before hval0 hW hcnd _
  have hval : ∀ (j : Nat) t v, Try.f5.params[j]? = some t → args[j]? = some v → Value.okWide Try.prog W .any base t v := hval0
  have hW' := hW
  obtain ⟨p, q, hA0, hV, rfl, hfz, hnd⟩ := hW
  have hA : DataW.TrodAll enc Try.prog W 0 (fun _ => true) true Try.f5.params.toList args.toList ds p := hA0
  rw [Try.params5] at hA hval
  obtain ⟨v0, vs0, d0, ds0, p0, q0, hargs, rfl, rfl, h0, r0⟩ := trodAll_cons hA
  obtain ⟨v1, vs1, d1, ds1, p1, q1, rfl, rfl, rfl, h1, r1⟩ := trodAll_cons r0
  obtain ⟨rfl, rfl, rfl⟩ := trodAll_nil r1
  obtain rfl : args = #[v0, v1] := by cases args; simp_all
  obtain ⟨rfl, rfl⟩ := trodVars_none hV
  have k0 := h0
  have lt0 : ∀ x ∈ p0, x.block < W.heap.size := by obtain ⟨m, hm⟩ := k0; exact DataW.trod_lt m _ _ _ hm
  obtain ⟨c0, e0, y0, z0, m0, rfl, rfl, rfl, hy0, hz0⟩ := Go.Joins.open_agg2 Try.underlying23 (by kernel_rfl) (by kernel_rfl) (hval 0 23 v0 rfl rfl) h0
  obtain ⟨a0, ea0, rfl, wa0⟩ := DataW.trod_int Try.underlying3 hy0
  obtain ⟨b0, eb0, rfl, wb0⟩ := DataW.trod_int Try.underlying3 hz0
  simp at ea0 eb0
  subst ea0 eb0
  have k1 := h1
  have lt1 : ∀ x ∈ p1, x.block < W.heap.size := by obtain ⟨m, hm⟩ := k1; exact DataW.trod_lt m _ _ _ hm
  obtain ⟨c1, e1, y1, z1, m1, rfl, rfl, rfl, hy1, hz1⟩ := Go.Joins.open_agg2 Try.underlying23 (by kernel_rfl) (by kernel_rfl) (hval 1 23 v1 rfl rfl) h1
  obtain ⟨a1, ea1, rfl, wa1⟩ := DataW.trod_int Try.underlying3 hy1
  obtain ⟨b1, eb1, rfl, wb1⟩ := DataW.trod_int Try.underlying3 hz1
  simp at ea1 eb1
  subst ea1 eb1
  clear hA0 hval0
  refine Calls.mono (TallyOrder_c a0 b0 a1 b1 W (rng_i64 wa0) (rng_i64 wb0) (rng_i64 wa1) (rng_i64 wb1)) fun e W' ⟨v', he, hv, bel⟩ => ?_
  subst he
  subst hv
  exact ⟨_, rfl, _, _, _, [], _, [], hW', trodAll_mk1 (shut_bool Try.underlying4 _), (trodAll_cons_mk (Below.trod laidOut (by kernel_rfl) (of_decide_eq_true (by kernel_rfl)) k0 bel lt0) (trodAll_cons_mk (Below.trod laidOut (by kernel_rfl) (of_decide_eq_true (by kernel_rfl)) k1 bel lt1) trodAll_mk0)), rfl, bel.frame _, fun h => by cases h⟩
theorem over : Rows.tallyOrderRow.holds Try.pinned (OpenSpec.ofChange Rows.tallyOrderSpec) :=
  OpenClaim.holds_of_wide 5 Try.f5 rfl rfl rfl rfl rfl rfl rfl ⟨rfl, rfl, rfl, rfl, rfl⟩ rfl rfl rfl rfl rfl (by kernel_rfl) Try.func5 (by kernel_rfl)
    (of_decide_eq_true (by kernel_rfl)) (by unfold Func.isWrapper; first | (rw [if_pos (by decide +kernel)]; kernel_rfl) | (rw [if_neg (by decide +kernel)]; exact ⟨rfl, rfl⟩))
    (fun os started H enc _ => lifted os started H enc)
end Go.Proofs.Ytieaebbnmebbfaa.tallyOrder
namespace Go.Proofs.Ytieaebbnmebbfaa
theorem TallyOrder_holds : Rows.TallyOrderSaid := tallyOrder.over
end Go.Proofs.Ytieaebbnmebbfaa
