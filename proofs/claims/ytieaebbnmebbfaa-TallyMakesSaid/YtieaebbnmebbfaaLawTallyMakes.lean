/-
  Any two counts are a tally just if they are from 0 to 2^40; its parts are they.
  Its conditions: none: whatever the input, in whatever memory.
-/
import Derived.Test.YtieaebbnmebbfaaRows
import Derived.Test.YtieaebbnmebbfaaWalksC
import Derived.ProofKit
import Derived.OpenShut
import Derived.ShutString
import Derived.ChangeOld
set_option linter.unusedVariables false
set_option linter.unusedSimpArgs false
namespace Go.Proofs.Ytieaebbnmebbfaa.tallyMakes
open Go.ChangeShapes Go.WideShapes Go.ChangeAt Go.RowKit Go.Ecal
open Go.ChangeMaps (open_string shut_string)
set_option maxRecDepth 100000 in
set_option maxHeartbeats 4000000 in
theorem TallyMakes_c (a : Int) (b : Int) (w : World) (ra : -9223372036854775808 ≤ a ∧ a ≤ 9223372036854775807) (rb : -9223372036854775808 ≤ b ∧ b ≤ 9223372036854775807) : Ret Try.prog 3 [.agg (([a, b] : List Int).map (Value.int .i64)).toArray] w fun v w' => v = .bool true ∧ Below w.heap.size w w' := by
  refine ret_E Try.func3 rfl Try.ntmps3 (by simp) ?_
  refine EC_seq ?_
  refine EC_reg ?_
  refine EL_box (([a, b] : List Int).map (Value.int .i64)) rfl rfl rfl ?_
  intro b11 w12 k13 A14 B15 z16
  have B17 : Below w.heap.size w w12 := B15
  have A14' : Arr w12 b11 23 (([a, b] : List Int).map (Value.int .i64)) := A14
  refine EL_val (.bool false) w12 rfl (r_assign rfl) ?_
  refine EL_nil ?_
  refine thn_n ?_
  refine EC_seq ?_
  refine EC_seq ?_
  refine EC_reg ?_
  refine EL_ret [] rfl Try.func9 rfl nm9 rfl (anchor_c w12) ?_
  rintro _ _ ⟨rfl, rfl⟩
  refine EL_val (.bool false) w12 rfl (r_dec (show (!true) = false from rfl) (r_not rfl)) ?_
  refine EL_nil ?_
  refine thn_n ?_
  refine EC_cond_false rfl ?_
  refine EC_skip ?_
  refine thn_n ?_
  refine EC_seq ?_
  by_cases hr : (0 : Int) ≤ a ∧ a ≤ 1099511627776 ∧ (0 : Int) ≤ b ∧ b ≤ 1099511627776
  · refine EC_reg ?_
    refine EL_val (ptr b11 0) w12 rfl (r_fieldA rfl Try.underlying23 rfl (fun _ => rfl)) ?_
    refine EL_val (.int .i64 a) w12 rfl (r_loadA rfl A14' (u := .int .i64 a) rfl Try.underlying3 rfl) ?_
    refine EL_val (ptr b11 1) w12 rfl (r_fieldA rfl Try.underlying23 rfl (fun _ => rfl)) ?_
    refine EL_val (.int .i64 b) w12 rfl (r_loadA rfl A14' (u := .int .i64 b) rfl Try.underlying3 rfl) ?_
    refine EL_ret [.int .i64 a, .int .i64 b] rfl Try.func10 rfl nm10 rfl (Make_ok a b w12 (by omega) (by omega) (by omega)) ?_
    rintro _ _ ⟨rfl, rfl⟩
    refine EL_val (.tuple #[.complex .f64 (fw a) (fw b), .int .i64 0]) w12 rfl (r_move rfl) ?_
    refine EL_val (.complex .f64 (fw a) (fw b)) w12 rfl (r_extract rfl rfl) ?_
    refine EL_val (.int .i64 0) w12 rfl (r_extract rfl rfl) ?_
    refine EL_val (.complex .f64 (fw a) (fw b)) w12 rfl (r_assign rfl) ?_
    refine EL_val (.int .i64 0) w12 rfl (r_assign rfl) ?_
    refine EL_nil ?_
    refine thn_n ?_
    refine EC_seq ?_
    refine EC_seq ?_
    refine EC_reg ?_
    refine EL_val (.agg (([a, b] : List Int).map (Value.int .i64)).toArray) w12 rfl (r_loadAll rfl A14' Try.underlying23 rfl (Eq.trans (show _ = some 2 from by kernel_rfl) (congrArg some (by first | (simp; done) | (simp; omega) | rfl)))) ?_
    refine EL_ret [.agg (([a, b] : List Int).map (Value.int .i64)).toArray] rfl Try.func11 rfl nm11 rfl (right_c a b w12 (by omega) (by omega)) ?_
    rintro _ w18 ⟨rfl, B19⟩
    have B20 : Below w.heap.size w w18 := below_full B17 B17.size B19
    have B21 : Below w12.heap.size w12 w18 := B19
    refine EL_val (.bool (!(decide ((0 : Int) ≤ a ∧ a ≤ 1099511627776 ∧ (0 : Int) ≤ b ∧ b ≤ 1099511627776)))) w18 rfl (r_not rfl) ?_
    refine EL_nil ?_
    refine thn_n ?_
    refine EC_cond_false (Eq.trans (show _ = Value.bool (!(decide ((0 : Int) ≤ a ∧ a ≤ 1099511627776 ∧ (0 : Int) ≤ b ∧ b ≤ 1099511627776))) from rfl) (congrArg Value.bool (show (!(decide ((0 : Int) ≤ a ∧ a ≤ 1099511627776 ∧ (0 : Int) ≤ b ∧ b ≤ 1099511627776))) = false from by simp; omega))) ?_
    refine EC_skip ?_
    refine thn_n ?_
    refine EC_seq ?_
    refine EC_reg ?_
    refine EL_val (.complex .f64 (fw a) (fw b)) w18 rfl (r_move rfl) ?_
    refine EL_ret [.complex .f64 (fw a) (fw b)] rfl Try.func12 rfl nm12 rfl (Parts_ok (fw a) (a : Int) (fw b) (b : Int) w18 (fw_is (n := a) (by omega)) (fw_is (n := b) (by omega)) (by omega) (by omega) (by omega)) ?_
    rintro _ _ ⟨rfl, rfl⟩
    refine EL_val (.tuple #[.int .i64 (a : Int), .int .i64 (b : Int), .bool true]) w18 rfl (r_move rfl) ?_
    refine EL_val (.int .i64 (a : Int)) w18 rfl (r_extract rfl rfl) ?_
    refine EL_val (.int .i64 (b : Int)) w18 rfl (r_extract rfl rfl) ?_
    refine EL_val (.bool true) w18 rfl (r_extract rfl rfl) ?_
    refine EL_val (.int .i64 (a : Int)) w18 rfl (r_assign rfl) ?_
    refine EL_val (.int .i64 (b : Int)) w18 rfl (r_assign rfl) ?_
    refine EL_val (.bool true) w18 rfl (r_assign rfl) ?_
    refine EL_nil ?_
    refine thn_n ?_
    refine EC_seq ?_
    refine EC_reg ?_
    refine EL_val (.int .i64 0) w18 rfl (r_move rfl) ?_
    refine EL_val (.bool true) w18 rfl (r_dec (by decide) (r_eql rfl rfl)) ?_
    refine EL_val (.bool true) w18 rfl (r_move rfl) ?_
    refine EL_gval 35 rfl rfl rfl rfl (.bool true) w18 rfl (r_move rfl) ?_
    refine EL_val (.bool true) w18 rfl (r_pickT rfl rfl) ?_
    refine EL_val (.bool true) w18 rfl (r_move rfl) ?_
    refine EL_gval 38 rfl rfl rfl rfl (.int .i64 (a : Int)) w18 rfl (r_move rfl) ?_
    refine EL_gval 38 rfl rfl rfl rfl (ptr b11 0) w18 rfl (r_fieldA rfl Try.underlying23 rfl (fun _ => rfl)) ?_
    refine EL_gval 38 rfl rfl rfl rfl (.int .i64 a) w18 rfl (r_loadA rfl (A14'.below B21) (u := .int .i64 a) rfl Try.underlying3 rfl) ?_
    refine EL_gval 38 rfl rfl rfl rfl (.bool true) w18 rfl (r_dec (show (decide ((a : Int) = a)) = true from by simp) (r_eql rfl rfl)) ?_
    refine EL_val (.bool true) w18 rfl (r_pickT rfl rfl) ?_
    refine EL_val (.bool true) w18 rfl (r_move rfl) ?_
    refine EL_gval 44 rfl rfl rfl rfl (.int .i64 (b : Int)) w18 rfl (r_move rfl) ?_
    refine EL_gval 44 rfl rfl rfl rfl (ptr b11 1) w18 rfl (r_fieldA rfl Try.underlying23 rfl (fun _ => rfl)) ?_
    refine EL_gval 44 rfl rfl rfl rfl (.int .i64 b) w18 rfl (r_loadA rfl (A14'.below B21) (u := .int .i64 b) rfl Try.underlying3 rfl) ?_
    refine EL_gval 44 rfl rfl rfl rfl (.bool true) w18 rfl (r_dec (show (decide ((b : Int) = b)) = true from by simp) (r_eql rfl rfl)) ?_
    refine EL_val (.bool true) w18 rfl (r_pickT rfl rfl) ?_
    refine EL_val (.bool true) w18 rfl (r_move rfl) ?_
    refine EL_gval 50 rfl rfl rfl rfl (.complex .f64 (fw a) (fw b)) w18 rfl (r_move rfl) ?_
    refine EL_gval 50 rfl rfl rfl rfl (.agg (([a, b] : List Int).map (Value.int .i64)).toArray) w18 rfl (r_loadAll rfl (A14'.below B21) Try.underlying23 rfl (Eq.trans (show _ = some 2 from by kernel_rfl) (congrArg some (by first | (simp; done) | (simp; omega) | rfl)))) ?_
    refine EL_gret 50 rfl rfl rfl rfl [.agg (([a, b] : List Int).map (Value.int .i64)).toArray] rfl Try.func13 rfl nm13 rfl (number_c a b w18 (by omega) (by omega)) ?_
    rintro _ w22 ⟨rfl, B23⟩
    have B24 : Below w.heap.size w w22 := below_full B20 B20.size B23
    have B25 : Below w12.heap.size w12 w22 := below_full B21 B21.size B23
    have B26 : Below w18.heap.size w18 w22 := B23
    refine EL_gval 50 rfl rfl rfl rfl (.bool true) w22 rfl (r_dec (show (decide ((a : Int) = a) && decide ((b : Int) = b)) = true from by simp) (r_ceql rfl rfl (fw_is (n := a) (by omega)) (fw_is (n := b) (by omega)) (fw_is (n := a) (by omega)) (fw_is (n := b) (by omega)))) ?_
    refine EL_val (.bool true) w22 rfl (r_pickT rfl rfl) ?_
    refine EL_val (.bool true) w22 rfl (r_assign rfl) ?_
    refine EL_nil ?_
    refine thn_n ?_
    refine EC_ret ?_
    refine fin1 Try.results3 (show _ = .bool true from rfl) ⟨_, rfl, ?_⟩
    exact ⟨rfl, B24⟩
  · refine EC_reg ?_
    refine EL_val (ptr b11 0) w12 rfl (r_fieldA rfl Try.underlying23 rfl (fun _ => rfl)) ?_
    refine EL_val (.int .i64 a) w12 rfl (r_loadA rfl A14' (u := .int .i64 a) rfl Try.underlying3 rfl) ?_
    refine EL_val (ptr b11 1) w12 rfl (r_fieldA rfl Try.underlying23 rfl (fun _ => rfl)) ?_
    refine EL_val (.int .i64 b) w12 rfl (r_loadA rfl A14' (u := .int .i64 b) rfl Try.underlying3 rfl) ?_
    refine EL_ret [.int .i64 a, .int .i64 b] rfl Try.func10 rfl nm10 rfl (Make_no a b w12 (by omega) (by omega) (by omega)) ?_
    rintro _ _ ⟨rfl, rfl⟩
    refine EL_val (.tuple #[.complex .f64 0 0, .int .i64 12]) w12 rfl (r_move rfl) ?_
    refine EL_val (.complex .f64 0 0) w12 rfl (r_extract rfl rfl) ?_
    refine EL_val (.int .i64 12) w12 rfl (r_extract rfl rfl) ?_
    refine EL_val (.complex .f64 0 0) w12 rfl (r_assign rfl) ?_
    refine EL_val (.int .i64 12) w12 rfl (r_assign rfl) ?_
    refine EL_nil ?_
    refine thn_n ?_
    refine EC_seq ?_
    refine EC_seq ?_
    refine EC_reg ?_
    refine EL_val (.agg (([a, b] : List Int).map (Value.int .i64)).toArray) w12 rfl (r_loadAll rfl A14' Try.underlying23 rfl (Eq.trans (show _ = some 2 from by kernel_rfl) (congrArg some (by first | (simp; done) | (simp; omega) | rfl)))) ?_
    refine EL_ret [.agg (([a, b] : List Int).map (Value.int .i64)).toArray] rfl Try.func11 rfl nm11 rfl (right_c a b w12 (by omega) (by omega)) ?_
    rintro _ w27 ⟨rfl, B28⟩
    have B29 : Below w.heap.size w w27 := below_full B17 B17.size B28
    have B30 : Below w12.heap.size w12 w27 := B28
    refine EL_val (.bool (!(decide ((0 : Int) ≤ a ∧ a ≤ 1099511627776 ∧ (0 : Int) ≤ b ∧ b ≤ 1099511627776)))) w27 rfl (r_not rfl) ?_
    refine EL_nil ?_
    refine thn_n ?_
    refine EC_cond_true (Eq.trans (show _ = Value.bool (!(decide ((0 : Int) ≤ a ∧ a ≤ 1099511627776 ∧ (0 : Int) ≤ b ∧ b ≤ 1099511627776))) from rfl) (congrArg Value.bool (show (!(decide ((0 : Int) ≤ a ∧ a ≤ 1099511627776 ∧ (0 : Int) ≤ b ∧ b ≤ 1099511627776))) = true from by simp; omega))) ?_
    refine EC_seq ?_
    refine EC_reg ?_
    refine EL_val (.int .i64 12) w27 rfl (r_move rfl) ?_
    refine EL_val (.bool true) w27 rfl (r_dec (by decide) (r_eql rfl rfl)) ?_
    refine EL_val (.bool true) w27 rfl (r_move rfl) ?_
    refine EL_gval 23 rfl rfl rfl rfl (.complex .f64 0 0) w27 rfl (r_move rfl) ?_
    refine EL_gval 23 rfl rfl rfl rfl (.bool true) w27 rfl (r_dec (show (decide ((0 : Int) = (0 : Int)) && decide ((0 : Int) = (0 : Int))) = true from by decide) (r_ceql rfl rfl (fw_const (x := 0) (n := 0) (by decide +kernel) (by decide)) (fw_const (x := 0) (n := 0) (by decide +kernel) (by decide)) (fw_const (x := 0) (n := 0) (by decide +kernel) (by decide)) (fw_const (x := 0) (n := 0) (by decide +kernel) (by decide)))) ?_
    refine EL_val (.bool true) w27 rfl (r_pickT rfl rfl) ?_
    refine EL_val (.bool true) w27 rfl (r_assign rfl) ?_
    refine EL_nil ?_
    refine thn_n ?_
    refine EC_ret ?_
    refine thn_r ?_
    refine fin1 Try.results3 (show _ = .bool true from rfl) ⟨_, rfl, ?_⟩
    exact ⟨rfl, B29⟩
theorem own : ownKnob Try.prog.godebug = none := by kernel_rfl
theorem laidOut : laidOutB Try.prog = true := by kernel_rfl
set_option maxRecDepth 100000 in
theorem lifted (os : Os) (started : os.Started) (H : Type) (enc : TypeId × Value → H) :
    ReturnsInHanded {} Try.checked os 3 .any (Rows.tallyMakesSpec.pre6 enc Try.prog Try.f3 Rows.tallyMakesRow.domain false) (Rows.tallyMakesSpec.post enc Try.prog Try.f3 false true false false) := by
  refine returnsInHanded_of_change (C := Try.checked) own started (by kernel_rfl) Try.func3
    (ChangeSpec.witness6 (enc := enc) (C := Try.checked) false ⟨#[], #[.agg #[.int .i64 0, .int .i64 0]], []⟩ 8 (by kernel_rfl) (by kernel_rfl) (by kernel_rfl) (by kernel_rfl)) ?_
  intro W base args ds gs before hval0 hW hcnd _
  have hval : ∀ (j : Nat) t v, Try.f3.params[j]? = some t → args[j]? = some v → Value.okWide Try.prog W .any base t v := hval0
  have hW' := hW
  obtain ⟨p, q, hA0, hV, rfl, hfz, hnd⟩ := hW
  have hA : DataW.TrodAll enc Try.prog W 0 (fun _ => true) true Try.f3.params.toList args.toList ds p := hA0
  rw [Try.params3] at hA hval
  obtain ⟨v0, vs0, d0, ds0, p0, q0, hargs, rfl, rfl, h0, r0⟩ := trodAll_cons hA
  obtain ⟨rfl, rfl, rfl⟩ := trodAll_nil r0
  obtain rfl : args = #[v0] := by cases args; simp_all
  obtain ⟨rfl, rfl⟩ := trodVars_none hV
  have k0 := h0
  have lt0 : ∀ x ∈ p0, x.block < W.heap.size := by obtain ⟨m, hm⟩ := k0; exact DataW.trod_lt m _ _ _ hm
  obtain ⟨c0, e0, y0, z0, m0, rfl, rfl, rfl, hy0, hz0⟩ := Go.Joins.open_agg2 Try.underlying23 (by kernel_rfl) (by kernel_rfl) (hval 0 23 v0 rfl rfl) h0
  obtain ⟨a0, ea0, rfl, wa0⟩ := DataW.trod_int Try.underlying3 hy0
  obtain ⟨b0, eb0, rfl, wb0⟩ := DataW.trod_int Try.underlying3 hz0
  simp at ea0 eb0
  subst ea0 eb0
  clear hA0 hval0
  refine Calls.mono (TallyMakes_c a0 b0 W (rng_i64 wa0) (rng_i64 wb0)) fun e W' ⟨v', he, hv, bel⟩ => ?_
  subst he
  subst hv
  exact ⟨_, rfl, _, _, _, [], _, [], hW', trodAll_mk1 (shut_bool Try.underlying4 _), (trodAll_cons_mk (Below.trod laidOut (by kernel_rfl) (of_decide_eq_true (by kernel_rfl)) k0 bel lt0) trodAll_mk0), rfl, bel.frame _, fun h => by cases h⟩
theorem over : Rows.tallyMakesRow.holds Try.pinned (OpenSpec.ofChange Rows.tallyMakesSpec) :=
  OpenClaim.holds_of_wide 3 Try.f3 rfl rfl rfl rfl rfl rfl rfl ⟨rfl, rfl, rfl, rfl, rfl⟩ rfl rfl rfl rfl rfl (by kernel_rfl) Try.func3 (by kernel_rfl)
    (of_decide_eq_true (by kernel_rfl)) (by unfold Func.isWrapper; first | (rw [if_pos (by decide +kernel)]; kernel_rfl) | (rw [if_neg (by decide +kernel)]; exact ⟨rfl, rfl⟩))
    (fun os started H enc _ => lifted os started H enc)
end Go.Proofs.Ytieaebbnmebbfaa.tallyMakes
namespace Go.Proofs.Ytieaebbnmebbfaa
theorem TallyMakes_holds : Rows.TallyMakesSaid := tallyMakes.over
end Go.Proofs.Ytieaebbnmebbfaa
