/-
  Any number of bytes has the document's bucket, or none; more bytes never have a lesser one; a bucket is less than twice what is in it and 64 more.
  Its conditions: none: whatever the input, in whatever memory.
-/
import Derived.Test.YtlfjgikkaffmaaaRows
import Derived.Test.YtlfjgikkaffmaaaWalks
import Derived.ProofKit
import Derived.OpenShut
import Derived.ShutString
import Derived.ChangeOld
set_option linter.unusedVariables false
set_option linter.unusedSimpArgs false
namespace Go.Proofs.Ytlfjgikkaffmaaa.bucketSizes
open Go.ChangeShapes Go.WideShapes Go.ChangeAt Go.RowKit Go.Ecal
open Go.ChangeMaps (open_string shut_string)
theorem BucketSizes_c (n m : Int) (w : World) (hn : -9223372036854775808 ≤ n ∧ n ≤ 9223372036854775807) (hm : -9223372036854775808 ≤ m ∧ m ≤ 9223372036854775807) : Ret Try.prog 3 [.int .i64 n, .int .i64 m] w fun v w' => v = .bool true ∧ Below w.heap.size w w' := by
  refine ret_E Try.func3 rfl Try.ntmps3 (by simp) ?_
  refine EC_seq ?_
  refine EC_reg ?_
  refine EL_val (.bool false) w rfl (r_assign rfl) ?_
  refine EL_nil ?_
  refine thn_n ?_
  refine EC_seq ?_
  refine EC_seq ?_
  refine EC_reg ?_
  refine EL_ret [] rfl Try.func9 rfl nm9 rfl (anchor_c w) ?_
  rintro _ w1 ⟨rfl, B2⟩
  have B3 : Below w.heap.size w w1 := B2
  refine EL_val (.bool false) w1 rfl (r_dec (show (!true) = false from rfl) (r_not rfl)) ?_
  refine EL_nil ?_
  refine thn_n ?_
  refine EC_cond_false rfl ?_
  refine EC_skip ?_
  refine thn_n ?_
  refine EC_seq ?_
  refine EC_reg ?_
  refine EL_val (.int .i64 n) w1 rfl (r_move rfl) ?_
  refine EL_ret [.int .i64 n] rfl Try.func10 rfl nm10 rfl (size_c n w1 (by omega)) ?_
  rintro _ _ ⟨rfl, rfl⟩
  refine EL_val (.tuple #[.int .i64 (bsize n), .int .i64 (bsizeE n)]) w1 rfl (r_move rfl) ?_
  refine EL_val (.int .i64 (bsize n)) w1 rfl (r_extract rfl rfl) ?_
  refine EL_val (.int .i64 (bsizeE n)) w1 rfl (r_extract rfl rfl) ?_
  refine EL_val (.int .i64 (bsize n)) w1 rfl (r_assign rfl) ?_
  refine EL_val (.int .i64 (bsizeE n)) w1 rfl (r_assign rfl) ?_
  refine EL_nil ?_
  refine thn_n ?_
  refine EC_seq ?_
  refine EC_reg ?_
  refine EL_val (.int .i64 m) w1 rfl (r_move rfl) ?_
  refine EL_ret [.int .i64 m] rfl Try.func10 rfl nm10 rfl (size_c m w1 (by omega)) ?_
  rintro _ _ ⟨rfl, rfl⟩
  refine EL_val (.tuple #[.int .i64 (bsize m), .int .i64 (bsizeE m)]) w1 rfl (r_move rfl) ?_
  refine EL_val (.int .i64 (bsize m)) w1 rfl (r_extract rfl rfl) ?_
  refine EL_val (.int .i64 (bsizeE m)) w1 rfl (r_extract rfl rfl) ?_
  refine EL_val (.int .i64 (bsize m)) w1 rfl (r_assign rfl) ?_
  refine EL_val (.int .i64 (bsizeE m)) w1 rfl (r_assign rfl) ?_
  refine EL_nil ?_
  refine thn_n ?_
  refine EC_seq ?_
  refine EC_reg ?_
  refine EL_val (.int .i64 n) w1 rfl (r_move rfl) ?_
  refine EL_ret [.int .i64 n] rfl Try.func11 rfl nm11 rfl (rsize_c n w1 (by omega)) ?_
  rintro _ w4 ⟨rfl, B5⟩
  have B6 : Below w.heap.size w w4 := below_full B3 B3.size B5
  have B7 : Below w1.heap.size w1 w4 := B5
  refine EL_val (.int .i64 m) w4 rfl (r_move rfl) ?_
  refine EL_ret [.int .i64 m] rfl Try.func11 rfl nm11 rfl (rsize_c m w4 (by omega)) ?_
  rintro _ w8 ⟨rfl, B9⟩
  have B10 : Below w.heap.size w w8 := below_full B6 B6.size B9
  have B11 : Below w1.heap.size w1 w8 := below_full B7 B7.size B9
  have B12 : Below w4.heap.size w4 w8 := B9
  refine EL_val (.int .i64 (bsize n)) w8 rfl (r_assign rfl) ?_
  refine EL_val (.int .i64 (bsize m)) w8 rfl (r_assign rfl) ?_
  refine EL_nil ?_
  refine thn_n ?_
  refine EC_seq ?_
  refine EC_seq ?_
  refine EC_reg ?_
  refine EL_val (.int .i64 (bsize n)) w8 rfl (r_move rfl) ?_
  refine EL_val (.int .i64 (bsize n)) w8 rfl (r_move rfl) ?_
  refine EL_val (.bool false) w8 rfl (r_dec (show (decide ((bsize n) ≠ (bsize n))) = false from by simp) (r_neq rfl rfl)) ?_
  refine EL_val (.bool false) w8 rfl (r_move rfl) ?_
  refine EL_gval 30 rfl rfl rfl rfl (.int .i64 (bsize m)) w8 rfl (r_move rfl) ?_
  refine EL_gval 30 rfl rfl rfl rfl (.int .i64 (bsize m)) w8 rfl (r_move rfl) ?_
  refine EL_gval 30 rfl rfl rfl rfl (.bool false) w8 rfl (r_dec (show (decide ((bsize m) ≠ (bsize m))) = false from by simp) (r_neq rfl rfl)) ?_
  refine EL_val (.bool false) w8 rfl (r_pickF rfl rfl) ?_
  refine EL_val (.bool false) w8 rfl (r_move rfl) ?_
  refine EL_gval 35 rfl rfl rfl rfl (.int .i64 (bsizeE n)) w8 rfl (r_move rfl) ?_
  refine EL_gval 35 rfl rfl rfl rfl (.bool (decide ((bsizeE n) = 0))) w8 rfl (r_eql rfl rfl) ?_
  refine EL_gval 35 rfl rfl rfl rfl (.int .i64 (bsize n)) w8 rfl (r_move rfl) ?_
  refine EL_gval 35 rfl rfl rfl rfl (.bool (decide (0 < (bsize n)))) w8 rfl (r_gtr rfl rfl) ?_
  refine EL_gval 35 rfl rfl rfl rfl (.bool false) w8 rfl (r_dec (show ((decide ((bsizeE n) = 0)) != (decide (0 < (bsize n)))) = false from sizes_same n) (r_neqb rfl rfl Try.underlying4)) ?_
  refine EL_val (.bool false) w8 rfl (r_pickF rfl rfl) ?_
  refine EL_val (.bool false) w8 rfl (r_move rfl) ?_
  refine EL_gval 42 rfl rfl rfl rfl (.int .i64 (bsizeE n)) w8 rfl (r_move rfl) ?_
  refine EL_gval 42 rfl rfl rfl rfl (.bool (decide ((bsizeE n) ≠ 0))) w8 rfl (r_neq rfl rfl) ?_
  refine EL_gval 42 rfl rfl rfl rfl (.bool (decide ((bsizeE n) ≠ 0))) w8 rfl (r_move rfl) ?_
  refine EL_gite 45 rfl rfl rfl (.int .i64 (bsizeE n)) rfl (fun g13 => r_move rfl) ?_
  refine EL_gite 45 rfl rfl rfl (.bool (decide ((bsizeE n) ≠ 11))) rfl (fun g14 => r_neq (cond_of g14 rfl) rfl) ?_
  refine EL_gval 42 rfl rfl rfl rfl (.bool false) w8 rfl (r_dec (show ((decide ((bsizeE n) ≠ 0)) && (decide ((bsizeE n) ≠ 11))) = false from sizes_two n) (r_and rfl rfl rfl)) ?_
  refine EL_val (.bool false) w8 rfl (r_pickF rfl rfl) ?_
  refine EL_val (.bool false) w8 rfl (r_move rfl) ?_
  refine EL_gval 50 rfl rfl rfl rfl (.int .i64 (bsizeE m)) w8 rfl (r_move rfl) ?_
  refine EL_gval 50 rfl rfl rfl rfl (.bool (decide ((bsizeE m) = 0))) w8 rfl (r_eql rfl rfl) ?_
  refine EL_gval 50 rfl rfl rfl rfl (.int .i64 (bsize m)) w8 rfl (r_move rfl) ?_
  refine EL_gval 50 rfl rfl rfl rfl (.bool (decide (0 < (bsize m)))) w8 rfl (r_gtr rfl rfl) ?_
  refine EL_gval 50 rfl rfl rfl rfl (.bool false) w8 rfl (r_dec (show ((decide ((bsizeE m) = 0)) != (decide (0 < (bsize m)))) = false from sizes_same m) (r_neqb rfl rfl Try.underlying4)) ?_
  refine EL_val (.bool false) w8 rfl (r_pickF rfl rfl) ?_
  refine EL_nil ?_
  refine thn_n ?_
  refine EC_cond_false rfl ?_
  refine EC_skip ?_
  refine thn_n ?_
  refine EC_seq ?_
  refine EC_reg ?_
  refine EL_val (.int .i64 (bsizeE n)) w8 rfl (r_move rfl) ?_
  refine EL_val (.bool (decide ((bsizeE n) ≠ 0))) w8 rfl (r_neq rfl rfl) ?_
  refine EL_val (.bool (decide ((bsizeE n) ≠ 0))) w8 rfl (r_move rfl) ?_
  rcases Bool.eq_false_or_eq_true (decide ((bsizeE n) ≠ 0)) with q15 | q15
  · have q15' : (bsizeE n) ≠ 0 := of_decide_eq_true q15
    refine EL_pass 59 rfl (by exact congrArg Value.bool q15) rfl rfl rfl ?_
    refine EL_pass 59 rfl (by exact congrArg Value.bool q15) rfl rfl rfl ?_
    refine EL_pass 59 rfl (by exact congrArg Value.bool q15) rfl rfl rfl ?_
    refine EL_passU 62 rfl rfl rfl rfl ?_
    refine EL_passU 62 rfl rfl rfl rfl ?_
    refine EL_passU 62 rfl rfl rfl rfl ?_
    refine EL_pass 59 rfl (by exact congrArg Value.bool q15) rfl rfl rfl ?_
    refine EL_pass 59 rfl (by exact congrArg Value.bool q15) rfl rfl rfl ?_
    refine EL_passU 67 rfl rfl rfl rfl ?_
    refine EL_passU 67 rfl rfl rfl rfl ?_
    refine EL_passU 67 rfl rfl rfl rfl ?_
    refine EL_pass 59 rfl (by exact congrArg Value.bool q15) rfl rfl rfl ?_
    refine EL_pass 59 rfl (by exact congrArg Value.bool q15) rfl rfl rfl ?_
    refine EL_passU 72 rfl rfl rfl rfl ?_
    refine EL_passU 72 rfl rfl rfl rfl ?_
    refine EL_passU 72 rfl rfl rfl rfl ?_
    refine EL_passU 72 rfl rfl rfl rfl ?_
    refine EL_pass 59 rfl (by exact congrArg Value.bool q15) rfl rfl rfl ?_
    refine EL_pass 59 rfl (by exact congrArg Value.bool q15) rfl rfl rfl ?_
    refine EL_passU 78 rfl rfl rfl rfl ?_
    refine EL_passU 78 rfl rfl rfl rfl ?_
    refine EL_passU 78 rfl rfl rfl rfl ?_
    refine EL_passU 78 rfl rfl rfl rfl ?_
    refine EL_passU 78 rfl rfl rfl rfl ?_
    refine EL_pass 59 rfl (by exact congrArg Value.bool q15) rfl rfl rfl ?_
    refine EL_val (.bool true) w8 rfl (r_pickT (by exact congrArg Value.bool q15) rfl) ?_
    refine EL_val (.bool true) w8 rfl (r_assign rfl) ?_
    refine EL_nil ?_
    refine thn_n ?_
    refine EC_ret ?_
    refine fin1 Try.results3 (show _ = .bool true from rfl) ⟨_, rfl, ?_⟩
    exact ⟨rfl, B10⟩
  · have q15' : ¬ ((bsizeE n) ≠ 0) := of_decide_eq_false q15
    have hne : bsizeE n = 0 := by simpa using q15
    have hnr := size_in hne
    refine EL_gval 59 rfl (by exact congrArg Value.bool q15) rfl rfl (.int .i64 (bsizeE m)) w8 rfl (r_move rfl) ?_
    refine EL_gval 59 rfl (by exact congrArg Value.bool q15) rfl rfl (.bool (decide ((bsizeE m) ≠ 0))) w8 rfl (r_neq rfl rfl) ?_
    refine EL_gval 59 rfl (by exact congrArg Value.bool q15) rfl rfl (.bool (decide ((bsizeE m) ≠ 0))) w8 rfl (r_move rfl) ?_
    refine EL_gite 62 rfl rfl rfl (.int .i64 n) rfl (fun g16 => r_move rfl) ?_
    refine EL_gite 62 rfl rfl rfl (.int .i64 m) rfl (fun g17 => r_move rfl) ?_
    refine EL_gite 62 rfl rfl rfl (.bool (decide (m < n))) rfl (fun g18 => r_gtr (cond_of g18 rfl) (cond_of g18 rfl)) ?_
    refine EL_gval 59 rfl (by exact congrArg Value.bool q15) rfl rfl (.bool ((decide ((bsizeE m) ≠ 0)) || (decide (m < n)))) w8 rfl (r_or rfl rfl rfl) ?_
    refine EL_gval 59 rfl (by exact congrArg Value.bool q15) rfl rfl (.bool ((decide ((bsizeE m) ≠ 0)) || (decide (m < n)))) w8 rfl (r_move rfl) ?_
    refine EL_gite 67 rfl rfl rfl (.int .i64 (bsize n)) rfl (fun g19 => r_move rfl) ?_
    refine EL_gite 67 rfl rfl rfl (.int .i64 (bsize m)) rfl (fun g20 => r_move rfl) ?_
    refine EL_gite 67 rfl rfl rfl (.bool (decide ((bsize n) ≤ (bsize m)))) rfl (fun g21 => r_leq (cond_of g21 rfl) (cond_of g21 rfl)) ?_
    refine EL_gval 59 rfl (by exact congrArg Value.bool q15) rfl rfl (.bool true) w8 rfl (r_dec (show (((decide ((bsizeE m) ≠ 0)) || (decide (m < n))) || (decide ((bsize n) ≤ (bsize m)))) = true from sizes_end hne) (r_or rfl rfl rfl)) ?_
    refine EL_gval 59 rfl (by exact congrArg Value.bool q15) rfl rfl (.bool true) w8 rfl (r_move rfl) ?_
    refine EL_gval 72 rfl rfl rfl rfl (.int .i64 (bsize n)) w8 rfl (r_move rfl) ?_
    refine EL_gval 72 rfl rfl rfl rfl (.int .i64 n) w8 rfl (r_move rfl) ?_
    refine EL_gval 72 rfl rfl rfl rfl (.int .i64 (n + 2)) w8 rfl (r_addi rfl rfl (by omega)) ?_
    refine EL_gval 72 rfl rfl rfl rfl (.bool true) w8 rfl (r_dec (show (decide ((n + 2) ≤ (bsize n))) = true from by have := sizes_lo hne; simp; omega) (r_geq rfl rfl)) ?_
    refine EL_gval 59 rfl (by exact congrArg Value.bool q15) rfl rfl (.bool true) w8 rfl (r_pickT rfl rfl) ?_
    refine EL_gval 59 rfl (by exact congrArg Value.bool q15) rfl rfl (.bool true) w8 rfl (r_move rfl) ?_
    refine EL_gval 78 rfl rfl rfl rfl (.int .i64 (bsize n)) w8 rfl (r_move rfl) ?_
    refine EL_gval 78 rfl rfl rfl rfl (.int .i64 n) w8 rfl (r_move rfl) ?_
    refine EL_gval 78 rfl rfl rfl rfl (.int .i64 (2 * n)) w8 rfl (r_muli rfl rfl (by omega)) ?_
    refine EL_gval 78 rfl rfl rfl rfl (.int .i64 ((2 * n) + 66)) w8 rfl (r_addi rfl rfl (by omega)) ?_
    refine EL_gval 78 rfl rfl rfl rfl (.bool true) w8 rfl (r_dec (show (decide ((bsize n) < ((2 * n) + 66))) = true from by have := sizes_lo hne; simp; omega) (r_lss rfl rfl)) ?_
    refine EL_gval 59 rfl (by exact congrArg Value.bool q15) rfl rfl (.bool true) w8 rfl (r_pickT rfl rfl) ?_
    refine EL_val (.bool true) w8 rfl (r_pickF (by exact congrArg Value.bool q15) rfl) ?_
    refine EL_val (.bool true) w8 rfl (r_assign rfl) ?_
    refine EL_nil ?_
    refine thn_n ?_
    refine EC_ret ?_
    refine fin1 Try.results3 (show _ = .bool true from rfl) ⟨_, rfl, ?_⟩
    exact ⟨rfl, B10⟩
theorem own : ownKnob Try.prog.godebug = none := by kernel_rfl
theorem laidOut : laidOutB Try.prog = true := by kernel_rfl
set_option maxRecDepth 100000 in
theorem lifted (os : Os) (started : os.Started) (H : Type) (enc : TypeId × Value → H) :
    ReturnsInHanded {} Try.checked os 3 .any (Rows.bucketSizesSpec.pre6 enc Try.prog Try.f3 Rows.bucketSizesRow.domain false) (Rows.bucketSizesSpec.post enc Try.prog Try.f3 false true false false) := by
  refine returnsInHanded_of_change (C := Try.checked) own started (by kernel_rfl) Try.func3
    (ChangeSpec.witness6 (enc := enc) (C := Try.checked) false ⟨#[], #[.int .i64 0, .int .i64 0], []⟩ 8 (by kernel_rfl) (by kernel_rfl) (by kernel_rfl) (by kernel_rfl)) ?_
  intro W base args ds gs before hval0 hW hcnd _
  have hval : ∀ (j : Nat) t v, Try.f3.params[j]? = some t → args[j]? = some v → Value.okWide Try.prog W .any base t v := hval0
  have hW' := hW
  obtain ⟨p, q, hA0, hV, rfl, hfz, hnd⟩ := hW
  have hA : DataW.TrodAll enc Try.prog W 0 (fun _ => true) true Try.f3.params.toList args.toList ds p := hA0
  rw [Try.params3] at hA hval
  obtain ⟨v0, vs0, d0, ds0, p0, q0, hargs, rfl, rfl, h0, r0⟩ := trodAll_cons hA
  obtain ⟨v1, vs1, d1, ds1, p1, q1, rfl, rfl, rfl, h1, r1⟩ := trodAll_cons r0
  obtain ⟨rfl, rfl, rfl⟩ := trodAll_nil r1
  obtain rfl : args = #[v0, v1] := by cases args; simp_all
  obtain ⟨rfl, rfl⟩ := trodVars_none hV
  have k0 := h0
  have lt0 : ∀ x ∈ p0, x.block < W.heap.size := by obtain ⟨m, hm⟩ := k0; exact DataW.trod_lt m _ _ _ hm
  obtain ⟨a0, rfl, rfl, rfl, w0⟩ := open_int Try.underlying3 (hval 0 3 v0 rfl rfl) h0
  have k1 := h1
  have lt1 : ∀ x ∈ p1, x.block < W.heap.size := by obtain ⟨m, hm⟩ := k1; exact DataW.trod_lt m _ _ _ hm
  obtain ⟨a1, rfl, rfl, rfl, w1⟩ := open_int Try.underlying3 (hval 1 3 v1 rfl rfl) h1
  clear hA0 hval0
  refine Calls.mono (BucketSizes_c a0 a1 W (rng_i64 w0) (rng_i64 w1)) fun e W' ⟨v', he, hv, bel⟩ => ?_
  subst he
  subst hv
  exact ⟨_, rfl, _, _, _, [], _, [], hW', trodAll_mk1 (shut_bool Try.underlying4 _), (trodAll_cons_mk (Below.trod laidOut (by kernel_rfl) (of_decide_eq_true (by kernel_rfl)) k0 bel lt0) (trodAll_cons_mk (Below.trod laidOut (by kernel_rfl) (of_decide_eq_true (by kernel_rfl)) k1 bel lt1) trodAll_mk0)), rfl, bel.frame _, fun h => by cases h⟩
theorem over : Rows.bucketSizesRow.holds Try.pinned (OpenSpec.ofChange Rows.bucketSizesSpec) :=
  OpenClaim.holds_of_wide 3 Try.f3 rfl rfl rfl rfl rfl rfl rfl ⟨rfl, rfl, rfl, rfl, rfl⟩ rfl rfl rfl rfl rfl (by kernel_rfl) Try.func3 (by kernel_rfl)
    (of_decide_eq_true (by kernel_rfl)) (by unfold Func.isWrapper; first | (rw [if_pos (by decide +kernel)]; kernel_rfl) | (rw [if_neg (by decide +kernel)]; exact ⟨rfl, rfl⟩))
    (fun os started H enc _ => lifted os started H enc)
end Go.Proofs.Ytlfjgikkaffmaaa.bucketSizes
namespace Go.Proofs.Ytlfjgikkaffmaaa
theorem BucketSizes_holds : Rows.BucketSizesSaid := bucketSizes.over
end Go.Proofs.Ytlfjgikkaffmaaa
