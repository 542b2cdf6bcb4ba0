/-
  Two texts of one bucket are as long in it, whatever they are; of unlike buckets not.
  Its conditions: none: whatever the input, in whatever memory.
-/
import Derived.Test.YtlfjgikkaffmaaaRows
import Derived.Test.YtlfjgikkaffmaaaWalks
import Derived.ProofKit
import Derived.OpenShut
import Derived.ShutString
import Derived.ChangeOld
set_option linter.unusedVariables false
set_option linter.unusedSimpArgs false
namespace Go.Proofs.Ytlfjgikkaffmaaa.bucketHides
open Go.ChangeShapes Go.WideShapes Go.ChangeAt Go.RowKit Go.Ecal
open Go.ChangeMaps (open_string shut_string)
theorem BucketHides_c (v0 : Value) (a : List UInt8) (v1 : Value) (b : List UInt8) (w : World) (H0 : Bs w v0 a) (H1 : Bs w v1 b) : Ret Try.prog 4 [v0, v1] w fun v w' => v = .bool true ∧ Below w.heap.size w w' := by
  have hl0 := H0.len_le
  have hl1 := H1.len_le
  simp only [List.length_map] at hl0 hl1
  refine ret_E Try.func4 rfl Try.ntmps4 (by simp) ?_
  refine EC_seq ?_
  refine EC_reg ?_
  refine EL_val (.bool false) w rfl (r_assign rfl) ?_
  refine EL_nil ?_
  refine thn_n ?_
  refine EC_seq ?_
  refine EC_seq ?_
  refine EC_reg ?_
  refine EL_ret [] rfl Try.func9 rfl nm9 rfl (anchor_c w) ?_
  rintro _ w1 ⟨rfl, B2⟩
  have B3 : Below w.heap.size w w1 := B2
  refine EL_val (.bool false) w1 rfl (r_dec (show (!true) = false from rfl) (r_not rfl)) ?_
  refine EL_nil ?_
  refine thn_n ?_
  refine EC_cond_false rfl ?_
  refine EC_skip ?_
  refine thn_n ?_
  refine EC_seq ?_
  refine EC_seq ?_
  refine EC_reg ?_
  refine EL_val v0 w1 rfl (r_move rfl) ?_
  refine EL_val (.int .i64 (a.length : Int)) w1 rfl (lenB (r_len rfl (H0.below B3) Try.underlying28)) ?_
  refine EL_val (.bool (decide (2046 < (a.length : Int)))) w1 rfl (r_gtr rfl rfl) ?_
  refine EL_val (.bool (decide (2046 < (a.length : Int)))) w1 rfl (r_move rfl) ?_
  refine EL_gite 14 rfl rfl rfl v1 rfl (fun g4 => r_move rfl) ?_
  refine EL_gite 14 rfl rfl rfl (.int .i64 (b.length : Int)) rfl (fun g5 => lenB (r_len (cond_of g5 rfl) (H1.below B3) Try.underlying28)) ?_
  refine EL_gite 14 rfl rfl rfl (.bool (decide (2046 < (b.length : Int)))) rfl (fun g6 => r_gtr (cond_of g6 rfl) rfl) ?_
  refine EL_val (.bool ((decide (2046 < (a.length : Int))) || (decide (2046 < (b.length : Int))))) w1 rfl (r_or rfl rfl rfl) ?_
  refine EL_nil ?_
  refine thn_n ?_
  refine EC_cond (t := (decide (2046 < (a.length : Int))) || (decide (2046 < (b.length : Int)))) rfl (fun h7 => ?_) (fun h7 => ?_)
  · refine EC_seq ?_
    refine EC_reg ?_
    refine EL_val (.bool true) w1 rfl (r_assign rfl) ?_
    refine EL_nil ?_
    refine thn_n ?_
    refine EC_ret ?_
    refine thn_r ?_
    refine fin1 Try.results4 (show _ = .bool true from rfl) ⟨_, rfl, ?_⟩
    exact ⟨rfl, B3⟩
  · simp at h7
    obtain ⟨ha, hb⟩ := h7
    refine EC_skip ?_
    refine thn_n ?_
    refine EC_seq ?_
    refine EC_reg ?_
    refine EL_val v0 w1 rfl (r_move rfl) ?_
    refine EL_ret [v0] rfl Try.func12 rfl nm12 rfl (pad_ok v0 a w1 (H0.below B3) (by first | omega | (simp; done) | (simp; omega))) ?_
    rintro _ w11 ⟨p8, rfl, O9, B10⟩
    have B12 : Below w.heap.size w w11 := below_full B3 B3.size B10
    have B13 : Below w1.heap.size w1 w11 := B10
    refine EL_val (.tuple #[p8, .int .i64 0]) w11 rfl (r_move rfl) ?_
    refine EL_val p8 w11 rfl (r_extract rfl rfl) ?_
    refine EL_val (.int .i64 0) w11 rfl (r_extract rfl rfl) ?_
    refine EL_val p8 w11 rfl (r_assign rfl) ?_
    refine EL_val (.int .i64 0) w11 rfl (r_assign rfl) ?_
    refine EL_nil ?_
    refine thn_n ?_
    refine EC_seq ?_
    refine EC_reg ?_
    refine EL_val v1 w11 rfl (r_move rfl) ?_
    refine EL_ret [v1] rfl Try.func12 rfl nm12 rfl (pad_ok v1 b w11 (H1.below B12) (by first | omega | (simp; done) | (simp; omega))) ?_
    rintro _ w17 ⟨p14, rfl, O15, B16⟩
    have B18 : Below w.heap.size w w17 := below_full B12 B12.size B16
    have B19 : Below w1.heap.size w1 w17 := below_full B13 B13.size B16
    have B20 : Below w11.heap.size w11 w17 := B16
    refine EL_val (.tuple #[p14, .int .i64 0]) w17 rfl (r_move rfl) ?_
    refine EL_val p14 w17 rfl (r_extract rfl rfl) ?_
    refine EL_val (.int .i64 0) w17 rfl (r_extract rfl rfl) ?_
    refine EL_val p14 w17 rfl (r_assign rfl) ?_
    refine EL_val (.int .i64 0) w17 rfl (r_assign rfl) ?_
    refine EL_nil ?_
    refine thn_n ?_
    refine EC_seq ?_
    refine EC_reg ?_
    refine EL_val (.int .i64 0) w17 rfl (r_move rfl) ?_
    refine EL_val (.bool true) w17 rfl (r_dec (by decide) (r_eql rfl rfl)) ?_
    refine EL_val (.bool true) w17 rfl (r_move rfl) ?_
    refine EL_gval 31 rfl rfl rfl rfl (.int .i64 0) w17 rfl (r_move rfl) ?_
    refine EL_gval 31 rfl rfl rfl rfl (.bool true) w17 rfl (r_dec (by decide) (r_eql rfl rfl)) ?_
    refine EL_val (.bool true) w17 rfl (r_pickT rfl rfl) ?_
    refine EL_val (.bool true) w17 rfl (r_move rfl) ?_
    refine EL_gval 35 rfl rfl rfl rfl p8 w17 rfl (r_move rfl) ?_
    refine EL_gval 35 rfl rfl rfl rfl (.int .i64 ((bpad a).length : Int)) w17 rfl (lenB (r_len rfl ((own_row O9).below B20) Try.underlying28)) ?_
    refine EL_gval 35 rfl rfl rfl rfl p14 w17 rfl (r_move rfl) ?_
    refine EL_gval 35 rfl rfl rfl rfl (.int .i64 ((bpad b).length : Int)) w17 rfl (lenB (r_len rfl (own_row O15) Try.underlying28)) ?_
    refine EL_gval 35 rfl rfl rfl rfl (.bool (decide (((bpad a).length : Int) = ((bpad b).length : Int)))) w17 rfl (r_eql rfl rfl) ?_
    refine EL_gval 35 rfl rfl rfl rfl v0 w17 rfl (r_move rfl) ?_
    refine EL_gval 35 rfl rfl rfl rfl (.int .i64 (a.length : Int)) w17 rfl (lenB (r_len rfl (H0.below B18) Try.underlying28)) ?_
    refine EL_gret 35 rfl rfl rfl rfl [.int .i64 (a.length : Int)] rfl Try.func11 rfl nm11 rfl (rsize_c (a.length : Int) w17 (by omega)) ?_
    rintro _ w21 ⟨rfl, B22⟩
    have B23 : Below w.heap.size w w21 := below_full B18 B18.size B22
    have B24 : Below w1.heap.size w1 w21 := below_full B19 B19.size B22
    have B25 : Below w11.heap.size w11 w21 := below_full B20 B20.size B22
    have B26 : Below w17.heap.size w17 w21 := B22
    refine EL_gval 35 rfl rfl rfl rfl v1 w21 rfl (r_move rfl) ?_
    refine EL_gval 35 rfl rfl rfl rfl (.int .i64 (b.length : Int)) w21 rfl (lenB (r_len rfl (H1.below B23) Try.underlying28)) ?_
    refine EL_gret 35 rfl rfl rfl rfl [.int .i64 (b.length : Int)] rfl Try.func11 rfl nm11 rfl (rsize_c (b.length : Int) w21 (by omega)) ?_
    rintro _ w27 ⟨rfl, B28⟩
    have B29 : Below w.heap.size w w27 := below_full B23 B23.size B28
    have B30 : Below w1.heap.size w1 w27 := below_full B24 B24.size B28
    have B31 : Below w11.heap.size w11 w27 := below_full B25 B25.size B28
    have B32 : Below w17.heap.size w17 w27 := below_full B26 B26.size B28
    have B33 : Below w21.heap.size w21 w27 := B28
    refine EL_gval 35 rfl rfl rfl rfl (.bool (decide ((bsize (a.length : Int)) = (bsize (b.length : Int))))) w27 rfl (r_eql rfl rfl) ?_
    refine EL_gval 35 rfl rfl rfl rfl (.bool true) w27 rfl (r_dec (show ((decide (((bpad a).length : Int) = ((bpad b).length : Int))) == (decide ((bsize (a.length : Int)) = (bsize (b.length : Int))))) = true from hides (by omega) (by omega)) (r_eqlb rfl rfl Try.underlying4)) ?_
    refine EL_val (.bool true) w27 rfl (r_pickT rfl rfl) ?_
    refine EL_val (.bool true) w27 rfl (r_assign rfl) ?_
    refine EL_nil ?_
    refine thn_n ?_
    refine EC_ret ?_
    refine fin1 Try.results4 (show _ = .bool true from rfl) ⟨_, rfl, ?_⟩
    exact ⟨rfl, B29⟩
theorem own : ownKnob Try.prog.godebug = none := by kernel_rfl
theorem laidOut : laidOutB Try.prog = true := by kernel_rfl
set_option maxRecDepth 100000 in
theorem lifted (os : Os) (started : os.Started) (H : Type) (enc : TypeId × Value → H) :
    ReturnsInHanded {} Try.checked os 4 .any (Rows.bucketHidesSpec.pre6 enc Try.prog Try.f4 Rows.bucketHidesRow.domain false) (Rows.bucketHidesSpec.post enc Try.prog Try.f4 false true false false) := by
  refine returnsInHanded_of_change (C := Try.checked) own started (by kernel_rfl) Try.func4
    (ChangeSpec.witness6 (enc := enc) (C := Try.checked) false ⟨#[], #[.slice none 0 0, .slice none 0 0], []⟩ 8 (by kernel_rfl) (by kernel_rfl) (by kernel_rfl) (by kernel_rfl)) ?_
  intro W base args ds gs before hval0 hW hcnd _
  have hval : ∀ (j : Nat) t v, Try.f4.params[j]? = some t → args[j]? = some v → Value.okWide Try.prog W .any base t v := hval0
  have hW' := hW
  obtain ⟨p, q, hA0, hV, rfl, hfz, hnd⟩ := hW
  have hA : DataW.TrodAll enc Try.prog W 0 (fun _ => true) true Try.f4.params.toList args.toList ds p := hA0
  rw [Try.params4] at hA hval
  obtain ⟨v0, vs0, d0, ds0, p0, q0, hargs, rfl, rfl, h0, r0⟩ := trodAll_cons hA
  obtain ⟨v1, vs1, d1, ds1, p1, q1, rfl, rfl, rfl, h1, r1⟩ := trodAll_cons r0
  obtain ⟨rfl, rfl, rfl⟩ := trodAll_nil r1
  obtain rfl : args = #[v0, v1] := by cases args; simp_all
  obtain ⟨rfl, rfl⟩ := trodVars_none hV
  have k0 := h0
  have lt0 : ∀ x ∈ p0, x.block < W.heap.size := by obtain ⟨m, hm⟩ := k0; exact DataW.trod_lt m _ _ _ hm
  obtain ⟨a0, len0, cap0, rfl⟩ := okWide_slice Try.underlying28 (hval 0 28 v0 rfl rfl)
  obtain ⟨b0, H0⟩ : ∃ l, Bs W (.slice a0 len0 cap0) l := by
    obtain ⟨fuel, hf⟩ := h0
    rcases open_ints Try.underlying28 Try.underlying5 (by kernel_rfl) hf with ⟨hcs, _⟩ | ⟨x, l, c, zs, hcs, _, hl, hm, hz, _, hcell, hwz⟩
    · simp [Value.cells] at hcs
      obtain ⟨rfl, rfl, rfl⟩ := hcs
      exact ⟨[], Row.nil W⟩
    · simp [Value.cells] at hcs
      obtain ⟨rfl, rfl, rfl⟩ := hcs
      exact bs_open hl hm (by simpa using hz) hcell hwz
  have k1 := h1
  have lt1 : ∀ x ∈ p1, x.block < W.heap.size := by obtain ⟨m, hm⟩ := k1; exact DataW.trod_lt m _ _ _ hm
  obtain ⟨a1, len1, cap1, rfl⟩ := okWide_slice Try.underlying28 (hval 1 28 v1 rfl rfl)
  obtain ⟨b1, H1⟩ : ∃ l, Bs W (.slice a1 len1 cap1) l := by
    obtain ⟨fuel, hf⟩ := h1
    rcases open_ints Try.underlying28 Try.underlying5 (by kernel_rfl) hf with ⟨hcs, _⟩ | ⟨x, l, c, zs, hcs, _, hl, hm, hz, _, hcell, hwz⟩
    · simp [Value.cells] at hcs
      obtain ⟨rfl, rfl, rfl⟩ := hcs
      exact ⟨[], Row.nil W⟩
    · simp [Value.cells] at hcs
      obtain ⟨rfl, rfl, rfl⟩ := hcs
      exact bs_open hl hm (by simpa using hz) hcell hwz
  clear hA0 hval0
  refine Calls.mono (BucketHides_c (.slice a0 len0 cap0) b0 (.slice a1 len1 cap1) b1 W H0 H1) fun e W' ⟨v', he, hv, bel⟩ => ?_
  subst he
  subst hv
  exact ⟨_, rfl, _, _, _, [], _, [], hW', trodAll_mk1 (shut_bool Try.underlying4 _), (trodAll_cons_mk (Below.trod laidOut (by kernel_rfl) (of_decide_eq_true (by kernel_rfl)) k0 bel lt0) (trodAll_cons_mk (Below.trod laidOut (by kernel_rfl) (of_decide_eq_true (by kernel_rfl)) k1 bel lt1) trodAll_mk0)), rfl, bel.frame _, fun h => by cases h⟩
theorem over : Rows.bucketHidesRow.holds Try.pinned (OpenSpec.ofChange Rows.bucketHidesSpec) :=
  OpenClaim.holds_of_wide 4 Try.f4 rfl rfl rfl rfl rfl rfl rfl ⟨rfl, rfl, rfl, rfl, rfl⟩ rfl rfl rfl rfl rfl (by kernel_rfl) Try.func4 (by kernel_rfl)
    (of_decide_eq_true (by kernel_rfl)) (by unfold Func.isWrapper; first | (rw [if_pos (by decide +kernel)]; kernel_rfl) | (rw [if_neg (by decide +kernel)]; exact ⟨rfl, rfl⟩))
    (fun os started H enc _ => lifted os started H enc)
end Go.Proofs.Ytlfjgikkaffmaaa.bucketHides
namespace Go.Proofs.Ytlfjgikkaffmaaa
theorem BucketHides_holds : Rows.BucketHidesSaid := bucketHides.over
end Go.Proofs.Ytlfjgikkaffmaaa
