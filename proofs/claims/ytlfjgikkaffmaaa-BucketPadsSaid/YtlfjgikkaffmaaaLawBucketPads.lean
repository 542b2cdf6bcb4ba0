/-
  Any text is put into the document's bucket, or none; it is taken out again.
  Its conditions: none: whatever the input, in whatever memory.
-/
import Derived.Test.YtlfjgikkaffmaaaRows
import Derived.Test.YtlfjgikkaffmaaaWalks
import Derived.ProofKit
import Derived.OpenShut
import Derived.ShutString
import Derived.ChangeOld
set_option linter.unusedVariables false
set_option linter.unusedSimpArgs false
namespace Go.Proofs.Ytlfjgikkaffmaaa.bucketPads
open Go.ChangeShapes Go.WideShapes Go.ChangeAt Go.RowKit Go.Ecal
open Go.ChangeMaps (open_string shut_string)
theorem BucketPads_c (v0 : Value) (b : List UInt8) (w : World) (H0 : Bs w v0 b) : Ret Try.prog 5 [v0] w fun v w' => v = .bool true ∧ Below w.heap.size w w' := by
  have hl := H0.len_le
  simp only [List.length_map] at hl
  refine ret_E Try.func5 rfl Try.ntmps5 (by simp) ?_
  refine EC_seq ?_
  refine EC_reg ?_
  refine EL_val (.bool false) w rfl (r_assign rfl) ?_
  refine EL_nil ?_
  refine thn_n ?_
  refine EC_seq ?_
  refine EC_seq ?_
  refine EC_reg ?_
  refine EL_ret [] rfl Try.func9 rfl nm9 rfl (anchor_c w) ?_
  rintro _ w1 ⟨rfl, B2⟩
  have B3 : Below w.heap.size w w1 := B2
  refine EL_val (.bool false) w1 rfl (r_dec (show (!true) = false from rfl) (r_not rfl)) ?_
  refine EL_nil ?_
  refine thn_n ?_
  refine EC_cond_false rfl ?_
  refine EC_skip ?_
  refine thn_n ?_
  refine EC_seq ?_
  refine EC_seq ?_
  refine EC_reg ?_
  refine EL_val v0 w1 rfl (r_move rfl) ?_
  refine EL_val (.int .i64 (b.length : Int)) w1 rfl (lenB (r_len rfl (H0.below B3) Try.underlying28)) ?_
  refine EL_val (.bool (decide (2500 < (b.length : Int)))) w1 rfl (r_gtr rfl rfl) ?_
  refine EL_nil ?_
  refine thn_n ?_
  refine EC_if (p := 2500 < (b.length : Int)) rfl (fun h4 => ?_) (fun h4 => ?_)
  · refine EC_seq ?_
    refine EC_reg ?_
    refine EL_val (.bool true) w1 rfl (r_assign rfl) ?_
    refine EL_nil ?_
    refine thn_n ?_
    refine EC_ret ?_
    refine thn_r ?_
    refine fin1 Try.results5 (show _ = .bool true from rfl) ⟨_, rfl, ?_⟩
    exact ⟨rfl, B3⟩
  · refine EC_skip ?_
    refine thn_n ?_
    refine EC_seq ?_
    by_cases c46 : b.length ≤ 2046
    · refine EC_reg ?_
      refine EL_val v0 w1 rfl (r_move rfl) ?_
      refine EL_ret [v0] rfl Try.func12 rfl nm12 rfl (pad_ok v0 b w1 (H0.below B3) (by first | omega | (simp; done) | (simp; omega))) ?_
      rintro _ w8 ⟨p5, rfl, O6, B7⟩
      have B9 : Below w.heap.size w w8 := below_full B3 B3.size B7
      have B10 : Below w1.heap.size w1 w8 := B7
      refine EL_val (.tuple #[p5, .int .i64 0]) w8 rfl (r_move rfl) ?_
      refine EL_val p5 w8 rfl (r_extract rfl rfl) ?_
      refine EL_val (.int .i64 0) w8 rfl (r_extract rfl rfl) ?_
      refine EL_val p5 w8 rfl (r_assign rfl) ?_
      refine EL_val (.int .i64 0) w8 rfl (r_assign rfl) ?_
      refine EL_nil ?_
      refine thn_n ?_
      refine EC_seq ?_
      refine EC_seq ?_
      refine EC_reg ?_
      refine EL_val v0 w8 rfl (r_move rfl) ?_
      refine EL_val (.int .i64 (b.length : Int)) w8 rfl (lenB (r_len rfl (H0.below B9) Try.underlying28)) ?_
      refine EL_val (.bool (decide (2046 < (b.length : Int)))) w8 rfl (r_gtr rfl rfl) ?_
      refine EL_nil ?_
      refine thn_n ?_
      refine EC_cond_false (Eq.trans (show _ = Value.bool (decide (2046 < (b.length : Int))) from rfl) (congrArg Value.bool (show (decide (2046 < (b.length : Int))) = false from by simp; omega))) ?_
      refine EC_skip ?_
      refine thn_n ?_
      refine EC_seq ?_
      refine EC_reg ?_
      refine EL_val p5 w8 rfl (r_move rfl) ?_
      refine EL_ret [p5] rfl Try.func13 rfl nm13 rfl (strip_some p5 (bpad b) b w8 (own_row O6) (bstrip_bpad (by omega))) ?_
      rintro _ w14 ⟨p11, rfl, O12, B13⟩
      have B15 : Below w.heap.size w w14 := below_full B9 B9.size B13
      have B16 : Below w1.heap.size w1 w14 := below_full B10 B10.size B13
      have B17 : Below w8.heap.size w8 w14 := B13
      refine EL_val (.tuple #[p11, .int .i64 0]) w14 rfl (r_move rfl) ?_
      refine EL_val p11 w14 rfl (r_extract rfl rfl) ?_
      refine EL_val (.int .i64 0) w14 rfl (r_extract rfl rfl) ?_
      refine EL_val p11 w14 rfl (r_assign rfl) ?_
      refine EL_val (.int .i64 0) w14 rfl (r_assign rfl) ?_
      refine EL_nil ?_
      refine thn_n ?_
      refine EC_seq ?_
      refine EC_held (fun w' => Below w14.heap.size w14 w') (by kernel_rfl) ?_
      intro w18 B19 z20
      have B21 : Below w.heap.size w w18 := below_full B15 B15.size B19
      have B22 : Below w1.heap.size w1 w18 := below_full B16 B16.size B19
      have B23 : Below w8.heap.size w8 w18 := below_full B17 B17.size B19
      have B24 : Below w14.heap.size w14 w18 := B19
      refine EA_strong (fun w' => Below w18.heap.size w18 w') (fun _ hw => below_full B24 B24.size hw) ?_
      refine EA_take 0 rfl (by kernel_rfl) (by kernel_rfl) (by kernel_rfl) (.int .i64 0) rfl (fun _ hw => r_move rfl) (Below.refl _ _) ?_
      refine EA_take 1 rfl (by kernel_rfl) (by kernel_rfl) (by kernel_rfl) (.bool true) rfl (fun _ hw => r_dec (by decide) (r_eql rfl rfl)) (Below.refl _ _) ?_
      refine EA_take 2 rfl (by kernel_rfl) (by kernel_rfl) (by kernel_rfl) (.bool true) rfl (fun _ hw => r_move rfl) (Below.refl _ _) ?_
      refine EA_gtake 3 rfl (by kernel_rfl) (by kernel_rfl) (by kernel_rfl) 34 rfl rfl rfl rfl p5 rfl (fun _ hw => r_move rfl) (Below.refl _ _) ?_
      refine EA_gtake 4 rfl (by kernel_rfl) (by kernel_rfl) (by kernel_rfl) 34 rfl rfl rfl rfl (.string (str (bpad b))) rfl (fun _ hw => r_str rfl (((own_row O6).below B23).below hw) Try.underlying28 Try.underlying5 Try.underlying9) (Below.refl _ _) ?_
      refine EA_gtake 5 rfl (by kernel_rfl) (by kernel_rfl) (by kernel_rfl) 34 rfl rfl rfl rfl v0 rfl (fun _ hw => r_move rfl) (Below.refl _ _) ?_
      refine EA_call 6 rfl (by kernel_rfl) [v0] (.inr ⟨_, _, 34, rfl, rfl, rfl, rfl⟩) rfl Try.func14 rfl nm14 rfl (rpad_c v0 b w18 (H0.below B21) (by first | omega | (simp; omega))) ?_
      rintro _ w28 ⟨p25, rfl, O26, B27⟩
      have B29 : Below w.heap.size w w28 := below_full B21 B21.size B27
      have B30 : Below w1.heap.size w1 w28 := below_full B22 B22.size B27
      have B31 : Below w8.heap.size w8 w28 := below_full B23 B23.size B27
      have B32 : Below w14.heap.size w14 w28 := below_full B24 B24.size B27
      have B33 : Below w18.heap.size w18 w28 := B27
      refine ⟨B33, ?_⟩
      refine EA_strong (fun w' => Below w28.heap.size w28 w') (fun _ hw => below_full B33 B33.size hw) ?_
      refine EA_gtake 7 rfl (by kernel_rfl) (by kernel_rfl) (by kernel_rfl) 34 rfl rfl rfl rfl (.string (str (bpad b))) rfl (fun _ hw => r_str rfl ((own_row O26).below hw) Try.underlying28 Try.underlying5 Try.underlying9) (Below.refl _ _) ?_
      refine EA_gtake 8 rfl (by kernel_rfl) (by kernel_rfl) (by kernel_rfl) 34 rfl rfl rfl rfl (.bool true) rfl (fun _ hw => r_dec (show (decide ((bpad b) = (bpad b))) = true from by simp) (r_eqls rfl rfl)) (Below.refl _ _) ?_
      refine EA_take 9 rfl (by kernel_rfl) (by kernel_rfl) (by kernel_rfl) (.bool true) rfl (fun _ hw => r_pickT rfl rfl) (Below.refl _ _) ?_
      refine EA_take 10 rfl (by kernel_rfl) (by kernel_rfl) (by kernel_rfl) (.bool true) rfl (fun _ hw => r_move rfl) (Below.refl _ _) ?_
      refine EA_gtake 11 rfl (by kernel_rfl) (by kernel_rfl) (by kernel_rfl) 42 rfl rfl rfl rfl (.int .i64 0) rfl (fun _ hw => r_move rfl) (Below.refl _ _) ?_
      refine EA_gtake 12 rfl (by kernel_rfl) (by kernel_rfl) (by kernel_rfl) 42 rfl rfl rfl rfl (.bool true) rfl (fun _ hw => r_dec (by decide) (r_eql rfl rfl)) (Below.refl _ _) ?_
      refine EA_take 13 rfl (by kernel_rfl) (by kernel_rfl) (by kernel_rfl) (.bool true) rfl (fun _ hw => r_pickT rfl rfl) (Below.refl _ _) ?_
      refine EA_take 14 rfl (by kernel_rfl) (by kernel_rfl) (by kernel_rfl) (.bool true) rfl (fun _ hw => r_move rfl) (Below.refl _ _) ?_
      refine EA_gtake 15 rfl (by kernel_rfl) (by kernel_rfl) (by kernel_rfl) 46 rfl rfl rfl rfl p11 rfl (fun _ hw => r_move rfl) (Below.refl _ _) ?_
      refine EA_gtake 16 rfl (by kernel_rfl) (by kernel_rfl) (by kernel_rfl) 46 rfl rfl rfl rfl (.string (str b)) rfl (fun _ hw => r_str rfl (((own_row O12).below B32).below hw) Try.underlying28 Try.underlying5 Try.underlying9) (Below.refl _ _) ?_
      refine EA_gtake 17 rfl (by kernel_rfl) (by kernel_rfl) (by kernel_rfl) 46 rfl rfl rfl rfl v0 rfl (fun _ hw => r_move rfl) (Below.refl _ _) ?_
      refine EA_gtake 18 rfl (by kernel_rfl) (by kernel_rfl) (by kernel_rfl) 46 rfl rfl rfl rfl (.string (str b)) rfl (fun _ hw => r_str rfl ((H0.below B29).below hw) Try.underlying28 Try.underlying5 Try.underlying9) (Below.refl _ _) ?_
      refine EA_gtake 19 rfl (by kernel_rfl) (by kernel_rfl) (by kernel_rfl) 46 rfl rfl rfl rfl (.bool true) rfl (fun _ hw => r_dec (show (decide (b = b)) = true from by simp) (r_eqls rfl rfl)) (Below.refl _ _) ?_
      refine EA_take 20 rfl (by kernel_rfl) (by kernel_rfl) (by kernel_rfl) (.bool true) rfl (fun _ hw => r_pickT rfl rfl) (Below.refl _ _) ?_
      refine EA_take 21 rfl (by kernel_rfl) (by kernel_rfl) (by kernel_rfl) (.bool true) rfl (fun _ hw => r_assign rfl) (Below.refl _ _) ?_
      refine EA_done (by kernel_rfl) ?_
      refine thn_n ?_
      refine EC_ret ?_
      refine fin1 Try.results5 (show _ = .bool true from rfl) ⟨_, rfl, ?_⟩
      exact ⟨rfl, B29⟩
    · refine EC_reg ?_
      refine EL_val v0 w1 rfl (r_move rfl) ?_
      refine EL_ret [v0] rfl Try.func12 rfl nm12 rfl (pad_no v0 b w1 (H0.below B3) (by omega)) ?_
      rintro _ _ ⟨rfl, rfl⟩
      refine EL_val (.tuple #[.slice none 0 0, .int .i64 11]) w1 rfl (r_move rfl) ?_
      refine EL_val (.slice none 0 0) w1 rfl (r_extract rfl rfl) ?_
      refine EL_val (.int .i64 11) w1 rfl (r_extract rfl rfl) ?_
      refine EL_val (.slice none 0 0) w1 rfl (r_assign rfl) ?_
      refine EL_val (.int .i64 11) w1 rfl (r_assign rfl) ?_
      refine EL_nil ?_
      refine thn_n ?_
      refine EC_seq ?_
      refine EC_seq ?_
      refine EC_reg ?_
      refine EL_val v0 w1 rfl (r_move rfl) ?_
      refine EL_val (.int .i64 (b.length : Int)) w1 rfl (lenB (r_len rfl (H0.below B3) Try.underlying28)) ?_
      refine EL_val (.bool (decide (2046 < (b.length : Int)))) w1 rfl (r_gtr rfl rfl) ?_
      refine EL_nil ?_
      refine thn_n ?_
      refine EC_cond_true (Eq.trans (show _ = Value.bool (decide (2046 < (b.length : Int))) from rfl) (congrArg Value.bool (show (decide (2046 < (b.length : Int))) = true from by simp; omega))) ?_
      refine EC_seq ?_
      refine EC_reg ?_
      refine EL_val (.int .i64 11) w1 rfl (r_move rfl) ?_
      refine EL_val (.bool true) w1 rfl (r_dec (by decide) (r_eql rfl rfl)) ?_
      refine EL_val (.bool true) w1 rfl (r_move rfl) ?_
      refine EL_gval 22 rfl rfl rfl rfl (.slice none 0 0) w1 rfl (r_move rfl) ?_
      refine EL_gval 22 rfl rfl rfl rfl (.int .i64 (([] : List UInt8).length : Int)) w1 rfl (lenB (r_len rfl (Row.nil _) Try.underlying28)) ?_
      refine EL_gval 22 rfl rfl rfl rfl (.bool true) w1 rfl (r_dec (show (decide ((([] : List UInt8).length : Int) = 0)) = true from by simp) (r_eql rfl rfl)) ?_
      refine EL_val (.bool true) w1 rfl (r_pickT rfl rfl) ?_
      refine EL_val (.bool true) w1 rfl (r_assign rfl) ?_
      refine EL_nil ?_
      refine thn_n ?_
      refine EC_ret ?_
      refine thn_r ?_
      refine fin1 Try.results5 (show _ = .bool true from rfl) ⟨_, rfl, ?_⟩
      exact ⟨rfl, B3⟩
theorem own : ownKnob Try.prog.godebug = none := by kernel_rfl
theorem laidOut : laidOutB Try.prog = true := by kernel_rfl
set_option maxRecDepth 100000 in
theorem lifted (os : Os) (started : os.Started) (H : Type) (enc : TypeId × Value → H) :
    ReturnsInHanded {} Try.checked os 5 .any (Rows.bucketPadsSpec.pre6 enc Try.prog Try.f5 Rows.bucketPadsRow.domain false) (Rows.bucketPadsSpec.post enc Try.prog Try.f5 false true false false) := by
  refine returnsInHanded_of_change (C := Try.checked) own started (by kernel_rfl) Try.func5
    (ChangeSpec.witness6 (enc := enc) (C := Try.checked) false ⟨#[], #[.slice none 0 0], []⟩ 8 (by kernel_rfl) (by kernel_rfl) (by kernel_rfl) (by kernel_rfl)) ?_
  intro W base args ds gs before hval0 hW hcnd _
  have hval : ∀ (j : Nat) t v, Try.f5.params[j]? = some t → args[j]? = some v → Value.okWide Try.prog W .any base t v := hval0
  have hW' := hW
  obtain ⟨p, q, hA0, hV, rfl, hfz, hnd⟩ := hW
  have hA : DataW.TrodAll enc Try.prog W 0 (fun _ => true) true Try.f5.params.toList args.toList ds p := hA0
  rw [Try.params5] at hA hval
  obtain ⟨v0, vs0, d0, ds0, p0, q0, hargs, rfl, rfl, h0, r0⟩ := trodAll_cons hA
  obtain ⟨rfl, rfl, rfl⟩ := trodAll_nil r0
  obtain rfl : args = #[v0] := by cases args; simp_all
  obtain ⟨rfl, rfl⟩ := trodVars_none hV
  have k0 := h0
  have lt0 : ∀ x ∈ p0, x.block < W.heap.size := by obtain ⟨m, hm⟩ := k0; exact DataW.trod_lt m _ _ _ hm
  obtain ⟨a0, len0, cap0, rfl⟩ := okWide_slice Try.underlying28 (hval 0 28 v0 rfl rfl)
  obtain ⟨b0, H0⟩ : ∃ l, Bs W (.slice a0 len0 cap0) l := by
    obtain ⟨fuel, hf⟩ := h0
    rcases open_ints Try.underlying28 Try.underlying5 (by kernel_rfl) hf with ⟨hcs, _⟩ | ⟨x, l, c, zs, hcs, _, hl, hm, hz, _, hcell, hwz⟩
    · simp [Value.cells] at hcs
      obtain ⟨rfl, rfl, rfl⟩ := hcs
      exact ⟨[], Row.nil W⟩
    · simp [Value.cells] at hcs
      obtain ⟨rfl, rfl, rfl⟩ := hcs
      exact bs_open hl hm (by simpa using hz) hcell hwz
  clear hA0 hval0
  refine Calls.mono (BucketPads_c (.slice a0 len0 cap0) b0 W H0) fun e W' ⟨v', he, hv, bel⟩ => ?_
  subst he
  subst hv
  exact ⟨_, rfl, _, _, _, [], _, [], hW', trodAll_mk1 (shut_bool Try.underlying4 _), (trodAll_cons_mk (Below.trod laidOut (by kernel_rfl) (of_decide_eq_true (by kernel_rfl)) k0 bel lt0) trodAll_mk0), rfl, bel.frame _, fun h => by cases h⟩
theorem over : Rows.bucketPadsRow.holds Try.pinned (OpenSpec.ofChange Rows.bucketPadsSpec) :=
  OpenClaim.holds_of_wide 5 Try.f5 rfl rfl rfl rfl rfl rfl rfl ⟨rfl, rfl, rfl, rfl, rfl⟩ rfl rfl rfl rfl rfl (by kernel_rfl) Try.func5 (by kernel_rfl)
    (of_decide_eq_true (by kernel_rfl)) (by unfold Func.isWrapper; first | (rw [if_pos (by decide +kernel)]; kernel_rfl) | (rw [if_neg (by decide +kernel)]; exact ⟨rfl, rfl⟩))
    (fun os started H enc _ => lifted os started H enc)
end Go.Proofs.Ytlfjgikkaffmaaa.bucketPads
namespace Go.Proofs.Ytlfjgikkaffmaaa
theorem BucketPads_holds : Rows.BucketPadsSaid := bucketPads.over
end Go.Proofs.Ytlfjgikkaffmaaa
