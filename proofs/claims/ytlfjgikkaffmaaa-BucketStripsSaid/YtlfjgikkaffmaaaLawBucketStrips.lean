/-
  Any bytes are a text in its bucket just if the document says so.
  Its conditions: none: whatever the input, in whatever memory.
-/
import Derived.Test.YtlfjgikkaffmaaaRows
import Derived.Test.YtlfjgikkaffmaaaWalks
import Derived.ProofKit
import Derived.OpenShut
import Derived.ShutString
import Derived.ChangeOld
set_option linter.unusedVariables false
set_option linter.unusedSimpArgs false
namespace Go.Proofs.Ytlfjgikkaffmaaa.bucketStrips
open Go.ChangeShapes Go.WideShapes Go.ChangeAt Go.RowKit Go.Ecal
open Go.ChangeMaps (open_string shut_string)
theorem BucketStrips_c (v0 : Value) (b : List UInt8) (w : World) (H0 : Bs w v0 b) : Ret Try.prog 6 [v0] w fun v w' => v = .bool true ∧ Below w.heap.size w w' := by
  have hl := H0.len_le
  simp only [List.length_map] at hl
  refine ret_E Try.func6 rfl Try.ntmps6 (by simp) ?_
  refine EC_seq ?_
  refine EC_reg ?_
  refine EL_val (.bool false) w rfl (r_assign rfl) ?_
  refine EL_nil ?_
  refine thn_n ?_
  refine EC_seq ?_
  refine EC_seq ?_
  refine EC_reg ?_
  refine EL_ret [] rfl Try.func9 rfl nm9 rfl (anchor_c w) ?_
  rintro _ w1 ⟨rfl, B2⟩
  have B3 : Below w.heap.size w w1 := B2
  refine EL_val (.bool false) w1 rfl (r_dec (show (!true) = false from rfl) (r_not rfl)) ?_
  refine EL_nil ?_
  refine thn_n ?_
  refine EC_cond_false rfl ?_
  refine EC_skip ?_
  refine thn_n ?_
  refine EC_seq ?_
  refine EC_seq ?_
  refine EC_reg ?_
  refine EL_val v0 w1 rfl (r_move rfl) ?_
  refine EL_val (.int .i64 (b.length : Int)) w1 rfl (lenB (r_len rfl (H0.below B3) Try.underlying28)) ?_
  refine EL_val (.bool (decide (2500 < (b.length : Int)))) w1 rfl (r_gtr rfl rfl) ?_
  refine EL_nil ?_
  refine thn_n ?_
  refine EC_if (p := 2500 < (b.length : Int)) rfl (fun h4 => ?_) (fun h4 => ?_)
  · refine EC_seq ?_
    refine EC_reg ?_
    refine EL_val (.bool true) w1 rfl (r_assign rfl) ?_
    refine EL_nil ?_
    refine thn_n ?_
    refine EC_ret ?_
    refine thn_r ?_
    refine fin1 Try.results6 (show _ = .bool true from rfl) ⟨_, rfl, ?_⟩
    exact ⟨rfl, B3⟩
  · refine EC_skip ?_
    refine thn_n ?_
    refine EC_seq ?_
    rcases hs : bstrip b with _ | t
    · refine EC_reg ?_
      refine EL_val v0 w1 rfl (r_move rfl) ?_
      refine EL_ret [v0] rfl Try.func13 rfl nm13 rfl (strip_none v0 b w1 (H0.below B3) hs) ?_
      rintro _ w5 ⟨rfl, B6⟩
      have B7 : Below w.heap.size w w5 := below_full B3 B3.size B6
      have B8 : Below w1.heap.size w1 w5 := B6
      refine EL_val (.tuple #[.slice none 0 0, .int .i64 10]) w5 rfl (r_move rfl) ?_
      refine EL_val (.slice none 0 0) w5 rfl (r_extract rfl rfl) ?_
      refine EL_val (.int .i64 10) w5 rfl (r_extract rfl rfl) ?_
      refine EL_val (.slice none 0 0) w5 rfl (r_assign rfl) ?_
      refine EL_val (.int .i64 10) w5 rfl (r_assign rfl) ?_
      refine EL_nil ?_
      refine thn_n ?_
      refine EC_seq ?_
      refine EC_reg ?_
      refine EL_val v0 w5 rfl (r_move rfl) ?_
      refine EL_ret [v0] rfl Try.func15 rfl nm15 rfl (rstrip_none v0 b w5 (H0.below B7) hs) ?_
      rintro _ w9 ⟨rfl, B10⟩
      have B11 : Below w.heap.size w w9 := below_full B7 B7.size B10
      have B12 : Below w1.heap.size w1 w9 := below_full B8 B8.size B10
      have B13 : Below w5.heap.size w5 w9 := B10
      refine EL_val (.tuple #[.slice none 0 0, .bool false]) w9 rfl (r_move rfl) ?_
      refine EL_val (.slice none 0 0) w9 rfl (r_extract rfl rfl) ?_
      refine EL_val (.bool false) w9 rfl (r_extract rfl rfl) ?_
      refine EL_val (.slice none 0 0) w9 rfl (r_assign rfl) ?_
      refine EL_val (.bool false) w9 rfl (r_assign rfl) ?_
      refine EL_nil ?_
      refine thn_n ?_
      refine EC_seq ?_
      refine EC_seq ?_
      refine EC_reg ?_
      refine EL_val (.bool false) w9 rfl (r_move rfl) ?_
      refine EL_val (.bool true) w9 rfl (r_dec (show (!false) = true from rfl) (r_not rfl)) ?_
      refine EL_nil ?_
      refine thn_n ?_
      refine EC_cond_true rfl ?_
      refine EC_seq ?_
      refine EC_reg ?_
      refine EL_val (.int .i64 10) w9 rfl (r_move rfl) ?_
      refine EL_val (.bool true) w9 rfl (r_dec (by decide) (r_eql rfl rfl)) ?_
      refine EL_val (.bool true) w9 rfl (r_move rfl) ?_
      refine EL_gval 26 rfl rfl rfl rfl (.slice none 0 0) w9 rfl (r_move rfl) ?_
      refine EL_gval 26 rfl rfl rfl rfl (.int .i64 (([] : List UInt8).length : Int)) w9 rfl (lenB (r_len rfl (Row.nil _) Try.underlying28)) ?_
      refine EL_gval 26 rfl rfl rfl rfl (.bool true) w9 rfl (r_dec (show (decide ((([] : List UInt8).length : Int) = 0)) = true from by simp) (r_eql rfl rfl)) ?_
      refine EL_val (.bool true) w9 rfl (r_pickT rfl rfl) ?_
      refine EL_val (.bool true) w9 rfl (r_assign rfl) ?_
      refine EL_nil ?_
      refine thn_n ?_
      refine EC_ret ?_
      refine thn_r ?_
      refine fin1 Try.results6 (show _ = .bool true from rfl) ⟨_, rfl, ?_⟩
      exact ⟨rfl, B11⟩
    · refine EC_reg ?_
      refine EL_val v0 w1 rfl (r_move rfl) ?_
      refine EL_ret [v0] rfl Try.func13 rfl nm13 rfl (strip_some v0 b t w1 (H0.below B3) hs) ?_
      rintro _ w17 ⟨p14, rfl, O15, B16⟩
      have B18 : Below w.heap.size w w17 := below_full B3 B3.size B16
      have B19 : Below w1.heap.size w1 w17 := B16
      refine EL_val (.tuple #[p14, .int .i64 0]) w17 rfl (r_move rfl) ?_
      refine EL_val p14 w17 rfl (r_extract rfl rfl) ?_
      refine EL_val (.int .i64 0) w17 rfl (r_extract rfl rfl) ?_
      refine EL_val p14 w17 rfl (r_assign rfl) ?_
      refine EL_val (.int .i64 0) w17 rfl (r_assign rfl) ?_
      refine EL_nil ?_
      refine thn_n ?_
      refine EC_seq ?_
      refine EC_reg ?_
      refine EL_val v0 w17 rfl (r_move rfl) ?_
      refine EL_ret [v0] rfl Try.func15 rfl nm15 rfl (rstrip_some v0 b t w17 (H0.below B18) hs) ?_
      rintro _ w23 ⟨p20, rfl, O21, B22⟩
      have B24 : Below w.heap.size w w23 := below_full B18 B18.size B22
      have B25 : Below w1.heap.size w1 w23 := below_full B19 B19.size B22
      have B26 : Below w17.heap.size w17 w23 := B22
      refine EL_val (.tuple #[p20, .bool true]) w23 rfl (r_move rfl) ?_
      refine EL_val p20 w23 rfl (r_extract rfl rfl) ?_
      refine EL_val (.bool true) w23 rfl (r_extract rfl rfl) ?_
      refine EL_val p20 w23 rfl (r_assign rfl) ?_
      refine EL_val (.bool true) w23 rfl (r_assign rfl) ?_
      refine EL_nil ?_
      refine thn_n ?_
      refine EC_seq ?_
      refine EC_seq ?_
      refine EC_reg ?_
      refine EL_val (.bool true) w23 rfl (r_move rfl) ?_
      refine EL_val (.bool false) w23 rfl (r_dec (show (!true) = false from rfl) (r_not rfl)) ?_
      refine EL_nil ?_
      refine thn_n ?_
      refine EC_cond_false rfl ?_
      refine EC_skip ?_
      refine thn_n ?_
      refine EC_seq ?_
      refine EC_reg ?_
      refine EL_val (.int .i64 0) w23 rfl (r_move rfl) ?_
      refine EL_val (.bool true) w23 rfl (r_dec (by decide) (r_eql rfl rfl)) ?_
      refine EL_val (.bool true) w23 rfl (r_move rfl) ?_
      refine EL_gval 33 rfl rfl rfl rfl p14 w23 rfl (r_move rfl) ?_
      refine EL_gval 33 rfl rfl rfl rfl (.string (str t)) w23 rfl (r_str rfl ((own_row O15).below B26) Try.underlying28 Try.underlying5 Try.underlying9) ?_
      refine EL_gval 33 rfl rfl rfl rfl p20 w23 rfl (r_move rfl) ?_
      refine EL_gval 33 rfl rfl rfl rfl (.string (str t)) w23 rfl (r_str rfl O21 Try.underlying28 Try.underlying5 Try.underlying9) ?_
      refine EL_gval 33 rfl rfl rfl rfl (.bool true) w23 rfl (r_dec (show (decide (t = t)) = true from by simp) (r_eqls rfl rfl)) ?_
      refine EL_val (.bool true) w23 rfl (r_pickT rfl rfl) ?_
      refine EL_val (.bool true) w23 rfl (r_assign rfl) ?_
      refine EL_nil ?_
      refine thn_n ?_
      refine EC_ret ?_
      refine fin1 Try.results6 (show _ = .bool true from rfl) ⟨_, rfl, ?_⟩
      exact ⟨rfl, B24⟩
theorem own : ownKnob Try.prog.godebug = none := by kernel_rfl
theorem laidOut : laidOutB Try.prog = true := by kernel_rfl
set_option maxRecDepth 100000 in
theorem lifted (os : Os) (started : os.Started) (H : Type) (enc : TypeId × Value → H) :
    ReturnsInHanded {} Try.checked os 6 .any (Rows.bucketStripsSpec.pre6 enc Try.prog Try.f6 Rows.bucketStripsRow.domain false) (Rows.bucketStripsSpec.post enc Try.prog Try.f6 false true false false) := by
  refine returnsInHanded_of_change (C := Try.checked) own started (by kernel_rfl) Try.func6
    (ChangeSpec.witness6 (enc := enc) (C := Try.checked) false ⟨#[], #[.slice none 0 0], []⟩ 8 (by kernel_rfl) (by kernel_rfl) (by kernel_rfl) (by kernel_rfl)) ?_
  intro W base args ds gs before hval0 hW hcnd _
  have hval : ∀ (j : Nat) t v, Try.f6.params[j]? = some t → args[j]? = some v → Value.okWide Try.prog W .any base t v := hval0
  have hW' := hW
  obtain ⟨p, q, hA0, hV, rfl, hfz, hnd⟩ := hW
  have hA : DataW.TrodAll enc Try.prog W 0 (fun _ => true) true Try.f6.params.toList args.toList ds p := hA0
  rw [Try.params6] at hA hval
  obtain ⟨v0, vs0, d0, ds0, p0, q0, hargs, rfl, rfl, h0, r0⟩ := trodAll_cons hA
  obtain ⟨rfl, rfl, rfl⟩ := trodAll_nil r0
  obtain rfl : args = #[v0] := by cases args; simp_all
  obtain ⟨rfl, rfl⟩ := trodVars_none hV
  have k0 := h0
  have lt0 : ∀ x ∈ p0, x.block < W.heap.size := by obtain ⟨m, hm⟩ := k0; exact DataW.trod_lt m _ _ _ hm
  obtain ⟨a0, len0, cap0, rfl⟩ := okWide_slice Try.underlying28 (hval 0 28 v0 rfl rfl)
  obtain ⟨b0, H0⟩ : ∃ l, Bs W (.slice a0 len0 cap0) l := by
    obtain ⟨fuel, hf⟩ := h0
    rcases open_ints Try.underlying28 Try.underlying5 (by kernel_rfl) hf with ⟨hcs, _⟩ | ⟨x, l, c, zs, hcs, _, hl, hm, hz, _, hcell, hwz⟩
    · simp [Value.cells] at hcs
      obtain ⟨rfl, rfl, rfl⟩ := hcs
      exact ⟨[], Row.nil W⟩
    · simp [Value.cells] at hcs
      obtain ⟨rfl, rfl, rfl⟩ := hcs
      exact bs_open hl hm (by simpa using hz) hcell hwz
  clear hA0 hval0
  refine Calls.mono (BucketStrips_c (.slice a0 len0 cap0) b0 W H0) fun e W' ⟨v', he, hv, bel⟩ => ?_
  subst he
  subst hv
  exact ⟨_, rfl, _, _, _, [], _, [], hW', trodAll_mk1 (shut_bool Try.underlying4 _), (trodAll_cons_mk (Below.trod laidOut (by kernel_rfl) (of_decide_eq_true (by kernel_rfl)) k0 bel lt0) trodAll_mk0), rfl, bel.frame _, fun h => by cases h⟩
theorem over : Rows.bucketStripsRow.holds Try.pinned (OpenSpec.ofChange Rows.bucketStripsSpec) :=
  OpenClaim.holds_of_wide 6 Try.f6 rfl rfl rfl rfl rfl rfl rfl ⟨rfl, rfl, rfl, rfl, rfl⟩ rfl rfl rfl rfl rfl (by kernel_rfl) Try.func6 (by kernel_rfl)
    (of_decide_eq_true (by kernel_rfl)) (by unfold Func.isWrapper; first | (rw [if_pos (by decide +kernel)]; kernel_rfl) | (rw [if_neg (by decide +kernel)]; exact ⟨rfl, rfl⟩))
    (fun os started H enc _ => lifted os started H enc)
end Go.Proofs.Ytlfjgikkaffmaaa.bucketStrips
namespace Go.Proofs.Ytlfjgikkaffmaaa
theorem BucketStrips_holds : Rows.BucketStripsSaid := bucketStrips.over
end Go.Proofs.Ytlfjgikkaffmaaa
