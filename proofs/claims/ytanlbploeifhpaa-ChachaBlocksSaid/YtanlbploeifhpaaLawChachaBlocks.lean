/-
  Of any key, counter and nonce the block is the document's, or refused.
  Its conditions: none: whatever the input, in whatever memory.
-/
import Derived.Test.YtanlbploeifhpaaRows
import Derived.Test.YtanlbploeifhpaaWalksE
import Derived.ProofKit
import Derived.OpenShut
import Derived.ShutString
import Derived.ChangeOld
set_option linter.unusedVariables false
set_option linter.unusedSimpArgs false
namespace Go.Proofs.Ytanlbploeifhpaa.chachaBlocks
open Go.ChangeShapes Go.WideShapes Go.ChangeAt Go.RowKit Go.Ecal
open Go.ChangeMaps (open_string shut_string)
set_option maxHeartbeats 2000000 in
theorem ChachaBlocks_c (v0 : Value) (k : List UInt8) (c : Int) (v1 : Value) (n : List UInt8) (w : World) (H0 : Bs w v0 k) (hc : -9223372036854775808 ≤ c ∧ c ≤ 9223372036854775807) (H1 : Bs w v1 n) : Ret Try.prog 3 [v0, .int .i64 c, v1] w fun v w' => v = .bool true ∧ Below w.heap.size w w' := by
  refine ret_E Try.func3 rfl Try.ntmps3 (by simp) ?_
  refine EC_seq ?_
  refine EC_reg ?_
  refine EL_val (.bool false) w rfl (r_assign rfl) ?_
  refine EL_nil ?_
  refine thn_n ?_
  refine EC_seq ?_
  refine EC_seq ?_
  refine EC_reg ?_
  refine EL_ret [] rfl Try.func9 rfl nm9 rfl (anchor_c w) ?_
  rintro _ w11 ⟨rfl, B12⟩
  have B13 : Below w.heap.size w w11 := B12
  refine EL_val (.bool false) w11 rfl (r_dec (show (!true) = false from rfl) (r_not rfl)) ?_
  refine EL_nil ?_
  refine thn_n ?_
  refine EC_cond_false rfl ?_
  refine EC_skip ?_
  refine thn_n ?_
  refine EC_seq ?_
  rcases chk_cases k n c with ⟨hs, he⟩ | ⟨hs, hr, he⟩ | ⟨hs, hr, he⟩
  · refine EC_reg ?_
    refine EL_val v0 w11 rfl (r_move rfl) ?_
    refine EL_val (.int .i64 c) w11 rfl (r_move rfl) ?_
    refine EL_val v1 w11 rfl (r_move rfl) ?_
    refine EL_ret [v0, .int .i64 c, v1] rfl Try.func10 rfl nm10 rfl (Block_no v0 k c v1 n w11 (H0.below B13) (H1.below B13) 11 he (by decide)) ?_
    rintro _ _ ⟨rfl, rfl⟩
    refine EL_val (.tuple #[.slice none 0 0, .int .i64 11]) w11 rfl (r_move rfl) ?_
    refine EL_val (.slice none 0 0) w11 rfl (r_extract rfl rfl) ?_
    refine EL_val (.int .i64 11) w11 rfl (r_extract rfl rfl) ?_
    refine EL_val (.slice none 0 0) w11 rfl (r_assign rfl) ?_
    refine EL_val (.int .i64 11) w11 rfl (r_assign rfl) ?_
    refine EL_nil ?_
    refine thn_n ?_
    refine EC_seq ?_
    refine EC_seq ?_
    refine EC_reg ?_
    refine EL_val v0 w11 rfl (r_move rfl) ?_
    refine EL_val (.int .i64 (k.length : Int)) w11 rfl (lenB (r_len rfl (H0.below B13) Try.underlying22)) ?_
    refine EL_val (.bool (decide ((k.length : Int) ≠ 32))) w11 rfl (r_neq rfl rfl) ?_
    refine EL_val (.bool (decide ((k.length : Int) ≠ 32))) w11 rfl (r_move rfl) ?_
    refine EL_gite 21 rfl rfl rfl v1 rfl (fun g14 => r_move rfl) ?_
    refine EL_gite 21 rfl rfl rfl (.int .i64 (n.length : Int)) rfl (fun g15 => lenB (r_len (cond_of g15 rfl) (H1.below B13) Try.underlying22)) ?_
    refine EL_gite 21 rfl rfl rfl (.bool (decide ((n.length : Int) ≠ 12))) rfl (fun g16 => r_neq (cond_of g16 rfl) rfl) ?_
    refine EL_val (.bool ((decide ((k.length : Int) ≠ 32)) || (decide ((n.length : Int) ≠ 12)))) w11 rfl (r_or rfl rfl rfl) ?_
    refine EL_nil ?_
    refine thn_n ?_
    refine EC_cond_true (Eq.trans (show _ = Value.bool ((decide ((k.length : Int) ≠ 32)) || (decide ((n.length : Int) ≠ 12))) from rfl) (congrArg Value.bool (show ((decide ((k.length : Int) ≠ 32)) || (decide ((n.length : Int) ≠ 12))) = true from by simp; omega))) ?_
    refine EC_seq ?_
    refine EC_reg ?_
    refine EL_val (.int .i64 11) w11 rfl (r_move rfl) ?_
    refine EL_val (.bool true) w11 rfl (r_dec (by decide) (r_eql rfl rfl)) ?_
    refine EL_val (.bool true) w11 rfl (r_move rfl) ?_
    refine EL_gval 28 rfl rfl rfl rfl (.slice none 0 0) w11 rfl (r_move rfl) ?_
    refine EL_gval 28 rfl rfl rfl rfl (.int .i64 (([] : List UInt8).length : Int)) w11 rfl (lenB (r_len rfl (Row.nil _) Try.underlying22)) ?_
    refine EL_gval 28 rfl rfl rfl rfl (.bool true) w11 rfl (r_dec (show (decide ((([] : List UInt8).length : Int) = 0)) = true from by simp) (r_eql rfl rfl)) ?_
    refine EL_val (.bool true) w11 rfl (r_pickT rfl rfl) ?_
    refine EL_val (.bool true) w11 rfl (r_assign rfl) ?_
    refine EL_nil ?_
    refine thn_n ?_
    refine EC_ret ?_
    refine thn_r ?_
    refine fin1 Try.results3 (show _ = .bool true from rfl) ⟨_, rfl, ?_⟩
    exact ⟨rfl, B13⟩
  · refine EC_reg ?_
    refine EL_val v0 w11 rfl (r_move rfl) ?_
    refine EL_val (.int .i64 c) w11 rfl (r_move rfl) ?_
    refine EL_val v1 w11 rfl (r_move rfl) ?_
    refine EL_ret [v0, .int .i64 c, v1] rfl Try.func10 rfl nm10 rfl (Block_no v0 k c v1 n w11 (H0.below B13) (H1.below B13) 12 he (by decide)) ?_
    rintro _ _ ⟨rfl, rfl⟩
    refine EL_val (.tuple #[.slice none 0 0, .int .i64 12]) w11 rfl (r_move rfl) ?_
    refine EL_val (.slice none 0 0) w11 rfl (r_extract rfl rfl) ?_
    refine EL_val (.int .i64 12) w11 rfl (r_extract rfl rfl) ?_
    refine EL_val (.slice none 0 0) w11 rfl (r_assign rfl) ?_
    refine EL_val (.int .i64 12) w11 rfl (r_assign rfl) ?_
    refine EL_nil ?_
    refine thn_n ?_
    refine EC_seq ?_
    refine EC_seq ?_
    refine EC_reg ?_
    refine EL_val v0 w11 rfl (r_move rfl) ?_
    refine EL_val (.int .i64 (k.length : Int)) w11 rfl (lenB (r_len rfl (H0.below B13) Try.underlying22)) ?_
    refine EL_val (.bool (decide ((k.length : Int) ≠ 32))) w11 rfl (r_neq rfl rfl) ?_
    refine EL_val (.bool (decide ((k.length : Int) ≠ 32))) w11 rfl (r_move rfl) ?_
    refine EL_gite 21 rfl rfl rfl v1 rfl (fun g17 => r_move rfl) ?_
    refine EL_gite 21 rfl rfl rfl (.int .i64 (n.length : Int)) rfl (fun g18 => lenB (r_len (cond_of g18 rfl) (H1.below B13) Try.underlying22)) ?_
    refine EL_gite 21 rfl rfl rfl (.bool (decide ((n.length : Int) ≠ 12))) rfl (fun g19 => r_neq (cond_of g19 rfl) rfl) ?_
    refine EL_val (.bool ((decide ((k.length : Int) ≠ 32)) || (decide ((n.length : Int) ≠ 12)))) w11 rfl (r_or rfl rfl rfl) ?_
    refine EL_nil ?_
    refine thn_n ?_
    refine EC_cond_false (Eq.trans (show _ = Value.bool ((decide ((k.length : Int) ≠ 32)) || (decide ((n.length : Int) ≠ 12))) from rfl) (congrArg Value.bool (show ((decide ((k.length : Int) ≠ 32)) || (decide ((n.length : Int) ≠ 12))) = false from by simp; omega))) ?_
    refine EC_skip ?_
    refine thn_n ?_
    refine EC_seq ?_
    refine EC_seq ?_
    refine EC_reg ?_
    refine EL_val (.int .i64 c) w11 rfl (r_move rfl) ?_
    refine EL_val (.bool (decide (c < 0))) w11 rfl (r_lss rfl rfl) ?_
    refine EL_val (.bool (decide (c < 0))) w11 rfl (r_move rfl) ?_
    refine EL_gite 35 rfl rfl rfl (.int .i64 c) rfl (fun g20 => r_move rfl) ?_
    refine EL_gite 35 rfl rfl rfl (.bool (decide (4294967295 < c))) rfl (fun g21 => r_gtr (cond_of g21 rfl) rfl) ?_
    refine EL_val (.bool ((decide (c < 0)) || (decide (4294967295 < c)))) w11 rfl (r_or rfl rfl rfl) ?_
    refine EL_nil ?_
    refine thn_n ?_
    refine EC_cond_true (Eq.trans (show _ = Value.bool ((decide (c < 0)) || (decide (4294967295 < c))) from rfl) (congrArg Value.bool (show ((decide (c < 0)) || (decide (4294967295 < c))) = true from by simp; omega))) ?_
    refine EC_seq ?_
    refine EC_reg ?_
    refine EL_val (.int .i64 12) w11 rfl (r_move rfl) ?_
    refine EL_val (.bool true) w11 rfl (r_dec (by decide) (r_eql rfl rfl)) ?_
    refine EL_val (.bool true) w11 rfl (r_move rfl) ?_
    refine EL_gval 41 rfl rfl rfl rfl (.slice none 0 0) w11 rfl (r_move rfl) ?_
    refine EL_gval 41 rfl rfl rfl rfl (.int .i64 (([] : List UInt8).length : Int)) w11 rfl (lenB (r_len rfl (Row.nil _) Try.underlying22)) ?_
    refine EL_gval 41 rfl rfl rfl rfl (.bool true) w11 rfl (r_dec (show (decide ((([] : List UInt8).length : Int) = 0)) = true from by simp) (r_eql rfl rfl)) ?_
    refine EL_val (.bool true) w11 rfl (r_pickT rfl rfl) ?_
    refine EL_val (.bool true) w11 rfl (r_assign rfl) ?_
    refine EL_nil ?_
    refine thn_n ?_
    refine EC_ret ?_
    refine thn_r ?_
    refine fin1 Try.results3 (show _ = .bool true from rfl) ⟨_, rfl, ?_⟩
    exact ⟨rfl, B13⟩
  · refine EC_reg ?_
    refine EL_val v0 w11 rfl (r_move rfl) ?_
    refine EL_val (.int .i64 c) w11 rfl (r_move rfl) ?_
    refine EL_val v1 w11 rfl (r_move rfl) ?_
    refine EL_ret [v0, .int .i64 c, v1] rfl Try.func10 rfl nm10 rfl (Block_ok v0 k c v1 n w11 (H0.below B13) (H1.below B13) he) ?_
    rintro _ w25 ⟨p22, rfl, O23, B24⟩
    have B26 : Below w.heap.size w w25 := below_full B13 B13.size B24
    have B27 : Below w11.heap.size w11 w25 := B24
    refine EL_val (.tuple #[p22, .int .i64 0]) w25 rfl (r_move rfl) ?_
    refine EL_val p22 w25 rfl (r_extract rfl rfl) ?_
    refine EL_val (.int .i64 0) w25 rfl (r_extract rfl rfl) ?_
    refine EL_val p22 w25 rfl (r_assign rfl) ?_
    refine EL_val (.int .i64 0) w25 rfl (r_assign rfl) ?_
    refine EL_nil ?_
    refine thn_n ?_
    refine EC_seq ?_
    refine EC_seq ?_
    refine EC_reg ?_
    refine EL_val v0 w25 rfl (r_move rfl) ?_
    refine EL_val (.int .i64 (k.length : Int)) w25 rfl (lenB (r_len rfl (H0.below B26) Try.underlying22)) ?_
    refine EL_val (.bool (decide ((k.length : Int) ≠ 32))) w25 rfl (r_neq rfl rfl) ?_
    refine EL_val (.bool (decide ((k.length : Int) ≠ 32))) w25 rfl (r_move rfl) ?_
    refine EL_gite 21 rfl rfl rfl v1 rfl (fun g28 => r_move rfl) ?_
    refine EL_gite 21 rfl rfl rfl (.int .i64 (n.length : Int)) rfl (fun g29 => lenB (r_len (cond_of g29 rfl) (H1.below B26) Try.underlying22)) ?_
    refine EL_gite 21 rfl rfl rfl (.bool (decide ((n.length : Int) ≠ 12))) rfl (fun g30 => r_neq (cond_of g30 rfl) rfl) ?_
    refine EL_val (.bool ((decide ((k.length : Int) ≠ 32)) || (decide ((n.length : Int) ≠ 12)))) w25 rfl (r_or rfl rfl rfl) ?_
    refine EL_nil ?_
    refine thn_n ?_
    refine EC_cond_false (Eq.trans (show _ = Value.bool ((decide ((k.length : Int) ≠ 32)) || (decide ((n.length : Int) ≠ 12))) from rfl) (congrArg Value.bool (show ((decide ((k.length : Int) ≠ 32)) || (decide ((n.length : Int) ≠ 12))) = false from by simp; omega))) ?_
    refine EC_skip ?_
    refine thn_n ?_
    refine EC_seq ?_
    refine EC_seq ?_
    refine EC_reg ?_
    refine EL_val (.int .i64 c) w25 rfl (r_move rfl) ?_
    refine EL_val (.bool (decide (c < 0))) w25 rfl (r_lss rfl rfl) ?_
    refine EL_val (.bool (decide (c < 0))) w25 rfl (r_move rfl) ?_
    refine EL_gite 35 rfl rfl rfl (.int .i64 c) rfl (fun g31 => r_move rfl) ?_
    refine EL_gite 35 rfl rfl rfl (.bool (decide (4294967295 < c))) rfl (fun g32 => r_gtr (cond_of g32 rfl) rfl) ?_
    refine EL_val (.bool ((decide (c < 0)) || (decide (4294967295 < c)))) w25 rfl (r_or rfl rfl rfl) ?_
    refine EL_nil ?_
    refine thn_n ?_
    refine EC_cond_false (Eq.trans (show _ = Value.bool ((decide (c < 0)) || (decide (4294967295 < c))) from rfl) (congrArg Value.bool (show ((decide (c < 0)) || (decide (4294967295 < c))) = false from by simp; omega))) ?_
    refine EC_skip ?_
    refine thn_n ?_
    refine EC_seq ?_
    refine EC_held (fun w' => Below w25.heap.size w25 w') (by kernel_rfl) ?_
    intro w33 B34 z35
    have B36 : Below w.heap.size w w33 := below_full B26 B26.size B34
    have B37 : Below w11.heap.size w11 w33 := below_full B27 B27.size B34
    have B38 : Below w25.heap.size w25 w33 := B34
    refine EA_strong (fun w' => Below w33.heap.size w33 w') (fun _ hw => below_full B38 B38.size hw) ?_
    refine EA_take 0 rfl (by kernel_rfl) (by kernel_rfl) (by kernel_rfl) (.int .i64 0) rfl (fun _ hw => r_move rfl) (Below.refl _ _) ?_
    refine EA_take 1 rfl (by kernel_rfl) (by kernel_rfl) (by kernel_rfl) (.bool true) rfl (fun _ hw => r_dec (by decide) (r_eql rfl rfl)) (Below.refl _ _) ?_
    refine EA_take 2 rfl (by kernel_rfl) (by kernel_rfl) (by kernel_rfl) (.bool true) rfl (fun _ hw => r_move rfl) (Below.refl _ _) ?_
    refine EA_gtake 3 rfl (by kernel_rfl) (by kernel_rfl) (by kernel_rfl) 48 rfl rfl rfl rfl p22 rfl (fun _ hw => r_move rfl) (Below.refl _ _) ?_
    refine EA_gtake 4 rfl (by kernel_rfl) (by kernel_rfl) (by kernel_rfl) 48 rfl rfl rfl rfl (.string (str (kb k c n))) rfl (fun _ hw => r_str rfl (((own_row O23).below B38).below hw) Try.underlying22 Try.underlying5 Try.underlying9) (Below.refl _ _) ?_
    refine EA_gtake 5 rfl (by kernel_rfl) (by kernel_rfl) (by kernel_rfl) 48 rfl rfl rfl rfl v0 rfl (fun _ hw => r_move rfl) (Below.refl _ _) ?_
    refine EA_gtake 6 rfl (by kernel_rfl) (by kernel_rfl) (by kernel_rfl) 48 rfl rfl rfl rfl (.int .i64 c) rfl (fun _ hw => r_move rfl) (Below.refl _ _) ?_
    refine EA_gtake 7 rfl (by kernel_rfl) (by kernel_rfl) (by kernel_rfl) 48 rfl rfl rfl rfl v1 rfl (fun _ hw => r_move rfl) (Below.refl _ _) ?_
    refine EA_call 8 rfl (by kernel_rfl) [v0, .int .i64 c, v1] (.inr ⟨_, _, 48, rfl, rfl, rfl, rfl⟩) rfl Try.func11 rfl nm11 rfl (rblock_c v0 k c v1 n w33 (H0.below B36) (H1.below B36) (by omega) (by omega) (by omega)) ?_
    rintro p39 w42 ⟨O40, B41⟩
    have B43 : Below w.heap.size w w42 := below_full B36 B36.size B41
    have B44 : Below w11.heap.size w11 w42 := below_full B37 B37.size B41
    have B45 : Below w25.heap.size w25 w42 := below_full B38 B38.size B41
    have B46 : Below w33.heap.size w33 w42 := B41
    refine ⟨B46, ?_⟩
    refine EA_strong (fun w' => Below w42.heap.size w42 w') (fun _ hw => below_full B46 B46.size hw) ?_
    refine EA_gtake 9 rfl (by kernel_rfl) (by kernel_rfl) (by kernel_rfl) 48 rfl rfl rfl rfl (.string (str (kb k c n))) rfl (fun _ hw => r_str rfl ((own_row O40).below hw) Try.underlying22 Try.underlying5 Try.underlying9) (Below.refl _ _) ?_
    refine EA_gtake 10 rfl (by kernel_rfl) (by kernel_rfl) (by kernel_rfl) 48 rfl rfl rfl rfl (.bool true) rfl (fun _ hw => r_dec (show (decide ((kb k c n) = (kb k c n))) = true from by simp) (r_eqls rfl rfl)) (Below.refl _ _) ?_
    refine EA_take 11 rfl (by kernel_rfl) (by kernel_rfl) (by kernel_rfl) (.bool true) rfl (fun _ hw => r_pickT rfl rfl) (Below.refl _ _) ?_
    refine EA_take 12 rfl (by kernel_rfl) (by kernel_rfl) (by kernel_rfl) (.bool true) rfl (fun _ hw => r_assign rfl) (Below.refl _ _) ?_
    refine EA_done (by kernel_rfl) ?_
    refine thn_n ?_
    refine EC_ret ?_
    refine fin1 Try.results3 (show _ = .bool true from rfl) ⟨_, rfl, ?_⟩
    exact ⟨rfl, B43⟩
theorem own : ownKnob Try.prog.godebug = none := by kernel_rfl
theorem laidOut : laidOutB Try.prog = true := by kernel_rfl
set_option maxRecDepth 100000 in
theorem lifted (os : Os) (started : os.Started) (H : Type) (enc : TypeId × Value → H) :
    ReturnsInHanded {} Try.checked os 3 .any (Rows.chachaBlocksSpec.pre6 enc Try.prog Try.f3 Rows.chachaBlocksRow.domain false) (Rows.chachaBlocksSpec.post enc Try.prog Try.f3 false true false false) := by
  refine returnsInHanded_of_change (C := Try.checked) own started (by kernel_rfl) Try.func3
    (ChangeSpec.witness6 (enc := enc) (C := Try.checked) false ⟨#[], #[.slice none 0 0, .int .i64 0, .slice none 0 0], []⟩ 8 (by kernel_rfl) (by kernel_rfl) (by kernel_rfl) (by kernel_rfl)) ?_
  intro W base args ds gs before hval0 hW hcnd _
  have hval : ∀ (j : Nat) t v, Try.f3.params[j]? = some t → args[j]? = some v → Value.okWide Try.prog W .any base t v := hval0
  have hW' := hW
  obtain ⟨p, q, hA0, hV, rfl, hfz, hnd⟩ := hW
  have hA : DataW.TrodAll enc Try.prog W 0 (fun _ => true) true Try.f3.params.toList args.toList ds p := hA0
  rw [Try.params3] at hA hval
  obtain ⟨v0, vs0, d0, ds0, p0, q0, hargs, rfl, rfl, h0, r0⟩ := trodAll_cons hA
  obtain ⟨v1, vs1, d1, ds1, p1, q1, rfl, rfl, rfl, h1, r1⟩ := trodAll_cons r0
  obtain ⟨v2, vs2, d2, ds2, p2, q2, rfl, rfl, rfl, h2, r2⟩ := trodAll_cons r1
  obtain ⟨rfl, rfl, rfl⟩ := trodAll_nil r2
  obtain rfl : args = #[v0, v1, v2] := by cases args; simp_all
  obtain ⟨rfl, rfl⟩ := trodVars_none hV
  have k0 := h0
  have lt0 : ∀ x ∈ p0, x.block < W.heap.size := by obtain ⟨m, hm⟩ := k0; exact DataW.trod_lt m _ _ _ hm
  obtain ⟨a0, len0, cap0, rfl⟩ := okWide_slice Try.underlying22 (hval 0 22 v0 rfl rfl)
  obtain ⟨b0, H0⟩ : ∃ l, Bs W (.slice a0 len0 cap0) l := by
    obtain ⟨fuel, hf⟩ := h0
    rcases open_ints Try.underlying22 Try.underlying5 (by kernel_rfl) hf with ⟨hcs, _⟩ | ⟨x, l, c, zs, hcs, _, hl, hm, hz, _, hcell, hwz⟩
    · simp [Value.cells] at hcs
      obtain ⟨rfl, rfl, rfl⟩ := hcs
      exact ⟨[], Row.nil W⟩
    · simp [Value.cells] at hcs
      obtain ⟨rfl, rfl, rfl⟩ := hcs
      exact bs_open hl hm (by simpa using hz) hcell hwz
  have k1 := h1
  have lt1 : ∀ x ∈ p1, x.block < W.heap.size := by obtain ⟨m, hm⟩ := k1; exact DataW.trod_lt m _ _ _ hm
  obtain ⟨a1, rfl, rfl, rfl, w1⟩ := open_int Try.underlying3 (hval 1 3 v1 rfl rfl) h1
  have k2 := h2
  have lt2 : ∀ x ∈ p2, x.block < W.heap.size := by obtain ⟨m, hm⟩ := k2; exact DataW.trod_lt m _ _ _ hm
  obtain ⟨a2, len2, cap2, rfl⟩ := okWide_slice Try.underlying22 (hval 2 22 v2 rfl rfl)
  obtain ⟨b2, H2⟩ : ∃ l, Bs W (.slice a2 len2 cap2) l := by
    obtain ⟨fuel, hf⟩ := h2
    rcases open_ints Try.underlying22 Try.underlying5 (by kernel_rfl) hf with ⟨hcs, _⟩ | ⟨x, l, c, zs, hcs, _, hl, hm, hz, _, hcell, hwz⟩
    · simp [Value.cells] at hcs
      obtain ⟨rfl, rfl, rfl⟩ := hcs
      exact ⟨[], Row.nil W⟩
    · simp [Value.cells] at hcs
      obtain ⟨rfl, rfl, rfl⟩ := hcs
      exact bs_open hl hm (by simpa using hz) hcell hwz
  clear hA0 hval0
  refine Calls.mono (ChachaBlocks_c (.slice a0 len0 cap0) b0 a1 (.slice a2 len2 cap2) b2 W H0 (rng_i64 w1) H2) fun e W' ⟨v', he, hv, bel⟩ => ?_
  subst he
  subst hv
  exact ⟨_, rfl, _, _, _, [], _, [], hW', trodAll_mk1 (shut_bool Try.underlying4 _), (trodAll_cons_mk (Below.trod laidOut (by kernel_rfl) (of_decide_eq_true (by kernel_rfl)) k0 bel lt0) (trodAll_cons_mk (Below.trod laidOut (by kernel_rfl) (of_decide_eq_true (by kernel_rfl)) k1 bel lt1) (trodAll_cons_mk (Below.trod laidOut (by kernel_rfl) (of_decide_eq_true (by kernel_rfl)) k2 bel lt2) trodAll_mk0))), rfl, bel.frame _, fun h => by cases h⟩
theorem over : Rows.chachaBlocksRow.holds Try.pinned (OpenSpec.ofChange Rows.chachaBlocksSpec) :=
  OpenClaim.holds_of_wide 3 Try.f3 rfl rfl rfl rfl rfl rfl rfl ⟨rfl, rfl, rfl, rfl, rfl⟩ rfl rfl rfl rfl rfl (by kernel_rfl) Try.func3 (by kernel_rfl)
    (of_decide_eq_true (by kernel_rfl)) (by unfold Func.isWrapper; first | (rw [if_pos (by decide +kernel)]; kernel_rfl) | (rw [if_neg (by decide +kernel)]; exact ⟨rfl, rfl⟩))
    (fun os started H enc _ => lifted os started H enc)
end Go.Proofs.Ytanlbploeifhpaa.chachaBlocks
namespace Go.Proofs.Ytanlbploeifhpaa
theorem ChachaBlocks_holds : Rows.ChachaBlocksSaid := chachaBlocks.over
end Go.Proofs.Ytanlbploeifhpaa
