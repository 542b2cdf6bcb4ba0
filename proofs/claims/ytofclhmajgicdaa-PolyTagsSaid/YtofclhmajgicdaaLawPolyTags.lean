/-
  Any text has the document's tag under any key; a key of another size is refused.
  Its conditions: none: whatever the input, in whatever memory.
-/
import Derived.Test.YtofclhmajgicdaaRows
import Derived.Test.YtofclhmajgicdaaWalksJ
import Derived.ProofKit
import Derived.OpenShut
import Derived.ShutString
import Derived.ChangeOld
set_option linter.unusedVariables false
set_option linter.unusedSimpArgs false
namespace Go.Proofs.Ytofclhmajgicdaa.polyTags
open Go.ChangeShapes Go.WideShapes Go.ChangeAt Go.RowKit Go.Ecal
open Go.ChangeMaps (open_string shut_string)
set_option maxRecDepth 100000 in
set_option maxHeartbeats 4000000 in
theorem PolyTags_c (v0 : Value) (k : List UInt8) (v1 : Value) (t : List UInt8) (w : World) (H0 : Bs w v0 k) (H1 : Bs w v1 t) : Ret Try.prog 3 [v0, v1] w fun v w' => v = .bool true ∧ Below w.heap.size w w' := by
  refine ret_E Try.func3 rfl Try.ntmps3 (by simp) ?_
  refine EC_seq ?_
  refine EC_reg ?_
  refine EL_val (.bool false) w rfl (r_assign rfl) ?_
  refine EL_nil ?_
  refine thn_n ?_
  refine EC_seq ?_
  refine EC_seq ?_
  refine EC_reg ?_
  refine EL_ret [] rfl Try.func9 rfl nm9 rfl (anchor_c w) ?_
  rintro _ w11 ⟨rfl, B12⟩
  have B13 : Below w.heap.size w w11 := B12
  refine EL_val (.bool false) w11 rfl (r_dec (show (!true) = false from rfl) (r_not rfl)) ?_
  refine EL_nil ?_
  refine thn_n ?_
  refine EC_cond_false rfl ?_
  refine EC_skip ?_
  refine thn_n ?_
  refine EC_seq ?_
  refine EC_seq ?_
  refine EC_reg ?_
  refine EL_val v1 w11 rfl (r_move rfl) ?_
  refine EL_val (.int .i64 (t.length : Int)) w11 rfl (lenB (r_len rfl (H1.below B13) Try.underlying22)) ?_
  refine EL_val (.bool (decide (300 < (t.length : Int)))) w11 rfl (r_gtr rfl rfl) ?_
  refine EL_val (.bool (decide (300 < (t.length : Int)))) w11 rfl (r_move rfl) ?_
  refine EL_gite 12 rfl rfl rfl v0 rfl (fun g14 => r_move rfl) ?_
  refine EL_gite 12 rfl rfl rfl (.int .i64 (k.length : Int)) rfl (fun g15 => lenB (r_len (cond_of g15 rfl) (H0.below B13) Try.underlying22)) ?_
  refine EL_gite 12 rfl rfl rfl (.bool (decide (100 < (k.length : Int)))) rfl (fun g16 => r_gtr (cond_of g16 rfl) rfl) ?_
  refine EL_val (.bool ((decide (300 < (t.length : Int))) || (decide (100 < (k.length : Int))))) w11 rfl (r_or rfl rfl rfl) ?_
  refine EL_nil ?_
  refine thn_n ?_
  refine EC_cond (t := (decide (300 < (t.length : Int))) || (decide (100 < (k.length : Int)))) rfl (fun h17 => ?_) (fun h17 => ?_)
  · simp at h17
    refine EC_seq ?_
    refine EC_reg ?_
    refine EL_val (.bool true) w11 rfl (r_assign rfl) ?_
    refine EL_nil ?_
    refine thn_n ?_
    refine EC_ret ?_
    refine thn_r ?_
    refine fin1 Try.results3 (show _ = .bool true from rfl) ⟨_, rfl, ?_⟩
    exact ⟨rfl, B13⟩
  · simp at h17
    refine EC_skip ?_
    refine thn_n ?_
    refine EC_seq ?_
    by_cases hk : k.length = 32
    · refine EC_reg ?_
      refine EL_val v0 w11 rfl (r_move rfl) ?_
      refine EL_val v1 w11 rfl (r_move rfl) ?_
      have L21 := tag_len k t
      refine EL_ret [v0, v1] rfl Try.func10 rfl nm10 rfl (Tag_ok v0 k v1 t w11 (H0.below B13) (H1.below B13) hk) ?_
      rintro _ w22 ⟨p18, rfl, O19, B20⟩
      have B23 : Below w.heap.size w w22 := below_full B13 B13.size B20
      have B24 : Below w11.heap.size w11 w22 := B20
      refine EL_val (.tuple #[p18, .int .i64 0]) w22 rfl (r_move rfl) ?_
      refine EL_val p18 w22 rfl (r_extract rfl rfl) ?_
      refine EL_val (.int .i64 0) w22 rfl (r_extract rfl rfl) ?_
      refine EL_val p18 w22 rfl (r_assign rfl) ?_
      refine EL_val (.int .i64 0) w22 rfl (r_assign rfl) ?_
      refine EL_nil ?_
      refine thn_n ?_
      refine EC_seq ?_
      refine EC_seq ?_
      refine EC_reg ?_
      refine EL_val v0 w22 rfl (r_move rfl) ?_
      refine EL_val (.int .i64 (k.length : Int)) w22 rfl (lenB (r_len rfl (H0.below B23) Try.underlying22)) ?_
      refine EL_val (.bool (decide ((k.length : Int) ≠ 32))) w22 rfl (r_neq rfl rfl) ?_
      refine EL_nil ?_
      refine thn_n ?_
      refine EC_cond_false (Eq.trans (show _ = Value.bool (decide ((k.length : Int) ≠ 32)) from rfl) (congrArg Value.bool (show (decide ((k.length : Int) ≠ 32)) = false from by simp; omega))) ?_
      refine EC_skip ?_
      refine thn_n ?_
      refine EC_seq ?_
      refine EC_held (fun w' => Below w22.heap.size w22 w') (by kernel_rfl) ?_
      intro w25 B26 z27
      have B28 : Below w.heap.size w w25 := below_full B23 B23.size B26
      have B29 : Below w11.heap.size w11 w25 := below_full B24 B24.size B26
      have B30 : Below w22.heap.size w22 w25 := B26
      refine EA_strong (fun w' => Below w25.heap.size w25 w') (fun _ hw => below_full B30 B30.size hw) ?_
      refine EA_take 0 rfl (by kernel_rfl) (by kernel_rfl) (by kernel_rfl) (.int .i64 0) rfl (fun _ hw => r_move rfl) (Below.refl _ _) ?_
      refine EA_take 1 rfl (by kernel_rfl) (by kernel_rfl) (by kernel_rfl) (.bool true) rfl (fun _ hw => r_dec (by decide) (r_eql rfl rfl)) (Below.refl _ _) ?_
      refine EA_take 2 rfl (by kernel_rfl) (by kernel_rfl) (by kernel_rfl) (.bool true) rfl (fun _ hw => r_move rfl) (Below.refl _ _) ?_
      refine EA_gtake 3 rfl (by kernel_rfl) (by kernel_rfl) (by kernel_rfl) 35 rfl rfl rfl rfl p18 rfl (fun _ hw => r_move rfl) (Below.refl _ _) ?_
      refine EA_gtake 4 rfl (by kernel_rfl) (by kernel_rfl) (by kernel_rfl) 35 rfl rfl rfl rfl (.string (str (tag k t))) rfl (fun _ hw => r_str rfl (((own_row O19).below B30).below hw) Try.underlying22 Try.underlying5 Try.underlying9) (Below.refl _ _) ?_
      refine EA_gtake 5 rfl (by kernel_rfl) (by kernel_rfl) (by kernel_rfl) 35 rfl rfl rfl rfl v0 rfl (fun _ hw => r_move rfl) (Below.refl _ _) ?_
      refine EA_gtake 6 rfl (by kernel_rfl) (by kernel_rfl) (by kernel_rfl) 35 rfl rfl rfl rfl v1 rfl (fun _ hw => r_move rfl) (Below.refl _ _) ?_
      refine EA_call 7 rfl (by kernel_rfl) [v0, v1] (.inr ⟨_, _, 35, rfl, rfl, rfl, rfl⟩) rfl Try.func11 rfl nm11 rfl (rTag_c v0 k v1 t w25 (H0.below B28) (H1.below B28) hk (by first | omega | (simp; omega))) ?_
      rintro p31 w34 ⟨O32, B33⟩
      have B35 : Below w.heap.size w w34 := below_full B28 B28.size B33
      have B36 : Below w11.heap.size w11 w34 := below_full B29 B29.size B33
      have B37 : Below w22.heap.size w22 w34 := below_full B30 B30.size B33
      have B38 : Below w25.heap.size w25 w34 := B33
      refine ⟨B38, ?_⟩
      refine EA_strong (fun w' => Below w34.heap.size w34 w') (fun _ hw => below_full B38 B38.size hw) ?_
      refine EA_gtake 8 rfl (by kernel_rfl) (by kernel_rfl) (by kernel_rfl) 35 rfl rfl rfl rfl (.string (str (tag k t))) rfl (fun _ hw => r_str rfl ((own_row O32).below hw) Try.underlying22 Try.underlying5 Try.underlying9) (Below.refl _ _) ?_
      refine EA_gtake 9 rfl (by kernel_rfl) (by kernel_rfl) (by kernel_rfl) 35 rfl rfl rfl rfl (.bool true) rfl (fun _ hw => r_dec (show (decide ((tag k t) = (tag k t))) = true from by simp) (r_eqls rfl rfl)) (Below.refl _ _) ?_
      refine EA_take 10 rfl (by kernel_rfl) (by kernel_rfl) (by kernel_rfl) (.bool true) rfl (fun _ hw => r_pickT rfl rfl) (Below.refl _ _) ?_
      refine EA_take 11 rfl (by kernel_rfl) (by kernel_rfl) (by kernel_rfl) (.bool true) rfl (fun _ hw => r_assign rfl) (Below.refl _ _) ?_
      refine EA_done (by kernel_rfl) ?_
      refine thn_n ?_
      refine EC_ret ?_
      refine fin1 Try.results3 (show _ = .bool true from rfl) ⟨_, rfl, ?_⟩
      exact ⟨rfl, B35⟩
    · refine EC_reg ?_
      refine EL_val v0 w11 rfl (r_move rfl) ?_
      refine EL_val v1 w11 rfl (r_move rfl) ?_
      refine EL_ret [v0, v1] rfl Try.func10 rfl nm10 rfl (Tag_no v0 k v1 t w11 (H0.below B13) (H1.below B13) hk) ?_
      rintro _ _ ⟨rfl, rfl⟩
      refine EL_val (.tuple #[.slice none 0 0, .int .i64 11]) w11 rfl (r_move rfl) ?_
      refine EL_val (.slice none 0 0) w11 rfl (r_extract rfl rfl) ?_
      refine EL_val (.int .i64 11) w11 rfl (r_extract rfl rfl) ?_
      refine EL_val (.slice none 0 0) w11 rfl (r_assign rfl) ?_
      refine EL_val (.int .i64 11) w11 rfl (r_assign rfl) ?_
      refine EL_nil ?_
      refine thn_n ?_
      refine EC_seq ?_
      refine EC_seq ?_
      refine EC_reg ?_
      refine EL_val v0 w11 rfl (r_move rfl) ?_
      refine EL_val (.int .i64 (k.length : Int)) w11 rfl (lenB (r_len rfl (H0.below B13) Try.underlying22)) ?_
      refine EL_val (.bool (decide ((k.length : Int) ≠ 32))) w11 rfl (r_neq rfl rfl) ?_
      refine EL_nil ?_
      refine thn_n ?_
      refine EC_cond_true (Eq.trans (show _ = Value.bool (decide ((k.length : Int) ≠ 32)) from rfl) (congrArg Value.bool (show (decide ((k.length : Int) ≠ 32)) = true from by simp; omega))) ?_
      refine EC_seq ?_
      refine EC_reg ?_
      refine EL_val (.int .i64 11) w11 rfl (r_move rfl) ?_
      refine EL_val (.bool true) w11 rfl (r_dec (by decide) (r_eql rfl rfl)) ?_
      refine EL_val (.bool true) w11 rfl (r_move rfl) ?_
      refine EL_gval 28 rfl rfl rfl rfl (.slice none 0 0) w11 rfl (r_move rfl) ?_
      refine EL_gval 28 rfl rfl rfl rfl (.int .i64 (([] : List UInt8).length : Int)) w11 rfl (lenB (r_len rfl (Row.nil _) Try.underlying22)) ?_
      refine EL_gval 28 rfl rfl rfl rfl (.bool true) w11 rfl (r_dec (show (decide ((([] : List UInt8).length : Int) = 0)) = true from by simp) (r_eql rfl rfl)) ?_
      refine EL_val (.bool true) w11 rfl (r_pickT rfl rfl) ?_
      refine EL_val (.bool true) w11 rfl (r_assign rfl) ?_
      refine EL_nil ?_
      refine thn_n ?_
      refine EC_ret ?_
      refine thn_r ?_
      refine fin1 Try.results3 (show _ = .bool true from rfl) ⟨_, rfl, ?_⟩
      exact ⟨rfl, B13⟩
theorem own : ownKnob Try.prog.godebug = none := by kernel_rfl
theorem laidOut : laidOutB Try.prog = true := by kernel_rfl
set_option maxRecDepth 100000 in
theorem lifted (os : Os) (started : os.Started) (H : Type) (enc : TypeId × Value → H) :
    ReturnsInHanded {} Try.checked os 3 .any (Rows.polyTagsSpec.pre6 enc Try.prog Try.f3 Rows.polyTagsRow.domain false) (Rows.polyTagsSpec.post enc Try.prog Try.f3 false true false false) := by
  refine returnsInHanded_of_change (C := Try.checked) own started (by kernel_rfl) Try.func3
    (ChangeSpec.witness6 (enc := enc) (C := Try.checked) false ⟨#[], #[.slice none 0 0, .slice none 0 0], []⟩ 8 (by kernel_rfl) (by kernel_rfl) (by kernel_rfl) (by kernel_rfl)) ?_
  intro W base args ds gs before hval0 hW hcnd _
  have hval : ∀ (j : Nat) t v, Try.f3.params[j]? = some t → args[j]? = some v → Value.okWide Try.prog W .any base t v := hval0
  have hW' := hW
  obtain ⟨p, q, hA0, hV, rfl, hfz, hnd⟩ := hW
  have hA : DataW.TrodAll enc Try.prog W 0 (fun _ => true) true Try.f3.params.toList args.toList ds p := hA0
  rw [Try.params3] at hA hval
  obtain ⟨v0, vs0, d0, ds0, p0, q0, hargs, rfl, rfl, h0, r0⟩ := trodAll_cons hA
  obtain ⟨v1, vs1, d1, ds1, p1, q1, rfl, rfl, rfl, h1, r1⟩ := trodAll_cons r0
  obtain ⟨rfl, rfl, rfl⟩ := trodAll_nil r1
  obtain rfl : args = #[v0, v1] := by cases args; simp_all
  obtain ⟨rfl, rfl⟩ := trodVars_none hV
  have k0 := h0
  have lt0 : ∀ x ∈ p0, x.block < W.heap.size := by obtain ⟨m, hm⟩ := k0; exact DataW.trod_lt m _ _ _ hm
  obtain ⟨a0, len0, cap0, rfl⟩ := okWide_slice Try.underlying22 (hval 0 22 v0 rfl rfl)
  obtain ⟨b0, H0⟩ : ∃ l, Bs W (.slice a0 len0 cap0) l := by
    obtain ⟨fuel, hf⟩ := h0
    rcases open_ints Try.underlying22 Try.underlying5 (by kernel_rfl) hf with ⟨hcs, _⟩ | ⟨x, l, c, zs, hcs, _, hl, hm, hz, _, hcell, hwz⟩
    · simp [Value.cells] at hcs
      obtain ⟨rfl, rfl, rfl⟩ := hcs
      exact ⟨[], Row.nil W⟩
    · simp [Value.cells] at hcs
      obtain ⟨rfl, rfl, rfl⟩ := hcs
      exact bs_open hl hm (by simpa using hz) hcell hwz
  have k1 := h1
  have lt1 : ∀ x ∈ p1, x.block < W.heap.size := by obtain ⟨m, hm⟩ := k1; exact DataW.trod_lt m _ _ _ hm
  obtain ⟨a1, len1, cap1, rfl⟩ := okWide_slice Try.underlying22 (hval 1 22 v1 rfl rfl)
  obtain ⟨b1, H1⟩ : ∃ l, Bs W (.slice a1 len1 cap1) l := by
    obtain ⟨fuel, hf⟩ := h1
    rcases open_ints Try.underlying22 Try.underlying5 (by kernel_rfl) hf with ⟨hcs, _⟩ | ⟨x, l, c, zs, hcs, _, hl, hm, hz, _, hcell, hwz⟩
    · simp [Value.cells] at hcs
      obtain ⟨rfl, rfl, rfl⟩ := hcs
      exact ⟨[], Row.nil W⟩
    · simp [Value.cells] at hcs
      obtain ⟨rfl, rfl, rfl⟩ := hcs
      exact bs_open hl hm (by simpa using hz) hcell hwz
  clear hA0 hval0
  refine Calls.mono (PolyTags_c (.slice a0 len0 cap0) b0 (.slice a1 len1 cap1) b1 W H0 H1) fun e W' ⟨v', he, hv, bel⟩ => ?_
  subst he
  subst hv
  exact ⟨_, rfl, _, _, _, [], _, [], hW', trodAll_mk1 (shut_bool Try.underlying4 _), (trodAll_cons_mk (Below.trod laidOut (by kernel_rfl) (of_decide_eq_true (by kernel_rfl)) k0 bel lt0) (trodAll_cons_mk (Below.trod laidOut (by kernel_rfl) (of_decide_eq_true (by kernel_rfl)) k1 bel lt1) trodAll_mk0)), rfl, bel.frame _, fun h => by cases h⟩
theorem over : Rows.polyTagsRow.holds Try.pinned (OpenSpec.ofChange Rows.polyTagsSpec) :=
  OpenClaim.holds_of_wide 3 Try.f3 rfl rfl rfl rfl rfl rfl rfl ⟨rfl, rfl, rfl, rfl, rfl⟩ rfl rfl rfl rfl rfl (by kernel_rfl) Try.func3 (by kernel_rfl)
    (of_decide_eq_true (by kernel_rfl)) (by unfold Func.isWrapper; first | (rw [if_pos (by decide +kernel)]; kernel_rfl) | (rw [if_neg (by decide +kernel)]; exact ⟨rfl, rfl⟩))
    (fun os started H enc _ => lifted os started H enc)
end Go.Proofs.Ytofclhmajgicdaa.polyTags
namespace Go.Proofs.Ytofclhmajgicdaa
theorem PolyTags_holds : Rows.PolyTagsSaid := polyTags.over
end Go.Proofs.Ytofclhmajgicdaa
