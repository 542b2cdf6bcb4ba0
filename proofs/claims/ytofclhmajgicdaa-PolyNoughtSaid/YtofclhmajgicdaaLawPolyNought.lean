/-
  With a first half of noughts every text's tag is the second half.
  Its conditions: none: whatever the input, in whatever memory.
-/
import Derived.Test.YtofclhmajgicdaaRows
import Derived.Test.YtofclhmajgicdaaWalksJ
import Derived.ProofKit
import Derived.OpenShut
import Derived.ShutString
import Derived.ChangeOld
set_option linter.unusedVariables false
set_option linter.unusedSimpArgs false
namespace Go.Proofs.Ytofclhmajgicdaa.polyNought
open Go.ChangeShapes Go.WideShapes Go.ChangeAt Go.RowKit Go.Ecal
open Go.ChangeMaps (open_string shut_string)
set_option maxRecDepth 100000 in
set_option maxHeartbeats 4000000 in
theorem PolyNought_c (s : List UInt8) (v1 : Value) (t : List UInt8) (w : World) (hs : s.length = 16) (H1 : Bs w v1 t) : Ret Try.prog 7 [.agg (s.map byt).toArray, v1] w fun v w' => v = .bool true ∧ Below w.heap.size w w' := by
  refine ret_E Try.func7 rfl Try.ntmps7 (by simp) ?_
  refine EC_seq ?_
  refine EC_reg ?_
  refine EL_box (s.map byt) rfl rfl rfl ?_
  intro b11 w12 k13 A14 B15 z16
  have B18 : Below w.heap.size w w12 := B15
  have R17 : Bs w12 (.slice (some ⟨b11, 0, none⟩) 16 16) s := barr_row A14 (by omega) (by decide)
  refine EL_val (.bool false) w12 rfl (r_assign rfl) ?_
  refine EL_nil ?_
  refine thn_n ?_
  refine EC_seq ?_
  refine EC_seq ?_
  refine EC_reg ?_
  refine EL_ret [] rfl Try.func9 rfl nm9 rfl (anchor_c w12) ?_
  rintro _ w19 ⟨rfl, B20⟩
  have B21 : Below w.heap.size w w19 := below_full B18 B18.size B20
  have B22 : Below w12.heap.size w12 w19 := B20
  refine EL_val (.bool false) w19 rfl (r_dec (show (!true) = false from rfl) (r_not rfl)) ?_
  refine EL_nil ?_
  refine thn_n ?_
  refine EC_cond_false rfl ?_
  refine EC_skip ?_
  refine thn_n ?_
  refine EC_seq ?_
  refine EC_seq ?_
  refine EC_reg ?_
  refine EL_val v1 w19 rfl (r_move rfl) ?_
  refine EL_val (.int .i64 (t.length : Int)) w19 rfl (lenB (r_len rfl (H1.below B21) Try.underlying22)) ?_
  refine EL_val (.bool (decide (300 < (t.length : Int)))) w19 rfl (r_gtr rfl rfl) ?_
  refine EL_nil ?_
  refine thn_n ?_
  refine EC_if (p := 300 < (t.length : Int)) rfl (fun h23 => ?_) (fun h23 => ?_)
  · refine EC_seq ?_
    refine EC_reg ?_
    refine EL_val (.bool true) w19 rfl (r_assign rfl) ?_
    refine EL_nil ?_
    refine thn_n ?_
    refine EC_ret ?_
    refine thn_r ?_
    refine fin1 Try.results7 (show _ = .bool true from rfl) ⟨_, rfl, ?_⟩
    exact ⟨rfl, B21⟩
  · refine EC_skip ?_
    refine thn_n ?_
    refine EC_seq ?_
    refine EC_until 4 (by kernel_rfl) ?_
    intro w24 B25 z26
    have B27 : Below w.heap.size w w24 := below_full B21 B21.size B25
    have B28 : Below w12.heap.size w12 w24 := below_full B22 B22.size B25
    have B29 : Below w19.heap.size w19 w24 := B25
    refine EH_take 1 rfl (by kernel_rfl) (by kernel_rfl) (by kernel_rfl) rfl 40 (by kernel_rfl) (.slice (some ⟨b11, 0, none⟩) 16 16) rfl (fun _ hw => r_sliceA rfl Try.underlying30 (by kernel_rfl)) (Below.refl _ _) ?_
    refine EH_take 3 rfl (by kernel_rfl) (by kernel_rfl) (by kernel_rfl) rfl 40 (by kernel_rfl) v1 rfl (fun _ hw => r_move rfl) (Below.refl _ _) ?_
    refine EH_one 0 (by kernel_rfl) ⟨_, rfl, ?_⟩
    refine EL_make w24.heap.size elB rfl rfl rfl rfl (by omega) (by omega) (by omega) (by omega) (Nat.le_refl _) ?_
    intro v30 w31 O32 B33 k34 z35
    have B36 : Below w.heap.size w w31 := below_full B27 B27.size B33
    have B37 : Below w12.heap.size w12 w31 := below_full B28 B28.size B33
    have B38 : Below w19.heap.size w19 w31 := below_full B29 B29.size B33
    have B39 : Below w24.heap.size w24 w31 := B33
    have O40 := own_rep O32
    refine EL_nil ?_
    refine ⟨rfl, .inr B39, ?_⟩
    refine EH_one 2 (by kernel_rfl) ⟨_, rfl, ?_⟩
    refine EL_append (v := v30) (xs := (List.replicate (16 : Int).toNat (0 : UInt8)).map byt) (ys := s.map byt) w24.heap.size elB rfl rfl rfl (by simpa using O40) (R17.below B37) (byt_one _) (by first | (simp only [List.length_map, List.length_nil]; omega) | (simp; done) | (simp; omega)) (by decide) B39.size ?_
    intro v41 w42 O43 G44 A45
    have O43' := own_app O43
    have B46 : Below w.heap.size w w42 := below_grew B36 G44 O40 B27.size (B36.size)
    have B47 : Below w12.heap.size w12 w42 := below_grew B37 G44 O40 B28.size (B37.size)
    have B48 : Below w19.heap.size w19 w42 := below_grew B38 G44 O40 B29.size (B38.size)
    have B49 : Below w24.heap.size w24 w42 := below_grew B39 G44 O40 (Nat.le_refl _) (B39.size)
    refine EL_nil ?_
    refine ⟨rfl, .inr B49, ?_⟩
    refine EH_one 4 (by kernel_rfl) ⟨_, rfl, ?_⟩
    have L54 := tag_len ((List.replicate (16 : Int).toNat (0 : UInt8)) ++ s) t
    refine EL_ret [v41, v1] rfl Try.func10 rfl nm10 rfl (Tag_ok v41 ((List.replicate (16 : Int).toNat (0 : UInt8)) ++ s) v1 t w42 (own_row O43') (H1.below B46) (by first | omega | (simp; done) | (simp; omega))) ?_
    rintro _ w55 ⟨p51, rfl, O52, B53⟩
    have B56 : Below w.heap.size w w55 := below_full B46 B46.size B53
    have B57 : Below w12.heap.size w12 w55 := below_full B47 B47.size B53
    have B58 : Below w19.heap.size w19 w55 := below_full B48 B48.size B53
    have B59 : Below w24.heap.size w24 w55 := below_full B49 B49.size B53
    have B60 : Below w42.heap.size w42 w55 := B53
    refine EL_nil ?_
    refine ⟨rfl, .inl (by kernel_rfl), ?_⟩
    refine EH_float 5 rfl (by kernel_rfl) (by kernel_rfl) (by kernel_rfl) rfl (.inl (by kernel_rfl)) (.tuple #[p51, .int .i64 0]) rfl (fun _ => r_move rfl) ?_
    refine EH_float 6 rfl (by kernel_rfl) (by kernel_rfl) (by kernel_rfl) rfl (.inl (by kernel_rfl)) p51 rfl (fun _ => r_extract rfl rfl) ?_
    refine EH_float 7 rfl (by kernel_rfl) (by kernel_rfl) (by kernel_rfl) rfl (.inl (by kernel_rfl)) (.int .i64 0) rfl (fun _ => r_extract rfl rfl) ?_
    refine EH_float 8 rfl (by kernel_rfl) (by kernel_rfl) (by kernel_rfl) rfl (.inl (by kernel_rfl)) p51 rfl (fun _ => r_assign rfl) ?_
    refine EH_float 9 rfl (by kernel_rfl) (by kernel_rfl) (by kernel_rfl) rfl (.inl (by kernel_rfl)) (.int .i64 0) rfl (fun _ => r_assign rfl) ?_
    refine EH_done (by kernel_rfl) ?_
    refine thn_n ?_
    refine EC_seq ?_
    refine EC_held (fun w' => Below w55.heap.size w55 w') (by kernel_rfl) ?_
    intro w61 B62 z63
    have B64 : Below w.heap.size w w61 := below_full B56 B56.size B62
    have B65 : Below w12.heap.size w12 w61 := below_full B57 B57.size B62
    have B66 : Below w19.heap.size w19 w61 := below_full B58 B58.size B62
    have B67 : Below w24.heap.size w24 w61 := below_full B59 B59.size B62
    have B68 : Below w42.heap.size w42 w61 := below_full B60 B60.size B62
    have B69 : Below w55.heap.size w55 w61 := B62
    refine EA_strong (fun w' => Below w61.heap.size w61 w') (fun _ hw => below_full B69 B69.size hw) ?_
    refine EA_take 0 rfl (by kernel_rfl) (by kernel_rfl) (by kernel_rfl) (.int .i64 0) rfl (fun _ hw => r_move rfl) (Below.refl _ _) ?_
    refine EA_take 1 rfl (by kernel_rfl) (by kernel_rfl) (by kernel_rfl) (.bool true) rfl (fun _ hw => r_dec (by decide) (r_eql rfl rfl)) (Below.refl _ _) ?_
    refine EA_take 2 rfl (by kernel_rfl) (by kernel_rfl) (by kernel_rfl) (.bool true) rfl (fun _ hw => r_move rfl) (Below.refl _ _) ?_
    refine EA_gtake 3 rfl (by kernel_rfl) (by kernel_rfl) (by kernel_rfl) 22 rfl rfl rfl rfl p51 rfl (fun _ hw => r_move rfl) (Below.refl _ _) ?_
    refine EA_gtake 4 rfl (by kernel_rfl) (by kernel_rfl) (by kernel_rfl) 22 rfl rfl rfl rfl (.string (str (tag ((List.replicate (16 : Int).toNat (0 : UInt8)) ++ s) t))) rfl (fun _ hw => r_str rfl (((own_row O52).below B69).below hw) Try.underlying22 Try.underlying5 Try.underlying9) (Below.refl _ _) ?_
    refine EA_gtake 5 rfl (by kernel_rfl) (by kernel_rfl) (by kernel_rfl) 22 rfl rfl rfl rfl (.slice (some ⟨b11, 0, none⟩) 16 16) rfl (fun _ hw => r_sliceA rfl Try.underlying30 (by kernel_rfl)) (Below.refl _ _) ?_
    refine EA_gtake 6 rfl (by kernel_rfl) (by kernel_rfl) (by kernel_rfl) 22 rfl rfl rfl rfl (.string (str s)) rfl (fun _ hw => r_str rfl ((R17.below B65).below hw) Try.underlying22 Try.underlying5 Try.underlying9) (Below.refl _ _) ?_
    refine EA_gtake 7 rfl (by kernel_rfl) (by kernel_rfl) (by kernel_rfl) 22 rfl rfl rfl rfl (.bool true) rfl (fun _ hw => r_dec (show (decide ((tag ((List.replicate (16 : Int).toNat (0 : UInt8)) ++ s) t) = s)) = true from by have e := tag_nought (s := s) (t := t) hs; simpa using e) (r_eqls rfl rfl)) (Below.refl _ _) ?_
    refine EA_take 8 rfl (by kernel_rfl) (by kernel_rfl) (by kernel_rfl) (.bool true) rfl (fun _ hw => r_pickT rfl rfl) (Below.refl _ _) ?_
    refine EA_take 9 rfl (by kernel_rfl) (by kernel_rfl) (by kernel_rfl) (.bool true) rfl (fun _ hw => r_assign rfl) (Below.refl _ _) ?_
    refine EA_done (by kernel_rfl) ?_
    refine thn_n ?_
    refine EC_ret ?_
    refine fin1 Try.results7 (show _ = .bool true from rfl) ⟨_, rfl, ?_⟩
    exact ⟨rfl, B64⟩
theorem own : ownKnob Try.prog.godebug = none := by kernel_rfl
theorem laidOut : laidOutB Try.prog = true := by kernel_rfl
set_option maxRecDepth 100000 in
theorem lifted (os : Os) (started : os.Started) (H : Type) (enc : TypeId × Value → H) :
    ReturnsInHanded {} Try.checked os 7 .any (Rows.polyNoughtSpec.pre6 enc Try.prog Try.f7 Rows.polyNoughtRow.domain false) (Rows.polyNoughtSpec.post enc Try.prog Try.f7 false true false false) := by
  refine returnsInHanded_of_change (C := Try.checked) own started (by kernel_rfl) Try.func7
    (ChangeSpec.witness6 (enc := enc) (C := Try.checked) false ⟨#[], #[.agg #[.int .u8 0, .int .u8 0, .int .u8 0, .int .u8 0, .int .u8 0, .int .u8 0, .int .u8 0, .int .u8 0, .int .u8 0, .int .u8 0, .int .u8 0, .int .u8 0, .int .u8 0, .int .u8 0, .int .u8 0, .int .u8 0], .slice none 0 0], []⟩ 8 (by kernel_rfl) (by kernel_rfl) (by kernel_rfl) (by kernel_rfl)) ?_
  intro W base args ds gs before hval0 hW hcnd _
  have hval : ∀ (j : Nat) t v, Try.f7.params[j]? = some t → args[j]? = some v → Value.okWide Try.prog W .any base t v := hval0
  have hW' := hW
  obtain ⟨p, q, hA0, hV, rfl, hfz, hnd⟩ := hW
  have hA : DataW.TrodAll enc Try.prog W 0 (fun _ => true) true Try.f7.params.toList args.toList ds p := hA0
  rw [Try.params7] at hA hval
  obtain ⟨v0, vs0, d0, ds0, p0, q0, hargs, rfl, rfl, h0, r0⟩ := trodAll_cons hA
  obtain ⟨v1, vs1, d1, ds1, p1, q1, rfl, rfl, rfl, h1, r1⟩ := trodAll_cons r0
  obtain ⟨rfl, rfl, rfl⟩ := trodAll_nil r1
  obtain rfl : args = #[v0, v1] := by cases args; simp_all
  obtain ⟨rfl, rfl⟩ := trodVars_none hV
  have k0 := h0
  have lt0 : ∀ x ∈ p0, x.block < W.heap.size := by obtain ⟨m, hm⟩ := k0; exact DataW.trod_lt m _ _ _ hm
  obtain ⟨l0, hl0, rfl⟩ := arr_open (n := 16) Try.underlying30 Try.underlying5 (by kernel_rfl) (by kernel_rfl) (hval 0 30 v0 rfl rfl) h0
  have k1 := h1
  have lt1 : ∀ x ∈ p1, x.block < W.heap.size := by obtain ⟨m, hm⟩ := k1; exact DataW.trod_lt m _ _ _ hm
  obtain ⟨a1, len1, cap1, rfl⟩ := okWide_slice Try.underlying22 (hval 1 22 v1 rfl rfl)
  obtain ⟨b1, H1⟩ : ∃ l, Bs W (.slice a1 len1 cap1) l := by
    obtain ⟨fuel, hf⟩ := h1
    rcases open_ints Try.underlying22 Try.underlying5 (by kernel_rfl) hf with ⟨hcs, _⟩ | ⟨x, l, c, zs, hcs, _, hl, hm, hz, _, hcell, hwz⟩
    · simp [Value.cells] at hcs
      obtain ⟨rfl, rfl, rfl⟩ := hcs
      exact ⟨[], Row.nil W⟩
    · simp [Value.cells] at hcs
      obtain ⟨rfl, rfl, rfl⟩ := hcs
      exact bs_open hl hm (by simpa using hz) hcell hwz
  clear hA0 hval0
  refine Calls.mono (PolyNought_c l0 (.slice a1 len1 cap1) b1 W hl0 H1) fun e W' ⟨v', he, hv, bel⟩ => ?_
  subst he
  subst hv
  exact ⟨_, rfl, _, _, _, [], _, [], hW', trodAll_mk1 (shut_bool Try.underlying4 _), (trodAll_cons_mk (Below.trod laidOut (by kernel_rfl) (of_decide_eq_true (by kernel_rfl)) k0 bel lt0) (trodAll_cons_mk (Below.trod laidOut (by kernel_rfl) (of_decide_eq_true (by kernel_rfl)) k1 bel lt1) trodAll_mk0)), rfl, bel.frame _, fun h => by cases h⟩
theorem over : Rows.polyNoughtRow.holds Try.pinned (OpenSpec.ofChange Rows.polyNoughtSpec) :=
  OpenClaim.holds_of_wide 7 Try.f7 rfl rfl rfl rfl rfl rfl rfl ⟨rfl, rfl, rfl, rfl, rfl⟩ rfl rfl rfl rfl rfl (by kernel_rfl) Try.func7 (by kernel_rfl)
    (of_decide_eq_true (by kernel_rfl)) (by unfold Func.isWrapper; first | (rw [if_pos (by decide +kernel)]; kernel_rfl) | (rw [if_neg (by decide +kernel)]; exact ⟨rfl, rfl⟩))
    (fun os started H enc _ => lifted os started H enc)
end Go.Proofs.Ytofclhmajgicdaa.polyNought
namespace Go.Proofs.Ytofclhmajgicdaa
theorem PolyNought_holds : Rows.PolyNoughtSaid := polyNought.over
end Go.Proofs.Ytofclhmajgicdaa
