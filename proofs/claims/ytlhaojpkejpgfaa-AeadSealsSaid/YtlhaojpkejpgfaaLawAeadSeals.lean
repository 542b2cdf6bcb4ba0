/-
  Any text's box, under any key, nonce and other bytes, is the document's; it is opened to the text.
  Its conditions: none: whatever the input, in whatever memory.
-/
import Derived.Test.YtlhaojpkejpgfaaRows
import Derived.Test.YtlhaojpkejpgfaaWalksC
import Derived.ProofKit
import Derived.OpenShut
import Derived.ShutString
import Derived.ChangeOld
set_option linter.unusedVariables false
set_option linter.unusedSimpArgs false
namespace Go.Proofs.Ytlhaojpkejpgfaa.aeadSeals
open Go.ChangeShapes Go.WideShapes Go.ChangeAt Go.RowKit Go.Ecal
open Go.ChangeMaps (open_string shut_string)
set_option maxRecDepth 100000 in
set_option maxHeartbeats 4000000 in
theorem AeadSeals_c (v0 : Value) (k : List UInt8) (v1 : Value) (n : List UInt8) (v2 : Value) (o : List UInt8) (v3 : Value) (t : List UInt8) (w : World) (H0 : Bs w v0 k) (H1 : Bs w v1 n) (H2 : Bs w v2 o) (H3 : Bs w v3 t) : Ret Try.prog 3 [v0, v1, v2, v3] w fun v w' => v = .bool true ∧ Below w.heap.size w w' := by
  refine ret_E Try.func3 rfl Try.ntmps3 (by simp) ?_
  refine EC_seq ?_
  refine EC_reg ?_
  refine EL_val (.bool false) w rfl (r_assign rfl) ?_
  refine EL_nil ?_
  refine thn_n ?_
  refine EC_seq ?_
  refine EC_seq ?_
  refine EC_reg ?_
  refine EL_ret [] rfl Try.func9 rfl nm9 rfl (anchor_c w) ?_
  rintro _ w11 ⟨rfl, B12⟩
  have B13 : Below w.heap.size w w11 := B12
  refine EL_val (.bool false) w11 rfl (r_dec (show (!true) = false from rfl) (r_not rfl)) ?_
  refine EL_nil ?_
  refine thn_n ?_
  refine EC_cond_false rfl ?_
  refine EC_skip ?_
  refine thn_n ?_
  refine EC_seq ?_
  refine EC_seq ?_
  refine EC_reg ?_
  refine EL_val v2 w11 rfl (r_move rfl) ?_
  refine EL_val (.int .i64 (o.length : Int)) w11 rfl (lenB (r_len rfl (H2.below B13) Try.underlying22)) ?_
  refine EL_val (.bool (decide (100 < (o.length : Int)))) w11 rfl (r_gtr rfl rfl) ?_
  refine EL_val (.bool (decide (100 < (o.length : Int)))) w11 rfl (r_move rfl) ?_
  refine EL_gite 18 rfl rfl rfl v3 rfl (fun g14 => r_move rfl) ?_
  refine EL_gite 18 rfl rfl rfl (.int .i64 (t.length : Int)) rfl (fun g15 => lenB (r_len (cond_of g15 rfl) (H3.below B13) Try.underlying22)) ?_
  refine EL_gite 18 rfl rfl rfl (.bool (decide (200 < (t.length : Int)))) rfl (fun g16 => r_gtr (cond_of g16 rfl) rfl) ?_
  refine EL_val (.bool ((decide (100 < (o.length : Int))) || (decide (200 < (t.length : Int))))) w11 rfl (r_or rfl rfl rfl) ?_
  refine EL_nil ?_
  refine thn_n ?_
  refine EC_cond (t := (decide (100 < (o.length : Int))) || (decide (200 < (t.length : Int)))) rfl (fun h17 => ?_) (fun h17 => ?_)
  · simp at h17
    refine EC_seq ?_
    refine EC_reg ?_
    refine EL_val (.bool true) w11 rfl (r_assign rfl) ?_
    refine EL_nil ?_
    refine thn_n ?_
    refine EC_ret ?_
    refine thn_r ?_
    refine fin1 Try.results3 (show _ = .bool true from rfl) ⟨_, rfl, ?_⟩
    exact ⟨rfl, B13⟩
  · simp at h17
    refine EC_skip ?_
    refine thn_n ?_
    refine EC_seq ?_
    by_cases hno : k.length ≠ 32 ∨ n.length ≠ 12
    · refine EC_reg ?_
      refine EL_val v0 w11 rfl (r_move rfl) ?_
      refine EL_val v1 w11 rfl (r_move rfl) ?_
      refine EL_val v2 w11 rfl (r_move rfl) ?_
      refine EL_val v3 w11 rfl (r_move rfl) ?_
      refine EL_ret [v0, v1, v2, v3] rfl Try.func10 rfl nm10 rfl (Seal_no v0 k v1 n v2 o v3 t w11 (H0.below B13) (H1.below B13) (H2.below B13) (H3.below B13) hno) ?_
      rintro _ _ ⟨rfl, rfl⟩
      refine EL_val (.tuple #[.slice none 0 0, .int .i64 11]) w11 rfl (r_move rfl) ?_
      refine EL_val (.slice none 0 0) w11 rfl (r_extract rfl rfl) ?_
      refine EL_val (.int .i64 11) w11 rfl (r_extract rfl rfl) ?_
      refine EL_val (.slice none 0 0) w11 rfl (r_assign rfl) ?_
      refine EL_val (.int .i64 11) w11 rfl (r_assign rfl) ?_
      refine EL_nil ?_
      refine thn_n ?_
      refine EC_seq ?_
      refine EC_seq ?_
      refine EC_reg ?_
      refine EL_val v0 w11 rfl (r_move rfl) ?_
      refine EL_val (.int .i64 (k.length : Int)) w11 rfl (lenB (r_len rfl (H0.below B13) Try.underlying22)) ?_
      refine EL_val (.bool (decide ((k.length : Int) ≠ 32))) w11 rfl (r_neq rfl rfl) ?_
      refine EL_val (.bool (decide ((k.length : Int) ≠ 32))) w11 rfl (r_move rfl) ?_
      refine EL_gite 34 rfl rfl rfl v1 rfl (fun g18 => r_move rfl) ?_
      refine EL_gite 34 rfl rfl rfl (.int .i64 (n.length : Int)) rfl (fun g19 => lenB (r_len (cond_of g19 rfl) (H1.below B13) Try.underlying22)) ?_
      refine EL_gite 34 rfl rfl rfl (.bool (decide ((n.length : Int) ≠ 12))) rfl (fun g20 => r_neq (cond_of g20 rfl) rfl) ?_
      refine EL_val (.bool ((decide ((k.length : Int) ≠ 32)) || (decide ((n.length : Int) ≠ 12)))) w11 rfl (r_or rfl rfl rfl) ?_
      refine EL_nil ?_
      refine thn_n ?_
      refine EC_cond_true (Eq.trans (show _ = Value.bool ((decide ((k.length : Int) ≠ 32)) || (decide ((n.length : Int) ≠ 12))) from rfl) (congrArg Value.bool (show ((decide ((k.length : Int) ≠ 32)) || (decide ((n.length : Int) ≠ 12))) = true from by simp; omega))) ?_
      refine EC_seq ?_
      refine EC_reg ?_
      refine EL_val (.int .i64 11) w11 rfl (r_move rfl) ?_
      refine EL_val (.bool true) w11 rfl (r_dec (by decide) (r_eql rfl rfl)) ?_
      refine EL_val (.bool true) w11 rfl (r_move rfl) ?_
      refine EL_gval 41 rfl rfl rfl rfl (.slice none 0 0) w11 rfl (r_move rfl) ?_
      refine EL_gval 41 rfl rfl rfl rfl (.int .i64 0) w11 rfl (r_asn (show ((([] : List UInt8).length : Nat) : Int) = 0 from rfl) (lenB (r_len rfl (Row.nil _) Try.underlying22))) ?_
      refine EL_gval 41 rfl rfl rfl rfl (.bool true) w11 rfl (r_dec (by decide) (r_eql rfl rfl)) ?_
      refine EL_val (.bool true) w11 rfl (r_pickT rfl rfl) ?_
      refine EL_val (.bool true) w11 rfl (r_assign rfl) ?_
      refine EL_nil ?_
      refine thn_n ?_
      refine EC_ret ?_
      refine thn_r ?_
      refine fin1 Try.results3 (show _ = .bool true from rfl) ⟨_, rfl, ?_⟩
      exact ⟨rfl, B13⟩
    · have hk : k.length = 32 := by omega
      have hn : n.length = 12 := by omega
      refine EC_reg ?_
      refine EL_val v0 w11 rfl (r_move rfl) ?_
      refine EL_val v1 w11 rfl (r_move rfl) ?_
      refine EL_val v2 w11 rfl (r_move rfl) ?_
      refine EL_val v3 w11 rfl (r_move rfl) ?_
      refine EL_ret [v0, v1, v2, v3] rfl Try.func10 rfl nm10 rfl (Seal_ok v0 k v1 n v2 o v3 t w11 (H0.below B13) (H1.below B13) (H2.below B13) (H3.below B13) (by first | omega | (simp; done) | (simp; omega)) (by first | omega | (simp; done) | (simp; omega)) (by first | omega | (simp; done) | (simp; omega)) (by first | omega | (simp; done) | (simp; omega))) ?_
      rintro _ w24 ⟨p21, rfl, O22, B23⟩
      have B25 : Below w.heap.size w w24 := below_full B13 B13.size B23
      have B26 : Below w11.heap.size w11 w24 := B23
      have L27 := box_len k n o t
      refine EL_val (.tuple #[p21, .int .i64 0]) w24 rfl (r_move rfl) ?_
      refine EL_val p21 w24 rfl (r_extract rfl rfl) ?_
      refine EL_val (.int .i64 0) w24 rfl (r_extract rfl rfl) ?_
      refine EL_val p21 w24 rfl (r_assign rfl) ?_
      refine EL_val (.int .i64 0) w24 rfl (r_assign rfl) ?_
      refine EL_nil ?_
      refine thn_n ?_
      refine EC_seq ?_
      refine EC_seq ?_
      refine EC_reg ?_
      refine EL_val v0 w24 rfl (r_move rfl) ?_
      refine EL_val (.int .i64 (k.length : Int)) w24 rfl (lenB (r_len rfl (H0.below B25) Try.underlying22)) ?_
      refine EL_val (.bool (decide ((k.length : Int) ≠ 32))) w24 rfl (r_neq rfl rfl) ?_
      refine EL_val (.bool (decide ((k.length : Int) ≠ 32))) w24 rfl (r_move rfl) ?_
      refine EL_gite 34 rfl rfl rfl v1 rfl (fun g28 => r_move rfl) ?_
      refine EL_gite 34 rfl rfl rfl (.int .i64 (n.length : Int)) rfl (fun g29 => lenB (r_len (cond_of g29 rfl) (H1.below B25) Try.underlying22)) ?_
      refine EL_gite 34 rfl rfl rfl (.bool (decide ((n.length : Int) ≠ 12))) rfl (fun g30 => r_neq (cond_of g30 rfl) rfl) ?_
      refine EL_val (.bool ((decide ((k.length : Int) ≠ 32)) || (decide ((n.length : Int) ≠ 12)))) w24 rfl (r_or rfl rfl rfl) ?_
      refine EL_nil ?_
      refine thn_n ?_
      refine EC_cond_false (Eq.trans (show _ = Value.bool ((decide ((k.length : Int) ≠ 32)) || (decide ((n.length : Int) ≠ 12))) from rfl) (congrArg Value.bool (show ((decide ((k.length : Int) ≠ 32)) || (decide ((n.length : Int) ≠ 12))) = false from by simp; omega))) ?_
      refine EC_skip ?_
      refine thn_n ?_
      refine EC_seq ?_
      refine EC_seq ?_
      refine EC_held (fun w' => Below w24.heap.size w24 w') (by kernel_rfl) ?_
      intro w31 B32 z33
      have B34 : Below w.heap.size w w31 := below_full B25 B25.size B32
      have B35 : Below w11.heap.size w11 w31 := below_full B26 B26.size B32
      have B36 : Below w24.heap.size w24 w31 := B32
      refine EA_strong (fun w' => Below w31.heap.size w31 w') (fun _ hw => below_full B36 B36.size hw) ?_
      refine EA_take 0 rfl (by kernel_rfl) (by kernel_rfl) (by kernel_rfl) (.int .i64 0) rfl (fun _ hw => r_move rfl) (Below.refl _ _) ?_
      refine EA_take 1 rfl (by kernel_rfl) (by kernel_rfl) (by kernel_rfl) (.bool false) rfl (fun _ hw => r_dec (by decide) (r_neq rfl rfl)) (Below.refl _ _) ?_
      refine EA_take 2 rfl (by kernel_rfl) (by kernel_rfl) (by kernel_rfl) (.bool false) rfl (fun _ hw => r_move rfl) (Below.refl _ _) ?_
      refine EA_gtake 3 rfl (by kernel_rfl) (by kernel_rfl) (by kernel_rfl) 48 rfl rfl rfl rfl p21 rfl (fun _ hw => r_move rfl) (Below.refl _ _) ?_
      refine EA_gtake 4 rfl (by kernel_rfl) (by kernel_rfl) (by kernel_rfl) 48 rfl rfl rfl rfl (.string (str (box k n o t))) rfl (fun _ hw => r_str rfl (((own_row O22).below B36).below hw) Try.underlying22 Try.underlying5 Try.underlying9) (Below.refl _ _) ?_
      refine EA_gtake 5 rfl (by kernel_rfl) (by kernel_rfl) (by kernel_rfl) 48 rfl rfl rfl rfl v0 rfl (fun _ hw => r_move rfl) (Below.refl _ _) ?_
      refine EA_gtake 6 rfl (by kernel_rfl) (by kernel_rfl) (by kernel_rfl) 48 rfl rfl rfl rfl v1 rfl (fun _ hw => r_move rfl) (Below.refl _ _) ?_
      refine EA_gtake 7 rfl (by kernel_rfl) (by kernel_rfl) (by kernel_rfl) 48 rfl rfl rfl rfl v2 rfl (fun _ hw => r_move rfl) (Below.refl _ _) ?_
      refine EA_gtake 8 rfl (by kernel_rfl) (by kernel_rfl) (by kernel_rfl) 48 rfl rfl rfl rfl v3 rfl (fun _ hw => r_move rfl) (Below.refl _ _) ?_
      refine EA_call 9 rfl (by kernel_rfl) [v0, v1, v2, v3] (.inr ⟨_, _, 48, rfl, rfl, rfl, rfl⟩) rfl Try.func11 rfl nm11 rfl (rSeal_c v0 k v1 n v2 o v3 t w31 (H0.below B34) (H1.below B34) (H2.below B34) (H3.below B34) (by first | omega | (simp; done) | (simp; omega)) (by first | omega | (simp; done) | (simp; omega)) (by first | omega | (simp; done) | (simp; omega)) (by first | omega | (simp; done) | (simp; omega))) ?_
      rintro p37 w40 ⟨O38, B39⟩
      have B41 : Below w.heap.size w w40 := below_full B34 B34.size B39
      have B42 : Below w11.heap.size w11 w40 := below_full B35 B35.size B39
      have B43 : Below w24.heap.size w24 w40 := below_full B36 B36.size B39
      have B44 : Below w31.heap.size w31 w40 := B39
      refine ⟨B44, ?_⟩
      refine EA_strong (fun w' => Below w40.heap.size w40 w') (fun _ hw => below_full B44 B44.size hw) ?_
      have L45 := box_len k n o t
      refine EA_gtake 10 rfl (by kernel_rfl) (by kernel_rfl) (by kernel_rfl) 48 rfl rfl rfl rfl (.string (str (box k n o t))) rfl (fun _ hw => r_str rfl ((own_row O38).below hw) Try.underlying22 Try.underlying5 Try.underlying9) (Below.refl _ _) ?_
      refine EA_gtake 11 rfl (by kernel_rfl) (by kernel_rfl) (by kernel_rfl) 48 rfl rfl rfl rfl (.bool false) rfl (fun _ hw => r_dec (show (decide ((box k n o t) ≠ (box k n o t))) = false from by simp) (r_neqs rfl rfl)) (Below.refl _ _) ?_
      refine EA_take 12 rfl (by kernel_rfl) (by kernel_rfl) (by kernel_rfl) (.bool false) rfl (fun _ hw => r_pickF rfl rfl) (Below.refl _ _) ?_
      refine EA_done (by kernel_rfl) ?_
      refine thn_n ?_
      refine EC_cond_false rfl ?_
      refine EC_skip ?_
      refine thn_n ?_
      refine EC_seq ?_
      refine EC_reg ?_
      refine EL_val v0 w40 rfl (r_move rfl) ?_
      refine EL_val v1 w40 rfl (r_move rfl) ?_
      refine EL_val v2 w40 rfl (r_move rfl) ?_
      refine EL_val p21 w40 rfl (r_move rfl) ?_
      have L49 := xo_len k 1 n ((box k n o t).take ((box k n o t).length - 16))
      refine EL_ret [v0, v1, v2, p21] rfl Try.func12 rfl nm12 rfl (Open_ok v0 k v1 n v2 o p21 (box k n o t) w40 (H0.below B41) (H1.below B41) (H2.below B41) ((own_row O22).below B43) (by first | omega | (simp; done) | (simp; omega)) (by first | omega | (simp; done) | (simp; omega)) (by first | omega | (simp; done) | (simp; omega)) (by first | omega | (rw [box_len]; decide) | (simp; done) | (simp; omega)) (box_is _ _ _ _)) ?_
      rintro _ w50 ⟨p46, rfl, O47, B48⟩
      have B51 : Below w.heap.size w w50 := below_full B41 B41.size B48
      have B52 : Below w11.heap.size w11 w50 := below_full B42 B42.size B48
      have B53 : Below w24.heap.size w24 w50 := below_full B43 B43.size B48
      have B54 : Below w31.heap.size w31 w50 := below_full B44 B44.size B48
      have B55 : Below w40.heap.size w40 w50 := B48
      refine EL_val (.tuple #[p46, .int .i64 0]) w50 rfl (r_move rfl) ?_
      refine EL_val p46 w50 rfl (r_extract rfl rfl) ?_
      refine EL_val (.int .i64 0) w50 rfl (r_extract rfl rfl) ?_
      refine EL_val p46 w50 rfl (r_assign rfl) ?_
      refine EL_val (.int .i64 0) w50 rfl (r_assign rfl) ?_
      refine EL_nil ?_
      refine thn_n ?_
      refine EC_seq ?_
      refine EC_reg ?_
      refine EL_val (.int .i64 0) w50 rfl (r_move rfl) ?_
      refine EL_val (.bool true) w50 rfl (r_dec (by decide) (r_eql rfl rfl)) ?_
      refine EL_val (.bool true) w50 rfl (r_move rfl) ?_
      refine EL_gval 69 rfl rfl rfl rfl p46 w50 rfl (r_move rfl) ?_
      refine EL_gval 69 rfl rfl rfl rfl (.string (str (xo k 1 n ((box k n o t).take ((box k n o t).length - 16))))) w50 rfl (r_str rfl (own_row O47) Try.underlying22 Try.underlying5 Try.underlying9) ?_
      refine EL_gval 69 rfl rfl rfl rfl v3 w50 rfl (r_move rfl) ?_
      refine EL_gval 69 rfl rfl rfl rfl (.string (str t)) w50 rfl (r_str rfl (H3.below B51) Try.underlying22 Try.underlying5 Try.underlying9) ?_
      refine EL_gval 69 rfl rfl rfl rfl (.bool true) w50 rfl (r_dec (show (decide ((xo k 1 n ((box k n o t).take ((box k n o t).length - 16))) = t)) = true from by rw [box_head, xo_xo]; simp) (r_eqls rfl rfl)) ?_
      refine EL_val (.bool true) w50 rfl (r_pickT rfl rfl) ?_
      refine EL_val (.bool true) w50 rfl (r_assign rfl) ?_
      refine EL_nil ?_
      refine thn_n ?_
      refine EC_ret ?_
      refine fin1 Try.results3 (show _ = .bool true from rfl) ⟨_, rfl, ?_⟩
      exact ⟨rfl, B51⟩
theorem own : ownKnob Try.prog.godebug = none := by kernel_rfl
theorem laidOut : laidOutB Try.prog = true := by kernel_rfl
set_option maxRecDepth 100000 in
theorem lifted (os : Os) (started : os.Started) (H : Type) (enc : TypeId × Value → H) :
    ReturnsInHanded {} Try.checked os 3 .any (Rows.aeadSealsSpec.pre6 enc Try.prog Try.f3 Rows.aeadSealsRow.domain false) (Rows.aeadSealsSpec.post enc Try.prog Try.f3 false true false false) := by
  refine returnsInHanded_of_change (C := Try.checked) own started (by kernel_rfl) Try.func3
    (ChangeSpec.witness6 (enc := enc) (C := Try.checked) false ⟨#[], #[.slice none 0 0, .slice none 0 0, .slice none 0 0, .slice none 0 0], []⟩ 8 (by kernel_rfl) (by kernel_rfl) (by kernel_rfl) (by kernel_rfl)) ?_
  intro W base args ds gs before hval0 hW hcnd _
  have hval : ∀ (j : Nat) t v, Try.f3.params[j]? = some t → args[j]? = some v → Value.okWide Try.prog W .any base t v := hval0
  have hW' := hW
  obtain ⟨p, q, hA0, hV, rfl, hfz, hnd⟩ := hW
  have hA : DataW.TrodAll enc Try.prog W 0 (fun _ => true) true Try.f3.params.toList args.toList ds p := hA0
  rw [Try.params3] at hA hval
  obtain ⟨v0, vs0, d0, ds0, p0, q0, hargs, rfl, rfl, h0, r0⟩ := trodAll_cons hA
  obtain ⟨v1, vs1, d1, ds1, p1, q1, rfl, rfl, rfl, h1, r1⟩ := trodAll_cons r0
  obtain ⟨v2, vs2, d2, ds2, p2, q2, rfl, rfl, rfl, h2, r2⟩ := trodAll_cons r1
  obtain ⟨v3, vs3, d3, ds3, p3, q3, rfl, rfl, rfl, h3, r3⟩ := trodAll_cons r2
  obtain ⟨rfl, rfl, rfl⟩ := trodAll_nil r3
  obtain rfl : args = #[v0, v1, v2, v3] := by cases args; simp_all
  obtain ⟨rfl, rfl⟩ := trodVars_none hV
  have k0 := h0
  have lt0 : ∀ x ∈ p0, x.block < W.heap.size := by obtain ⟨m, hm⟩ := k0; exact DataW.trod_lt m _ _ _ hm
  obtain ⟨a0, len0, cap0, rfl⟩ := okWide_slice Try.underlying22 (hval 0 22 v0 rfl rfl)
  obtain ⟨b0, H0⟩ : ∃ l, Bs W (.slice a0 len0 cap0) l := by
    obtain ⟨fuel, hf⟩ := h0
    rcases open_ints Try.underlying22 Try.underlying5 (by kernel_rfl) hf with ⟨hcs, _⟩ | ⟨x, l, c, zs, hcs, _, hl, hm, hz, _, hcell, hwz⟩
    · simp [Value.cells] at hcs
      obtain ⟨rfl, rfl, rfl⟩ := hcs
      exact ⟨[], Row.nil W⟩
    · simp [Value.cells] at hcs
      obtain ⟨rfl, rfl, rfl⟩ := hcs
      exact bs_open hl hm (by simpa using hz) hcell hwz
  have k1 := h1
  have lt1 : ∀ x ∈ p1, x.block < W.heap.size := by obtain ⟨m, hm⟩ := k1; exact DataW.trod_lt m _ _ _ hm
  obtain ⟨a1, len1, cap1, rfl⟩ := okWide_slice Try.underlying22 (hval 1 22 v1 rfl rfl)
  obtain ⟨b1, H1⟩ : ∃ l, Bs W (.slice a1 len1 cap1) l := by
    obtain ⟨fuel, hf⟩ := h1
    rcases open_ints Try.underlying22 Try.underlying5 (by kernel_rfl) hf with ⟨hcs, _⟩ | ⟨x, l, c, zs, hcs, _, hl, hm, hz, _, hcell, hwz⟩
    · simp [Value.cells] at hcs
      obtain ⟨rfl, rfl, rfl⟩ := hcs
      exact ⟨[], Row.nil W⟩
    · simp [Value.cells] at hcs
      obtain ⟨rfl, rfl, rfl⟩ := hcs
      exact bs_open hl hm (by simpa using hz) hcell hwz
  have k2 := h2
  have lt2 : ∀ x ∈ p2, x.block < W.heap.size := by obtain ⟨m, hm⟩ := k2; exact DataW.trod_lt m _ _ _ hm
  obtain ⟨a2, len2, cap2, rfl⟩ := okWide_slice Try.underlying22 (hval 2 22 v2 rfl rfl)
  obtain ⟨b2, H2⟩ : ∃ l, Bs W (.slice a2 len2 cap2) l := by
    obtain ⟨fuel, hf⟩ := h2
    rcases open_ints Try.underlying22 Try.underlying5 (by kernel_rfl) hf with ⟨hcs, _⟩ | ⟨x, l, c, zs, hcs, _, hl, hm, hz, _, hcell, hwz⟩
    · simp [Value.cells] at hcs
      obtain ⟨rfl, rfl, rfl⟩ := hcs
      exact ⟨[], Row.nil W⟩
    · simp [Value.cells] at hcs
      obtain ⟨rfl, rfl, rfl⟩ := hcs
      exact bs_open hl hm (by simpa using hz) hcell hwz
  have k3 := h3
  have lt3 : ∀ x ∈ p3, x.block < W.heap.size := by obtain ⟨m, hm⟩ := k3; exact DataW.trod_lt m _ _ _ hm
  obtain ⟨a3, len3, cap3, rfl⟩ := okWide_slice Try.underlying22 (hval 3 22 v3 rfl rfl)
  obtain ⟨b3, H3⟩ : ∃ l, Bs W (.slice a3 len3 cap3) l := by
    obtain ⟨fuel, hf⟩ := h3
    rcases open_ints Try.underlying22 Try.underlying5 (by kernel_rfl) hf with ⟨hcs, _⟩ | ⟨x, l, c, zs, hcs, _, hl, hm, hz, _, hcell, hwz⟩
    · simp [Value.cells] at hcs
      obtain ⟨rfl, rfl, rfl⟩ := hcs
      exact ⟨[], Row.nil W⟩
    · simp [Value.cells] at hcs
      obtain ⟨rfl, rfl, rfl⟩ := hcs
      exact bs_open hl hm (by simpa using hz) hcell hwz
  clear hA0 hval0
  refine Calls.mono (AeadSeals_c (.slice a0 len0 cap0) b0 (.slice a1 len1 cap1) b1 (.slice a2 len2 cap2) b2 (.slice a3 len3 cap3) b3 W H0 H1 H2 H3) fun e W' ⟨v', he, hv, bel⟩ => ?_
  subst he
  subst hv
  exact ⟨_, rfl, _, _, _, [], _, [], hW', trodAll_mk1 (shut_bool Try.underlying4 _), (trodAll_cons_mk (Below.trod laidOut (by kernel_rfl) (of_decide_eq_true (by kernel_rfl)) k0 bel lt0) (trodAll_cons_mk (Below.trod laidOut (by kernel_rfl) (of_decide_eq_true (by kernel_rfl)) k1 bel lt1) (trodAll_cons_mk (Below.trod laidOut (by kernel_rfl) (of_decide_eq_true (by kernel_rfl)) k2 bel lt2) (trodAll_cons_mk (Below.trod laidOut (by kernel_rfl) (of_decide_eq_true (by kernel_rfl)) k3 bel lt3) trodAll_mk0)))), rfl, bel.frame _, fun h => by cases h⟩
theorem over : Rows.aeadSealsRow.holds Try.pinned (OpenSpec.ofChange Rows.aeadSealsSpec) :=
  OpenClaim.holds_of_wide 3 Try.f3 rfl rfl rfl rfl rfl rfl rfl ⟨rfl, rfl, rfl, rfl, rfl⟩ rfl rfl rfl rfl rfl (by kernel_rfl) Try.func3 (by kernel_rfl)
    (of_decide_eq_true (by kernel_rfl)) (by unfold Func.isWrapper; first | (rw [if_pos (by decide +kernel)]; kernel_rfl) | (rw [if_neg (by decide +kernel)]; exact ⟨rfl, rfl⟩))
    (fun os started H enc _ => lifted os started H enc)
end Go.Proofs.Ytlhaojpkejpgfaa.aeadSeals
namespace Go.Proofs.Ytlhaojpkejpgfaa
theorem AeadSeals_holds : Rows.AeadSealsSaid := aeadSeals.over
end Go.Proofs.Ytlhaojpkejpgfaa
