/-
  Two nonces are the same just if their numbers are.
  Its conditions: none: whatever the input, in whatever memory.
-/
import Derived.Test.YtdnlkkgbgjibgaaRows
import Derived.Test.YtdnlkkgbgjibgaaAnc
import Derived.ProofKit
import Derived.OpenShut
import Derived.ShutString
import Derived.ChangeOld
set_option linter.unusedVariables false
set_option linter.unusedSimpArgs false
namespace Go.Proofs.Ytdnlkkgbgjibgaa.ringNonces
open Go.ChangeShapes Go.WideShapes Go.ChangeAt Go.RowKit Go.Ecal
open Go.ChangeMaps (open_string shut_string)
theorem three (a b c d : Int) : nonceOk a b = false ∨ (nonceOk a b = true ∧ nonceOk c d = false) ∨ (nonceOk a b = true ∧ nonceOk c d = true) := by
  cases nonceOk a b <;> cases nonceOk c d <;> simp
theorem nonce_eq {a b c d : Int} (h : nonceOk a b = true) (k : nonceOk c d = true) : (decide (nonceB a b = nonceB c d) == (decide (a = c) && decide (b = d))) = true := by
  have h1 := nonceB_iff h k
  simp [decide_eq_decide.2 h1]
set_option maxRecDepth 100000 in
set_option maxHeartbeats 4000000 in
theorem RingNonces_w (a : Int) (b : Int) (c : Int) (d : Int) (I : Gh) (R : List HP) (w : World) (S : Sat w I (R)) (ra : -9223372036854775808 ≤ a ∧ a ≤ 9223372036854775807) (rb : -9223372036854775808 ≤ b ∧ b ≤ 9223372036854775807) (rc : -9223372036854775808 ≤ c ∧ c ≤ 9223372036854775807) (rd : -9223372036854775808 ≤ d ∧ d ≤ 9223372036854775807) : Ret Try.prog 3 [.int .i64 a, .int .i64 b, .int .i64 c, .int .i64 d] w fun v w' => ∃ J : Gh, Gh.le I J ∧ .bool true = v ∧ Sat w' J (R) := by
  refine ret_E Try.func3 rfl Try.ntmps3 (by simp) ?_
  refine EC_seq ?_
  refine EC_reg ?_
  refine EL_val (.bool false) w rfl (r_assign rfl) ?_
  refine EL_nil ?_
  refine thn_n ?_
  refine EC_seq ?_
  refine EC_seq ?_
  refine EC_reg ?_
  refine EL_ret _ rfl Try.func8 rfl nm8 rfl (anchor_c I _ _ S) ?_
  rintro _ w11 ⟨I13, le14, rfl, S12⟩
  refine EL_val (.bool false) w11 rfl (r_dec (show (!true) = false from rfl) (r_not rfl)) ?_
  refine EL_nil ?_
  refine thn_n ?_
  refine EC_cond_false rfl ?_
  refine EC_skip ?_
  refine thn_n ?_
  refine EC_seq ?_
  refine EC_reg ?_
  refine EL_val (.int .i64 a) w11 rfl (r_move rfl) ?_
  refine EL_val (.int .i64 b) w11 rfl (r_move rfl) ?_
  refine EL_ret _ rfl Try.func9 rfl nm9 rfl (Nonce_c a b I13 _ _ S12) ?_
  rintro _ w15 ⟨v17, I18, le19, rfl, S16⟩
  refine EL_val (.tuple #[v17, .int .i64 (nonceE a b)]) w15 rfl (r_move rfl) ?_
  refine EL_val v17 w15 rfl (r_extract rfl rfl) ?_
  refine EL_val (.int .i64 (nonceE a b)) w15 rfl (r_extract rfl rfl) ?_
  refine EL_val v17 w15 rfl (r_assign rfl) ?_
  refine EL_val (.int .i64 (nonceE a b)) w15 rfl (r_assign rfl) ?_
  refine EL_nil ?_
  refine thn_n ?_
  refine EC_seq ?_
  refine EC_reg ?_
  refine EL_val (.int .i64 c) w15 rfl (r_move rfl) ?_
  refine EL_val (.int .i64 d) w15 rfl (r_move rfl) ?_
  refine EL_ret _ rfl Try.func9 rfl nm9 rfl (Nonce_c c d I18 _ _ S16) ?_
  rintro _ w20 ⟨v22, I23, le24, rfl, S21⟩
  refine EL_val (.tuple #[v22, .int .i64 (nonceE c d)]) w20 rfl (r_move rfl) ?_
  refine EL_val v22 w20 rfl (r_extract rfl rfl) ?_
  refine EL_val (.int .i64 (nonceE c d)) w20 rfl (r_extract rfl rfl) ?_
  refine EL_val v22 w20 rfl (r_assign rfl) ?_
  refine EL_val (.int .i64 (nonceE c d)) w20 rfl (r_assign rfl) ?_
  refine EL_nil ?_
  refine thn_n ?_
  refine EC_seq ?_
  rcases three a b c d with hab | ⟨hab, hcd⟩ | ⟨hab, hcd⟩
  · refine EC_reg ?_
    refine EL_val (.int .i64 (nonceE a b)) w20 rfl (r_move rfl) ?_
    refine EL_val (.bool true) w20 rfl (r_dec (show (decide ((nonceE a b) ≠ 0)) = true from by rw [nonceE, hab]; rfl) (r_neq rfl rfl)) ?_
    refine EL_val (.bool true) w20 rfl (r_move rfl) ?_
    refine EL_pass 29 rfl rfl rfl rfl rfl ?_
    refine EL_pass 29 rfl rfl rfl rfl rfl ?_
    refine EL_val (.bool true) w20 rfl (r_pickT rfl rfl) ?_
    refine EL_val (.bool true) w20 rfl (r_move rfl) ?_
    refine EL_pass 33 rfl rfl rfl rfl rfl ?_
    refine EL_pass 33 rfl rfl rfl rfl rfl ?_
    refine EL_pass 33 rfl rfl rfl rfl rfl ?_
    refine EL_pass 33 rfl rfl rfl rfl rfl ?_
    refine EL_passU 37 rfl rfl rfl rfl ?_
    refine EL_passU 37 rfl rfl rfl rfl ?_
    refine EL_passU 37 rfl rfl rfl rfl ?_
    refine EL_passU 37 rfl rfl rfl rfl ?_
    refine EL_passU 37 rfl rfl rfl rfl ?_
    refine EL_passU 37 rfl rfl rfl rfl ?_
    refine EL_passU 37 rfl rfl rfl rfl ?_
    refine EL_passU 37 rfl rfl rfl rfl ?_
    refine EL_passU 37 rfl rfl rfl rfl ?_
    refine EL_passU 46 rfl rfl rfl rfl ?_
    refine EL_passU 46 rfl rfl rfl rfl ?_
    refine EL_passU 46 rfl rfl rfl rfl ?_
    refine EL_passU 37 rfl rfl rfl rfl ?_
    refine EL_passU 37 rfl rfl rfl rfl ?_
    refine EL_pass 33 rfl rfl rfl rfl rfl ?_
    refine EL_val (.bool true) w20 rfl (r_pickT rfl rfl) ?_
    refine EL_val (.bool true) w20 rfl (r_assign rfl) ?_
    refine EL_nil ?_
    refine thn_n ?_
    refine EC_ret ?_
    refine fin1 Try.results3 (show _ = .bool true from rfl) ⟨_, rfl, ?_⟩
    have S25 : Sat w20 I23 (OwnB v17 (nonceB a b) :: R) := S21.drop 0 rfl
    have S26 : Sat w20 I23 (R) := S25.drop 0 rfl
    exact ⟨I23, (Gh.le_trans (Gh.le_trans le14 le19) le24), rfl, S26⟩
  · refine EC_reg ?_
    refine EL_val (.int .i64 (nonceE a b)) w20 rfl (r_move rfl) ?_
    refine EL_val (.bool false) w20 rfl (r_dec (show (decide ((nonceE a b) ≠ 0)) = false from by rw [nonceE, hab]; rfl) (r_neq rfl rfl)) ?_
    refine EL_val (.bool false) w20 rfl (r_move rfl) ?_
    refine EL_gval 29 rfl rfl rfl rfl (.int .i64 (nonceE c d)) w20 rfl (r_move rfl) ?_
    refine EL_gval 29 rfl rfl rfl rfl (.bool true) w20 rfl (r_dec (show (decide ((nonceE c d) ≠ 0)) = true from by rw [nonceE, hcd]; rfl) (r_neq rfl rfl)) ?_
    refine EL_val (.bool true) w20 rfl (r_pickF rfl rfl) ?_
    refine EL_val (.bool true) w20 rfl (r_move rfl) ?_
    refine EL_pass 33 rfl rfl rfl rfl rfl ?_
    refine EL_pass 33 rfl rfl rfl rfl rfl ?_
    refine EL_pass 33 rfl rfl rfl rfl rfl ?_
    refine EL_pass 33 rfl rfl rfl rfl rfl ?_
    refine EL_passU 37 rfl rfl rfl rfl ?_
    refine EL_passU 37 rfl rfl rfl rfl ?_
    refine EL_passU 37 rfl rfl rfl rfl ?_
    refine EL_passU 37 rfl rfl rfl rfl ?_
    refine EL_passU 37 rfl rfl rfl rfl ?_
    refine EL_passU 37 rfl rfl rfl rfl ?_
    refine EL_passU 37 rfl rfl rfl rfl ?_
    refine EL_passU 37 rfl rfl rfl rfl ?_
    refine EL_passU 37 rfl rfl rfl rfl ?_
    refine EL_passU 46 rfl rfl rfl rfl ?_
    refine EL_passU 46 rfl rfl rfl rfl ?_
    refine EL_passU 46 rfl rfl rfl rfl ?_
    refine EL_passU 37 rfl rfl rfl rfl ?_
    refine EL_passU 37 rfl rfl rfl rfl ?_
    refine EL_pass 33 rfl rfl rfl rfl rfl ?_
    refine EL_val (.bool true) w20 rfl (r_pickT rfl rfl) ?_
    refine EL_val (.bool true) w20 rfl (r_assign rfl) ?_
    refine EL_nil ?_
    refine thn_n ?_
    refine EC_ret ?_
    refine fin1 Try.results3 (show _ = .bool true from rfl) ⟨_, rfl, ?_⟩
    have S27 : Sat w20 I23 (OwnB v17 (nonceB a b) :: R) := S21.drop 0 rfl
    have S28 : Sat w20 I23 (R) := S27.drop 0 rfl
    exact ⟨I23, (Gh.le_trans (Gh.le_trans le14 le19) le24), rfl, S28⟩
  · refine EC_reg ?_
    refine EL_val (.int .i64 (nonceE a b)) w20 rfl (r_move rfl) ?_
    refine EL_val (.bool false) w20 rfl (r_dec (show (decide ((nonceE a b) ≠ 0)) = false from by rw [nonceE, hab]; rfl) (r_neq rfl rfl)) ?_
    refine EL_val (.bool false) w20 rfl (r_move rfl) ?_
    refine EL_gval 29 rfl rfl rfl rfl (.int .i64 (nonceE c d)) w20 rfl (r_move rfl) ?_
    refine EL_gval 29 rfl rfl rfl rfl (.bool false) w20 rfl (r_dec (show (decide ((nonceE c d) ≠ 0)) = false from by rw [nonceE, hcd]; rfl) (r_neq rfl rfl)) ?_
    refine EL_val (.bool false) w20 rfl (r_pickF rfl rfl) ?_
    refine EL_val (.bool false) w20 rfl (r_move rfl) ?_
    refine EL_gval 33 rfl rfl rfl rfl v17 w20 rfl (r_move rfl) ?_
    refine EL_gval 33 rfl rfl rfl rfl (.int .i64 ((nonceB a b).length : Int)) w20 rfl (lenB (r_len rfl (own_row (S21.own 1 rfl)) Try.underlying23)) ?_
    refine EL_gval 33 rfl rfl rfl rfl (.bool true) w20 rfl (r_dec (show (decide (((nonceB a b).length : Int) = 12)) = true from by rw [decide_eq_true_eq, nonceB_len hab]; rfl) (r_eql rfl rfl)) ?_
    refine EL_gval 33 rfl rfl rfl rfl (.bool true) w20 rfl (r_move rfl) ?_
    refine EL_gval 37 rfl rfl rfl rfl v17 w20 rfl (r_move rfl) ?_
    refine EL_gval 37 rfl rfl rfl rfl (.string (str (nonceB a b))) w20 rfl (r_str rfl (own_row (S21.own 1 rfl)) Try.underlying23 Try.underlying5 Try.underlying9) ?_
    refine EL_gval 37 rfl rfl rfl rfl v22 w20 rfl (r_move rfl) ?_
    refine EL_gval 37 rfl rfl rfl rfl (.string (str (nonceB c d))) w20 rfl (r_str rfl (own_row (S21.own 0 rfl)) Try.underlying23 Try.underlying5 Try.underlying9) ?_
    refine EL_gval 37 rfl rfl rfl rfl (.bool (decide ((nonceB a b) = (nonceB c d)))) w20 rfl (r_eqls rfl rfl) ?_
    refine EL_gval 37 rfl rfl rfl rfl (.int .i64 a) w20 rfl (r_move rfl) ?_
    refine EL_gval 37 rfl rfl rfl rfl (.int .i64 c) w20 rfl (r_move rfl) ?_
    refine EL_gval 37 rfl rfl rfl rfl (.bool (decide (a = c))) w20 rfl (r_eql rfl rfl) ?_
    refine EL_gval 37 rfl rfl rfl rfl (.bool (decide (a = c))) w20 rfl (r_move rfl) ?_
    refine EL_gite 46 rfl rfl rfl (.int .i64 b) rfl (fun g29 => r_move rfl) ?_
    refine EL_gite 46 rfl rfl rfl (.int .i64 d) rfl (fun g30 => r_move rfl) ?_
    refine EL_gite 46 rfl rfl rfl (.bool (decide (b = d))) rfl (fun g31 => r_eql (cond_of g31 rfl) (cond_of g31 rfl)) ?_
    refine EL_gval 37 rfl rfl rfl rfl (.bool ((decide (a = c)) && (decide (b = d)))) w20 rfl (r_and rfl rfl rfl) ?_
    refine EL_gval 37 rfl rfl rfl rfl (.bool true) w20 rfl (r_dec (show ((decide ((nonceB a b) = (nonceB c d))) == ((decide (a = c)) && (decide (b = d)))) = true from nonce_eq hab hcd) (r_eqlb rfl rfl Try.underlying4)) ?_
    refine EL_gval 33 rfl rfl rfl rfl (.bool true) w20 rfl (r_pickT rfl rfl) ?_
    refine EL_val (.bool true) w20 rfl (r_pickF rfl rfl) ?_
    refine EL_val (.bool true) w20 rfl (r_assign rfl) ?_
    refine EL_nil ?_
    refine thn_n ?_
    refine EC_ret ?_
    refine fin1 Try.results3 (show _ = .bool true from rfl) ⟨_, rfl, ?_⟩
    have S32 : Sat w20 I23 (OwnB v17 (nonceB a b) :: R) := S21.drop 0 rfl
    have S33 : Sat w20 I23 (R) := S32.drop 0 rfl
    exact ⟨I23, (Gh.le_trans (Gh.le_trans le14 le19) le24), rfl, S33⟩
theorem RingNonces_c (a : Int) (b : Int) (c : Int) (d : Int) (w : World) (ra : -9223372036854775808 ≤ a ∧ a ≤ 9223372036854775807) (rb : -9223372036854775808 ≤ b ∧ b ≤ 9223372036854775807) (rc : -9223372036854775808 ≤ c ∧ c ≤ 9223372036854775807) (rd : -9223372036854775808 ≤ d ∧ d ≤ 9223372036854775807) : Ret Try.prog 3 [.int .i64 a, .int .i64 b, .int .i64 c, .int .i64 d] w fun v w' => v = .bool true ∧ Below w.heap.size w w' :=
  (RingNonces_w a b c d (gh w) [] w (Sat.start w) ra rb rc rd).mono fun v w' h => by obtain ⟨J, le, e, S⟩ := h; exact ⟨e.symm, S.fin le⟩
theorem own : ownKnob Try.prog.godebug = none := by kernel_rfl
theorem laidOut : laidOutB Try.prog = true := by kernel_rfl
set_option maxRecDepth 100000 in
theorem lifted (os : Os) (started : os.Started) (H : Type) (enc : TypeId × Value → H) :
    ReturnsInHanded {} Try.checked os 3 .any (Rows.ringNoncesSpec.pre6 enc Try.prog Try.f3 Rows.ringNoncesRow.domain false) (Rows.ringNoncesSpec.post enc Try.prog Try.f3 false true false false) := by
  refine returnsInHanded_of_change (C := Try.checked) own started (by kernel_rfl) Try.func3
    (ChangeSpec.witness6 (enc := enc) (C := Try.checked) false ⟨#[], #[.int .i64 0, .int .i64 0, .int .i64 0, .int .i64 0], []⟩ 8 (by kernel_rfl) (by kernel_rfl) (by kernel_rfl) (by kernel_rfl)) ?_
  intro W base args ds gs before hval0 hW hcnd _
  have hval : ∀ (j : Nat) t v, Try.f3.params[j]? = some t → args[j]? = some v → Value.okWide Try.prog W .any base t v := hval0
  have hW' := hW
  obtain ⟨p, q, hA0, hV, rfl, hfz, hnd⟩ := hW
  have hA : DataW.TrodAll enc Try.prog W 0 (fun _ => true) true Try.f3.params.toList args.toList ds p := hA0
  rw [Try.params3] at hA hval
  obtain ⟨v0, vs0, d0, ds0, p0, q0, hargs, rfl, rfl, h0, r0⟩ := trodAll_cons hA
  obtain ⟨v1, vs1, d1, ds1, p1, q1, rfl, rfl, rfl, h1, r1⟩ := trodAll_cons r0
  obtain ⟨v2, vs2, d2, ds2, p2, q2, rfl, rfl, rfl, h2, r2⟩ := trodAll_cons r1
  obtain ⟨v3, vs3, d3, ds3, p3, q3, rfl, rfl, rfl, h3, r3⟩ := trodAll_cons r2
  obtain ⟨rfl, rfl, rfl⟩ := trodAll_nil r3
  obtain rfl : args = #[v0, v1, v2, v3] := by cases args; simp_all
  obtain ⟨rfl, rfl⟩ := trodVars_none hV
  have k0 := h0
  have lt0 : ∀ x ∈ p0, x.block < W.heap.size := by obtain ⟨m, hm⟩ := k0; exact DataW.trod_lt m _ _ _ hm
  obtain ⟨a0, rfl, rfl, rfl, w0⟩ := open_int Try.underlying3 (hval 0 3 v0 rfl rfl) h0
  have k1 := h1
  have lt1 : ∀ x ∈ p1, x.block < W.heap.size := by obtain ⟨m, hm⟩ := k1; exact DataW.trod_lt m _ _ _ hm
  obtain ⟨a1, rfl, rfl, rfl, w1⟩ := open_int Try.underlying3 (hval 1 3 v1 rfl rfl) h1
  have k2 := h2
  have lt2 : ∀ x ∈ p2, x.block < W.heap.size := by obtain ⟨m, hm⟩ := k2; exact DataW.trod_lt m _ _ _ hm
  obtain ⟨a2, rfl, rfl, rfl, w2⟩ := open_int Try.underlying3 (hval 2 3 v2 rfl rfl) h2
  have k3 := h3
  have lt3 : ∀ x ∈ p3, x.block < W.heap.size := by obtain ⟨m, hm⟩ := k3; exact DataW.trod_lt m _ _ _ hm
  obtain ⟨a3, rfl, rfl, rfl, w3⟩ := open_int Try.underlying3 (hval 3 3 v3 rfl rfl) h3
  clear hA0 hval0
  refine Calls.mono (RingNonces_c a0 a1 a2 a3 W (rng_i64 w0) (rng_i64 w1) (rng_i64 w2) (rng_i64 w3)) fun e W' ⟨v', he, hv, bel⟩ => ?_
  subst he
  subst hv
  exact ⟨_, rfl, _, _, _, [], _, [], hW', trodAll_mk1 (shut_bool Try.underlying4 _), (trodAll_cons_mk (Below.trod laidOut (by kernel_rfl) (of_decide_eq_true (by kernel_rfl)) k0 bel lt0) (trodAll_cons_mk (Below.trod laidOut (by kernel_rfl) (of_decide_eq_true (by kernel_rfl)) k1 bel lt1) (trodAll_cons_mk (Below.trod laidOut (by kernel_rfl) (of_decide_eq_true (by kernel_rfl)) k2 bel lt2) (trodAll_cons_mk (Below.trod laidOut (by kernel_rfl) (of_decide_eq_true (by kernel_rfl)) k3 bel lt3) trodAll_mk0)))), rfl, bel.frame _, fun h => by cases h⟩
theorem over : Rows.ringNoncesRow.holds Try.pinned (OpenSpec.ofChange Rows.ringNoncesSpec) :=
  OpenClaim.holds_of_wide 3 Try.f3 rfl rfl rfl rfl rfl rfl rfl ⟨rfl, rfl, rfl, rfl, rfl⟩ rfl rfl rfl rfl rfl (by kernel_rfl) Try.func3 (by kernel_rfl)
    (of_decide_eq_true (by kernel_rfl)) (by unfold Func.isWrapper; first | (rw [if_pos (by decide +kernel)]; kernel_rfl) | (rw [if_neg (by decide +kernel)]; exact ⟨rfl, rfl⟩))
    (fun os started H enc _ => lifted os started H enc)
end Go.Proofs.Ytdnlkkgbgjibgaa.ringNonces
namespace Go.Proofs.Ytdnlkkgbgjibgaa
theorem RingNonces_holds : Rows.RingNoncesSaid := ringNonces.over
end Go.Proofs.Ytdnlkkgbgjibgaa
