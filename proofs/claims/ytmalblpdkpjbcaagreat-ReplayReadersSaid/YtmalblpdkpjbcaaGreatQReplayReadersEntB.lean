import Derived.Test.YtmalblpdkpjbcaaGreatQReplayReadersEntA
set_option linter.unusedVariables false
set_option linter.unusedSimpArgs false
set_option maxRecDepth 100000
set_option maxHeartbeats 4000000
namespace Go.Proofs.YtmalblpdkpjbcaaGreat
open Go.RowKit Go.Ecal

theorem SameW_c (cx : List Value) (cy : List Value) (x : WrapT) (y : WrapT) (I : Gh) (R : List HP) (w : World) (S : Sat w I (R)) (hx : wrapR.r I cx x) (hy : wrapR.r I cy y) : Ret Tryz.prog 206 [.agg cx.toArray, .agg cy.toArray] w fun v w' => .bool (decide (x = y)) = v ∧ Sat w' I (R) := by
  obtain ⟨v0, rfl, r0, ⟨o0, H0⟩⟩ := hx
  obtain ⟨v1, rfl, r1, ⟨o1, H1⟩⟩ := hy
  refine ret_E Tryz.func206 rfl Tryz.ntmps206 (by simp) ?_
  refine g2 ?_
  refine yB (cs := [.int .i64 x.who, v0]) S ?_
  intro b0 w0 S0
  refine yB (cs := [.int .i64 y.who, v1]) S0 ?_
  intro b1 w1 S1
  refine g4 ?_
  rcases Decidable.em (x.who = y.who) with hxy | hxy
  refine g5 ?_
  refine vl _ rfl (dT (r_eql rfl rfl) hxy) ?_
  refine g5 ?_
  refine yG (Equal_c _ _ _ _ _ _ _ S1 H0 H1) ?_
  rintro _ w2 ⟨rfl, S2⟩
  refine g5 ?_
  refine f1 Tryz.results206 ?_
  exact ⟨(congrArg Value.bool (decide_eq_decide.2 ⟨fun h => (wrap_eq.1 h).2, fun h => wrap_eq.2 ⟨hxy, h⟩⟩)), S2.dr0.dr0⟩
  refine g5 ?_
  refine vl _ rfl (dF (r_eql rfl rfl) hxy) ?_
  refine g11 ?_
  refine f1 Tryz.results206 ?_
  exact ⟨(congrArg Value.bool (by rw [decide_eq_false (fun h => hxy (wrap_eq.1 h).1)])), S1.dr0.dr0⟩

theorem EqualF_c (v0 : Value) (l : List WrapT) (v1 : Value) (m : List WrapT) (I : Gh) (R : List HP) (w : World) (S : Sat w I (R)) (Q0 : RoX I v0 wrapR l) (Q1 : RoX I v1 wrapR m) : Ret Tryz.prog 205 [v0, v1, .func (.func 206) #[] #[]] w fun v w' => .bool (decide (l = m)) = v ∧ Sat w' I (R) := by
  have lq0 := XRow.le (Q0.row S.le)
  have lq1 := XRow.le (Q1.row S.le)
  refine ret_E Tryz.func205 rfl Tryz.ntmps205 (by simp) ?_
  refine g9 ?_
  refine vl _ rfl (r_lenX rfl (Q0.row S.le) U35) ?_
  refine g1 ?_
  refine vl _ rfl (r_lenX rfl (Q1.row S.le) U35) ?_
  refine g3 ?_
  refine EC_if rfl (fun h0 => ?_) (fun h0 => ?_)
  have hne : ¬ l.length = m.length := by simp at h0; omega
  refine g7 ?_
  refine f1 Tryz.results205 ?_
  exact ⟨(by rw [decide_eq_false (fun h => hne (by rw [h]))]), S⟩
  have hle : l.length = m.length := by simp at h0; omega
  refine g6 ?_
  refine vl _ rfl (r_lenX rfl (Q0.row S.le) U35) ?_
  refine g4 ?_
  refine EC_loop (fun m' E' w' => ∃ j : Nat, m' = l.length - j ∧ E' 17 = .int .i64 (j : Int) ∧ E' 1 = v1 ∧ E' 2 = .func (.func 206) #[] #[] ∧ E' 15 = v0 ∧ E' 16 = .int .i64 (l.length : Int) ∧ (j ≤ l.length) ∧ (l.take j = m.take j) ∧ Sat w' I (R)) _ ⟨0, rfl, rfl, rfl, rfl, rfl, rfl, Nat.zero_le _, by simp, S⟩ ?_
  rintro _ E0 w0 ⟨j, rfl, e0, e1, e2, e3, e4, hj, hlm, S0⟩
  refine g6 ?_
  refine EC_if rfl (fun h2 => ?_) (fun h2 => ?_)
  refine g7 ?_
  refine vl (ptr (blkOf v0) (offOf v0 + ((j : Int) : Int).toNat * 2)) rfl (r_indexX (by exact e3) (Q0.row S0.le) (by exact e0) (by omega) as' U35 (by kernel_rfl)) ?_
  obtain ⟨a0, ha0⟩ := get_some (l := l) (j := ((j : Int) : Int).toNat) as'
  obtain ⟨cs0, hc0, he0⟩ := Q0.el ha0
  obtain ⟨v2, rfl, r0, ⟨o0, H0⟩⟩ := hc0
  refine vl (.agg ([.int .i64 a0.who, v2]).toArray) rfl (r_loadR (cs := [.int .i64 a0.who, v2]) rfl (he0 _ S0.le) U158 rfl (by kernel_rfl)) ?_
  refine yN [.int .i64 0, .slice none 0 0] S0 ?_
  intro b0 w1 S1
  refine g1 ?_
  refine yW0 S1 ?_ (h1 := ones_cons rfl (ones_cons o0 ones_nil))
  intro w2 S2
  refine g6 ?_
  refine vl (ptr (blkOf v1) (offOf v1 + ((j : Int) : Int).toNat * 2)) rfl (r_indexX rfl (Q1.row S2.le) rfl (by omega) as' U35 (by kernel_rfl)) ?_
  obtain ⟨a1, ha1⟩ := get_some (l := m) (j := ((j : Int) : Int).toNat) as'
  obtain ⟨cs1, hc1, he1⟩ := Q1.el ha1
  obtain ⟨v3, rfl, r1, ⟨o1, H1⟩⟩ := hc1
  refine vl (.agg ([.int .i64 a1.who, v3]).toArray) rfl (r_loadR (cs := [.int .i64 a1.who, v3]) rfl (he1 _ S2.le) U158 rfl (by kernel_rfl)) ?_
  refine yN [.int .i64 0, .slice none 0 0] S2 ?_
  intro b1 w3 S3
  refine yW0 S3 ?_ (h1 := ones_cons rfl (ones_cons o1 ones_nil))
  intro w4 S4
  refine g7 ?_
  refine EL_retw _ rfl rfl Tryz.func206 rfl nm206 rfl (SameW_c [.int .i64 a0.who, v2] [.int .i64 a1.who, v3] a0 a1 _ _ _ S4 ⟨v2, rfl, ad, ⟨o0, H0⟩⟩ ⟨v3, rfl, ad, ⟨o1, H1⟩⟩) ?_
  rintro _ w5 ⟨rfl, S5⟩
  refine g3 ?_
  refine EC_cond (t := !(decide (a0 = a1))) rfl (fun h3 => ?_) (fun h3 => ?_)
  have hab : a0 ≠ a1 := fun h => by simp [h] at h3
  refine g11 ?_
  refine f1 Tryz.results205 ?_
  exact ⟨(by rw [decide_eq_false (fun h => hab (by have h1 := ha0; rw [h] at h1; exact Option.some.inj (h1.symm.trans ha1)))]), S5.dr0.dr0⟩
  have hab : a0 = a1 := by simpa using h3
  refine g4 ?_
  refine EL_int ((j : Int) + 1) rfl (r_addi (by exact e0) rfl (by omega)) ?_
  intro x0 hx68
  refine g3 ?_
  refine ⟨_, ?_, j + 1, rfl, (Eq.trans (show _ = Value.int .i64 x0 from rfl) (congrArg _ (by omega))), (by exact e1), (by exact e2), (by exact e3), (by exact e4), by omega, (by rw [List.take_add_one, List.take_add_one, hlm, (show l[j]? = _ from ha0), (show m[j]? = _ from ha1), show a0 = a1 from hab]), S5.dr0.dr0⟩
  first | omega | (simp; omega)
  refine g11 ?_
  refine f1 Tryz.results205 ?_
  exact ⟨(by rw [decide_eq_true (by rwa [List.take_of_length_le (by omega), List.take_of_length_le (by omega)] at hlm)]), S0⟩

end Go.Proofs.YtmalblpdkpjbcaaGreat
