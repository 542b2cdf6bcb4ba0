import Derived.Test.YtoajodjcmeijgaaGreatQSealedPlaysEntA
set_option linter.unusedVariables false
set_option linter.unusedSimpArgs false
namespace Go.Proofs.YtoajodjcmeijgaaGreat
open Go.RowKit Go.Ecal

set_option maxRecDepth 100000 in
set_option maxHeartbeats 4000000 in
theorem SameW_c (cx : List Value) (cy : List Value) (x : WrapT) (y : WrapT) (I : Gh) (R : List HP) (w : World) (S : Sat w I (R)) (hx : wrapR.r I cx x) (hy : wrapR.r I cy y) : Ret Tryz.prog 64 [.agg cx.toArray, .agg cy.toArray] w fun v w' => .bool (decide (x = y)) = v ∧ Sat w' I (R) := by
  obtain ⟨v12, rfl, r11, ⟨o13, H14⟩⟩ := hx
  obtain ⟨v16, rfl, r15, ⟨o17, H18⟩⟩ := hy
  refine ret_E Tryz.func64 rfl Tryz.ntmps64 (by simp) ?_
  refine EC_seq (EC_reg ?_)
  refine EL_box [.int .i64 x.who, v12] rfl rfl rfl ?_
  intro b19 w20 k21 A22 B23 z24
  have S25 := S.newB B23 A22 k21
  refine EL_box [.int .i64 y.who, v16] rfl rfl rfl ?_
  intro b26 w27 k28 A29 B30 z31
  have S32 := S25.newB B30 A29 k28
  refine vA (.bool false) rfl rfl (EL_nil (thn_n (EC_seq ?_)))
  rcases Decidable.em (x.who = y.who) with hxy | hxy
  refine EC_reg (vl (ptr b19 0) rfl (fP 0 rfl U80 (by kernel_rfl)) (vL (.int .i64 x.who) rfl rfl (S32.arr 1 rfl) rfl U3 rfl (vl (ptr b26 0) rfl (fP 0 rfl U80 (by kernel_rfl)) (vL (.int .i64 y.who) rfl rfl (S32.arr 0 rfl) rfl U3 rfl (vl (.bool true) rfl (r_dec (show (decide (x.who = y.who)) = true from by rw [decide_eq_true_eq]; exact hxy) (r_eql rfl rfl)) ?_)))))
  refine vM (.bool true) rfl rfl (gl  10 rfl rfl rfl rfl (ptr b19 1) rfl (fP 0 rfl U80 (by kernel_rfl)) ?_)
  refine gL  10 rfl rfl rfl rfl v12 rfl rfl (S32.arr 1 rfl) rfl U22 rfl ?_
  refine gl  10 rfl rfl rfl rfl (ptr b26 1) rfl (fP 0 rfl U80 (by kernel_rfl)) ?_
  refine gL  10 rfl rfl rfl rfl v16 rfl rfl (S32.arr 0 rfl) rfl U22 rfl ?_
  refine eG 10 rfl rfl rfl rfl rfl F62 rfl (Equal_c v12 x.box v16 y.box I _ _ S32 H14 H18) ?_
  rintro _ w33 ⟨rfl, S34⟩
  refine vT (.bool (decide (x.box = y.box))) rfl rfl rfl (vA (.bool (decide (x.box = y.box))) rfl rfl (EL_nil (thn_n (EC_ret ?_))))
  refine fin1 Tryz.results64 (show _ = .bool (decide (x.box = y.box)) from rfl) ⟨_, rfl, ?_⟩
  have S35 := S34.dr0
  have S36 := S35.dr0
  exact ⟨(congrArg Value.bool (decide_eq_decide.2 ⟨fun h => (wrap_eq.1 h).2, fun h => wrap_eq.2 ⟨hxy, h⟩⟩)), S36⟩
  refine EC_reg (vl (ptr b19 0) rfl (fP 0 rfl U80 (by kernel_rfl)) (vL (.int .i64 x.who) rfl rfl (S32.arr 1 rfl) rfl U3 rfl (vl (ptr b26 0) rfl (fP 0 rfl U80 (by kernel_rfl)) (vL (.int .i64 y.who) rfl rfl (S32.arr 0 rfl) rfl U3 rfl (vl (.bool false) rfl (r_dec (show (decide (x.who = y.who)) = false from by rw [decide_eq_false_iff_not]; exact hxy) (r_eql rfl rfl)) ?_)))))
  refine vM (.bool false) rfl rfl (EL_pass 10 rfl rfl rfl rfl rfl (EL_pass 10 rfl rfl rfl rfl rfl (EL_pass 10 rfl rfl rfl rfl rfl (EL_pass 10 rfl rfl rfl rfl rfl (EL_pass 10 rfl rfl rfl rfl rfl ?_)))))
  refine vF (.bool false) rfl rfl rfl (vA (.bool false) rfl rfl (EL_nil (thn_n (EC_ret ?_))))
  refine fin1 Tryz.results64 (show _ = .bool false from rfl) ⟨_, rfl, ?_⟩
  have S37 := S32.dr0
  have S38 := S37.dr0
  exact ⟨(congrArg Value.bool (by rw [decide_eq_false (fun h => hxy (wrap_eq.1 h).1)])), S38⟩

set_option maxRecDepth 100000 in
set_option maxHeartbeats 4000000 in
theorem EqualF_c (v0 : Value) (l : List WrapT) (v1 : Value) (m : List WrapT) (I : Gh) (R : List HP) (w : World) (S : Sat w I (R)) (Q0 : RoX I v0 wrapR l) (Q1 : RoX I v1 wrapR m) : Ret Tryz.prog 63 [v0, v1, .func (.func 64) #[] #[]] w fun v w' => .bool (decide (l = m)) = v ∧ Sat w' I (R) := by
  have lq0 := XRow.le (Q0.row S.le)
  have lq1 := XRow.le (Q1.row S.le)
  refine ret_E Tryz.func63 rfl Tryz.ntmps63 (by simp) ?_
  refine EC_seq (EC_reg (vA (.bool false) rfl rfl (EL_nil (thn_n (EC_seq ?_)))))
  refine EC_seq (EC_reg (vM v0 rfl rfl (vl (.int .i64 (l.length : Int)) rfl (r_lenX rfl (Q0.row S.le) U36) (vM v1 rfl rfl (vl (.int .i64 (m.length : Int)) rfl (r_lenX rfl (Q1.row S.le) U36) ?_)))))
  refine vl (.bool (decide ((l.length : Int) ≠ (m.length : Int)))) rfl (r_neq rfl rfl) (EL_nil (thn_n ?_))
  refine EC_if (p := (l.length : Int) ≠ (m.length : Int)) rfl (fun h11 => ?_) (fun h11 => ?_)
  have hne : ¬ l.length = m.length := by simp at h11; omega
  refine EC_seq (EC_reg (vA (.bool false) rfl rfl (EL_nil (thn_n (EC_ret ?_)))))
  refine thn_r ?_
  refine fin1 Tryz.results63 (show _ = .bool false from rfl) ⟨_, rfl, ?_⟩
  exact ⟨(by rw [decide_eq_false (fun h => hne (by rw [h]))]), S⟩
  have hle : l.length = m.length := by simp at h11; omega
  refine EC_skip (thn_n (EC_seq (EC_seq (EC_reg (vM v0 rfl rfl ?_)))))
  refine vl (.int .i64 (l.length : Int)) rfl (r_lenX rfl (Q0.row S.le) U36) (vM (.int .i64 0) rfl rfl (EL_nil (thn_n (EC_block ?_))))
  refine EC_loop (fun m' E' w' => ∃ j : Nat, m' = l.length - j ∧ E' 17 = .int .i64 (j : Int) ∧ E' 1 = v1 ∧ E' 2 = .func (.func 64) #[] #[] ∧ E' 15 = v0 ∧ E' 16 = .int .i64 (l.length : Int) ∧ (j ≤ l.length) ∧ (l.take j = m.take j) ∧ Sat w' I (R)) _ ⟨0, rfl, rfl, rfl, rfl, rfl, rfl, Nat.zero_le _, by simp, S⟩ ?_
  rintro _ E12 w13 ⟨j, rfl, e14, e15, e16, e17, e18, hj, hlm, S19⟩
  refine EC_seq (EC_reg (vl (.bool (decide ((j : Int) < (l.length : Int)))) rfl (r_lss (by exact e14) (by exact e18)) (EL_nil (thn_n (EC_seq ?_)))))
  refine EC_if (p := (j : Int) < (l.length : Int)) rfl (fun h20 => ?_) (fun h20 => ?_)
  refine EC_skip (thn_n (EC_seq (EC_block (EC_seq (EC_reg ?_)))))
  refine vM (.int .i64 (j : Int)) rfl e14 (vl (ptr (blkOf v0) (offOf v0 + ((j : Int) : Int).toNat * 2)) rfl (r_indexX (by exact e17) (Q0.row S19.le) (by exact e14) (by omega) (by first | omega | (simp; omega) | simp) U36 (by kernel_rfl)) ?_)
  obtain ⟨a21, ha22⟩ := get_some (l := l) (j := ((j : Int) : Int).toNat) (by first | omega | (simp; omega) | simp)
  obtain ⟨cs23, hc24, he25⟩ := Q0.el ha22
  obtain ⟨v27, rfl, r26, ⟨o28, H29⟩⟩ := hc24
  refine vl (.agg ([.int .i64 a21.who, v27]).toArray) rfl (r_loadR (cs := [.int .i64 a21.who, v27]) rfl (he25 _ S19.le) U80 rfl (by kernel_rfl)) ?_
  refine EL_alloc (z := .agg #[.int .i64 0, .slice none 0 0]) [.int .i64 0, .slice none 0 0] rfl (by kernel_rfl) rfl ?_
  intro b30 w31 k32 A33 B34 z35
  have S36 := S19.newB B34 A33 k32
  refine vA (.int .i64 (j : Int)) rfl rfl ?_
  refine sA [.int .i64 a21.who, v27] rfl rfl (S36.arr 0 rfl) rfl (by kernel_rfl) (ones_cons rfl (ones_cons o28 (fun _ h => nomatch h))) ?_
  intro w37 A38 K39 z40
  have S41 := S36.wr0 (ds := [.int .i64 a21.who, v27]) K39 A38
  refine EL_nil (thn_n (EC_seq (EC_reg (vM v1 rfl e15 (vM (.int .i64 (j : Int)) rfl rfl ?_)))))
  refine vl (ptr (blkOf v1) (offOf v1 + ((j : Int) : Int).toNat * 2)) rfl (r_indexX rfl (Q1.row S41.le) rfl (by omega) (by first | omega | (simp; omega) | simp) U36 (by kernel_rfl)) ?_
  obtain ⟨a42, ha43⟩ := get_some (l := m) (j := ((j : Int) : Int).toNat) (by first | omega | (simp; omega) | simp)
  obtain ⟨cs44, hc45, he46⟩ := Q1.el ha43
  obtain ⟨v48, rfl, r47, ⟨o49, H50⟩⟩ := hc45
  refine vl (.agg ([.int .i64 a42.who, v48]).toArray) rfl (r_loadR (cs := [.int .i64 a42.who, v48]) rfl (he46 _ S41.le) U80 rfl (by kernel_rfl)) ?_
  refine EL_alloc (z := .agg #[.int .i64 0, .slice none 0 0]) [.int .i64 0, .slice none 0 0] rfl (by kernel_rfl) rfl ?_
  intro b51 w52 k53 A54 B55 z56
  have S57 := S41.newB B55 A54 k53
  refine sA [.int .i64 a42.who, v48] rfl rfl (S57.arr 0 rfl) rfl (by kernel_rfl) (ones_cons rfl (ones_cons o49 (fun _ h => nomatch h))) ?_
  intro w58 A59 K60 z61
  have S62 := S57.wr0 (ds := [.int .i64 a42.who, v48]) K60 A59
  refine EL_nil (thn_n (EC_seq (EC_reg (vM (.func (.func 64) #[] #[]) rfl e16 (vl (.agg ([.int .i64 a21.who, v27]).toArray) rfl (r_loadAll rfl (S62.arr 1 rfl) U80 rfl (by kernel_rfl)) ?_)))))
  refine vl (.agg ([.int .i64 a42.who, v48]).toArray) rfl (r_loadAll rfl (S62.arr 0 rfl) U80 rfl (by kernel_rfl)) ?_
  refine EL_retw _ rfl rfl Tryz.func64 rfl nm64 rfl (SameW_c [.int .i64 a21.who, v27] [.int .i64 a42.who, v48] a21 a42 I _ _ S62 ⟨v27, rfl, (by first | assumption | (dsimp only; omega)), ⟨o28, H29⟩⟩ ⟨v48, rfl, (by first | assumption | (dsimp only; omega)), ⟨o49, H50⟩⟩) ?_
  rintro _ w63 ⟨rfl, S64⟩
  refine vl (.bool (!(decide (a21 = a42)))) rfl (r_not rfl) (EL_nil (thn_n ?_))
  refine EC_cond (t := !(decide (a21 = a42))) rfl (fun h65 => ?_) (fun h65 => ?_)
  have hab : a21 ≠ a42 := fun h => by simp [h] at h65
  refine EC_seq (EC_reg (vA (.bool false) rfl rfl (EL_nil (thn_n (EC_ret ?_)))))
  refine inB_r (thn_r (thn_r (inB_r (thn_r ?_))))
  refine fin1 Tryz.results63 (show _ = .bool false from rfl) ⟨_, rfl, ?_⟩
  have S66 := S64.dr0
  have S67 := S66.dr0
  exact ⟨(by rw [decide_eq_false (fun h => hab (by have h1 := ha22; rw [h] at h1; exact Option.some.inj (h1.symm.trans ha43)))]), S67⟩
  have hab : a21 = a42 := by simpa using h65
  refine EC_skip (inB_n (thn_n (EC_reg ?_)))
  refine EL_int ((j : Int) + 1) rfl (r_addi (by exact e14) rfl (by omega)) ?_
  intro x68 hx68
  refine vM (.int .i64 x68) rfl rfl (EL_nil (thn_n ?_))
  have S69 := S64.dr0
  have S70 := S69.dr0
  refine ⟨_, ?_, j + 1, rfl, (Eq.trans (show _ = Value.int .i64 x68 from rfl) (congrArg _ (by omega))), (by exact e15), (by exact e16), (by exact e17), (by exact e18), by omega, (by rw [List.take_add_one, List.take_add_one, hlm, (show l[j]? = _ from ha22), (show m[j]? = _ from ha43), show a21 = a42 from hab]), S70⟩
  first | omega | (simp; omega)
  refine EC_exit (thn_x (thn_x (inB_hit (thn_n (EC_seq ?_)))))
  refine EC_reg (vA (.bool true) rfl rfl (EL_nil (thn_n (EC_ret ?_))))
  refine fin1 Tryz.results63 (show _ = .bool true from rfl) ⟨_, rfl, ?_⟩
  exact ⟨(by rw [decide_eq_true (by rwa [List.take_of_length_le (by omega), List.take_of_length_le (by omega)] at hlm)]), S19⟩

end Go.Proofs.YtoajodjcmeijgaaGreat
