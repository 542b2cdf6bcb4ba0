import Derived.Test.YtoajodjcmeijgaaGreatQSealedPlaysEntC
set_option linter.unusedVariables false
set_option linter.unusedSimpArgs false
namespace Go.Proofs.YtoajodjcmeijgaaGreat
open Go.RowKit Go.Ecal

set_option maxRecDepth 100000 in
set_option maxHeartbeats 4000000 in
theorem Same_c (ca : List Value) (cb : List Value) (a : Entry) (b : Entry) (I : Gh) (R : List HP) (w : World) (S : Sat w I (R)) (ha : entR.r I ca a) (hb : entR.r I cb b) : Ret Tryz.prog 23 [.agg ca.toArray, .agg cb.toArray] w fun v w' => .bool (decide (a = b)) = v ∧ Sat w' I (R) := by
  obtain ⟨v14, v17, v23, rfl, r11, r12, r13, ⟨o15, H16⟩, ⟨o18, H19⟩, r20, r21, r22, ⟨o24, H25⟩⟩ := ha
  obtain ⟨v29, v32, v38, rfl, r26, r27, r28, ⟨o30, H31⟩, ⟨o33, H34⟩, r35, r36, r37, ⟨o39, H40⟩⟩ := hb
  refine ret_E Tryz.func23 rfl Tryz.ntmps23 (by simp) ?_
  refine EC_seq (EC_reg ?_)
  refine EL_box (entRC a v14 v17 v23) rfl rfl rfl ?_
  intro b41 w42 k43 A44 B45 z46
  have S47 := S.newB B45 A44 k43
  refine EL_box (entRC b v29 v32 v38) rfl rfl rfl ?_
  intro b48 w49 k50 A51 B52 z53
  have S54 := S47.newB B52 A51 k50
  refine vA (.bool false) rfl rfl (EL_nil (thn_n (EC_seq ?_)))
  rcases first9 (a.kind = b.kind) (a.writer = b.writer) (a.seq = b.seq) (a.name = b.name) (a.value = b.value) (a.who = b.who) (a.rights = b.rights) (a.epoch = b.epoch) (a.wraps = b.wraps) with hc | hc | hc | hc | hc | hc | hc | hc | hc | hc
  refine EC_reg (vl (ptr b41 0) rfl (fP 0 rfl U38 (by kernel_rfl)) (vL (.int .i64 a.kind) rfl rfl (S54.arr 1 rfl) rfl U3 rfl (vl (ptr b48 0) rfl (fP 0 rfl U38 (by kernel_rfl)) (vL (.int .i64 b.kind) rfl rfl (S54.arr 0 rfl) rfl U3 rfl (vl (.bool false) rfl (r_dec (show (decide (a.kind = b.kind)) = false from by rw [decide_eq_false_iff_not]; exact hc) (r_eql rfl rfl)) ?_)))))
  refine vM (.bool false) rfl rfl (EL_pass 10 rfl rfl rfl rfl rfl (EL_pass 10 rfl rfl rfl rfl rfl (EL_pass 10 rfl rfl rfl rfl rfl (EL_pass 10 rfl rfl rfl rfl rfl (EL_pass 10 rfl rfl rfl rfl rfl ?_)))))
  refine vF (.bool false) rfl rfl rfl (vM (.bool false) rfl rfl (EL_pass 17 rfl rfl rfl rfl rfl (EL_pass 17 rfl rfl rfl rfl rfl (EL_pass 17 rfl rfl rfl rfl rfl (EL_pass 17 rfl rfl rfl rfl rfl ?_)))))
  refine EL_pass 17 rfl rfl rfl rfl rfl (vF (.bool false) rfl rfl rfl (vM (.bool false) rfl rfl (EL_pass 24 rfl rfl rfl rfl rfl (EL_pass 24 rfl rfl rfl rfl rfl (EL_pass 24 rfl rfl rfl rfl rfl ?_)))))
  refine EL_pass 24 rfl rfl rfl rfl rfl (EL_pass 24 rfl rfl rfl rfl rfl (vF (.bool false) rfl rfl rfl (vM (.bool false) rfl rfl (EL_pass 31 rfl rfl rfl rfl rfl (EL_pass 31 rfl rfl rfl rfl rfl ?_)))))
  refine EL_pass 31 rfl rfl rfl rfl rfl (EL_pass 31 rfl rfl rfl rfl rfl (EL_pass 31 rfl rfl rfl rfl rfl (vF (.bool false) rfl rfl rfl (vM (.bool false) rfl rfl (EL_pass 38 rfl rfl rfl rfl rfl ?_)))))
  refine EL_pass 38 rfl rfl rfl rfl rfl (EL_pass 38 rfl rfl rfl rfl rfl (EL_pass 38 rfl rfl rfl rfl rfl (EL_pass 38 rfl rfl rfl rfl rfl (vF (.bool false) rfl rfl rfl (vM (.bool false) rfl rfl ?_)))))
  refine EL_pass 45 rfl rfl rfl rfl rfl (EL_pass 45 rfl rfl rfl rfl rfl (EL_pass 45 rfl rfl rfl rfl rfl (EL_pass 45 rfl rfl rfl rfl rfl (EL_pass 45 rfl rfl rfl rfl rfl (vF (.bool false) rfl rfl rfl ?_)))))
  refine vM (.bool false) rfl rfl (EL_pass 52 rfl rfl rfl rfl rfl (EL_pass 52 rfl rfl rfl rfl rfl (EL_pass 52 rfl rfl rfl rfl rfl (EL_pass 52 rfl rfl rfl rfl rfl (EL_pass 52 rfl rfl rfl rfl rfl ?_)))))
  refine vF (.bool false) rfl rfl rfl (vM (.bool false) rfl rfl (EL_pass 59 rfl rfl rfl rfl rfl (EL_pass 59 rfl rfl rfl rfl rfl (EL_pass 59 rfl rfl rfl rfl rfl (EL_pass 59 rfl rfl rfl rfl rfl ?_)))))
  refine EL_pass 59 rfl rfl rfl rfl rfl (vF (.bool false) rfl rfl rfl (vA (.bool false) rfl rfl (EL_nil (thn_n (EC_ret ?_)))))
  refine fin1 Tryz.results23 (show _ = .bool false from rfl) ⟨_, rfl, ?_⟩
  have S55 := S54.dr0
  have S56 := S55.dr0
  exact ⟨(congrArg Value.bool (decide_eq_false (fun h => hc (by rw [h])))), S56⟩
  refine EC_reg (vl (ptr b41 0) rfl (fP 0 rfl U38 (by kernel_rfl)) (vL (.int .i64 a.kind) rfl rfl (S54.arr 1 rfl) rfl U3 rfl (vl (ptr b48 0) rfl (fP 0 rfl U38 (by kernel_rfl)) (vL (.int .i64 b.kind) rfl rfl (S54.arr 0 rfl) rfl U3 rfl (vl (.bool true) rfl (r_dec (show (decide (a.kind = b.kind)) = true from by rw [decide_eq_true_eq]; exact hc.1) (r_eql rfl rfl)) ?_)))))
  refine vM (.bool true) rfl rfl (gl  10 rfl rfl rfl rfl (ptr b41 1) rfl (fP 0 rfl U38 (by kernel_rfl)) ?_)
  refine gL  10 rfl rfl rfl rfl (.int .i64 a.writer) rfl rfl (S54.arr 1 rfl) rfl U3 rfl ?_
  refine gl  10 rfl rfl rfl rfl (ptr b48 1) rfl (fP 0 rfl U38 (by kernel_rfl)) ?_
  refine gL  10 rfl rfl rfl rfl (.int .i64 b.writer) rfl rfl (S54.arr 0 rfl) rfl U3 rfl ?_
  refine gl  10 rfl rfl rfl rfl (.bool false) rfl (r_dec (show (decide (a.writer = b.writer)) = false from by rw [decide_eq_false_iff_not]; exact hc.2) (r_eql rfl rfl)) (vT (.bool false) rfl rfl rfl (vM (.bool false) rfl rfl (EL_pass 17 rfl rfl rfl rfl rfl (EL_pass 17 rfl rfl rfl rfl rfl (EL_pass 17 rfl rfl rfl rfl rfl ?_)))))
  refine EL_pass 17 rfl rfl rfl rfl rfl (EL_pass 17 rfl rfl rfl rfl rfl (vF (.bool false) rfl rfl rfl (vM (.bool false) rfl rfl (EL_pass 24 rfl rfl rfl rfl rfl (EL_pass 24 rfl rfl rfl rfl rfl ?_)))))
  refine EL_pass 24 rfl rfl rfl rfl rfl (EL_pass 24 rfl rfl rfl rfl rfl (EL_pass 24 rfl rfl rfl rfl rfl (vF (.bool false) rfl rfl rfl (vM (.bool false) rfl rfl (EL_pass 31 rfl rfl rfl rfl rfl ?_)))))
  refine EL_pass 31 rfl rfl rfl rfl rfl (EL_pass 31 rfl rfl rfl rfl rfl (EL_pass 31 rfl rfl rfl rfl rfl (EL_pass 31 rfl rfl rfl rfl rfl (vF (.bool false) rfl rfl rfl (vM (.bool false) rfl rfl ?_)))))
  refine EL_pass 38 rfl rfl rfl rfl rfl (EL_pass 38 rfl rfl rfl rfl rfl (EL_pass 38 rfl rfl rfl rfl rfl (EL_pass 38 rfl rfl rfl rfl rfl (EL_pass 38 rfl rfl rfl rfl rfl (vF (.bool false) rfl rfl rfl ?_)))))
  refine vM (.bool false) rfl rfl (EL_pass 45 rfl rfl rfl rfl rfl (EL_pass 45 rfl rfl rfl rfl rfl (EL_pass 45 rfl rfl rfl rfl rfl (EL_pass 45 rfl rfl rfl rfl rfl (EL_pass 45 rfl rfl rfl rfl rfl ?_)))))
  refine vF (.bool false) rfl rfl rfl (vM (.bool false) rfl rfl (EL_pass 52 rfl rfl rfl rfl rfl (EL_pass 52 rfl rfl rfl rfl rfl (EL_pass 52 rfl rfl rfl rfl rfl (EL_pass 52 rfl rfl rfl rfl rfl ?_)))))
  refine EL_pass 52 rfl rfl rfl rfl rfl (vF (.bool false) rfl rfl rfl (vM (.bool false) rfl rfl (EL_pass 59 rfl rfl rfl rfl rfl (EL_pass 59 rfl rfl rfl rfl rfl (EL_pass 59 rfl rfl rfl rfl rfl ?_)))))
  refine EL_pass 59 rfl rfl rfl rfl rfl (EL_pass 59 rfl rfl rfl rfl rfl (vF (.bool false) rfl rfl rfl (vA (.bool false) rfl rfl (EL_nil (thn_n ?_)))))
  refine EC_ret ?_
  refine fin1 Tryz.results23 (show _ = .bool false from rfl) ⟨_, rfl, ?_⟩
  have S57 := S54.dr0
  have S58 := S57.dr0
  exact ⟨(congrArg Value.bool (decide_eq_false (fun h => hc.2 (by rw [h])))), S58⟩
  refine EC_reg (vl (ptr b41 0) rfl (fP 0 rfl U38 (by kernel_rfl)) (vL (.int .i64 a.kind) rfl rfl (S54.arr 1 rfl) rfl U3 rfl (vl (ptr b48 0) rfl (fP 0 rfl U38 (by kernel_rfl)) (vL (.int .i64 b.kind) rfl rfl (S54.arr 0 rfl) rfl U3 rfl (vl (.bool true) rfl (r_dec (show (decide (a.kind = b.kind)) = true from by rw [decide_eq_true_eq]; exact hc.1) (r_eql rfl rfl)) ?_)))))
  refine vM (.bool true) rfl rfl (gl  10 rfl rfl rfl rfl (ptr b41 1) rfl (fP 0 rfl U38 (by kernel_rfl)) ?_)
  refine gL  10 rfl rfl rfl rfl (.int .i64 a.writer) rfl rfl (S54.arr 1 rfl) rfl U3 rfl ?_
  refine gl  10 rfl rfl rfl rfl (ptr b48 1) rfl (fP 0 rfl U38 (by kernel_rfl)) ?_
  refine gL  10 rfl rfl rfl rfl (.int .i64 b.writer) rfl rfl (S54.arr 0 rfl) rfl U3 rfl ?_
  refine gl  10 rfl rfl rfl rfl (.bool true) rfl (r_dec (show (decide (a.writer = b.writer)) = true from by rw [decide_eq_true_eq]; exact hc.2.1) (r_eql rfl rfl)) (vT (.bool true) rfl rfl rfl (vM (.bool true) rfl rfl (gl  17 rfl rfl rfl rfl (ptr b41 2) rfl (fP 0 rfl U38 (by kernel_rfl)) ?_)))
  refine gL  17 rfl rfl rfl rfl (.int .i64 a.seq) rfl rfl (S54.arr 1 rfl) rfl U3 rfl ?_
  refine gl  17 rfl rfl rfl rfl (ptr b48 2) rfl (fP 0 rfl U38 (by kernel_rfl)) ?_
  refine gL  17 rfl rfl rfl rfl (.int .i64 b.seq) rfl rfl (S54.arr 0 rfl) rfl U3 rfl ?_
  refine gl  17 rfl rfl rfl rfl (.bool false) rfl (r_dec (show (decide (a.seq = b.seq)) = false from by rw [decide_eq_false_iff_not]; exact hc.2.2) (r_eql rfl rfl)) (vT (.bool false) rfl rfl rfl (vM (.bool false) rfl rfl (EL_pass 24 rfl rfl rfl rfl rfl (EL_pass 24 rfl rfl rfl rfl rfl (EL_pass 24 rfl rfl rfl rfl rfl ?_)))))
  refine EL_pass 24 rfl rfl rfl rfl rfl (EL_pass 24 rfl rfl rfl rfl rfl (vF (.bool false) rfl rfl rfl (vM (.bool false) rfl rfl (EL_pass 31 rfl rfl rfl rfl rfl (EL_pass 31 rfl rfl rfl rfl rfl ?_)))))
  refine EL_pass 31 rfl rfl rfl rfl rfl (EL_pass 31 rfl rfl rfl rfl rfl (EL_pass 31 rfl rfl rfl rfl rfl (vF (.bool false) rfl rfl rfl (vM (.bool false) rfl rfl (EL_pass 38 rfl rfl rfl rfl rfl ?_)))))
  refine EL_pass 38 rfl rfl rfl rfl rfl (EL_pass 38 rfl rfl rfl rfl rfl (EL_pass 38 rfl rfl rfl rfl rfl (EL_pass 38 rfl rfl rfl rfl rfl (vF (.bool false) rfl rfl rfl (vM (.bool false) rfl rfl ?_)))))
  refine EL_pass 45 rfl rfl rfl rfl rfl (EL_pass 45 rfl rfl rfl rfl rfl (EL_pass 45 rfl rfl rfl rfl rfl (EL_pass 45 rfl rfl rfl rfl rfl (EL_pass 45 rfl rfl rfl rfl rfl (vF (.bool false) rfl rfl rfl ?_)))))
  refine vM (.bool false) rfl rfl (EL_pass 52 rfl rfl rfl rfl rfl (EL_pass 52 rfl rfl rfl rfl rfl (EL_pass 52 rfl rfl rfl rfl rfl (EL_pass 52 rfl rfl rfl rfl rfl (EL_pass 52 rfl rfl rfl rfl rfl ?_)))))
  refine vF (.bool false) rfl rfl rfl (vM (.bool false) rfl rfl (EL_pass 59 rfl rfl rfl rfl rfl (EL_pass 59 rfl rfl rfl rfl rfl (EL_pass 59 rfl rfl rfl rfl rfl (EL_pass 59 rfl rfl rfl rfl rfl ?_)))))
  refine EL_pass 59 rfl rfl rfl rfl rfl (vF (.bool false) rfl rfl rfl (vA (.bool false) rfl rfl (EL_nil (thn_n (EC_ret ?_)))))
  refine fin1 Tryz.results23 (show _ = .bool false from rfl) ⟨_, rfl, ?_⟩
  have S59 := S54.dr0
  have S60 := S59.dr0
  exact ⟨(congrArg Value.bool (decide_eq_false (fun h => hc.2.2 (by rw [h])))), S60⟩
  refine EC_reg (vl (ptr b41 0) rfl (fP 0 rfl U38 (by kernel_rfl)) (vL (.int .i64 a.kind) rfl rfl (S54.arr 1 rfl) rfl U3 rfl (vl (ptr b48 0) rfl (fP 0 rfl U38 (by kernel_rfl)) (vL (.int .i64 b.kind) rfl rfl (S54.arr 0 rfl) rfl U3 rfl (vl (.bool true) rfl (r_dec (show (decide (a.kind = b.kind)) = true from by rw [decide_eq_true_eq]; exact hc.1) (r_eql rfl rfl)) ?_)))))
  refine vM (.bool true) rfl rfl (gl  10 rfl rfl rfl rfl (ptr b41 1) rfl (fP 0 rfl U38 (by kernel_rfl)) ?_)
  refine gL  10 rfl rfl rfl rfl (.int .i64 a.writer) rfl rfl (S54.arr 1 rfl) rfl U3 rfl ?_
  refine gl  10 rfl rfl rfl rfl (ptr b48 1) rfl (fP 0 rfl U38 (by kernel_rfl)) ?_
  refine gL  10 rfl rfl rfl rfl (.int .i64 b.writer) rfl rfl (S54.arr 0 rfl) rfl U3 rfl ?_
  refine gl  10 rfl rfl rfl rfl (.bool true) rfl (r_dec (show (decide (a.writer = b.writer)) = true from by rw [decide_eq_true_eq]; exact hc.2.1) (r_eql rfl rfl)) (vT (.bool true) rfl rfl rfl (vM (.bool true) rfl rfl (gl  17 rfl rfl rfl rfl (ptr b41 2) rfl (fP 0 rfl U38 (by kernel_rfl)) ?_)))
  refine gL  17 rfl rfl rfl rfl (.int .i64 a.seq) rfl rfl (S54.arr 1 rfl) rfl U3 rfl ?_
  refine gl  17 rfl rfl rfl rfl (ptr b48 2) rfl (fP 0 rfl U38 (by kernel_rfl)) ?_
  refine gL  17 rfl rfl rfl rfl (.int .i64 b.seq) rfl rfl (S54.arr 0 rfl) rfl U3 rfl ?_
  refine gl  17 rfl rfl rfl rfl (.bool true) rfl (r_dec (show (decide (a.seq = b.seq)) = true from by rw [decide_eq_true_eq]; exact hc.2.2.1) (r_eql rfl rfl)) (vT (.bool true) rfl rfl rfl (vM (.bool true) rfl rfl (gl  24 rfl rfl rfl rfl (ptr b41 3) rfl (fP 0 rfl U38 (by kernel_rfl)) ?_)))
  refine gL  24 rfl rfl rfl rfl v14 rfl rfl (S54.arr 1 rfl) rfl U22 rfl ?_
  refine gl  24 rfl rfl rfl rfl (ptr b48 3) rfl (fP 0 rfl U38 (by kernel_rfl)) ?_
  refine gL  24 rfl rfl rfl rfl v29 rfl rfl (S54.arr 0 rfl) rfl U22 rfl ?_
  refine eG 24 rfl rfl rfl rfl rfl F62 rfl (Equal_c v14 a.name v29 b.name I _ _ S54 H16 H31) ?_
  rintro _ w61 ⟨rfl, S62⟩
  refine vl (.bool false) rfl (r_pickT rfl (Eq.trans (show _ = Value.bool (decide (a.name = b.name)) from rfl) (congrArg Value.bool (show (decide (a.name = b.name)) = false from by rw [decide_eq_false_iff_not]; exact hc.2.2.2)))) (vM (.bool false) rfl rfl (EL_pass 31 rfl rfl rfl rfl rfl (EL_pass 31 rfl rfl rfl rfl rfl (EL_pass 31 rfl rfl rfl rfl rfl (EL_pass 31 rfl rfl rfl rfl rfl ?_)))))
  refine EL_pass 31 rfl rfl rfl rfl rfl (vF (.bool false) rfl rfl rfl (vM (.bool false) rfl rfl (EL_pass 38 rfl rfl rfl rfl rfl (EL_pass 38 rfl rfl rfl rfl rfl (EL_pass 38 rfl rfl rfl rfl rfl ?_)))))
  refine EL_pass 38 rfl rfl rfl rfl rfl (EL_pass 38 rfl rfl rfl rfl rfl (vF (.bool false) rfl rfl rfl (vM (.bool false) rfl rfl (EL_pass 45 rfl rfl rfl rfl rfl (EL_pass 45 rfl rfl rfl rfl rfl ?_)))))
  refine EL_pass 45 rfl rfl rfl rfl rfl (EL_pass 45 rfl rfl rfl rfl rfl (EL_pass 45 rfl rfl rfl rfl rfl (vF (.bool false) rfl rfl rfl (vM (.bool false) rfl rfl (EL_pass 52 rfl rfl rfl rfl rfl ?_)))))
  refine EL_pass 52 rfl rfl rfl rfl rfl (EL_pass 52 rfl rfl rfl rfl rfl (EL_pass 52 rfl rfl rfl rfl rfl (EL_pass 52 rfl rfl rfl rfl rfl (vF (.bool false) rfl rfl rfl (vM (.bool false) rfl rfl ?_)))))
  refine EL_pass 59 rfl rfl rfl rfl rfl (EL_pass 59 rfl rfl rfl rfl rfl (EL_pass 59 rfl rfl rfl rfl rfl (EL_pass 59 rfl rfl rfl rfl rfl (EL_pass 59 rfl rfl rfl rfl rfl (vF (.bool false) rfl rfl rfl ?_)))))
  refine vA (.bool false) rfl rfl (EL_nil (thn_n (EC_ret ?_)))
  refine fin1 Tryz.results23 (show _ = .bool false from rfl) ⟨_, rfl, ?_⟩
  have S63 := S62.dr0
  have S64 := S63.dr0
  exact ⟨(congrArg Value.bool (decide_eq_false (fun h => hc.2.2.2 (by rw [h])))), S64⟩
  refine EC_reg (vl (ptr b41 0) rfl (fP 0 rfl U38 (by kernel_rfl)) (vL (.int .i64 a.kind) rfl rfl (S54.arr 1 rfl) rfl U3 rfl (vl (ptr b48 0) rfl (fP 0 rfl U38 (by kernel_rfl)) (vL (.int .i64 b.kind) rfl rfl (S54.arr 0 rfl) rfl U3 rfl (vl (.bool true) rfl (r_dec (show (decide (a.kind = b.kind)) = true from by rw [decide_eq_true_eq]; exact hc.1) (r_eql rfl rfl)) ?_)))))
  refine vM (.bool true) rfl rfl (gl  10 rfl rfl rfl rfl (ptr b41 1) rfl (fP 0 rfl U38 (by kernel_rfl)) ?_)
  refine gL  10 rfl rfl rfl rfl (.int .i64 a.writer) rfl rfl (S54.arr 1 rfl) rfl U3 rfl ?_
  refine gl  10 rfl rfl rfl rfl (ptr b48 1) rfl (fP 0 rfl U38 (by kernel_rfl)) ?_
  refine gL  10 rfl rfl rfl rfl (.int .i64 b.writer) rfl rfl (S54.arr 0 rfl) rfl U3 rfl ?_
  refine gl  10 rfl rfl rfl rfl (.bool true) rfl (r_dec (show (decide (a.writer = b.writer)) = true from by rw [decide_eq_true_eq]; exact hc.2.1) (r_eql rfl rfl)) (vT (.bool true) rfl rfl rfl (vM (.bool true) rfl rfl (gl  17 rfl rfl rfl rfl (ptr b41 2) rfl (fP 0 rfl U38 (by kernel_rfl)) ?_)))
  refine gL  17 rfl rfl rfl rfl (.int .i64 a.seq) rfl rfl (S54.arr 1 rfl) rfl U3 rfl ?_
  refine gl  17 rfl rfl rfl rfl (ptr b48 2) rfl (fP 0 rfl U38 (by kernel_rfl)) ?_
  refine gL  17 rfl rfl rfl rfl (.int .i64 b.seq) rfl rfl (S54.arr 0 rfl) rfl U3 rfl ?_
  refine gl  17 rfl rfl rfl rfl (.bool true) rfl (r_dec (show (decide (a.seq = b.seq)) = true from by rw [decide_eq_true_eq]; exact hc.2.2.1) (r_eql rfl rfl)) (vT (.bool true) rfl rfl rfl (vM (.bool true) rfl rfl (gl  24 rfl rfl rfl rfl (ptr b41 3) rfl (fP 0 rfl U38 (by kernel_rfl)) ?_)))
  refine gL  24 rfl rfl rfl rfl v14 rfl rfl (S54.arr 1 rfl) rfl U22 rfl ?_
  refine gl  24 rfl rfl rfl rfl (ptr b48 3) rfl (fP 0 rfl U38 (by kernel_rfl)) ?_
  refine gL  24 rfl rfl rfl rfl v29 rfl rfl (S54.arr 0 rfl) rfl U22 rfl ?_
  refine eG 24 rfl rfl rfl rfl rfl F62 rfl (Equal_c v14 a.name v29 b.name I _ _ S54 H16 H31) ?_
  rintro _ w65 ⟨rfl, S66⟩
  refine vl (.bool true) rfl (r_pickT rfl (Eq.trans (show _ = Value.bool (decide (a.name = b.name)) from rfl) (congrArg Value.bool (show (decide (a.name = b.name)) = true from by rw [decide_eq_true_eq]; exact hc.2.2.2.1)))) (vM (.bool true) rfl rfl (gl  31 rfl rfl rfl rfl (ptr b41 4) rfl (fP 0 rfl U38 (by kernel_rfl)) ?_))
  refine gL  31 rfl rfl rfl rfl v17 rfl rfl (S66.arr 1 rfl) rfl U22 rfl ?_
  refine gl  31 rfl rfl rfl rfl (ptr b48 4) rfl (fP 0 rfl U38 (by kernel_rfl)) ?_
  refine gL  31 rfl rfl rfl rfl v32 rfl rfl (S66.arr 0 rfl) rfl U22 rfl ?_
  refine eG 31 rfl rfl rfl rfl rfl F62 rfl (Equal_c v17 a.value v32 b.value I _ _ S66 H19 H34) ?_
  rintro _ w67 ⟨rfl, S68⟩
  refine vl (.bool false) rfl (r_pickT rfl (Eq.trans (show _ = Value.bool (decide (a.value = b.value)) from rfl) (congrArg Value.bool (show (decide (a.value = b.value)) = false from by rw [decide_eq_false_iff_not]; exact hc.2.2.2.2)))) (vM (.bool false) rfl rfl (EL_pass 38 rfl rfl rfl rfl rfl (EL_pass 38 rfl rfl rfl rfl rfl (EL_pass 38 rfl rfl rfl rfl rfl (EL_pass 38 rfl rfl rfl rfl rfl ?_)))))
  refine EL_pass 38 rfl rfl rfl rfl rfl (vF (.bool false) rfl rfl rfl (vM (.bool false) rfl rfl (EL_pass 45 rfl rfl rfl rfl rfl (EL_pass 45 rfl rfl rfl rfl rfl (EL_pass 45 rfl rfl rfl rfl rfl ?_)))))
  refine EL_pass 45 rfl rfl rfl rfl rfl (EL_pass 45 rfl rfl rfl rfl rfl (vF (.bool false) rfl rfl rfl (vM (.bool false) rfl rfl (EL_pass 52 rfl rfl rfl rfl rfl (EL_pass 52 rfl rfl rfl rfl rfl ?_)))))
  refine EL_pass 52 rfl rfl rfl rfl rfl (EL_pass 52 rfl rfl rfl rfl rfl (EL_pass 52 rfl rfl rfl rfl rfl (vF (.bool false) rfl rfl rfl (vM (.bool false) rfl rfl (EL_pass 59 rfl rfl rfl rfl rfl ?_)))))
  refine EL_pass 59 rfl rfl rfl rfl rfl (EL_pass 59 rfl rfl rfl rfl rfl (EL_pass 59 rfl rfl rfl rfl rfl (EL_pass 59 rfl rfl rfl rfl rfl (vF (.bool false) rfl rfl rfl (vA (.bool false) rfl rfl ?_)))))
  refine EL_nil (thn_n (EC_ret ?_))
  refine fin1 Tryz.results23 (show _ = .bool false from rfl) ⟨_, rfl, ?_⟩
  have S69 := S68.dr0
  have S70 := S69.dr0
  exact ⟨(congrArg Value.bool (decide_eq_false (fun h => hc.2.2.2.2 (by rw [h])))), S70⟩
  refine EC_reg (vl (ptr b41 0) rfl (fP 0 rfl U38 (by kernel_rfl)) (vL (.int .i64 a.kind) rfl rfl (S54.arr 1 rfl) rfl U3 rfl (vl (ptr b48 0) rfl (fP 0 rfl U38 (by kernel_rfl)) (vL (.int .i64 b.kind) rfl rfl (S54.arr 0 rfl) rfl U3 rfl (vl (.bool true) rfl (r_dec (show (decide (a.kind = b.kind)) = true from by rw [decide_eq_true_eq]; exact hc.1) (r_eql rfl rfl)) ?_)))))
  refine vM (.bool true) rfl rfl (gl  10 rfl rfl rfl rfl (ptr b41 1) rfl (fP 0 rfl U38 (by kernel_rfl)) ?_)
  refine gL  10 rfl rfl rfl rfl (.int .i64 a.writer) rfl rfl (S54.arr 1 rfl) rfl U3 rfl ?_
  refine gl  10 rfl rfl rfl rfl (ptr b48 1) rfl (fP 0 rfl U38 (by kernel_rfl)) ?_
  refine gL  10 rfl rfl rfl rfl (.int .i64 b.writer) rfl rfl (S54.arr 0 rfl) rfl U3 rfl ?_
  refine gl  10 rfl rfl rfl rfl (.bool true) rfl (r_dec (show (decide (a.writer = b.writer)) = true from by rw [decide_eq_true_eq]; exact hc.2.1) (r_eql rfl rfl)) (vT (.bool true) rfl rfl rfl (vM (.bool true) rfl rfl (gl  17 rfl rfl rfl rfl (ptr b41 2) rfl (fP 0 rfl U38 (by kernel_rfl)) ?_)))
  refine gL  17 rfl rfl rfl rfl (.int .i64 a.seq) rfl rfl (S54.arr 1 rfl) rfl U3 rfl ?_
  refine gl  17 rfl rfl rfl rfl (ptr b48 2) rfl (fP 0 rfl U38 (by kernel_rfl)) ?_
  refine gL  17 rfl rfl rfl rfl (.int .i64 b.seq) rfl rfl (S54.arr 0 rfl) rfl U3 rfl ?_
  refine gl  17 rfl rfl rfl rfl (.bool true) rfl (r_dec (show (decide (a.seq = b.seq)) = true from by rw [decide_eq_true_eq]; exact hc.2.2.1) (r_eql rfl rfl)) (vT (.bool true) rfl rfl rfl (vM (.bool true) rfl rfl (gl  24 rfl rfl rfl rfl (ptr b41 3) rfl (fP 0 rfl U38 (by kernel_rfl)) ?_)))
  refine gL  24 rfl rfl rfl rfl v14 rfl rfl (S54.arr 1 rfl) rfl U22 rfl ?_
  refine gl  24 rfl rfl rfl rfl (ptr b48 3) rfl (fP 0 rfl U38 (by kernel_rfl)) ?_
  refine gL  24 rfl rfl rfl rfl v29 rfl rfl (S54.arr 0 rfl) rfl U22 rfl ?_
  refine eG 24 rfl rfl rfl rfl rfl F62 rfl (Equal_c v14 a.name v29 b.name I _ _ S54 H16 H31) ?_
  rintro _ w71 ⟨rfl, S72⟩
  refine vl (.bool true) rfl (r_pickT rfl (Eq.trans (show _ = Value.bool (decide (a.name = b.name)) from rfl) (congrArg Value.bool (show (decide (a.name = b.name)) = true from by rw [decide_eq_true_eq]; exact hc.2.2.2.1)))) (vM (.bool true) rfl rfl (gl  31 rfl rfl rfl rfl (ptr b41 4) rfl (fP 0 rfl U38 (by kernel_rfl)) ?_))
  refine gL  31 rfl rfl rfl rfl v17 rfl rfl (S72.arr 1 rfl) rfl U22 rfl ?_
  refine gl  31 rfl rfl rfl rfl (ptr b48 4) rfl (fP 0 rfl U38 (by kernel_rfl)) ?_
  refine gL  31 rfl rfl rfl rfl v32 rfl rfl (S72.arr 0 rfl) rfl U22 rfl ?_
  refine eG 31 rfl rfl rfl rfl rfl F62 rfl (Equal_c v17 a.value v32 b.value I _ _ S72 H19 H34) ?_
  rintro _ w73 ⟨rfl, S74⟩
  refine vl (.bool true) rfl (r_pickT rfl (Eq.trans (show _ = Value.bool (decide (a.value = b.value)) from rfl) (congrArg Value.bool (show (decide (a.value = b.value)) = true from by rw [decide_eq_true_eq]; exact hc.2.2.2.2.1)))) (vM (.bool true) rfl rfl (gl  38 rfl rfl rfl rfl (ptr b41 5) rfl (fP 0 rfl U38 (by kernel_rfl)) ?_))
  refine gL  38 rfl rfl rfl rfl (.int .i64 a.who) rfl rfl (S74.arr 1 rfl) rfl U3 rfl ?_
  refine gl  38 rfl rfl rfl rfl (ptr b48 5) rfl (fP 0 rfl U38 (by kernel_rfl)) ?_
  refine gL  38 rfl rfl rfl rfl (.int .i64 b.who) rfl rfl (S74.arr 0 rfl) rfl U3 rfl ?_
  refine gl  38 rfl rfl rfl rfl (.bool false) rfl (r_dec (show (decide (a.who = b.who)) = false from by rw [decide_eq_false_iff_not]; exact hc.2.2.2.2.2) (r_eql rfl rfl)) (vT (.bool false) rfl rfl rfl (vM (.bool false) rfl rfl (EL_pass 45 rfl rfl rfl rfl rfl (EL_pass 45 rfl rfl rfl rfl rfl (EL_pass 45 rfl rfl rfl rfl rfl ?_)))))
  refine EL_pass 45 rfl rfl rfl rfl rfl (EL_pass 45 rfl rfl rfl rfl rfl (vF (.bool false) rfl rfl rfl (vM (.bool false) rfl rfl (EL_pass 52 rfl rfl rfl rfl rfl (EL_pass 52 rfl rfl rfl rfl rfl ?_)))))
  refine EL_pass 52 rfl rfl rfl rfl rfl (EL_pass 52 rfl rfl rfl rfl rfl (EL_pass 52 rfl rfl rfl rfl rfl (vF (.bool false) rfl rfl rfl (vM (.bool false) rfl rfl (EL_pass 59 rfl rfl rfl rfl rfl ?_)))))
  refine EL_pass 59 rfl rfl rfl rfl rfl (EL_pass 59 rfl rfl rfl rfl rfl (EL_pass 59 rfl rfl rfl rfl rfl (EL_pass 59 rfl rfl rfl rfl rfl (vF (.bool false) rfl rfl rfl (vA (.bool false) rfl rfl ?_)))))
  refine EL_nil (thn_n (EC_ret ?_))
  refine fin1 Tryz.results23 (show _ = .bool false from rfl) ⟨_, rfl, ?_⟩
  have S75 := S74.dr0
  have S76 := S75.dr0
  exact ⟨(congrArg Value.bool (decide_eq_false (fun h => hc.2.2.2.2.2 (by rw [h])))), S76⟩
  refine EC_reg (vl (ptr b41 0) rfl (fP 0 rfl U38 (by kernel_rfl)) (vL (.int .i64 a.kind) rfl rfl (S54.arr 1 rfl) rfl U3 rfl (vl (ptr b48 0) rfl (fP 0 rfl U38 (by kernel_rfl)) (vL (.int .i64 b.kind) rfl rfl (S54.arr 0 rfl) rfl U3 rfl (vl (.bool true) rfl (r_dec (show (decide (a.kind = b.kind)) = true from by rw [decide_eq_true_eq]; exact hc.1) (r_eql rfl rfl)) ?_)))))
  refine vM (.bool true) rfl rfl (gl  10 rfl rfl rfl rfl (ptr b41 1) rfl (fP 0 rfl U38 (by kernel_rfl)) ?_)
  refine gL  10 rfl rfl rfl rfl (.int .i64 a.writer) rfl rfl (S54.arr 1 rfl) rfl U3 rfl ?_
  refine gl  10 rfl rfl rfl rfl (ptr b48 1) rfl (fP 0 rfl U38 (by kernel_rfl)) ?_
  refine gL  10 rfl rfl rfl rfl (.int .i64 b.writer) rfl rfl (S54.arr 0 rfl) rfl U3 rfl ?_
  refine gl  10 rfl rfl rfl rfl (.bool true) rfl (r_dec (show (decide (a.writer = b.writer)) = true from by rw [decide_eq_true_eq]; exact hc.2.1) (r_eql rfl rfl)) (vT (.bool true) rfl rfl rfl (vM (.bool true) rfl rfl (gl  17 rfl rfl rfl rfl (ptr b41 2) rfl (fP 0 rfl U38 (by kernel_rfl)) ?_)))
  refine gL  17 rfl rfl rfl rfl (.int .i64 a.seq) rfl rfl (S54.arr 1 rfl) rfl U3 rfl ?_
  refine gl  17 rfl rfl rfl rfl (ptr b48 2) rfl (fP 0 rfl U38 (by kernel_rfl)) ?_
  refine gL  17 rfl rfl rfl rfl (.int .i64 b.seq) rfl rfl (S54.arr 0 rfl) rfl U3 rfl ?_
  refine gl  17 rfl rfl rfl rfl (.bool true) rfl (r_dec (show (decide (a.seq = b.seq)) = true from by rw [decide_eq_true_eq]; exact hc.2.2.1) (r_eql rfl rfl)) (vT (.bool true) rfl rfl rfl (vM (.bool true) rfl rfl (gl  24 rfl rfl rfl rfl (ptr b41 3) rfl (fP 0 rfl U38 (by kernel_rfl)) ?_)))
  refine gL  24 rfl rfl rfl rfl v14 rfl rfl (S54.arr 1 rfl) rfl U22 rfl ?_
  refine gl  24 rfl rfl rfl rfl (ptr b48 3) rfl (fP 0 rfl U38 (by kernel_rfl)) ?_
  refine gL  24 rfl rfl rfl rfl v29 rfl rfl (S54.arr 0 rfl) rfl U22 rfl ?_
  refine eG 24 rfl rfl rfl rfl rfl F62 rfl (Equal_c v14 a.name v29 b.name I _ _ S54 H16 H31) ?_
  rintro _ w77 ⟨rfl, S78⟩
  refine vl (.bool true) rfl (r_pickT rfl (Eq.trans (show _ = Value.bool (decide (a.name = b.name)) from rfl) (congrArg Value.bool (show (decide (a.name = b.name)) = true from by rw [decide_eq_true_eq]; exact hc.2.2.2.1)))) (vM (.bool true) rfl rfl (gl  31 rfl rfl rfl rfl (ptr b41 4) rfl (fP 0 rfl U38 (by kernel_rfl)) ?_))
  refine gL  31 rfl rfl rfl rfl v17 rfl rfl (S78.arr 1 rfl) rfl U22 rfl ?_
  refine gl  31 rfl rfl rfl rfl (ptr b48 4) rfl (fP 0 rfl U38 (by kernel_rfl)) ?_
  refine gL  31 rfl rfl rfl rfl v32 rfl rfl (S78.arr 0 rfl) rfl U22 rfl ?_
  refine eG 31 rfl rfl rfl rfl rfl F62 rfl (Equal_c v17 a.value v32 b.value I _ _ S78 H19 H34) ?_
  rintro _ w79 ⟨rfl, S80⟩
  refine vl (.bool true) rfl (r_pickT rfl (Eq.trans (show _ = Value.bool (decide (a.value = b.value)) from rfl) (congrArg Value.bool (show (decide (a.value = b.value)) = true from by rw [decide_eq_true_eq]; exact hc.2.2.2.2.1)))) (vM (.bool true) rfl rfl (gl  38 rfl rfl rfl rfl (ptr b41 5) rfl (fP 0 rfl U38 (by kernel_rfl)) ?_))
  refine gL  38 rfl rfl rfl rfl (.int .i64 a.who) rfl rfl (S80.arr 1 rfl) rfl U3 rfl ?_
  refine gl  38 rfl rfl rfl rfl (ptr b48 5) rfl (fP 0 rfl U38 (by kernel_rfl)) ?_
  refine gL  38 rfl rfl rfl rfl (.int .i64 b.who) rfl rfl (S80.arr 0 rfl) rfl U3 rfl ?_
  refine gl  38 rfl rfl rfl rfl (.bool true) rfl (r_dec (show (decide (a.who = b.who)) = true from by rw [decide_eq_true_eq]; exact hc.2.2.2.2.2.1) (r_eql rfl rfl)) (vT (.bool true) rfl rfl rfl (vM (.bool true) rfl rfl (gl  45 rfl rfl rfl rfl (ptr b41 6) rfl (fP 0 rfl U38 (by kernel_rfl)) ?_)))
  refine gL  45 rfl rfl rfl rfl (.int .i64 a.rights) rfl rfl (S80.arr 1 rfl) rfl U3 rfl ?_
  refine gl  45 rfl rfl rfl rfl (ptr b48 6) rfl (fP 0 rfl U38 (by kernel_rfl)) ?_
  refine gL  45 rfl rfl rfl rfl (.int .i64 b.rights) rfl rfl (S80.arr 0 rfl) rfl U3 rfl ?_
  refine gl  45 rfl rfl rfl rfl (.bool false) rfl (r_dec (show (decide (a.rights = b.rights)) = false from by rw [decide_eq_false_iff_not]; exact hc.2.2.2.2.2.2) (r_eql rfl rfl)) (vT (.bool false) rfl rfl rfl (vM (.bool false) rfl rfl (EL_pass 52 rfl rfl rfl rfl rfl (EL_pass 52 rfl rfl rfl rfl rfl (EL_pass 52 rfl rfl rfl rfl rfl ?_)))))
  refine EL_pass 52 rfl rfl rfl rfl rfl (EL_pass 52 rfl rfl rfl rfl rfl (vF (.bool false) rfl rfl rfl (vM (.bool false) rfl rfl (EL_pass 59 rfl rfl rfl rfl rfl (EL_pass 59 rfl rfl rfl rfl rfl ?_)))))
  refine EL_pass 59 rfl rfl rfl rfl rfl (EL_pass 59 rfl rfl rfl rfl rfl (EL_pass 59 rfl rfl rfl rfl rfl (vF (.bool false) rfl rfl rfl (vA (.bool false) rfl rfl (EL_nil ?_)))))
  refine thn_n (EC_ret ?_)
  refine fin1 Tryz.results23 (show _ = .bool false from rfl) ⟨_, rfl, ?_⟩
  have S81 := S80.dr0
  have S82 := S81.dr0
  exact ⟨(congrArg Value.bool (decide_eq_false (fun h => hc.2.2.2.2.2.2 (by rw [h])))), S82⟩
  refine EC_reg (vl (ptr b41 0) rfl (fP 0 rfl U38 (by kernel_rfl)) (vL (.int .i64 a.kind) rfl rfl (S54.arr 1 rfl) rfl U3 rfl (vl (ptr b48 0) rfl (fP 0 rfl U38 (by kernel_rfl)) (vL (.int .i64 b.kind) rfl rfl (S54.arr 0 rfl) rfl U3 rfl (vl (.bool true) rfl (r_dec (show (decide (a.kind = b.kind)) = true from by rw [decide_eq_true_eq]; exact hc.1) (r_eql rfl rfl)) ?_)))))
  refine vM (.bool true) rfl rfl (gl  10 rfl rfl rfl rfl (ptr b41 1) rfl (fP 0 rfl U38 (by kernel_rfl)) ?_)
  refine gL  10 rfl rfl rfl rfl (.int .i64 a.writer) rfl rfl (S54.arr 1 rfl) rfl U3 rfl ?_
  refine gl  10 rfl rfl rfl rfl (ptr b48 1) rfl (fP 0 rfl U38 (by kernel_rfl)) ?_
  refine gL  10 rfl rfl rfl rfl (.int .i64 b.writer) rfl rfl (S54.arr 0 rfl) rfl U3 rfl ?_
  refine gl  10 rfl rfl rfl rfl (.bool true) rfl (r_dec (show (decide (a.writer = b.writer)) = true from by rw [decide_eq_true_eq]; exact hc.2.1) (r_eql rfl rfl)) (vT (.bool true) rfl rfl rfl (vM (.bool true) rfl rfl (gl  17 rfl rfl rfl rfl (ptr b41 2) rfl (fP 0 rfl U38 (by kernel_rfl)) ?_)))
  refine gL  17 rfl rfl rfl rfl (.int .i64 a.seq) rfl rfl (S54.arr 1 rfl) rfl U3 rfl ?_
  refine gl  17 rfl rfl rfl rfl (ptr b48 2) rfl (fP 0 rfl U38 (by kernel_rfl)) ?_
  refine gL  17 rfl rfl rfl rfl (.int .i64 b.seq) rfl rfl (S54.arr 0 rfl) rfl U3 rfl ?_
  refine gl  17 rfl rfl rfl rfl (.bool true) rfl (r_dec (show (decide (a.seq = b.seq)) = true from by rw [decide_eq_true_eq]; exact hc.2.2.1) (r_eql rfl rfl)) (vT (.bool true) rfl rfl rfl (vM (.bool true) rfl rfl (gl  24 rfl rfl rfl rfl (ptr b41 3) rfl (fP 0 rfl U38 (by kernel_rfl)) ?_)))
  refine gL  24 rfl rfl rfl rfl v14 rfl rfl (S54.arr 1 rfl) rfl U22 rfl ?_
  refine gl  24 rfl rfl rfl rfl (ptr b48 3) rfl (fP 0 rfl U38 (by kernel_rfl)) ?_
  refine gL  24 rfl rfl rfl rfl v29 rfl rfl (S54.arr 0 rfl) rfl U22 rfl ?_
  refine eG 24 rfl rfl rfl rfl rfl F62 rfl (Equal_c v14 a.name v29 b.name I _ _ S54 H16 H31) ?_
  rintro _ w83 ⟨rfl, S84⟩
  refine vl (.bool true) rfl (r_pickT rfl (Eq.trans (show _ = Value.bool (decide (a.name = b.name)) from rfl) (congrArg Value.bool (show (decide (a.name = b.name)) = true from by rw [decide_eq_true_eq]; exact hc.2.2.2.1)))) (vM (.bool true) rfl rfl (gl  31 rfl rfl rfl rfl (ptr b41 4) rfl (fP 0 rfl U38 (by kernel_rfl)) ?_))
  refine gL  31 rfl rfl rfl rfl v17 rfl rfl (S84.arr 1 rfl) rfl U22 rfl ?_
  refine gl  31 rfl rfl rfl rfl (ptr b48 4) rfl (fP 0 rfl U38 (by kernel_rfl)) ?_
  refine gL  31 rfl rfl rfl rfl v32 rfl rfl (S84.arr 0 rfl) rfl U22 rfl ?_
  refine eG 31 rfl rfl rfl rfl rfl F62 rfl (Equal_c v17 a.value v32 b.value I _ _ S84 H19 H34) ?_
  rintro _ w85 ⟨rfl, S86⟩
  refine vl (.bool true) rfl (r_pickT rfl (Eq.trans (show _ = Value.bool (decide (a.value = b.value)) from rfl) (congrArg Value.bool (show (decide (a.value = b.value)) = true from by rw [decide_eq_true_eq]; exact hc.2.2.2.2.1)))) (vM (.bool true) rfl rfl (gl  38 rfl rfl rfl rfl (ptr b41 5) rfl (fP 0 rfl U38 (by kernel_rfl)) ?_))
  refine gL  38 rfl rfl rfl rfl (.int .i64 a.who) rfl rfl (S86.arr 1 rfl) rfl U3 rfl ?_
  refine gl  38 rfl rfl rfl rfl (ptr b48 5) rfl (fP 0 rfl U38 (by kernel_rfl)) ?_
  refine gL  38 rfl rfl rfl rfl (.int .i64 b.who) rfl rfl (S86.arr 0 rfl) rfl U3 rfl ?_
  refine gl  38 rfl rfl rfl rfl (.bool true) rfl (r_dec (show (decide (a.who = b.who)) = true from by rw [decide_eq_true_eq]; exact hc.2.2.2.2.2.1) (r_eql rfl rfl)) (vT (.bool true) rfl rfl rfl (vM (.bool true) rfl rfl (gl  45 rfl rfl rfl rfl (ptr b41 6) rfl (fP 0 rfl U38 (by kernel_rfl)) ?_)))
  refine gL  45 rfl rfl rfl rfl (.int .i64 a.rights) rfl rfl (S86.arr 1 rfl) rfl U3 rfl ?_
  refine gl  45 rfl rfl rfl rfl (ptr b48 6) rfl (fP 0 rfl U38 (by kernel_rfl)) ?_
  refine gL  45 rfl rfl rfl rfl (.int .i64 b.rights) rfl rfl (S86.arr 0 rfl) rfl U3 rfl ?_
  refine gl  45 rfl rfl rfl rfl (.bool true) rfl (r_dec (show (decide (a.rights = b.rights)) = true from by rw [decide_eq_true_eq]; exact hc.2.2.2.2.2.2.1) (r_eql rfl rfl)) (vT (.bool true) rfl rfl rfl (vM (.bool true) rfl rfl (gl  52 rfl rfl rfl rfl (ptr b41 7) rfl (fP 0 rfl U38 (by kernel_rfl)) ?_)))
  refine gL  52 rfl rfl rfl rfl (.int .i64 a.epoch) rfl rfl (S86.arr 1 rfl) rfl U3 rfl ?_
  refine gl  52 rfl rfl rfl rfl (ptr b48 7) rfl (fP 0 rfl U38 (by kernel_rfl)) ?_
  refine gL  52 rfl rfl rfl rfl (.int .i64 b.epoch) rfl rfl (S86.arr 0 rfl) rfl U3 rfl ?_
  refine gl  52 rfl rfl rfl rfl (.bool false) rfl (r_dec (show (decide (a.epoch = b.epoch)) = false from by rw [decide_eq_false_iff_not]; exact hc.2.2.2.2.2.2.2) (r_eql rfl rfl)) (vT (.bool false) rfl rfl rfl (vM (.bool false) rfl rfl (EL_pass 59 rfl rfl rfl rfl rfl (EL_pass 59 rfl rfl rfl rfl rfl (EL_pass 59 rfl rfl rfl rfl rfl ?_)))))
  refine EL_pass 59 rfl rfl rfl rfl rfl (EL_pass 59 rfl rfl rfl rfl rfl (vF (.bool false) rfl rfl rfl (vA (.bool false) rfl rfl (EL_nil (thn_n ?_)))))
  refine EC_ret ?_
  refine fin1 Tryz.results23 (show _ = .bool false from rfl) ⟨_, rfl, ?_⟩
  have S87 := S86.dr0
  have S88 := S87.dr0
  exact ⟨(congrArg Value.bool (decide_eq_false (fun h => hc.2.2.2.2.2.2.2 (by rw [h])))), S88⟩
  refine EC_reg (vl (ptr b41 0) rfl (fP 0 rfl U38 (by kernel_rfl)) (vL (.int .i64 a.kind) rfl rfl (S54.arr 1 rfl) rfl U3 rfl (vl (ptr b48 0) rfl (fP 0 rfl U38 (by kernel_rfl)) (vL (.int .i64 b.kind) rfl rfl (S54.arr 0 rfl) rfl U3 rfl (vl (.bool true) rfl (r_dec (show (decide (a.kind = b.kind)) = true from by rw [decide_eq_true_eq]; exact hc.1) (r_eql rfl rfl)) ?_)))))
  refine vM (.bool true) rfl rfl (gl  10 rfl rfl rfl rfl (ptr b41 1) rfl (fP 0 rfl U38 (by kernel_rfl)) ?_)
  refine gL  10 rfl rfl rfl rfl (.int .i64 a.writer) rfl rfl (S54.arr 1 rfl) rfl U3 rfl ?_
  refine gl  10 rfl rfl rfl rfl (ptr b48 1) rfl (fP 0 rfl U38 (by kernel_rfl)) ?_
  refine gL  10 rfl rfl rfl rfl (.int .i64 b.writer) rfl rfl (S54.arr 0 rfl) rfl U3 rfl ?_
  refine gl  10 rfl rfl rfl rfl (.bool true) rfl (r_dec (show (decide (a.writer = b.writer)) = true from by rw [decide_eq_true_eq]; exact hc.2.1) (r_eql rfl rfl)) (vT (.bool true) rfl rfl rfl (vM (.bool true) rfl rfl (gl  17 rfl rfl rfl rfl (ptr b41 2) rfl (fP 0 rfl U38 (by kernel_rfl)) ?_)))
  refine gL  17 rfl rfl rfl rfl (.int .i64 a.seq) rfl rfl (S54.arr 1 rfl) rfl U3 rfl ?_
  refine gl  17 rfl rfl rfl rfl (ptr b48 2) rfl (fP 0 rfl U38 (by kernel_rfl)) ?_
  refine gL  17 rfl rfl rfl rfl (.int .i64 b.seq) rfl rfl (S54.arr 0 rfl) rfl U3 rfl ?_
  refine gl  17 rfl rfl rfl rfl (.bool true) rfl (r_dec (show (decide (a.seq = b.seq)) = true from by rw [decide_eq_true_eq]; exact hc.2.2.1) (r_eql rfl rfl)) (vT (.bool true) rfl rfl rfl (vM (.bool true) rfl rfl (gl  24 rfl rfl rfl rfl (ptr b41 3) rfl (fP 0 rfl U38 (by kernel_rfl)) ?_)))
  refine gL  24 rfl rfl rfl rfl v14 rfl rfl (S54.arr 1 rfl) rfl U22 rfl ?_
  refine gl  24 rfl rfl rfl rfl (ptr b48 3) rfl (fP 0 rfl U38 (by kernel_rfl)) ?_
  refine gL  24 rfl rfl rfl rfl v29 rfl rfl (S54.arr 0 rfl) rfl U22 rfl ?_
  refine eG 24 rfl rfl rfl rfl rfl F62 rfl (Equal_c v14 a.name v29 b.name I _ _ S54 H16 H31) ?_
  rintro _ w89 ⟨rfl, S90⟩
  refine vl (.bool true) rfl (r_pickT rfl (Eq.trans (show _ = Value.bool (decide (a.name = b.name)) from rfl) (congrArg Value.bool (show (decide (a.name = b.name)) = true from by rw [decide_eq_true_eq]; exact hc.2.2.2.1)))) (vM (.bool true) rfl rfl (gl  31 rfl rfl rfl rfl (ptr b41 4) rfl (fP 0 rfl U38 (by kernel_rfl)) ?_))
  refine gL  31 rfl rfl rfl rfl v17 rfl rfl (S90.arr 1 rfl) rfl U22 rfl ?_
  refine gl  31 rfl rfl rfl rfl (ptr b48 4) rfl (fP 0 rfl U38 (by kernel_rfl)) ?_
  refine gL  31 rfl rfl rfl rfl v32 rfl rfl (S90.arr 0 rfl) rfl U22 rfl ?_
  refine eG 31 rfl rfl rfl rfl rfl F62 rfl (Equal_c v17 a.value v32 b.value I _ _ S90 H19 H34) ?_
  rintro _ w91 ⟨rfl, S92⟩
  refine vl (.bool true) rfl (r_pickT rfl (Eq.trans (show _ = Value.bool (decide (a.value = b.value)) from rfl) (congrArg Value.bool (show (decide (a.value = b.value)) = true from by rw [decide_eq_true_eq]; exact hc.2.2.2.2.1)))) (vM (.bool true) rfl rfl (gl  38 rfl rfl rfl rfl (ptr b41 5) rfl (fP 0 rfl U38 (by kernel_rfl)) ?_))
  refine gL  38 rfl rfl rfl rfl (.int .i64 a.who) rfl rfl (S92.arr 1 rfl) rfl U3 rfl ?_
  refine gl  38 rfl rfl rfl rfl (ptr b48 5) rfl (fP 0 rfl U38 (by kernel_rfl)) ?_
  refine gL  38 rfl rfl rfl rfl (.int .i64 b.who) rfl rfl (S92.arr 0 rfl) rfl U3 rfl ?_
  refine gl  38 rfl rfl rfl rfl (.bool true) rfl (r_dec (show (decide (a.who = b.who)) = true from by rw [decide_eq_true_eq]; exact hc.2.2.2.2.2.1) (r_eql rfl rfl)) (vT (.bool true) rfl rfl rfl (vM (.bool true) rfl rfl (gl  45 rfl rfl rfl rfl (ptr b41 6) rfl (fP 0 rfl U38 (by kernel_rfl)) ?_)))
  refine gL  45 rfl rfl rfl rfl (.int .i64 a.rights) rfl rfl (S92.arr 1 rfl) rfl U3 rfl ?_
  refine gl  45 rfl rfl rfl rfl (ptr b48 6) rfl (fP 0 rfl U38 (by kernel_rfl)) ?_
  refine gL  45 rfl rfl rfl rfl (.int .i64 b.rights) rfl rfl (S92.arr 0 rfl) rfl U3 rfl ?_
  refine gl  45 rfl rfl rfl rfl (.bool true) rfl (r_dec (show (decide (a.rights = b.rights)) = true from by rw [decide_eq_true_eq]; exact hc.2.2.2.2.2.2.1) (r_eql rfl rfl)) (vT (.bool true) rfl rfl rfl (vM (.bool true) rfl rfl (gl  52 rfl rfl rfl rfl (ptr b41 7) rfl (fP 0 rfl U38 (by kernel_rfl)) ?_)))
  refine gL  52 rfl rfl rfl rfl (.int .i64 a.epoch) rfl rfl (S92.arr 1 rfl) rfl U3 rfl ?_
  refine gl  52 rfl rfl rfl rfl (ptr b48 7) rfl (fP 0 rfl U38 (by kernel_rfl)) ?_
  refine gL  52 rfl rfl rfl rfl (.int .i64 b.epoch) rfl rfl (S92.arr 0 rfl) rfl U3 rfl ?_
  refine gl  52 rfl rfl rfl rfl (.bool true) rfl (r_dec (show (decide (a.epoch = b.epoch)) = true from by rw [decide_eq_true_eq]; exact hc.2.2.2.2.2.2.2.1) (r_eql rfl rfl)) (vT (.bool true) rfl rfl rfl (vM (.bool true) rfl rfl (gl  59 rfl rfl rfl rfl (ptr b41 8) rfl (fP 0 rfl U38 (by kernel_rfl)) ?_)))
  refine gL  59 rfl rfl rfl rfl v23 rfl rfl (S92.arr 1 rfl) rfl U36 rfl ?_
  refine gl  59 rfl rfl rfl rfl (ptr b48 8) rfl (fP 0 rfl U38 (by kernel_rfl)) ?_
  refine gL  59 rfl rfl rfl rfl v38 rfl rfl (S92.arr 0 rfl) rfl U36 rfl ?_
  refine eG 59 rfl rfl rfl rfl rfl F63 rfl (EqualF_c v23 a.wraps v38 b.wraps I _ _ S92 H25 H40) ?_
  rintro _ w93 ⟨rfl, S94⟩
  refine vl (.bool false) rfl (r_pickT rfl (Eq.trans (show _ = Value.bool (decide (a.wraps = b.wraps)) from rfl) (congrArg Value.bool (show (decide (a.wraps = b.wraps)) = false from by rw [decide_eq_false_iff_not]; exact hc.2.2.2.2.2.2.2.2)))) (vA (.bool false) rfl rfl (EL_nil (thn_n (EC_ret ?_))))
  refine fin1 Tryz.results23 (show _ = .bool false from rfl) ⟨_, rfl, ?_⟩
  have S95 := S94.dr0
  have S96 := S95.dr0
  exact ⟨(congrArg Value.bool (decide_eq_false (fun h => hc.2.2.2.2.2.2.2.2 (by rw [h])))), S96⟩
  refine EC_reg (vl (ptr b41 0) rfl (fP 0 rfl U38 (by kernel_rfl)) (vL (.int .i64 a.kind) rfl rfl (S54.arr 1 rfl) rfl U3 rfl (vl (ptr b48 0) rfl (fP 0 rfl U38 (by kernel_rfl)) (vL (.int .i64 b.kind) rfl rfl (S54.arr 0 rfl) rfl U3 rfl (vl (.bool true) rfl (r_dec (show (decide (a.kind = b.kind)) = true from by rw [decide_eq_true_eq]; exact hc.1) (r_eql rfl rfl)) ?_)))))
  refine vM (.bool true) rfl rfl (gl  10 rfl rfl rfl rfl (ptr b41 1) rfl (fP 0 rfl U38 (by kernel_rfl)) ?_)
  refine gL  10 rfl rfl rfl rfl (.int .i64 a.writer) rfl rfl (S54.arr 1 rfl) rfl U3 rfl ?_
  refine gl  10 rfl rfl rfl rfl (ptr b48 1) rfl (fP 0 rfl U38 (by kernel_rfl)) ?_
  refine gL  10 rfl rfl rfl rfl (.int .i64 b.writer) rfl rfl (S54.arr 0 rfl) rfl U3 rfl ?_
  refine gl  10 rfl rfl rfl rfl (.bool true) rfl (r_dec (show (decide (a.writer = b.writer)) = true from by rw [decide_eq_true_eq]; exact hc.2.1) (r_eql rfl rfl)) (vT (.bool true) rfl rfl rfl (vM (.bool true) rfl rfl (gl  17 rfl rfl rfl rfl (ptr b41 2) rfl (fP 0 rfl U38 (by kernel_rfl)) ?_)))
  refine gL  17 rfl rfl rfl rfl (.int .i64 a.seq) rfl rfl (S54.arr 1 rfl) rfl U3 rfl ?_
  refine gl  17 rfl rfl rfl rfl (ptr b48 2) rfl (fP 0 rfl U38 (by kernel_rfl)) ?_
  refine gL  17 rfl rfl rfl rfl (.int .i64 b.seq) rfl rfl (S54.arr 0 rfl) rfl U3 rfl ?_
  refine gl  17 rfl rfl rfl rfl (.bool true) rfl (r_dec (show (decide (a.seq = b.seq)) = true from by rw [decide_eq_true_eq]; exact hc.2.2.1) (r_eql rfl rfl)) (vT (.bool true) rfl rfl rfl (vM (.bool true) rfl rfl (gl  24 rfl rfl rfl rfl (ptr b41 3) rfl (fP 0 rfl U38 (by kernel_rfl)) ?_)))
  refine gL  24 rfl rfl rfl rfl v14 rfl rfl (S54.arr 1 rfl) rfl U22 rfl ?_
  refine gl  24 rfl rfl rfl rfl (ptr b48 3) rfl (fP 0 rfl U38 (by kernel_rfl)) ?_
  refine gL  24 rfl rfl rfl rfl v29 rfl rfl (S54.arr 0 rfl) rfl U22 rfl ?_
  refine eG 24 rfl rfl rfl rfl rfl F62 rfl (Equal_c v14 a.name v29 b.name I _ _ S54 H16 H31) ?_
  rintro _ w97 ⟨rfl, S98⟩
  refine vl (.bool true) rfl (r_pickT rfl (Eq.trans (show _ = Value.bool (decide (a.name = b.name)) from rfl) (congrArg Value.bool (show (decide (a.name = b.name)) = true from by rw [decide_eq_true_eq]; exact hc.2.2.2.1)))) (vM (.bool true) rfl rfl (gl  31 rfl rfl rfl rfl (ptr b41 4) rfl (fP 0 rfl U38 (by kernel_rfl)) ?_))
  refine gL  31 rfl rfl rfl rfl v17 rfl rfl (S98.arr 1 rfl) rfl U22 rfl ?_
  refine gl  31 rfl rfl rfl rfl (ptr b48 4) rfl (fP 0 rfl U38 (by kernel_rfl)) ?_
  refine gL  31 rfl rfl rfl rfl v32 rfl rfl (S98.arr 0 rfl) rfl U22 rfl ?_
  refine eG 31 rfl rfl rfl rfl rfl F62 rfl (Equal_c v17 a.value v32 b.value I _ _ S98 H19 H34) ?_
  rintro _ w99 ⟨rfl, S100⟩
  refine vl (.bool true) rfl (r_pickT rfl (Eq.trans (show _ = Value.bool (decide (a.value = b.value)) from rfl) (congrArg Value.bool (show (decide (a.value = b.value)) = true from by rw [decide_eq_true_eq]; exact hc.2.2.2.2.1)))) (vM (.bool true) rfl rfl (gl  38 rfl rfl rfl rfl (ptr b41 5) rfl (fP 0 rfl U38 (by kernel_rfl)) ?_))
  refine gL  38 rfl rfl rfl rfl (.int .i64 a.who) rfl rfl (S100.arr 1 rfl) rfl U3 rfl ?_
  refine gl  38 rfl rfl rfl rfl (ptr b48 5) rfl (fP 0 rfl U38 (by kernel_rfl)) ?_
  refine gL  38 rfl rfl rfl rfl (.int .i64 b.who) rfl rfl (S100.arr 0 rfl) rfl U3 rfl ?_
  refine gl  38 rfl rfl rfl rfl (.bool true) rfl (r_dec (show (decide (a.who = b.who)) = true from by rw [decide_eq_true_eq]; exact hc.2.2.2.2.2.1) (r_eql rfl rfl)) (vT (.bool true) rfl rfl rfl (vM (.bool true) rfl rfl (gl  45 rfl rfl rfl rfl (ptr b41 6) rfl (fP 0 rfl U38 (by kernel_rfl)) ?_)))
  refine gL  45 rfl rfl rfl rfl (.int .i64 a.rights) rfl rfl (S100.arr 1 rfl) rfl U3 rfl ?_
  refine gl  45 rfl rfl rfl rfl (ptr b48 6) rfl (fP 0 rfl U38 (by kernel_rfl)) ?_
  refine gL  45 rfl rfl rfl rfl (.int .i64 b.rights) rfl rfl (S100.arr 0 rfl) rfl U3 rfl ?_
  refine gl  45 rfl rfl rfl rfl (.bool true) rfl (r_dec (show (decide (a.rights = b.rights)) = true from by rw [decide_eq_true_eq]; exact hc.2.2.2.2.2.2.1) (r_eql rfl rfl)) (vT (.bool true) rfl rfl rfl (vM (.bool true) rfl rfl (gl  52 rfl rfl rfl rfl (ptr b41 7) rfl (fP 0 rfl U38 (by kernel_rfl)) ?_)))
  refine gL  52 rfl rfl rfl rfl (.int .i64 a.epoch) rfl rfl (S100.arr 1 rfl) rfl U3 rfl ?_
  refine gl  52 rfl rfl rfl rfl (ptr b48 7) rfl (fP 0 rfl U38 (by kernel_rfl)) ?_
  refine gL  52 rfl rfl rfl rfl (.int .i64 b.epoch) rfl rfl (S100.arr 0 rfl) rfl U3 rfl ?_
  refine gl  52 rfl rfl rfl rfl (.bool true) rfl (r_dec (show (decide (a.epoch = b.epoch)) = true from by rw [decide_eq_true_eq]; exact hc.2.2.2.2.2.2.2.1) (r_eql rfl rfl)) (vT (.bool true) rfl rfl rfl (vM (.bool true) rfl rfl (gl  59 rfl rfl rfl rfl (ptr b41 8) rfl (fP 0 rfl U38 (by kernel_rfl)) ?_)))
  refine gL  59 rfl rfl rfl rfl v23 rfl rfl (S100.arr 1 rfl) rfl U36 rfl ?_
  refine gl  59 rfl rfl rfl rfl (ptr b48 8) rfl (fP 0 rfl U38 (by kernel_rfl)) ?_
  refine gL  59 rfl rfl rfl rfl v38 rfl rfl (S100.arr 0 rfl) rfl U36 rfl ?_
  refine eG 59 rfl rfl rfl rfl rfl F63 rfl (EqualF_c v23 a.wraps v38 b.wraps I _ _ S100 H25 H40) ?_
  rintro _ w101 ⟨rfl, S102⟩
  refine vl (.bool true) rfl (r_pickT rfl (Eq.trans (show _ = Value.bool (decide (a.wraps = b.wraps)) from rfl) (congrArg Value.bool (show (decide (a.wraps = b.wraps)) = true from by rw [decide_eq_true_eq]; exact hc.2.2.2.2.2.2.2.2)))) (vA (.bool true) rfl rfl (EL_nil (thn_n (EC_ret ?_))))
  refine fin1 Tryz.results23 (show _ = .bool true from rfl) ⟨_, rfl, ?_⟩
  have S103 := S102.dr0
  have S104 := S103.dr0
  exact ⟨(congrArg Value.bool (decide_eq_true (entry_eq.2 hc))), S104⟩

end Go.Proofs.YtoajodjcmeijgaaGreat
