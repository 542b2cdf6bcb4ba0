import Derived.Test.YtoajodjcmeijgaaQSealedHidesEntC
set_option linter.unusedVariables false
set_option linter.unusedSimpArgs false
namespace Go.Proofs.Ytoajodjcmeijgaa
open Go.RowKit Go.Ecal

set_option maxRecDepth 100000 in
set_option maxHeartbeats 4000000 in
theorem Same_c (ca : List Value) (cb : List Value) (a : Entry) (b : Entry) (I : Gh) (R : List HP) (w : World) (S : Sat w I (R)) (ha : entR.r I ca a) (hb : entR.r I cb b) : Ret Try.prog 27 [.agg ca.toArray, .agg cb.toArray] w fun v w' => .bool (decide (a = b)) = v ∧ Sat w' I (R) := by
  obtain ⟨v14, v17, v23, rfl, r11, r12, r13, ⟨o15, H16⟩, ⟨o18, H19⟩, r20, r21, r22, ⟨o24, H25⟩⟩ := ha
  obtain ⟨v29, v32, v38, rfl, r26, r27, r28, ⟨o30, H31⟩, ⟨o33, H34⟩, r35, r36, r37, ⟨o39, H40⟩⟩ := hb
  refine ret_E Try.func27 rfl Try.ntmps27 (by simp) ?_
  refine EC_seq ?_
  refine EC_reg ?_
  refine EL_box [.int .i64 a.kind, .int .i64 a.writer, .int .i64 a.seq, v14, v17, .int .i64 a.who, .int .i64 a.rights, .int .i64 a.epoch, v23] rfl rfl rfl ?_
  intro b41 w42 k43 A44 B45 z46
  have S47 := S.newB B45 A44 k43
  refine EL_box [.int .i64 b.kind, .int .i64 b.writer, .int .i64 b.seq, v29, v32, .int .i64 b.who, .int .i64 b.rights, .int .i64 b.epoch, v38] rfl rfl rfl ?_
  intro b48 w49 k50 A51 B52 z53
  have S54 := S47.newB B52 A51 k50
  refine EL_val (.bool false) w49 rfl (r_assign rfl) ?_
  refine EL_nil ?_
  refine thn_n ?_
  refine EC_seq ?_
  rcases first9 (a.kind = b.kind) (a.writer = b.writer) (a.seq = b.seq) (a.name = b.name) (a.value = b.value) (a.who = b.who) (a.rights = b.rights) (a.epoch = b.epoch) (a.wraps = b.wraps) with hc | hc | hc | hc | hc | hc | hc | hc | hc | hc
  · refine EC_reg ?_
    refine EL_val (ptr b41 0) w49 rfl (r_fieldP (o := 0) (s := 1) rfl Try.underlying25 rfl (by kernel_rfl) (by decide) rfl) ?_
    refine EL_val (.int .i64 a.kind) w49 rfl (r_loadA rfl (S54.arr 1 rfl) (u := (.int .i64 a.kind)) rfl Try.underlying3 rfl) ?_
    refine EL_val (ptr b48 0) w49 rfl (r_fieldP (o := 0) (s := 1) rfl Try.underlying25 rfl (by kernel_rfl) (by decide) rfl) ?_
    refine EL_val (.int .i64 b.kind) w49 rfl (r_loadA rfl (S54.arr 0 rfl) (u := (.int .i64 b.kind)) rfl Try.underlying3 rfl) ?_
    refine EL_val (.bool false) w49 rfl (r_dec (show (decide (a.kind = b.kind)) = false from by rw [decide_eq_false_iff_not]; exact hc) (r_eql rfl rfl)) ?_
    refine EL_val (.bool false) w49 rfl (r_move rfl) ?_
    refine EL_pass 10 rfl rfl rfl rfl rfl ?_
    refine EL_pass 10 rfl rfl rfl rfl rfl ?_
    refine EL_pass 10 rfl rfl rfl rfl rfl ?_
    refine EL_pass 10 rfl rfl rfl rfl rfl ?_
    refine EL_pass 10 rfl rfl rfl rfl rfl ?_
    refine EL_val (.bool false) w49 rfl (r_pickF rfl rfl) ?_
    refine EL_val (.bool false) w49 rfl (r_move rfl) ?_
    refine EL_pass 17 rfl rfl rfl rfl rfl ?_
    refine EL_pass 17 rfl rfl rfl rfl rfl ?_
    refine EL_pass 17 rfl rfl rfl rfl rfl ?_
    refine EL_pass 17 rfl rfl rfl rfl rfl ?_
    refine EL_pass 17 rfl rfl rfl rfl rfl ?_
    refine EL_val (.bool false) w49 rfl (r_pickF rfl rfl) ?_
    refine EL_val (.bool false) w49 rfl (r_move rfl) ?_
    refine EL_pass 24 rfl rfl rfl rfl rfl ?_
    refine EL_pass 24 rfl rfl rfl rfl rfl ?_
    refine EL_pass 24 rfl rfl rfl rfl rfl ?_
    refine EL_pass 24 rfl rfl rfl rfl rfl ?_
    refine EL_pass 24 rfl rfl rfl rfl rfl ?_
    refine EL_val (.bool false) w49 rfl (r_pickF rfl rfl) ?_
    refine EL_val (.bool false) w49 rfl (r_move rfl) ?_
    refine EL_pass 31 rfl rfl rfl rfl rfl ?_
    refine EL_pass 31 rfl rfl rfl rfl rfl ?_
    refine EL_pass 31 rfl rfl rfl rfl rfl ?_
    refine EL_pass 31 rfl rfl rfl rfl rfl ?_
    refine EL_pass 31 rfl rfl rfl rfl rfl ?_
    refine EL_val (.bool false) w49 rfl (r_pickF rfl rfl) ?_
    refine EL_val (.bool false) w49 rfl (r_move rfl) ?_
    refine EL_pass 38 rfl rfl rfl rfl rfl ?_
    refine EL_pass 38 rfl rfl rfl rfl rfl ?_
    refine EL_pass 38 rfl rfl rfl rfl rfl ?_
    refine EL_pass 38 rfl rfl rfl rfl rfl ?_
    refine EL_pass 38 rfl rfl rfl rfl rfl ?_
    refine EL_val (.bool false) w49 rfl (r_pickF rfl rfl) ?_
    refine EL_val (.bool false) w49 rfl (r_move rfl) ?_
    refine EL_pass 45 rfl rfl rfl rfl rfl ?_
    refine EL_pass 45 rfl rfl rfl rfl rfl ?_
    refine EL_pass 45 rfl rfl rfl rfl rfl ?_
    refine EL_pass 45 rfl rfl rfl rfl rfl ?_
    refine EL_pass 45 rfl rfl rfl rfl rfl ?_
    refine EL_val (.bool false) w49 rfl (r_pickF rfl rfl) ?_
    refine EL_val (.bool false) w49 rfl (r_move rfl) ?_
    refine EL_pass 52 rfl rfl rfl rfl rfl ?_
    refine EL_pass 52 rfl rfl rfl rfl rfl ?_
    refine EL_pass 52 rfl rfl rfl rfl rfl ?_
    refine EL_pass 52 rfl rfl rfl rfl rfl ?_
    refine EL_pass 52 rfl rfl rfl rfl rfl ?_
    refine EL_val (.bool false) w49 rfl (r_pickF rfl rfl) ?_
    refine EL_val (.bool false) w49 rfl (r_move rfl) ?_
    refine EL_pass 59 rfl rfl rfl rfl rfl ?_
    refine EL_pass 59 rfl rfl rfl rfl rfl ?_
    refine EL_pass 59 rfl rfl rfl rfl rfl ?_
    refine EL_pass 59 rfl rfl rfl rfl rfl ?_
    refine EL_pass 59 rfl rfl rfl rfl rfl ?_
    refine EL_val (.bool false) w49 rfl (r_pickF rfl rfl) ?_
    refine EL_val (.bool false) w49 rfl (r_assign rfl) ?_
    refine EL_nil ?_
    refine thn_n ?_
    refine EC_ret ?_
    refine fin1 Try.results27 (show _ = .bool false from rfl) ⟨_, rfl, ?_⟩
    have S55 := S54.dr0
    have S56 := S55.dr0
    exact ⟨(congrArg Value.bool (decide_eq_false (fun h => hc (by rw [h])))), S56⟩
  · refine EC_reg ?_
    refine EL_val (ptr b41 0) w49 rfl (r_fieldP (o := 0) (s := 1) rfl Try.underlying25 rfl (by kernel_rfl) (by decide) rfl) ?_
    refine EL_val (.int .i64 a.kind) w49 rfl (r_loadA rfl (S54.arr 1 rfl) (u := (.int .i64 a.kind)) rfl Try.underlying3 rfl) ?_
    refine EL_val (ptr b48 0) w49 rfl (r_fieldP (o := 0) (s := 1) rfl Try.underlying25 rfl (by kernel_rfl) (by decide) rfl) ?_
    refine EL_val (.int .i64 b.kind) w49 rfl (r_loadA rfl (S54.arr 0 rfl) (u := (.int .i64 b.kind)) rfl Try.underlying3 rfl) ?_
    refine EL_val (.bool true) w49 rfl (r_dec (show (decide (a.kind = b.kind)) = true from by rw [decide_eq_true_eq]; exact hc.1) (r_eql rfl rfl)) ?_
    refine EL_val (.bool true) w49 rfl (r_move rfl) ?_
    refine EL_gval 10 rfl rfl rfl rfl (ptr b41 1) w49 rfl (r_fieldP (o := 0) (s := 1) rfl Try.underlying25 rfl (by kernel_rfl) (by decide) rfl) ?_
    refine EL_gval 10 rfl rfl rfl rfl (.int .i64 a.writer) w49 rfl (r_loadA rfl (S54.arr 1 rfl) (u := (.int .i64 a.writer)) rfl Try.underlying3 rfl) ?_
    refine EL_gval 10 rfl rfl rfl rfl (ptr b48 1) w49 rfl (r_fieldP (o := 0) (s := 1) rfl Try.underlying25 rfl (by kernel_rfl) (by decide) rfl) ?_
    refine EL_gval 10 rfl rfl rfl rfl (.int .i64 b.writer) w49 rfl (r_loadA rfl (S54.arr 0 rfl) (u := (.int .i64 b.writer)) rfl Try.underlying3 rfl) ?_
    refine EL_gval 10 rfl rfl rfl rfl (.bool false) w49 rfl (r_dec (show (decide (a.writer = b.writer)) = false from by rw [decide_eq_false_iff_not]; exact hc.2) (r_eql rfl rfl)) ?_
    refine EL_val (.bool false) w49 rfl (r_pickT rfl rfl) ?_
    refine EL_val (.bool false) w49 rfl (r_move rfl) ?_
    refine EL_pass 17 rfl rfl rfl rfl rfl ?_
    refine EL_pass 17 rfl rfl rfl rfl rfl ?_
    refine EL_pass 17 rfl rfl rfl rfl rfl ?_
    refine EL_pass 17 rfl rfl rfl rfl rfl ?_
    refine EL_pass 17 rfl rfl rfl rfl rfl ?_
    refine EL_val (.bool false) w49 rfl (r_pickF rfl rfl) ?_
    refine EL_val (.bool false) w49 rfl (r_move rfl) ?_
    refine EL_pass 24 rfl rfl rfl rfl rfl ?_
    refine EL_pass 24 rfl rfl rfl rfl rfl ?_
    refine EL_pass 24 rfl rfl rfl rfl rfl ?_
    refine EL_pass 24 rfl rfl rfl rfl rfl ?_
    refine EL_pass 24 rfl rfl rfl rfl rfl ?_
    refine EL_val (.bool false) w49 rfl (r_pickF rfl rfl) ?_
    refine EL_val (.bool false) w49 rfl (r_move rfl) ?_
    refine EL_pass 31 rfl rfl rfl rfl rfl ?_
    refine EL_pass 31 rfl rfl rfl rfl rfl ?_
    refine EL_pass 31 rfl rfl rfl rfl rfl ?_
    refine EL_pass 31 rfl rfl rfl rfl rfl ?_
    refine EL_pass 31 rfl rfl rfl rfl rfl ?_
    refine EL_val (.bool false) w49 rfl (r_pickF rfl rfl) ?_
    refine EL_val (.bool false) w49 rfl (r_move rfl) ?_
    refine EL_pass 38 rfl rfl rfl rfl rfl ?_
    refine EL_pass 38 rfl rfl rfl rfl rfl ?_
    refine EL_pass 38 rfl rfl rfl rfl rfl ?_
    refine EL_pass 38 rfl rfl rfl rfl rfl ?_
    refine EL_pass 38 rfl rfl rfl rfl rfl ?_
    refine EL_val (.bool false) w49 rfl (r_pickF rfl rfl) ?_
    refine EL_val (.bool false) w49 rfl (r_move rfl) ?_
    refine EL_pass 45 rfl rfl rfl rfl rfl ?_
    refine EL_pass 45 rfl rfl rfl rfl rfl ?_
    refine EL_pass 45 rfl rfl rfl rfl rfl ?_
    refine EL_pass 45 rfl rfl rfl rfl rfl ?_
    refine EL_pass 45 rfl rfl rfl rfl rfl ?_
    refine EL_val (.bool false) w49 rfl (r_pickF rfl rfl) ?_
    refine EL_val (.bool false) w49 rfl (r_move rfl) ?_
    refine EL_pass 52 rfl rfl rfl rfl rfl ?_
    refine EL_pass 52 rfl rfl rfl rfl rfl ?_
    refine EL_pass 52 rfl rfl rfl rfl rfl ?_
    refine EL_pass 52 rfl rfl rfl rfl rfl ?_
    refine EL_pass 52 rfl rfl rfl rfl rfl ?_
    refine EL_val (.bool false) w49 rfl (r_pickF rfl rfl) ?_
    refine EL_val (.bool false) w49 rfl (r_move rfl) ?_
    refine EL_pass 59 rfl rfl rfl rfl rfl ?_
    refine EL_pass 59 rfl rfl rfl rfl rfl ?_
    refine EL_pass 59 rfl rfl rfl rfl rfl ?_
    refine EL_pass 59 rfl rfl rfl rfl rfl ?_
    refine EL_pass 59 rfl rfl rfl rfl rfl ?_
    refine EL_val (.bool false) w49 rfl (r_pickF rfl rfl) ?_
    refine EL_val (.bool false) w49 rfl (r_assign rfl) ?_
    refine EL_nil ?_
    refine thn_n ?_
    refine EC_ret ?_
    refine fin1 Try.results27 (show _ = .bool false from rfl) ⟨_, rfl, ?_⟩
    have S57 := S54.dr0
    have S58 := S57.dr0
    exact ⟨(congrArg Value.bool (decide_eq_false (fun h => hc.2 (by rw [h])))), S58⟩
  · refine EC_reg ?_
    refine EL_val (ptr b41 0) w49 rfl (r_fieldP (o := 0) (s := 1) rfl Try.underlying25 rfl (by kernel_rfl) (by decide) rfl) ?_
    refine EL_val (.int .i64 a.kind) w49 rfl (r_loadA rfl (S54.arr 1 rfl) (u := (.int .i64 a.kind)) rfl Try.underlying3 rfl) ?_
    refine EL_val (ptr b48 0) w49 rfl (r_fieldP (o := 0) (s := 1) rfl Try.underlying25 rfl (by kernel_rfl) (by decide) rfl) ?_
    refine EL_val (.int .i64 b.kind) w49 rfl (r_loadA rfl (S54.arr 0 rfl) (u := (.int .i64 b.kind)) rfl Try.underlying3 rfl) ?_
    refine EL_val (.bool true) w49 rfl (r_dec (show (decide (a.kind = b.kind)) = true from by rw [decide_eq_true_eq]; exact hc.1) (r_eql rfl rfl)) ?_
    refine EL_val (.bool true) w49 rfl (r_move rfl) ?_
    refine EL_gval 10 rfl rfl rfl rfl (ptr b41 1) w49 rfl (r_fieldP (o := 0) (s := 1) rfl Try.underlying25 rfl (by kernel_rfl) (by decide) rfl) ?_
    refine EL_gval 10 rfl rfl rfl rfl (.int .i64 a.writer) w49 rfl (r_loadA rfl (S54.arr 1 rfl) (u := (.int .i64 a.writer)) rfl Try.underlying3 rfl) ?_
    refine EL_gval 10 rfl rfl rfl rfl (ptr b48 1) w49 rfl (r_fieldP (o := 0) (s := 1) rfl Try.underlying25 rfl (by kernel_rfl) (by decide) rfl) ?_
    refine EL_gval 10 rfl rfl rfl rfl (.int .i64 b.writer) w49 rfl (r_loadA rfl (S54.arr 0 rfl) (u := (.int .i64 b.writer)) rfl Try.underlying3 rfl) ?_
    refine EL_gval 10 rfl rfl rfl rfl (.bool true) w49 rfl (r_dec (show (decide (a.writer = b.writer)) = true from by rw [decide_eq_true_eq]; exact hc.2.1) (r_eql rfl rfl)) ?_
    refine EL_val (.bool true) w49 rfl (r_pickT rfl rfl) ?_
    refine EL_val (.bool true) w49 rfl (r_move rfl) ?_
    refine EL_gval 17 rfl rfl rfl rfl (ptr b41 2) w49 rfl (r_fieldP (o := 0) (s := 1) rfl Try.underlying25 rfl (by kernel_rfl) (by decide) rfl) ?_
    refine EL_gval 17 rfl rfl rfl rfl (.int .i64 a.seq) w49 rfl (r_loadA rfl (S54.arr 1 rfl) (u := (.int .i64 a.seq)) rfl Try.underlying3 rfl) ?_
    refine EL_gval 17 rfl rfl rfl rfl (ptr b48 2) w49 rfl (r_fieldP (o := 0) (s := 1) rfl Try.underlying25 rfl (by kernel_rfl) (by decide) rfl) ?_
    refine EL_gval 17 rfl rfl rfl rfl (.int .i64 b.seq) w49 rfl (r_loadA rfl (S54.arr 0 rfl) (u := (.int .i64 b.seq)) rfl Try.underlying3 rfl) ?_
    refine EL_gval 17 rfl rfl rfl rfl (.bool false) w49 rfl (r_dec (show (decide (a.seq = b.seq)) = false from by rw [decide_eq_false_iff_not]; exact hc.2.2) (r_eql rfl rfl)) ?_
    refine EL_val (.bool false) w49 rfl (r_pickT rfl rfl) ?_
    refine EL_val (.bool false) w49 rfl (r_move rfl) ?_
    refine EL_pass 24 rfl rfl rfl rfl rfl ?_
    refine EL_pass 24 rfl rfl rfl rfl rfl ?_
    refine EL_pass 24 rfl rfl rfl rfl rfl ?_
    refine EL_pass 24 rfl rfl rfl rfl rfl ?_
    refine EL_pass 24 rfl rfl rfl rfl rfl ?_
    refine EL_val (.bool false) w49 rfl (r_pickF rfl rfl) ?_
    refine EL_val (.bool false) w49 rfl (r_move rfl) ?_
    refine EL_pass 31 rfl rfl rfl rfl rfl ?_
    refine EL_pass 31 rfl rfl rfl rfl rfl ?_
    refine EL_pass 31 rfl rfl rfl rfl rfl ?_
    refine EL_pass 31 rfl rfl rfl rfl rfl ?_
    refine EL_pass 31 rfl rfl rfl rfl rfl ?_
    refine EL_val (.bool false) w49 rfl (r_pickF rfl rfl) ?_
    refine EL_val (.bool false) w49 rfl (r_move rfl) ?_
    refine EL_pass 38 rfl rfl rfl rfl rfl ?_
    refine EL_pass 38 rfl rfl rfl rfl rfl ?_
    refine EL_pass 38 rfl rfl rfl rfl rfl ?_
    refine EL_pass 38 rfl rfl rfl rfl rfl ?_
    refine EL_pass 38 rfl rfl rfl rfl rfl ?_
    refine EL_val (.bool false) w49 rfl (r_pickF rfl rfl) ?_
    refine EL_val (.bool false) w49 rfl (r_move rfl) ?_
    refine EL_pass 45 rfl rfl rfl rfl rfl ?_
    refine EL_pass 45 rfl rfl rfl rfl rfl ?_
    refine EL_pass 45 rfl rfl rfl rfl rfl ?_
    refine EL_pass 45 rfl rfl rfl rfl rfl ?_
    refine EL_pass 45 rfl rfl rfl rfl rfl ?_
    refine EL_val (.bool false) w49 rfl (r_pickF rfl rfl) ?_
    refine EL_val (.bool false) w49 rfl (r_move rfl) ?_
    refine EL_pass 52 rfl rfl rfl rfl rfl ?_
    refine EL_pass 52 rfl rfl rfl rfl rfl ?_
    refine EL_pass 52 rfl rfl rfl rfl rfl ?_
    refine EL_pass 52 rfl rfl rfl rfl rfl ?_
    refine EL_pass 52 rfl rfl rfl rfl rfl ?_
    refine EL_val (.bool false) w49 rfl (r_pickF rfl rfl) ?_
    refine EL_val (.bool false) w49 rfl (r_move rfl) ?_
    refine EL_pass 59 rfl rfl rfl rfl rfl ?_
    refine EL_pass 59 rfl rfl rfl rfl rfl ?_
    refine EL_pass 59 rfl rfl rfl rfl rfl ?_
    refine EL_pass 59 rfl rfl rfl rfl rfl ?_
    refine EL_pass 59 rfl rfl rfl rfl rfl ?_
    refine EL_val (.bool false) w49 rfl (r_pickF rfl rfl) ?_
    refine EL_val (.bool false) w49 rfl (r_assign rfl) ?_
    refine EL_nil ?_
    refine thn_n ?_
    refine EC_ret ?_
    refine fin1 Try.results27 (show _ = .bool false from rfl) ⟨_, rfl, ?_⟩
    have S59 := S54.dr0
    have S60 := S59.dr0
    exact ⟨(congrArg Value.bool (decide_eq_false (fun h => hc.2.2 (by rw [h])))), S60⟩
  · refine EC_reg ?_
    refine EL_val (ptr b41 0) w49 rfl (r_fieldP (o := 0) (s := 1) rfl Try.underlying25 rfl (by kernel_rfl) (by decide) rfl) ?_
    refine EL_val (.int .i64 a.kind) w49 rfl (r_loadA rfl (S54.arr 1 rfl) (u := (.int .i64 a.kind)) rfl Try.underlying3 rfl) ?_
    refine EL_val (ptr b48 0) w49 rfl (r_fieldP (o := 0) (s := 1) rfl Try.underlying25 rfl (by kernel_rfl) (by decide) rfl) ?_
    refine EL_val (.int .i64 b.kind) w49 rfl (r_loadA rfl (S54.arr 0 rfl) (u := (.int .i64 b.kind)) rfl Try.underlying3 rfl) ?_
    refine EL_val (.bool true) w49 rfl (r_dec (show (decide (a.kind = b.kind)) = true from by rw [decide_eq_true_eq]; exact hc.1) (r_eql rfl rfl)) ?_
    refine EL_val (.bool true) w49 rfl (r_move rfl) ?_
    refine EL_gval 10 rfl rfl rfl rfl (ptr b41 1) w49 rfl (r_fieldP (o := 0) (s := 1) rfl Try.underlying25 rfl (by kernel_rfl) (by decide) rfl) ?_
    refine EL_gval 10 rfl rfl rfl rfl (.int .i64 a.writer) w49 rfl (r_loadA rfl (S54.arr 1 rfl) (u := (.int .i64 a.writer)) rfl Try.underlying3 rfl) ?_
    refine EL_gval 10 rfl rfl rfl rfl (ptr b48 1) w49 rfl (r_fieldP (o := 0) (s := 1) rfl Try.underlying25 rfl (by kernel_rfl) (by decide) rfl) ?_
    refine EL_gval 10 rfl rfl rfl rfl (.int .i64 b.writer) w49 rfl (r_loadA rfl (S54.arr 0 rfl) (u := (.int .i64 b.writer)) rfl Try.underlying3 rfl) ?_
    refine EL_gval 10 rfl rfl rfl rfl (.bool true) w49 rfl (r_dec (show (decide (a.writer = b.writer)) = true from by rw [decide_eq_true_eq]; exact hc.2.1) (r_eql rfl rfl)) ?_
    refine EL_val (.bool true) w49 rfl (r_pickT rfl rfl) ?_
    refine EL_val (.bool true) w49 rfl (r_move rfl) ?_
    refine EL_gval 17 rfl rfl rfl rfl (ptr b41 2) w49 rfl (r_fieldP (o := 0) (s := 1) rfl Try.underlying25 rfl (by kernel_rfl) (by decide) rfl) ?_
    refine EL_gval 17 rfl rfl rfl rfl (.int .i64 a.seq) w49 rfl (r_loadA rfl (S54.arr 1 rfl) (u := (.int .i64 a.seq)) rfl Try.underlying3 rfl) ?_
    refine EL_gval 17 rfl rfl rfl rfl (ptr b48 2) w49 rfl (r_fieldP (o := 0) (s := 1) rfl Try.underlying25 rfl (by kernel_rfl) (by decide) rfl) ?_
    refine EL_gval 17 rfl rfl rfl rfl (.int .i64 b.seq) w49 rfl (r_loadA rfl (S54.arr 0 rfl) (u := (.int .i64 b.seq)) rfl Try.underlying3 rfl) ?_
    refine EL_gval 17 rfl rfl rfl rfl (.bool true) w49 rfl (r_dec (show (decide (a.seq = b.seq)) = true from by rw [decide_eq_true_eq]; exact hc.2.2.1) (r_eql rfl rfl)) ?_
    refine EL_val (.bool true) w49 rfl (r_pickT rfl rfl) ?_
    refine EL_val (.bool true) w49 rfl (r_move rfl) ?_
    refine EL_gval 24 rfl rfl rfl rfl (ptr b41 3) w49 rfl (r_fieldP (o := 0) (s := 1) rfl Try.underlying25 rfl (by kernel_rfl) (by decide) rfl) ?_
    refine EL_gval 24 rfl rfl rfl rfl v14 w49 rfl (r_loadA rfl (S54.arr 1 rfl) (u := v14) rfl Try.underlying22 rfl) ?_
    refine EL_gval 24 rfl rfl rfl rfl (ptr b48 3) w49 rfl (r_fieldP (o := 0) (s := 1) rfl Try.underlying25 rfl (by kernel_rfl) (by decide) rfl) ?_
    refine EL_gval 24 rfl rfl rfl rfl v29 w49 rfl (r_loadA rfl (S54.arr 0 rfl) (u := v29) rfl Try.underlying22 rfl) ?_
    refine EL_gret 24 rfl rfl rfl rfl _ rfl Try.func64 rfl nm64 rfl (Equal_c v14 a.name v29 b.name I _ _ S54 H16 H31) ?_
    rintro _ w61 ⟨rfl, S62⟩
    refine EL_val (.bool false) w61 rfl (r_pickT rfl (Eq.trans (show _ = Value.bool (decide (a.name = b.name)) from rfl) (congrArg Value.bool (show (decide (a.name = b.name)) = false from by rw [decide_eq_false_iff_not]; exact hc.2.2.2)))) ?_
    refine EL_val (.bool false) w61 rfl (r_move rfl) ?_
    refine EL_pass 31 rfl rfl rfl rfl rfl ?_
    refine EL_pass 31 rfl rfl rfl rfl rfl ?_
    refine EL_pass 31 rfl rfl rfl rfl rfl ?_
    refine EL_pass 31 rfl rfl rfl rfl rfl ?_
    refine EL_pass 31 rfl rfl rfl rfl rfl ?_
    refine EL_val (.bool false) w61 rfl (r_pickF rfl rfl) ?_
    refine EL_val (.bool false) w61 rfl (r_move rfl) ?_
    refine EL_pass 38 rfl rfl rfl rfl rfl ?_
    refine EL_pass 38 rfl rfl rfl rfl rfl ?_
    refine EL_pass 38 rfl rfl rfl rfl rfl ?_
    refine EL_pass 38 rfl rfl rfl rfl rfl ?_
    refine EL_pass 38 rfl rfl rfl rfl rfl ?_
    refine EL_val (.bool false) w61 rfl (r_pickF rfl rfl) ?_
    refine EL_val (.bool false) w61 rfl (r_move rfl) ?_
    refine EL_pass 45 rfl rfl rfl rfl rfl ?_
    refine EL_pass 45 rfl rfl rfl rfl rfl ?_
    refine EL_pass 45 rfl rfl rfl rfl rfl ?_
    refine EL_pass 45 rfl rfl rfl rfl rfl ?_
    refine EL_pass 45 rfl rfl rfl rfl rfl ?_
    refine EL_val (.bool false) w61 rfl (r_pickF rfl rfl) ?_
    refine EL_val (.bool false) w61 rfl (r_move rfl) ?_
    refine EL_pass 52 rfl rfl rfl rfl rfl ?_
    refine EL_pass 52 rfl rfl rfl rfl rfl ?_
    refine EL_pass 52 rfl rfl rfl rfl rfl ?_
    refine EL_pass 52 rfl rfl rfl rfl rfl ?_
    refine EL_pass 52 rfl rfl rfl rfl rfl ?_
    refine EL_val (.bool false) w61 rfl (r_pickF rfl rfl) ?_
    refine EL_val (.bool false) w61 rfl (r_move rfl) ?_
    refine EL_pass 59 rfl rfl rfl rfl rfl ?_
    refine EL_pass 59 rfl rfl rfl rfl rfl ?_
    refine EL_pass 59 rfl rfl rfl rfl rfl ?_
    refine EL_pass 59 rfl rfl rfl rfl rfl ?_
    refine EL_pass 59 rfl rfl rfl rfl rfl ?_
    refine EL_val (.bool false) w61 rfl (r_pickF rfl rfl) ?_
    refine EL_val (.bool false) w61 rfl (r_assign rfl) ?_
    refine EL_nil ?_
    refine thn_n ?_
    refine EC_ret ?_
    refine fin1 Try.results27 (show _ = .bool false from rfl) ⟨_, rfl, ?_⟩
    have S63 := S62.dr0
    have S64 := S63.dr0
    exact ⟨(congrArg Value.bool (decide_eq_false (fun h => hc.2.2.2 (by rw [h])))), S64⟩
  · refine EC_reg ?_
    refine EL_val (ptr b41 0) w49 rfl (r_fieldP (o := 0) (s := 1) rfl Try.underlying25 rfl (by kernel_rfl) (by decide) rfl) ?_
    refine EL_val (.int .i64 a.kind) w49 rfl (r_loadA rfl (S54.arr 1 rfl) (u := (.int .i64 a.kind)) rfl Try.underlying3 rfl) ?_
    refine EL_val (ptr b48 0) w49 rfl (r_fieldP (o := 0) (s := 1) rfl Try.underlying25 rfl (by kernel_rfl) (by decide) rfl) ?_
    refine EL_val (.int .i64 b.kind) w49 rfl (r_loadA rfl (S54.arr 0 rfl) (u := (.int .i64 b.kind)) rfl Try.underlying3 rfl) ?_
    refine EL_val (.bool true) w49 rfl (r_dec (show (decide (a.kind = b.kind)) = true from by rw [decide_eq_true_eq]; exact hc.1) (r_eql rfl rfl)) ?_
    refine EL_val (.bool true) w49 rfl (r_move rfl) ?_
    refine EL_gval 10 rfl rfl rfl rfl (ptr b41 1) w49 rfl (r_fieldP (o := 0) (s := 1) rfl Try.underlying25 rfl (by kernel_rfl) (by decide) rfl) ?_
    refine EL_gval 10 rfl rfl rfl rfl (.int .i64 a.writer) w49 rfl (r_loadA rfl (S54.arr 1 rfl) (u := (.int .i64 a.writer)) rfl Try.underlying3 rfl) ?_
    refine EL_gval 10 rfl rfl rfl rfl (ptr b48 1) w49 rfl (r_fieldP (o := 0) (s := 1) rfl Try.underlying25 rfl (by kernel_rfl) (by decide) rfl) ?_
    refine EL_gval 10 rfl rfl rfl rfl (.int .i64 b.writer) w49 rfl (r_loadA rfl (S54.arr 0 rfl) (u := (.int .i64 b.writer)) rfl Try.underlying3 rfl) ?_
    refine EL_gval 10 rfl rfl rfl rfl (.bool true) w49 rfl (r_dec (show (decide (a.writer = b.writer)) = true from by rw [decide_eq_true_eq]; exact hc.2.1) (r_eql rfl rfl)) ?_
    refine EL_val (.bool true) w49 rfl (r_pickT rfl rfl) ?_
    refine EL_val (.bool true) w49 rfl (r_move rfl) ?_
    refine EL_gval 17 rfl rfl rfl rfl (ptr b41 2) w49 rfl (r_fieldP (o := 0) (s := 1) rfl Try.underlying25 rfl (by kernel_rfl) (by decide) rfl) ?_
    refine EL_gval 17 rfl rfl rfl rfl (.int .i64 a.seq) w49 rfl (r_loadA rfl (S54.arr 1 rfl) (u := (.int .i64 a.seq)) rfl Try.underlying3 rfl) ?_
    refine EL_gval 17 rfl rfl rfl rfl (ptr b48 2) w49 rfl (r_fieldP (o := 0) (s := 1) rfl Try.underlying25 rfl (by kernel_rfl) (by decide) rfl) ?_
    refine EL_gval 17 rfl rfl rfl rfl (.int .i64 b.seq) w49 rfl (r_loadA rfl (S54.arr 0 rfl) (u := (.int .i64 b.seq)) rfl Try.underlying3 rfl) ?_
    refine EL_gval 17 rfl rfl rfl rfl (.bool true) w49 rfl (r_dec (show (decide (a.seq = b.seq)) = true from by rw [decide_eq_true_eq]; exact hc.2.2.1) (r_eql rfl rfl)) ?_
    refine EL_val (.bool true) w49 rfl (r_pickT rfl rfl) ?_
    refine EL_val (.bool true) w49 rfl (r_move rfl) ?_
    refine EL_gval 24 rfl rfl rfl rfl (ptr b41 3) w49 rfl (r_fieldP (o := 0) (s := 1) rfl Try.underlying25 rfl (by kernel_rfl) (by decide) rfl) ?_
    refine EL_gval 24 rfl rfl rfl rfl v14 w49 rfl (r_loadA rfl (S54.arr 1 rfl) (u := v14) rfl Try.underlying22 rfl) ?_
    refine EL_gval 24 rfl rfl rfl rfl (ptr b48 3) w49 rfl (r_fieldP (o := 0) (s := 1) rfl Try.underlying25 rfl (by kernel_rfl) (by decide) rfl) ?_
    refine EL_gval 24 rfl rfl rfl rfl v29 w49 rfl (r_loadA rfl (S54.arr 0 rfl) (u := v29) rfl Try.underlying22 rfl) ?_
    refine EL_gret 24 rfl rfl rfl rfl _ rfl Try.func64 rfl nm64 rfl (Equal_c v14 a.name v29 b.name I _ _ S54 H16 H31) ?_
    rintro _ w65 ⟨rfl, S66⟩
    refine EL_val (.bool true) w65 rfl (r_pickT rfl (Eq.trans (show _ = Value.bool (decide (a.name = b.name)) from rfl) (congrArg Value.bool (show (decide (a.name = b.name)) = true from by rw [decide_eq_true_eq]; exact hc.2.2.2.1)))) ?_
    refine EL_val (.bool true) w65 rfl (r_move rfl) ?_
    refine EL_gval 31 rfl rfl rfl rfl (ptr b41 4) w65 rfl (r_fieldP (o := 0) (s := 1) rfl Try.underlying25 rfl (by kernel_rfl) (by decide) rfl) ?_
    refine EL_gval 31 rfl rfl rfl rfl v17 w65 rfl (r_loadA rfl (S66.arr 1 rfl) (u := v17) rfl Try.underlying22 rfl) ?_
    refine EL_gval 31 rfl rfl rfl rfl (ptr b48 4) w65 rfl (r_fieldP (o := 0) (s := 1) rfl Try.underlying25 rfl (by kernel_rfl) (by decide) rfl) ?_
    refine EL_gval 31 rfl rfl rfl rfl v32 w65 rfl (r_loadA rfl (S66.arr 0 rfl) (u := v32) rfl Try.underlying22 rfl) ?_
    refine EL_gret 31 rfl rfl rfl rfl _ rfl Try.func64 rfl nm64 rfl (Equal_c v17 a.value v32 b.value I _ _ S66 H19 H34) ?_
    rintro _ w67 ⟨rfl, S68⟩
    refine EL_val (.bool false) w67 rfl (r_pickT rfl (Eq.trans (show _ = Value.bool (decide (a.value = b.value)) from rfl) (congrArg Value.bool (show (decide (a.value = b.value)) = false from by rw [decide_eq_false_iff_not]; exact hc.2.2.2.2)))) ?_
    refine EL_val (.bool false) w67 rfl (r_move rfl) ?_
    refine EL_pass 38 rfl rfl rfl rfl rfl ?_
    refine EL_pass 38 rfl rfl rfl rfl rfl ?_
    refine EL_pass 38 rfl rfl rfl rfl rfl ?_
    refine EL_pass 38 rfl rfl rfl rfl rfl ?_
    refine EL_pass 38 rfl rfl rfl rfl rfl ?_
    refine EL_val (.bool false) w67 rfl (r_pickF rfl rfl) ?_
    refine EL_val (.bool false) w67 rfl (r_move rfl) ?_
    refine EL_pass 45 rfl rfl rfl rfl rfl ?_
    refine EL_pass 45 rfl rfl rfl rfl rfl ?_
    refine EL_pass 45 rfl rfl rfl rfl rfl ?_
    refine EL_pass 45 rfl rfl rfl rfl rfl ?_
    refine EL_pass 45 rfl rfl rfl rfl rfl ?_
    refine EL_val (.bool false) w67 rfl (r_pickF rfl rfl) ?_
    refine EL_val (.bool false) w67 rfl (r_move rfl) ?_
    refine EL_pass 52 rfl rfl rfl rfl rfl ?_
    refine EL_pass 52 rfl rfl rfl rfl rfl ?_
    refine EL_pass 52 rfl rfl rfl rfl rfl ?_
    refine EL_pass 52 rfl rfl rfl rfl rfl ?_
    refine EL_pass 52 rfl rfl rfl rfl rfl ?_
    refine EL_val (.bool false) w67 rfl (r_pickF rfl rfl) ?_
    refine EL_val (.bool false) w67 rfl (r_move rfl) ?_
    refine EL_pass 59 rfl rfl rfl rfl rfl ?_
    refine EL_pass 59 rfl rfl rfl rfl rfl ?_
    refine EL_pass 59 rfl rfl rfl rfl rfl ?_
    refine EL_pass 59 rfl rfl rfl rfl rfl ?_
    refine EL_pass 59 rfl rfl rfl rfl rfl ?_
    refine EL_val (.bool false) w67 rfl (r_pickF rfl rfl) ?_
    refine EL_val (.bool false) w67 rfl (r_assign rfl) ?_
    refine EL_nil ?_
    refine thn_n ?_
    refine EC_ret ?_
    refine fin1 Try.results27 (show _ = .bool false from rfl) ⟨_, rfl, ?_⟩
    have S69 := S68.dr0
    have S70 := S69.dr0
    exact ⟨(congrArg Value.bool (decide_eq_false (fun h => hc.2.2.2.2 (by rw [h])))), S70⟩
  · refine EC_reg ?_
    refine EL_val (ptr b41 0) w49 rfl (r_fieldP (o := 0) (s := 1) rfl Try.underlying25 rfl (by kernel_rfl) (by decide) rfl) ?_
    refine EL_val (.int .i64 a.kind) w49 rfl (r_loadA rfl (S54.arr 1 rfl) (u := (.int .i64 a.kind)) rfl Try.underlying3 rfl) ?_
    refine EL_val (ptr b48 0) w49 rfl (r_fieldP (o := 0) (s := 1) rfl Try.underlying25 rfl (by kernel_rfl) (by decide) rfl) ?_
    refine EL_val (.int .i64 b.kind) w49 rfl (r_loadA rfl (S54.arr 0 rfl) (u := (.int .i64 b.kind)) rfl Try.underlying3 rfl) ?_
    refine EL_val (.bool true) w49 rfl (r_dec (show (decide (a.kind = b.kind)) = true from by rw [decide_eq_true_eq]; exact hc.1) (r_eql rfl rfl)) ?_
    refine EL_val (.bool true) w49 rfl (r_move rfl) ?_
    refine EL_gval 10 rfl rfl rfl rfl (ptr b41 1) w49 rfl (r_fieldP (o := 0) (s := 1) rfl Try.underlying25 rfl (by kernel_rfl) (by decide) rfl) ?_
    refine EL_gval 10 rfl rfl rfl rfl (.int .i64 a.writer) w49 rfl (r_loadA rfl (S54.arr 1 rfl) (u := (.int .i64 a.writer)) rfl Try.underlying3 rfl) ?_
    refine EL_gval 10 rfl rfl rfl rfl (ptr b48 1) w49 rfl (r_fieldP (o := 0) (s := 1) rfl Try.underlying25 rfl (by kernel_rfl) (by decide) rfl) ?_
    refine EL_gval 10 rfl rfl rfl rfl (.int .i64 b.writer) w49 rfl (r_loadA rfl (S54.arr 0 rfl) (u := (.int .i64 b.writer)) rfl Try.underlying3 rfl) ?_
    refine EL_gval 10 rfl rfl rfl rfl (.bool true) w49 rfl (r_dec (show (decide (a.writer = b.writer)) = true from by rw [decide_eq_true_eq]; exact hc.2.1) (r_eql rfl rfl)) ?_
    refine EL_val (.bool true) w49 rfl (r_pickT rfl rfl) ?_
    refine EL_val (.bool true) w49 rfl (r_move rfl) ?_
    refine EL_gval 17 rfl rfl rfl rfl (ptr b41 2) w49 rfl (r_fieldP (o := 0) (s := 1) rfl Try.underlying25 rfl (by kernel_rfl) (by decide) rfl) ?_
    refine EL_gval 17 rfl rfl rfl rfl (.int .i64 a.seq) w49 rfl (r_loadA rfl (S54.arr 1 rfl) (u := (.int .i64 a.seq)) rfl Try.underlying3 rfl) ?_
    refine EL_gval 17 rfl rfl rfl rfl (ptr b48 2) w49 rfl (r_fieldP (o := 0) (s := 1) rfl Try.underlying25 rfl (by kernel_rfl) (by decide) rfl) ?_
    refine EL_gval 17 rfl rfl rfl rfl (.int .i64 b.seq) w49 rfl (r_loadA rfl (S54.arr 0 rfl) (u := (.int .i64 b.seq)) rfl Try.underlying3 rfl) ?_
    refine EL_gval 17 rfl rfl rfl rfl (.bool true) w49 rfl (r_dec (show (decide (a.seq = b.seq)) = true from by rw [decide_eq_true_eq]; exact hc.2.2.1) (r_eql rfl rfl)) ?_
    refine EL_val (.bool true) w49 rfl (r_pickT rfl rfl) ?_
    refine EL_val (.bool true) w49 rfl (r_move rfl) ?_
    refine EL_gval 24 rfl rfl rfl rfl (ptr b41 3) w49 rfl (r_fieldP (o := 0) (s := 1) rfl Try.underlying25 rfl (by kernel_rfl) (by decide) rfl) ?_
    refine EL_gval 24 rfl rfl rfl rfl v14 w49 rfl (r_loadA rfl (S54.arr 1 rfl) (u := v14) rfl Try.underlying22 rfl) ?_
    refine EL_gval 24 rfl rfl rfl rfl (ptr b48 3) w49 rfl (r_fieldP (o := 0) (s := 1) rfl Try.underlying25 rfl (by kernel_rfl) (by decide) rfl) ?_
    refine EL_gval 24 rfl rfl rfl rfl v29 w49 rfl (r_loadA rfl (S54.arr 0 rfl) (u := v29) rfl Try.underlying22 rfl) ?_
    refine EL_gret 24 rfl rfl rfl rfl _ rfl Try.func64 rfl nm64 rfl (Equal_c v14 a.name v29 b.name I _ _ S54 H16 H31) ?_
    rintro _ w71 ⟨rfl, S72⟩
    refine EL_val (.bool true) w71 rfl (r_pickT rfl (Eq.trans (show _ = Value.bool (decide (a.name = b.name)) from rfl) (congrArg Value.bool (show (decide (a.name = b.name)) = true from by rw [decide_eq_true_eq]; exact hc.2.2.2.1)))) ?_
    refine EL_val (.bool true) w71 rfl (r_move rfl) ?_
    refine EL_gval 31 rfl rfl rfl rfl (ptr b41 4) w71 rfl (r_fieldP (o := 0) (s := 1) rfl Try.underlying25 rfl (by kernel_rfl) (by decide) rfl) ?_
    refine EL_gval 31 rfl rfl rfl rfl v17 w71 rfl (r_loadA rfl (S72.arr 1 rfl) (u := v17) rfl Try.underlying22 rfl) ?_
    refine EL_gval 31 rfl rfl rfl rfl (ptr b48 4) w71 rfl (r_fieldP (o := 0) (s := 1) rfl Try.underlying25 rfl (by kernel_rfl) (by decide) rfl) ?_
    refine EL_gval 31 rfl rfl rfl rfl v32 w71 rfl (r_loadA rfl (S72.arr 0 rfl) (u := v32) rfl Try.underlying22 rfl) ?_
    refine EL_gret 31 rfl rfl rfl rfl _ rfl Try.func64 rfl nm64 rfl (Equal_c v17 a.value v32 b.value I _ _ S72 H19 H34) ?_
    rintro _ w73 ⟨rfl, S74⟩
    refine EL_val (.bool true) w73 rfl (r_pickT rfl (Eq.trans (show _ = Value.bool (decide (a.value = b.value)) from rfl) (congrArg Value.bool (show (decide (a.value = b.value)) = true from by rw [decide_eq_true_eq]; exact hc.2.2.2.2.1)))) ?_
    refine EL_val (.bool true) w73 rfl (r_move rfl) ?_
    refine EL_gval 38 rfl rfl rfl rfl (ptr b41 5) w73 rfl (r_fieldP (o := 0) (s := 1) rfl Try.underlying25 rfl (by kernel_rfl) (by decide) rfl) ?_
    refine EL_gval 38 rfl rfl rfl rfl (.int .i64 a.who) w73 rfl (r_loadA rfl (S74.arr 1 rfl) (u := (.int .i64 a.who)) rfl Try.underlying3 rfl) ?_
    refine EL_gval 38 rfl rfl rfl rfl (ptr b48 5) w73 rfl (r_fieldP (o := 0) (s := 1) rfl Try.underlying25 rfl (by kernel_rfl) (by decide) rfl) ?_
    refine EL_gval 38 rfl rfl rfl rfl (.int .i64 b.who) w73 rfl (r_loadA rfl (S74.arr 0 rfl) (u := (.int .i64 b.who)) rfl Try.underlying3 rfl) ?_
    refine EL_gval 38 rfl rfl rfl rfl (.bool false) w73 rfl (r_dec (show (decide (a.who = b.who)) = false from by rw [decide_eq_false_iff_not]; exact hc.2.2.2.2.2) (r_eql rfl rfl)) ?_
    refine EL_val (.bool false) w73 rfl (r_pickT rfl rfl) ?_
    refine EL_val (.bool false) w73 rfl (r_move rfl) ?_
    refine EL_pass 45 rfl rfl rfl rfl rfl ?_
    refine EL_pass 45 rfl rfl rfl rfl rfl ?_
    refine EL_pass 45 rfl rfl rfl rfl rfl ?_
    refine EL_pass 45 rfl rfl rfl rfl rfl ?_
    refine EL_pass 45 rfl rfl rfl rfl rfl ?_
    refine EL_val (.bool false) w73 rfl (r_pickF rfl rfl) ?_
    refine EL_val (.bool false) w73 rfl (r_move rfl) ?_
    refine EL_pass 52 rfl rfl rfl rfl rfl ?_
    refine EL_pass 52 rfl rfl rfl rfl rfl ?_
    refine EL_pass 52 rfl rfl rfl rfl rfl ?_
    refine EL_pass 52 rfl rfl rfl rfl rfl ?_
    refine EL_pass 52 rfl rfl rfl rfl rfl ?_
    refine EL_val (.bool false) w73 rfl (r_pickF rfl rfl) ?_
    refine EL_val (.bool false) w73 rfl (r_move rfl) ?_
    refine EL_pass 59 rfl rfl rfl rfl rfl ?_
    refine EL_pass 59 rfl rfl rfl rfl rfl ?_
    refine EL_pass 59 rfl rfl rfl rfl rfl ?_
    refine EL_pass 59 rfl rfl rfl rfl rfl ?_
    refine EL_pass 59 rfl rfl rfl rfl rfl ?_
    refine EL_val (.bool false) w73 rfl (r_pickF rfl rfl) ?_
    refine EL_val (.bool false) w73 rfl (r_assign rfl) ?_
    refine EL_nil ?_
    refine thn_n ?_
    refine EC_ret ?_
    refine fin1 Try.results27 (show _ = .bool false from rfl) ⟨_, rfl, ?_⟩
    have S75 := S74.dr0
    have S76 := S75.dr0
    exact ⟨(congrArg Value.bool (decide_eq_false (fun h => hc.2.2.2.2.2 (by rw [h])))), S76⟩
  · refine EC_reg ?_
    refine EL_val (ptr b41 0) w49 rfl (r_fieldP (o := 0) (s := 1) rfl Try.underlying25 rfl (by kernel_rfl) (by decide) rfl) ?_
    refine EL_val (.int .i64 a.kind) w49 rfl (r_loadA rfl (S54.arr 1 rfl) (u := (.int .i64 a.kind)) rfl Try.underlying3 rfl) ?_
    refine EL_val (ptr b48 0) w49 rfl (r_fieldP (o := 0) (s := 1) rfl Try.underlying25 rfl (by kernel_rfl) (by decide) rfl) ?_
    refine EL_val (.int .i64 b.kind) w49 rfl (r_loadA rfl (S54.arr 0 rfl) (u := (.int .i64 b.kind)) rfl Try.underlying3 rfl) ?_
    refine EL_val (.bool true) w49 rfl (r_dec (show (decide (a.kind = b.kind)) = true from by rw [decide_eq_true_eq]; exact hc.1) (r_eql rfl rfl)) ?_
    refine EL_val (.bool true) w49 rfl (r_move rfl) ?_
    refine EL_gval 10 rfl rfl rfl rfl (ptr b41 1) w49 rfl (r_fieldP (o := 0) (s := 1) rfl Try.underlying25 rfl (by kernel_rfl) (by decide) rfl) ?_
    refine EL_gval 10 rfl rfl rfl rfl (.int .i64 a.writer) w49 rfl (r_loadA rfl (S54.arr 1 rfl) (u := (.int .i64 a.writer)) rfl Try.underlying3 rfl) ?_
    refine EL_gval 10 rfl rfl rfl rfl (ptr b48 1) w49 rfl (r_fieldP (o := 0) (s := 1) rfl Try.underlying25 rfl (by kernel_rfl) (by decide) rfl) ?_
    refine EL_gval 10 rfl rfl rfl rfl (.int .i64 b.writer) w49 rfl (r_loadA rfl (S54.arr 0 rfl) (u := (.int .i64 b.writer)) rfl Try.underlying3 rfl) ?_
    refine EL_gval 10 rfl rfl rfl rfl (.bool true) w49 rfl (r_dec (show (decide (a.writer = b.writer)) = true from by rw [decide_eq_true_eq]; exact hc.2.1) (r_eql rfl rfl)) ?_
    refine EL_val (.bool true) w49 rfl (r_pickT rfl rfl) ?_
    refine EL_val (.bool true) w49 rfl (r_move rfl) ?_
    refine EL_gval 17 rfl rfl rfl rfl (ptr b41 2) w49 rfl (r_fieldP (o := 0) (s := 1) rfl Try.underlying25 rfl (by kernel_rfl) (by decide) rfl) ?_
    refine EL_gval 17 rfl rfl rfl rfl (.int .i64 a.seq) w49 rfl (r_loadA rfl (S54.arr 1 rfl) (u := (.int .i64 a.seq)) rfl Try.underlying3 rfl) ?_
    refine EL_gval 17 rfl rfl rfl rfl (ptr b48 2) w49 rfl (r_fieldP (o := 0) (s := 1) rfl Try.underlying25 rfl (by kernel_rfl) (by decide) rfl) ?_
    refine EL_gval 17 rfl rfl rfl rfl (.int .i64 b.seq) w49 rfl (r_loadA rfl (S54.arr 0 rfl) (u := (.int .i64 b.seq)) rfl Try.underlying3 rfl) ?_
    refine EL_gval 17 rfl rfl rfl rfl (.bool true) w49 rfl (r_dec (show (decide (a.seq = b.seq)) = true from by rw [decide_eq_true_eq]; exact hc.2.2.1) (r_eql rfl rfl)) ?_
    refine EL_val (.bool true) w49 rfl (r_pickT rfl rfl) ?_
    refine EL_val (.bool true) w49 rfl (r_move rfl) ?_
    refine EL_gval 24 rfl rfl rfl rfl (ptr b41 3) w49 rfl (r_fieldP (o := 0) (s := 1) rfl Try.underlying25 rfl (by kernel_rfl) (by decide) rfl) ?_
    refine EL_gval 24 rfl rfl rfl rfl v14 w49 rfl (r_loadA rfl (S54.arr 1 rfl) (u := v14) rfl Try.underlying22 rfl) ?_
    refine EL_gval 24 rfl rfl rfl rfl (ptr b48 3) w49 rfl (r_fieldP (o := 0) (s := 1) rfl Try.underlying25 rfl (by kernel_rfl) (by decide) rfl) ?_
    refine EL_gval 24 rfl rfl rfl rfl v29 w49 rfl (r_loadA rfl (S54.arr 0 rfl) (u := v29) rfl Try.underlying22 rfl) ?_
    refine EL_gret 24 rfl rfl rfl rfl _ rfl Try.func64 rfl nm64 rfl (Equal_c v14 a.name v29 b.name I _ _ S54 H16 H31) ?_
    rintro _ w77 ⟨rfl, S78⟩
    refine EL_val (.bool true) w77 rfl (r_pickT rfl (Eq.trans (show _ = Value.bool (decide (a.name = b.name)) from rfl) (congrArg Value.bool (show (decide (a.name = b.name)) = true from by rw [decide_eq_true_eq]; exact hc.2.2.2.1)))) ?_
    refine EL_val (.bool true) w77 rfl (r_move rfl) ?_
    refine EL_gval 31 rfl rfl rfl rfl (ptr b41 4) w77 rfl (r_fieldP (o := 0) (s := 1) rfl Try.underlying25 rfl (by kernel_rfl) (by decide) rfl) ?_
    refine EL_gval 31 rfl rfl rfl rfl v17 w77 rfl (r_loadA rfl (S78.arr 1 rfl) (u := v17) rfl Try.underlying22 rfl) ?_
    refine EL_gval 31 rfl rfl rfl rfl (ptr b48 4) w77 rfl (r_fieldP (o := 0) (s := 1) rfl Try.underlying25 rfl (by kernel_rfl) (by decide) rfl) ?_
    refine EL_gval 31 rfl rfl rfl rfl v32 w77 rfl (r_loadA rfl (S78.arr 0 rfl) (u := v32) rfl Try.underlying22 rfl) ?_
    refine EL_gret 31 rfl rfl rfl rfl _ rfl Try.func64 rfl nm64 rfl (Equal_c v17 a.value v32 b.value I _ _ S78 H19 H34) ?_
    rintro _ w79 ⟨rfl, S80⟩
    refine EL_val (.bool true) w79 rfl (r_pickT rfl (Eq.trans (show _ = Value.bool (decide (a.value = b.value)) from rfl) (congrArg Value.bool (show (decide (a.value = b.value)) = true from by rw [decide_eq_true_eq]; exact hc.2.2.2.2.1)))) ?_
    refine EL_val (.bool true) w79 rfl (r_move rfl) ?_
    refine EL_gval 38 rfl rfl rfl rfl (ptr b41 5) w79 rfl (r_fieldP (o := 0) (s := 1) rfl Try.underlying25 rfl (by kernel_rfl) (by decide) rfl) ?_
    refine EL_gval 38 rfl rfl rfl rfl (.int .i64 a.who) w79 rfl (r_loadA rfl (S80.arr 1 rfl) (u := (.int .i64 a.who)) rfl Try.underlying3 rfl) ?_
    refine EL_gval 38 rfl rfl rfl rfl (ptr b48 5) w79 rfl (r_fieldP (o := 0) (s := 1) rfl Try.underlying25 rfl (by kernel_rfl) (by decide) rfl) ?_
    refine EL_gval 38 rfl rfl rfl rfl (.int .i64 b.who) w79 rfl (r_loadA rfl (S80.arr 0 rfl) (u := (.int .i64 b.who)) rfl Try.underlying3 rfl) ?_
    refine EL_gval 38 rfl rfl rfl rfl (.bool true) w79 rfl (r_dec (show (decide (a.who = b.who)) = true from by rw [decide_eq_true_eq]; exact hc.2.2.2.2.2.1) (r_eql rfl rfl)) ?_
    refine EL_val (.bool true) w79 rfl (r_pickT rfl rfl) ?_
    refine EL_val (.bool true) w79 rfl (r_move rfl) ?_
    refine EL_gval 45 rfl rfl rfl rfl (ptr b41 6) w79 rfl (r_fieldP (o := 0) (s := 1) rfl Try.underlying25 rfl (by kernel_rfl) (by decide) rfl) ?_
    refine EL_gval 45 rfl rfl rfl rfl (.int .i64 a.rights) w79 rfl (r_loadA rfl (S80.arr 1 rfl) (u := (.int .i64 a.rights)) rfl Try.underlying3 rfl) ?_
    refine EL_gval 45 rfl rfl rfl rfl (ptr b48 6) w79 rfl (r_fieldP (o := 0) (s := 1) rfl Try.underlying25 rfl (by kernel_rfl) (by decide) rfl) ?_
    refine EL_gval 45 rfl rfl rfl rfl (.int .i64 b.rights) w79 rfl (r_loadA rfl (S80.arr 0 rfl) (u := (.int .i64 b.rights)) rfl Try.underlying3 rfl) ?_
    refine EL_gval 45 rfl rfl rfl rfl (.bool false) w79 rfl (r_dec (show (decide (a.rights = b.rights)) = false from by rw [decide_eq_false_iff_not]; exact hc.2.2.2.2.2.2) (r_eql rfl rfl)) ?_
    refine EL_val (.bool false) w79 rfl (r_pickT rfl rfl) ?_
    refine EL_val (.bool false) w79 rfl (r_move rfl) ?_
    refine EL_pass 52 rfl rfl rfl rfl rfl ?_
    refine EL_pass 52 rfl rfl rfl rfl rfl ?_
    refine EL_pass 52 rfl rfl rfl rfl rfl ?_
    refine EL_pass 52 rfl rfl rfl rfl rfl ?_
    refine EL_pass 52 rfl rfl rfl rfl rfl ?_
    refine EL_val (.bool false) w79 rfl (r_pickF rfl rfl) ?_
    refine EL_val (.bool false) w79 rfl (r_move rfl) ?_
    refine EL_pass 59 rfl rfl rfl rfl rfl ?_
    refine EL_pass 59 rfl rfl rfl rfl rfl ?_
    refine EL_pass 59 rfl rfl rfl rfl rfl ?_
    refine EL_pass 59 rfl rfl rfl rfl rfl ?_
    refine EL_pass 59 rfl rfl rfl rfl rfl ?_
    refine EL_val (.bool false) w79 rfl (r_pickF rfl rfl) ?_
    refine EL_val (.bool false) w79 rfl (r_assign rfl) ?_
    refine EL_nil ?_
    refine thn_n ?_
    refine EC_ret ?_
    refine fin1 Try.results27 (show _ = .bool false from rfl) ⟨_, rfl, ?_⟩
    have S81 := S80.dr0
    have S82 := S81.dr0
    exact ⟨(congrArg Value.bool (decide_eq_false (fun h => hc.2.2.2.2.2.2 (by rw [h])))), S82⟩
  · refine EC_reg ?_
    refine EL_val (ptr b41 0) w49 rfl (r_fieldP (o := 0) (s := 1) rfl Try.underlying25 rfl (by kernel_rfl) (by decide) rfl) ?_
    refine EL_val (.int .i64 a.kind) w49 rfl (r_loadA rfl (S54.arr 1 rfl) (u := (.int .i64 a.kind)) rfl Try.underlying3 rfl) ?_
    refine EL_val (ptr b48 0) w49 rfl (r_fieldP (o := 0) (s := 1) rfl Try.underlying25 rfl (by kernel_rfl) (by decide) rfl) ?_
    refine EL_val (.int .i64 b.kind) w49 rfl (r_loadA rfl (S54.arr 0 rfl) (u := (.int .i64 b.kind)) rfl Try.underlying3 rfl) ?_
    refine EL_val (.bool true) w49 rfl (r_dec (show (decide (a.kind = b.kind)) = true from by rw [decide_eq_true_eq]; exact hc.1) (r_eql rfl rfl)) ?_
    refine EL_val (.bool true) w49 rfl (r_move rfl) ?_
    refine EL_gval 10 rfl rfl rfl rfl (ptr b41 1) w49 rfl (r_fieldP (o := 0) (s := 1) rfl Try.underlying25 rfl (by kernel_rfl) (by decide) rfl) ?_
    refine EL_gval 10 rfl rfl rfl rfl (.int .i64 a.writer) w49 rfl (r_loadA rfl (S54.arr 1 rfl) (u := (.int .i64 a.writer)) rfl Try.underlying3 rfl) ?_
    refine EL_gval 10 rfl rfl rfl rfl (ptr b48 1) w49 rfl (r_fieldP (o := 0) (s := 1) rfl Try.underlying25 rfl (by kernel_rfl) (by decide) rfl) ?_
    refine EL_gval 10 rfl rfl rfl rfl (.int .i64 b.writer) w49 rfl (r_loadA rfl (S54.arr 0 rfl) (u := (.int .i64 b.writer)) rfl Try.underlying3 rfl) ?_
    refine EL_gval 10 rfl rfl rfl rfl (.bool true) w49 rfl (r_dec (show (decide (a.writer = b.writer)) = true from by rw [decide_eq_true_eq]; exact hc.2.1) (r_eql rfl rfl)) ?_
    refine EL_val (.bool true) w49 rfl (r_pickT rfl rfl) ?_
    refine EL_val (.bool true) w49 rfl (r_move rfl) ?_
    refine EL_gval 17 rfl rfl rfl rfl (ptr b41 2) w49 rfl (r_fieldP (o := 0) (s := 1) rfl Try.underlying25 rfl (by kernel_rfl) (by decide) rfl) ?_
    refine EL_gval 17 rfl rfl rfl rfl (.int .i64 a.seq) w49 rfl (r_loadA rfl (S54.arr 1 rfl) (u := (.int .i64 a.seq)) rfl Try.underlying3 rfl) ?_
    refine EL_gval 17 rfl rfl rfl rfl (ptr b48 2) w49 rfl (r_fieldP (o := 0) (s := 1) rfl Try.underlying25 rfl (by kernel_rfl) (by decide) rfl) ?_
    refine EL_gval 17 rfl rfl rfl rfl (.int .i64 b.seq) w49 rfl (r_loadA rfl (S54.arr 0 rfl) (u := (.int .i64 b.seq)) rfl Try.underlying3 rfl) ?_
    refine EL_gval 17 rfl rfl rfl rfl (.bool true) w49 rfl (r_dec (show (decide (a.seq = b.seq)) = true from by rw [decide_eq_true_eq]; exact hc.2.2.1) (r_eql rfl rfl)) ?_
    refine EL_val (.bool true) w49 rfl (r_pickT rfl rfl) ?_
    refine EL_val (.bool true) w49 rfl (r_move rfl) ?_
    refine EL_gval 24 rfl rfl rfl rfl (ptr b41 3) w49 rfl (r_fieldP (o := 0) (s := 1) rfl Try.underlying25 rfl (by kernel_rfl) (by decide) rfl) ?_
    refine EL_gval 24 rfl rfl rfl rfl v14 w49 rfl (r_loadA rfl (S54.arr 1 rfl) (u := v14) rfl Try.underlying22 rfl) ?_
    refine EL_gval 24 rfl rfl rfl rfl (ptr b48 3) w49 rfl (r_fieldP (o := 0) (s := 1) rfl Try.underlying25 rfl (by kernel_rfl) (by decide) rfl) ?_
    refine EL_gval 24 rfl rfl rfl rfl v29 w49 rfl (r_loadA rfl (S54.arr 0 rfl) (u := v29) rfl Try.underlying22 rfl) ?_
    refine EL_gret 24 rfl rfl rfl rfl _ rfl Try.func64 rfl nm64 rfl (Equal_c v14 a.name v29 b.name I _ _ S54 H16 H31) ?_
    rintro _ w83 ⟨rfl, S84⟩
    refine EL_val (.bool true) w83 rfl (r_pickT rfl (Eq.trans (show _ = Value.bool (decide (a.name = b.name)) from rfl) (congrArg Value.bool (show (decide (a.name = b.name)) = true from by rw [decide_eq_true_eq]; exact hc.2.2.2.1)))) ?_
    refine EL_val (.bool true) w83 rfl (r_move rfl) ?_
    refine EL_gval 31 rfl rfl rfl rfl (ptr b41 4) w83 rfl (r_fieldP (o := 0) (s := 1) rfl Try.underlying25 rfl (by kernel_rfl) (by decide) rfl) ?_
    refine EL_gval 31 rfl rfl rfl rfl v17 w83 rfl (r_loadA rfl (S84.arr 1 rfl) (u := v17) rfl Try.underlying22 rfl) ?_
    refine EL_gval 31 rfl rfl rfl rfl (ptr b48 4) w83 rfl (r_fieldP (o := 0) (s := 1) rfl Try.underlying25 rfl (by kernel_rfl) (by decide) rfl) ?_
    refine EL_gval 31 rfl rfl rfl rfl v32 w83 rfl (r_loadA rfl (S84.arr 0 rfl) (u := v32) rfl Try.underlying22 rfl) ?_
    refine EL_gret 31 rfl rfl rfl rfl _ rfl Try.func64 rfl nm64 rfl (Equal_c v17 a.value v32 b.value I _ _ S84 H19 H34) ?_
    rintro _ w85 ⟨rfl, S86⟩
    refine EL_val (.bool true) w85 rfl (r_pickT rfl (Eq.trans (show _ = Value.bool (decide (a.value = b.value)) from rfl) (congrArg Value.bool (show (decide (a.value = b.value)) = true from by rw [decide_eq_true_eq]; exact hc.2.2.2.2.1)))) ?_
    refine EL_val (.bool true) w85 rfl (r_move rfl) ?_
    refine EL_gval 38 rfl rfl rfl rfl (ptr b41 5) w85 rfl (r_fieldP (o := 0) (s := 1) rfl Try.underlying25 rfl (by kernel_rfl) (by decide) rfl) ?_
    refine EL_gval 38 rfl rfl rfl rfl (.int .i64 a.who) w85 rfl (r_loadA rfl (S86.arr 1 rfl) (u := (.int .i64 a.who)) rfl Try.underlying3 rfl) ?_
    refine EL_gval 38 rfl rfl rfl rfl (ptr b48 5) w85 rfl (r_fieldP (o := 0) (s := 1) rfl Try.underlying25 rfl (by kernel_rfl) (by decide) rfl) ?_
    refine EL_gval 38 rfl rfl rfl rfl (.int .i64 b.who) w85 rfl (r_loadA rfl (S86.arr 0 rfl) (u := (.int .i64 b.who)) rfl Try.underlying3 rfl) ?_
    refine EL_gval 38 rfl rfl rfl rfl (.bool true) w85 rfl (r_dec (show (decide (a.who = b.who)) = true from by rw [decide_eq_true_eq]; exact hc.2.2.2.2.2.1) (r_eql rfl rfl)) ?_
    refine EL_val (.bool true) w85 rfl (r_pickT rfl rfl) ?_
    refine EL_val (.bool true) w85 rfl (r_move rfl) ?_
    refine EL_gval 45 rfl rfl rfl rfl (ptr b41 6) w85 rfl (r_fieldP (o := 0) (s := 1) rfl Try.underlying25 rfl (by kernel_rfl) (by decide) rfl) ?_
    refine EL_gval 45 rfl rfl rfl rfl (.int .i64 a.rights) w85 rfl (r_loadA rfl (S86.arr 1 rfl) (u := (.int .i64 a.rights)) rfl Try.underlying3 rfl) ?_
    refine EL_gval 45 rfl rfl rfl rfl (ptr b48 6) w85 rfl (r_fieldP (o := 0) (s := 1) rfl Try.underlying25 rfl (by kernel_rfl) (by decide) rfl) ?_
    refine EL_gval 45 rfl rfl rfl rfl (.int .i64 b.rights) w85 rfl (r_loadA rfl (S86.arr 0 rfl) (u := (.int .i64 b.rights)) rfl Try.underlying3 rfl) ?_
    refine EL_gval 45 rfl rfl rfl rfl (.bool true) w85 rfl (r_dec (show (decide (a.rights = b.rights)) = true from by rw [decide_eq_true_eq]; exact hc.2.2.2.2.2.2.1) (r_eql rfl rfl)) ?_
    refine EL_val (.bool true) w85 rfl (r_pickT rfl rfl) ?_
    refine EL_val (.bool true) w85 rfl (r_move rfl) ?_
    refine EL_gval 52 rfl rfl rfl rfl (ptr b41 7) w85 rfl (r_fieldP (o := 0) (s := 1) rfl Try.underlying25 rfl (by kernel_rfl) (by decide) rfl) ?_
    refine EL_gval 52 rfl rfl rfl rfl (.int .i64 a.epoch) w85 rfl (r_loadA rfl (S86.arr 1 rfl) (u := (.int .i64 a.epoch)) rfl Try.underlying3 rfl) ?_
    refine EL_gval 52 rfl rfl rfl rfl (ptr b48 7) w85 rfl (r_fieldP (o := 0) (s := 1) rfl Try.underlying25 rfl (by kernel_rfl) (by decide) rfl) ?_
    refine EL_gval 52 rfl rfl rfl rfl (.int .i64 b.epoch) w85 rfl (r_loadA rfl (S86.arr 0 rfl) (u := (.int .i64 b.epoch)) rfl Try.underlying3 rfl) ?_
    refine EL_gval 52 rfl rfl rfl rfl (.bool false) w85 rfl (r_dec (show (decide (a.epoch = b.epoch)) = false from by rw [decide_eq_false_iff_not]; exact hc.2.2.2.2.2.2.2) (r_eql rfl rfl)) ?_
    refine EL_val (.bool false) w85 rfl (r_pickT rfl rfl) ?_
    refine EL_val (.bool false) w85 rfl (r_move rfl) ?_
    refine EL_pass 59 rfl rfl rfl rfl rfl ?_
    refine EL_pass 59 rfl rfl rfl rfl rfl ?_
    refine EL_pass 59 rfl rfl rfl rfl rfl ?_
    refine EL_pass 59 rfl rfl rfl rfl rfl ?_
    refine EL_pass 59 rfl rfl rfl rfl rfl ?_
    refine EL_val (.bool false) w85 rfl (r_pickF rfl rfl) ?_
    refine EL_val (.bool false) w85 rfl (r_assign rfl) ?_
    refine EL_nil ?_
    refine thn_n ?_
    refine EC_ret ?_
    refine fin1 Try.results27 (show _ = .bool false from rfl) ⟨_, rfl, ?_⟩
    have S87 := S86.dr0
    have S88 := S87.dr0
    exact ⟨(congrArg Value.bool (decide_eq_false (fun h => hc.2.2.2.2.2.2.2 (by rw [h])))), S88⟩
  · refine EC_reg ?_
    refine EL_val (ptr b41 0) w49 rfl (r_fieldP (o := 0) (s := 1) rfl Try.underlying25 rfl (by kernel_rfl) (by decide) rfl) ?_
    refine EL_val (.int .i64 a.kind) w49 rfl (r_loadA rfl (S54.arr 1 rfl) (u := (.int .i64 a.kind)) rfl Try.underlying3 rfl) ?_
    refine EL_val (ptr b48 0) w49 rfl (r_fieldP (o := 0) (s := 1) rfl Try.underlying25 rfl (by kernel_rfl) (by decide) rfl) ?_
    refine EL_val (.int .i64 b.kind) w49 rfl (r_loadA rfl (S54.arr 0 rfl) (u := (.int .i64 b.kind)) rfl Try.underlying3 rfl) ?_
    refine EL_val (.bool true) w49 rfl (r_dec (show (decide (a.kind = b.kind)) = true from by rw [decide_eq_true_eq]; exact hc.1) (r_eql rfl rfl)) ?_
    refine EL_val (.bool true) w49 rfl (r_move rfl) ?_
    refine EL_gval 10 rfl rfl rfl rfl (ptr b41 1) w49 rfl (r_fieldP (o := 0) (s := 1) rfl Try.underlying25 rfl (by kernel_rfl) (by decide) rfl) ?_
    refine EL_gval 10 rfl rfl rfl rfl (.int .i64 a.writer) w49 rfl (r_loadA rfl (S54.arr 1 rfl) (u := (.int .i64 a.writer)) rfl Try.underlying3 rfl) ?_
    refine EL_gval 10 rfl rfl rfl rfl (ptr b48 1) w49 rfl (r_fieldP (o := 0) (s := 1) rfl Try.underlying25 rfl (by kernel_rfl) (by decide) rfl) ?_
    refine EL_gval 10 rfl rfl rfl rfl (.int .i64 b.writer) w49 rfl (r_loadA rfl (S54.arr 0 rfl) (u := (.int .i64 b.writer)) rfl Try.underlying3 rfl) ?_
    refine EL_gval 10 rfl rfl rfl rfl (.bool true) w49 rfl (r_dec (show (decide (a.writer = b.writer)) = true from by rw [decide_eq_true_eq]; exact hc.2.1) (r_eql rfl rfl)) ?_
    refine EL_val (.bool true) w49 rfl (r_pickT rfl rfl) ?_
    refine EL_val (.bool true) w49 rfl (r_move rfl) ?_
    refine EL_gval 17 rfl rfl rfl rfl (ptr b41 2) w49 rfl (r_fieldP (o := 0) (s := 1) rfl Try.underlying25 rfl (by kernel_rfl) (by decide) rfl) ?_
    refine EL_gval 17 rfl rfl rfl rfl (.int .i64 a.seq) w49 rfl (r_loadA rfl (S54.arr 1 rfl) (u := (.int .i64 a.seq)) rfl Try.underlying3 rfl) ?_
    refine EL_gval 17 rfl rfl rfl rfl (ptr b48 2) w49 rfl (r_fieldP (o := 0) (s := 1) rfl Try.underlying25 rfl (by kernel_rfl) (by decide) rfl) ?_
    refine EL_gval 17 rfl rfl rfl rfl (.int .i64 b.seq) w49 rfl (r_loadA rfl (S54.arr 0 rfl) (u := (.int .i64 b.seq)) rfl Try.underlying3 rfl) ?_
    refine EL_gval 17 rfl rfl rfl rfl (.bool true) w49 rfl (r_dec (show (decide (a.seq = b.seq)) = true from by rw [decide_eq_true_eq]; exact hc.2.2.1) (r_eql rfl rfl)) ?_
    refine EL_val (.bool true) w49 rfl (r_pickT rfl rfl) ?_
    refine EL_val (.bool true) w49 rfl (r_move rfl) ?_
    refine EL_gval 24 rfl rfl rfl rfl (ptr b41 3) w49 rfl (r_fieldP (o := 0) (s := 1) rfl Try.underlying25 rfl (by kernel_rfl) (by decide) rfl) ?_
    refine EL_gval 24 rfl rfl rfl rfl v14 w49 rfl (r_loadA rfl (S54.arr 1 rfl) (u := v14) rfl Try.underlying22 rfl) ?_
    refine EL_gval 24 rfl rfl rfl rfl (ptr b48 3) w49 rfl (r_fieldP (o := 0) (s := 1) rfl Try.underlying25 rfl (by kernel_rfl) (by decide) rfl) ?_
    refine EL_gval 24 rfl rfl rfl rfl v29 w49 rfl (r_loadA rfl (S54.arr 0 rfl) (u := v29) rfl Try.underlying22 rfl) ?_
    refine EL_gret 24 rfl rfl rfl rfl _ rfl Try.func64 rfl nm64 rfl (Equal_c v14 a.name v29 b.name I _ _ S54 H16 H31) ?_
    rintro _ w89 ⟨rfl, S90⟩
    refine EL_val (.bool true) w89 rfl (r_pickT rfl (Eq.trans (show _ = Value.bool (decide (a.name = b.name)) from rfl) (congrArg Value.bool (show (decide (a.name = b.name)) = true from by rw [decide_eq_true_eq]; exact hc.2.2.2.1)))) ?_
    refine EL_val (.bool true) w89 rfl (r_move rfl) ?_
    refine EL_gval 31 rfl rfl rfl rfl (ptr b41 4) w89 rfl (r_fieldP (o := 0) (s := 1) rfl Try.underlying25 rfl (by kernel_rfl) (by decide) rfl) ?_
    refine EL_gval 31 rfl rfl rfl rfl v17 w89 rfl (r_loadA rfl (S90.arr 1 rfl) (u := v17) rfl Try.underlying22 rfl) ?_
    refine EL_gval 31 rfl rfl rfl rfl (ptr b48 4) w89 rfl (r_fieldP (o := 0) (s := 1) rfl Try.underlying25 rfl (by kernel_rfl) (by decide) rfl) ?_
    refine EL_gval 31 rfl rfl rfl rfl v32 w89 rfl (r_loadA rfl (S90.arr 0 rfl) (u := v32) rfl Try.underlying22 rfl) ?_
    refine EL_gret 31 rfl rfl rfl rfl _ rfl Try.func64 rfl nm64 rfl (Equal_c v17 a.value v32 b.value I _ _ S90 H19 H34) ?_
    rintro _ w91 ⟨rfl, S92⟩
    refine EL_val (.bool true) w91 rfl (r_pickT rfl (Eq.trans (show _ = Value.bool (decide (a.value = b.value)) from rfl) (congrArg Value.bool (show (decide (a.value = b.value)) = true from by rw [decide_eq_true_eq]; exact hc.2.2.2.2.1)))) ?_
    refine EL_val (.bool true) w91 rfl (r_move rfl) ?_
    refine EL_gval 38 rfl rfl rfl rfl (ptr b41 5) w91 rfl (r_fieldP (o := 0) (s := 1) rfl Try.underlying25 rfl (by kernel_rfl) (by decide) rfl) ?_
    refine EL_gval 38 rfl rfl rfl rfl (.int .i64 a.who) w91 rfl (r_loadA rfl (S92.arr 1 rfl) (u := (.int .i64 a.who)) rfl Try.underlying3 rfl) ?_
    refine EL_gval 38 rfl rfl rfl rfl (ptr b48 5) w91 rfl (r_fieldP (o := 0) (s := 1) rfl Try.underlying25 rfl (by kernel_rfl) (by decide) rfl) ?_
    refine EL_gval 38 rfl rfl rfl rfl (.int .i64 b.who) w91 rfl (r_loadA rfl (S92.arr 0 rfl) (u := (.int .i64 b.who)) rfl Try.underlying3 rfl) ?_
    refine EL_gval 38 rfl rfl rfl rfl (.bool true) w91 rfl (r_dec (show (decide (a.who = b.who)) = true from by rw [decide_eq_true_eq]; exact hc.2.2.2.2.2.1) (r_eql rfl rfl)) ?_
    refine EL_val (.bool true) w91 rfl (r_pickT rfl rfl) ?_
    refine EL_val (.bool true) w91 rfl (r_move rfl) ?_
    refine EL_gval 45 rfl rfl rfl rfl (ptr b41 6) w91 rfl (r_fieldP (o := 0) (s := 1) rfl Try.underlying25 rfl (by kernel_rfl) (by decide) rfl) ?_
    refine EL_gval 45 rfl rfl rfl rfl (.int .i64 a.rights) w91 rfl (r_loadA rfl (S92.arr 1 rfl) (u := (.int .i64 a.rights)) rfl Try.underlying3 rfl) ?_
    refine EL_gval 45 rfl rfl rfl rfl (ptr b48 6) w91 rfl (r_fieldP (o := 0) (s := 1) rfl Try.underlying25 rfl (by kernel_rfl) (by decide) rfl) ?_
    refine EL_gval 45 rfl rfl rfl rfl (.int .i64 b.rights) w91 rfl (r_loadA rfl (S92.arr 0 rfl) (u := (.int .i64 b.rights)) rfl Try.underlying3 rfl) ?_
    refine EL_gval 45 rfl rfl rfl rfl (.bool true) w91 rfl (r_dec (show (decide (a.rights = b.rights)) = true from by rw [decide_eq_true_eq]; exact hc.2.2.2.2.2.2.1) (r_eql rfl rfl)) ?_
    refine EL_val (.bool true) w91 rfl (r_pickT rfl rfl) ?_
    refine EL_val (.bool true) w91 rfl (r_move rfl) ?_
    refine EL_gval 52 rfl rfl rfl rfl (ptr b41 7) w91 rfl (r_fieldP (o := 0) (s := 1) rfl Try.underlying25 rfl (by kernel_rfl) (by decide) rfl) ?_
    refine EL_gval 52 rfl rfl rfl rfl (.int .i64 a.epoch) w91 rfl (r_loadA rfl (S92.arr 1 rfl) (u := (.int .i64 a.epoch)) rfl Try.underlying3 rfl) ?_
    refine EL_gval 52 rfl rfl rfl rfl (ptr b48 7) w91 rfl (r_fieldP (o := 0) (s := 1) rfl Try.underlying25 rfl (by kernel_rfl) (by decide) rfl) ?_
    refine EL_gval 52 rfl rfl rfl rfl (.int .i64 b.epoch) w91 rfl (r_loadA rfl (S92.arr 0 rfl) (u := (.int .i64 b.epoch)) rfl Try.underlying3 rfl) ?_
    refine EL_gval 52 rfl rfl rfl rfl (.bool true) w91 rfl (r_dec (show (decide (a.epoch = b.epoch)) = true from by rw [decide_eq_true_eq]; exact hc.2.2.2.2.2.2.2.1) (r_eql rfl rfl)) ?_
    refine EL_val (.bool true) w91 rfl (r_pickT rfl rfl) ?_
    refine EL_val (.bool true) w91 rfl (r_move rfl) ?_
    refine EL_gval 59 rfl rfl rfl rfl (ptr b41 8) w91 rfl (r_fieldP (o := 0) (s := 1) rfl Try.underlying25 rfl (by kernel_rfl) (by decide) rfl) ?_
    refine EL_gval 59 rfl rfl rfl rfl v23 w91 rfl (r_loadA rfl (S92.arr 1 rfl) (u := v23) rfl Try.underlying23 rfl) ?_
    refine EL_gval 59 rfl rfl rfl rfl (ptr b48 8) w91 rfl (r_fieldP (o := 0) (s := 1) rfl Try.underlying25 rfl (by kernel_rfl) (by decide) rfl) ?_
    refine EL_gval 59 rfl rfl rfl rfl v38 w91 rfl (r_loadA rfl (S92.arr 0 rfl) (u := v38) rfl Try.underlying23 rfl) ?_
    refine EL_gret 59 rfl rfl rfl rfl _ rfl Try.func65 rfl nm65 rfl (EqualF_c v23 a.wraps v38 b.wraps I _ _ S92 H25 H40) ?_
    rintro _ w93 ⟨rfl, S94⟩
    refine EL_val (.bool false) w93 rfl (r_pickT rfl (Eq.trans (show _ = Value.bool (decide (a.wraps = b.wraps)) from rfl) (congrArg Value.bool (show (decide (a.wraps = b.wraps)) = false from by rw [decide_eq_false_iff_not]; exact hc.2.2.2.2.2.2.2.2)))) ?_
    refine EL_val (.bool false) w93 rfl (r_assign rfl) ?_
    refine EL_nil ?_
    refine thn_n ?_
    refine EC_ret ?_
    refine fin1 Try.results27 (show _ = .bool false from rfl) ⟨_, rfl, ?_⟩
    have S95 := S94.dr0
    have S96 := S95.dr0
    exact ⟨(congrArg Value.bool (decide_eq_false (fun h => hc.2.2.2.2.2.2.2.2 (by rw [h])))), S96⟩
  · refine EC_reg ?_
    refine EL_val (ptr b41 0) w49 rfl (r_fieldP (o := 0) (s := 1) rfl Try.underlying25 rfl (by kernel_rfl) (by decide) rfl) ?_
    refine EL_val (.int .i64 a.kind) w49 rfl (r_loadA rfl (S54.arr 1 rfl) (u := (.int .i64 a.kind)) rfl Try.underlying3 rfl) ?_
    refine EL_val (ptr b48 0) w49 rfl (r_fieldP (o := 0) (s := 1) rfl Try.underlying25 rfl (by kernel_rfl) (by decide) rfl) ?_
    refine EL_val (.int .i64 b.kind) w49 rfl (r_loadA rfl (S54.arr 0 rfl) (u := (.int .i64 b.kind)) rfl Try.underlying3 rfl) ?_
    refine EL_val (.bool true) w49 rfl (r_dec (show (decide (a.kind = b.kind)) = true from by rw [decide_eq_true_eq]; exact hc.1) (r_eql rfl rfl)) ?_
    refine EL_val (.bool true) w49 rfl (r_move rfl) ?_
    refine EL_gval 10 rfl rfl rfl rfl (ptr b41 1) w49 rfl (r_fieldP (o := 0) (s := 1) rfl Try.underlying25 rfl (by kernel_rfl) (by decide) rfl) ?_
    refine EL_gval 10 rfl rfl rfl rfl (.int .i64 a.writer) w49 rfl (r_loadA rfl (S54.arr 1 rfl) (u := (.int .i64 a.writer)) rfl Try.underlying3 rfl) ?_
    refine EL_gval 10 rfl rfl rfl rfl (ptr b48 1) w49 rfl (r_fieldP (o := 0) (s := 1) rfl Try.underlying25 rfl (by kernel_rfl) (by decide) rfl) ?_
    refine EL_gval 10 rfl rfl rfl rfl (.int .i64 b.writer) w49 rfl (r_loadA rfl (S54.arr 0 rfl) (u := (.int .i64 b.writer)) rfl Try.underlying3 rfl) ?_
    refine EL_gval 10 rfl rfl rfl rfl (.bool true) w49 rfl (r_dec (show (decide (a.writer = b.writer)) = true from by rw [decide_eq_true_eq]; exact hc.2.1) (r_eql rfl rfl)) ?_
    refine EL_val (.bool true) w49 rfl (r_pickT rfl rfl) ?_
    refine EL_val (.bool true) w49 rfl (r_move rfl) ?_
    refine EL_gval 17 rfl rfl rfl rfl (ptr b41 2) w49 rfl (r_fieldP (o := 0) (s := 1) rfl Try.underlying25 rfl (by kernel_rfl) (by decide) rfl) ?_
    refine EL_gval 17 rfl rfl rfl rfl (.int .i64 a.seq) w49 rfl (r_loadA rfl (S54.arr 1 rfl) (u := (.int .i64 a.seq)) rfl Try.underlying3 rfl) ?_
    refine EL_gval 17 rfl rfl rfl rfl (ptr b48 2) w49 rfl (r_fieldP (o := 0) (s := 1) rfl Try.underlying25 rfl (by kernel_rfl) (by decide) rfl) ?_
    refine EL_gval 17 rfl rfl rfl rfl (.int .i64 b.seq) w49 rfl (r_loadA rfl (S54.arr 0 rfl) (u := (.int .i64 b.seq)) rfl Try.underlying3 rfl) ?_
    refine EL_gval 17 rfl rfl rfl rfl (.bool true) w49 rfl (r_dec (show (decide (a.seq = b.seq)) = true from by rw [decide_eq_true_eq]; exact hc.2.2.1) (r_eql rfl rfl)) ?_
    refine EL_val (.bool true) w49 rfl (r_pickT rfl rfl) ?_
    refine EL_val (.bool true) w49 rfl (r_move rfl) ?_
    refine EL_gval 24 rfl rfl rfl rfl (ptr b41 3) w49 rfl (r_fieldP (o := 0) (s := 1) rfl Try.underlying25 rfl (by kernel_rfl) (by decide) rfl) ?_
    refine EL_gval 24 rfl rfl rfl rfl v14 w49 rfl (r_loadA rfl (S54.arr 1 rfl) (u := v14) rfl Try.underlying22 rfl) ?_
    refine EL_gval 24 rfl rfl rfl rfl (ptr b48 3) w49 rfl (r_fieldP (o := 0) (s := 1) rfl Try.underlying25 rfl (by kernel_rfl) (by decide) rfl) ?_
    refine EL_gval 24 rfl rfl rfl rfl v29 w49 rfl (r_loadA rfl (S54.arr 0 rfl) (u := v29) rfl Try.underlying22 rfl) ?_
    refine EL_gret 24 rfl rfl rfl rfl _ rfl Try.func64 rfl nm64 rfl (Equal_c v14 a.name v29 b.name I _ _ S54 H16 H31) ?_
    rintro _ w97 ⟨rfl, S98⟩
    refine EL_val (.bool true) w97 rfl (r_pickT rfl (Eq.trans (show _ = Value.bool (decide (a.name = b.name)) from rfl) (congrArg Value.bool (show (decide (a.name = b.name)) = true from by rw [decide_eq_true_eq]; exact hc.2.2.2.1)))) ?_
    refine EL_val (.bool true) w97 rfl (r_move rfl) ?_
    refine EL_gval 31 rfl rfl rfl rfl (ptr b41 4) w97 rfl (r_fieldP (o := 0) (s := 1) rfl Try.underlying25 rfl (by kernel_rfl) (by decide) rfl) ?_
    refine EL_gval 31 rfl rfl rfl rfl v17 w97 rfl (r_loadA rfl (S98.arr 1 rfl) (u := v17) rfl Try.underlying22 rfl) ?_
    refine EL_gval 31 rfl rfl rfl rfl (ptr b48 4) w97 rfl (r_fieldP (o := 0) (s := 1) rfl Try.underlying25 rfl (by kernel_rfl) (by decide) rfl) ?_
    refine EL_gval 31 rfl rfl rfl rfl v32 w97 rfl (r_loadA rfl (S98.arr 0 rfl) (u := v32) rfl Try.underlying22 rfl) ?_
    refine EL_gret 31 rfl rfl rfl rfl _ rfl Try.func64 rfl nm64 rfl (Equal_c v17 a.value v32 b.value I _ _ S98 H19 H34) ?_
    rintro _ w99 ⟨rfl, S100⟩
    refine EL_val (.bool true) w99 rfl (r_pickT rfl (Eq.trans (show _ = Value.bool (decide (a.value = b.value)) from rfl) (congrArg Value.bool (show (decide (a.value = b.value)) = true from by rw [decide_eq_true_eq]; exact hc.2.2.2.2.1)))) ?_
    refine EL_val (.bool true) w99 rfl (r_move rfl) ?_
    refine EL_gval 38 rfl rfl rfl rfl (ptr b41 5) w99 rfl (r_fieldP (o := 0) (s := 1) rfl Try.underlying25 rfl (by kernel_rfl) (by decide) rfl) ?_
    refine EL_gval 38 rfl rfl rfl rfl (.int .i64 a.who) w99 rfl (r_loadA rfl (S100.arr 1 rfl) (u := (.int .i64 a.who)) rfl Try.underlying3 rfl) ?_
    refine EL_gval 38 rfl rfl rfl rfl (ptr b48 5) w99 rfl (r_fieldP (o := 0) (s := 1) rfl Try.underlying25 rfl (by kernel_rfl) (by decide) rfl) ?_
    refine EL_gval 38 rfl rfl rfl rfl (.int .i64 b.who) w99 rfl (r_loadA rfl (S100.arr 0 rfl) (u := (.int .i64 b.who)) rfl Try.underlying3 rfl) ?_
    refine EL_gval 38 rfl rfl rfl rfl (.bool true) w99 rfl (r_dec (show (decide (a.who = b.who)) = true from by rw [decide_eq_true_eq]; exact hc.2.2.2.2.2.1) (r_eql rfl rfl)) ?_
    refine EL_val (.bool true) w99 rfl (r_pickT rfl rfl) ?_
    refine EL_val (.bool true) w99 rfl (r_move rfl) ?_
    refine EL_gval 45 rfl rfl rfl rfl (ptr b41 6) w99 rfl (r_fieldP (o := 0) (s := 1) rfl Try.underlying25 rfl (by kernel_rfl) (by decide) rfl) ?_
    refine EL_gval 45 rfl rfl rfl rfl (.int .i64 a.rights) w99 rfl (r_loadA rfl (S100.arr 1 rfl) (u := (.int .i64 a.rights)) rfl Try.underlying3 rfl) ?_
    refine EL_gval 45 rfl rfl rfl rfl (ptr b48 6) w99 rfl (r_fieldP (o := 0) (s := 1) rfl Try.underlying25 rfl (by kernel_rfl) (by decide) rfl) ?_
    refine EL_gval 45 rfl rfl rfl rfl (.int .i64 b.rights) w99 rfl (r_loadA rfl (S100.arr 0 rfl) (u := (.int .i64 b.rights)) rfl Try.underlying3 rfl) ?_
    refine EL_gval 45 rfl rfl rfl rfl (.bool true) w99 rfl (r_dec (show (decide (a.rights = b.rights)) = true from by rw [decide_eq_true_eq]; exact hc.2.2.2.2.2.2.1) (r_eql rfl rfl)) ?_
    refine EL_val (.bool true) w99 rfl (r_pickT rfl rfl) ?_
    refine EL_val (.bool true) w99 rfl (r_move rfl) ?_
    refine EL_gval 52 rfl rfl rfl rfl (ptr b41 7) w99 rfl (r_fieldP (o := 0) (s := 1) rfl Try.underlying25 rfl (by kernel_rfl) (by decide) rfl) ?_
    refine EL_gval 52 rfl rfl rfl rfl (.int .i64 a.epoch) w99 rfl (r_loadA rfl (S100.arr 1 rfl) (u := (.int .i64 a.epoch)) rfl Try.underlying3 rfl) ?_
    refine EL_gval 52 rfl rfl rfl rfl (ptr b48 7) w99 rfl (r_fieldP (o := 0) (s := 1) rfl Try.underlying25 rfl (by kernel_rfl) (by decide) rfl) ?_
    refine EL_gval 52 rfl rfl rfl rfl (.int .i64 b.epoch) w99 rfl (r_loadA rfl (S100.arr 0 rfl) (u := (.int .i64 b.epoch)) rfl Try.underlying3 rfl) ?_
    refine EL_gval 52 rfl rfl rfl rfl (.bool true) w99 rfl (r_dec (show (decide (a.epoch = b.epoch)) = true from by rw [decide_eq_true_eq]; exact hc.2.2.2.2.2.2.2.1) (r_eql rfl rfl)) ?_
    refine EL_val (.bool true) w99 rfl (r_pickT rfl rfl) ?_
    refine EL_val (.bool true) w99 rfl (r_move rfl) ?_
    refine EL_gval 59 rfl rfl rfl rfl (ptr b41 8) w99 rfl (r_fieldP (o := 0) (s := 1) rfl Try.underlying25 rfl (by kernel_rfl) (by decide) rfl) ?_
    refine EL_gval 59 rfl rfl rfl rfl v23 w99 rfl (r_loadA rfl (S100.arr 1 rfl) (u := v23) rfl Try.underlying23 rfl) ?_
    refine EL_gval 59 rfl rfl rfl rfl (ptr b48 8) w99 rfl (r_fieldP (o := 0) (s := 1) rfl Try.underlying25 rfl (by kernel_rfl) (by decide) rfl) ?_
    refine EL_gval 59 rfl rfl rfl rfl v38 w99 rfl (r_loadA rfl (S100.arr 0 rfl) (u := v38) rfl Try.underlying23 rfl) ?_
    refine EL_gret 59 rfl rfl rfl rfl _ rfl Try.func65 rfl nm65 rfl (EqualF_c v23 a.wraps v38 b.wraps I _ _ S100 H25 H40) ?_
    rintro _ w101 ⟨rfl, S102⟩
    refine EL_val (.bool true) w101 rfl (r_pickT rfl (Eq.trans (show _ = Value.bool (decide (a.wraps = b.wraps)) from rfl) (congrArg Value.bool (show (decide (a.wraps = b.wraps)) = true from by rw [decide_eq_true_eq]; exact hc.2.2.2.2.2.2.2.2)))) ?_
    refine EL_val (.bool true) w101 rfl (r_assign rfl) ?_
    refine EL_nil ?_
    refine thn_n ?_
    refine EC_ret ?_
    refine fin1 Try.results27 (show _ = .bool true from rfl) ⟨_, rfl, ?_⟩
    have S103 := S102.dr0
    have S104 := S103.dr0
    exact ⟨(congrArg Value.bool (decide_eq_true (entry_eq.2 hc))), S104⟩

end Go.Proofs.Ytoajodjcmeijgaa
