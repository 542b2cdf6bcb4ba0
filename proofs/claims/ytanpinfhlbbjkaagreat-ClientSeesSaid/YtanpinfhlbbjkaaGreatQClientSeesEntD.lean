import Derived.Test.YtanpinfhlbbjkaaGreatQClientSeesEntC
set_option linter.unusedVariables false
set_option linter.unusedSimpArgs false
set_option maxRecDepth 100000
set_option maxHeartbeats 4000000
namespace Go.Proofs.YtanpinfhlbbjkaaGreat
open Go.RowKit Go.Ecal

theorem Same_c (ca : List Value) (cb : List Value) (a : Entry) (b : Entry) (I : Gh) (R : List HP) (w : World) (S : Sat w I (R)) (ha : entR.r I ca a) (hb : entR.r I cb b) : Ret Tryz.prog 31 [.agg ca.toArray, .agg cb.toArray] w fun v w' => .bool (decide (a = b)) = v ∧ Sat w' I (R) := by
  obtain ⟨v0, v1, v2, rfl, r0, r1, r2, ⟨o0, H0⟩, ⟨o1, H1⟩, r3, r4, r5, ⟨o2, H2⟩⟩ := ha
  obtain ⟨v3, v4, v5, rfl, r6, r7, r8, ⟨o3, H3⟩, ⟨o4, H4⟩, r9, r10, r11, ⟨o5, H5⟩⟩ := hb
  refine ret_E Tryz.func31 rfl Tryz.ntmps31 (by simp) ?_
  refine g2 ?_
  refine yB (cs := entRC a v0 v1 v2) S ?_
  intro b0 w0 S0
  refine yB (cs := entRC b v3 v4 v5) S0 ?_
  intro b1 w1 S1
  refine g4 ?_
  rcases first9 (a.kind = b.kind) (a.writer = b.writer) (a.seq = b.seq) (a.name = b.name) (a.value = b.value) (a.who = b.who) (a.rights = b.rights) (a.epoch = b.epoch) (a.wraps = b.wraps) with hc | hc | hc | hc | hc | hc | hc | hc | hc | hc
  refine g5 ?_
  refine vl _ rfl (dF (r_eql rfl rfl) hc) ?_
  refine g30 ?_
  refine g30 ?_
  refine f1 Tryz.results31 ?_
  exact ⟨(congrArg Value.bool (decide_eq_false (fun h => hc (by rw [h])))), S1.dr0.dr0⟩
  refine g5 ?_
  refine vl _ rfl (dT (r_eql rfl rfl) hc.1) ?_
  refine g5 ?_
  refine gl 10 rfl rfl rfl rfl _ rfl (dF (r_eql rfl rfl) hc.2) ?_
  refine g30 ?_
  refine g24 ?_
  refine f1 Tryz.results31 ?_
  exact ⟨(congrArg Value.bool (decide_eq_false (fun h => hc.2 (by rw [h])))), S1.dr0.dr0⟩
  refine g5 ?_
  refine vl _ rfl (dT (r_eql rfl rfl) hc.1) ?_
  refine g5 ?_
  refine gl 10 rfl rfl rfl rfl _ rfl (dT (r_eql rfl rfl) hc.2.1) ?_
  refine g6 ?_
  refine gl 17 rfl rfl rfl rfl _ rfl (dF (r_eql rfl rfl) hc.2.2) ?_
  refine g30 ?_
  refine g17 ?_
  refine f1 Tryz.results31 ?_
  exact ⟨(congrArg Value.bool (decide_eq_false (fun h => hc.2.2 (by rw [h])))), S1.dr0.dr0⟩
  refine g5 ?_
  refine vl _ rfl (dT (r_eql rfl rfl) hc.1) ?_
  refine g5 ?_
  refine gl 10 rfl rfl rfl rfl _ rfl (dT (r_eql rfl rfl) hc.2.1) ?_
  refine g6 ?_
  refine gl 17 rfl rfl rfl rfl _ rfl (dT (r_eql rfl rfl) hc.2.2.1) ?_
  refine g6 ?_
  refine yG (Equal_c _ _ _ _ _ _ _ S1 H0 H3) ?_
  rintro _ w2 ⟨rfl, S2⟩
  refine vl (.bool false) rfl (r_pickT rfl (Eq.trans (show _ = Value.bool (decide (a.name = b.name)) from rfl) (congrArg Value.bool (show (decide (a.name = b.name)) = false from by rw [decide_eq_false_iff_not]; exact hc.2.2.2)))) ?_
  refine g30 ?_
  refine g9 ?_
  refine f1 Tryz.results31 ?_
  exact ⟨(congrArg Value.bool (decide_eq_false (fun h => hc.2.2.2 (by rw [h])))), S2.dr0.dr0⟩
  refine g5 ?_
  refine vl _ rfl (dT (r_eql rfl rfl) hc.1) ?_
  refine g5 ?_
  refine gl 10 rfl rfl rfl rfl _ rfl (dT (r_eql rfl rfl) hc.2.1) ?_
  refine g6 ?_
  refine gl 17 rfl rfl rfl rfl _ rfl (dT (r_eql rfl rfl) hc.2.2.1) ?_
  refine g6 ?_
  refine yG (Equal_c _ _ _ _ _ _ _ S1 H0 H3) ?_
  rintro _ w3 ⟨rfl, S3⟩
  refine vl (.bool true) rfl (r_pickT rfl (Eq.trans (show _ = Value.bool (decide (a.name = b.name)) from rfl) (congrArg Value.bool (show (decide (a.name = b.name)) = true from by rw [decide_eq_true_eq]; exact hc.2.2.2.1)))) ?_
  refine g5 ?_
  refine yG (Equal_c _ _ _ _ _ _ _ S3 H1 H4) ?_
  rintro _ w4 ⟨rfl, S4⟩
  refine vl (.bool false) rfl (r_pickT rfl (Eq.trans (show _ = Value.bool (decide (a.value = b.value)) from rfl) (congrArg Value.bool (show (decide (a.value = b.value)) = false from by rw [decide_eq_false_iff_not]; exact hc.2.2.2.2)))) ?_
  refine g30 ?_
  refine g2 ?_
  refine f1 Tryz.results31 ?_
  exact ⟨(congrArg Value.bool (decide_eq_false (fun h => hc.2.2.2.2 (by rw [h])))), S4.dr0.dr0⟩
  refine g5 ?_
  refine vl _ rfl (dT (r_eql rfl rfl) hc.1) ?_
  refine g5 ?_
  refine gl 10 rfl rfl rfl rfl _ rfl (dT (r_eql rfl rfl) hc.2.1) ?_
  refine g6 ?_
  refine gl 17 rfl rfl rfl rfl _ rfl (dT (r_eql rfl rfl) hc.2.2.1) ?_
  refine g6 ?_
  refine yG (Equal_c _ _ _ _ _ _ _ S1 H0 H3) ?_
  rintro _ w5 ⟨rfl, S5⟩
  refine vl (.bool true) rfl (r_pickT rfl (Eq.trans (show _ = Value.bool (decide (a.name = b.name)) from rfl) (congrArg Value.bool (show (decide (a.name = b.name)) = true from by rw [decide_eq_true_eq]; exact hc.2.2.2.1)))) ?_
  refine g5 ?_
  refine yG (Equal_c _ _ _ _ _ _ _ S5 H1 H4) ?_
  rintro _ w6 ⟨rfl, S6⟩
  refine vl (.bool true) rfl (r_pickT rfl (Eq.trans (show _ = Value.bool (decide (a.value = b.value)) from rfl) (congrArg Value.bool (show (decide (a.value = b.value)) = true from by rw [decide_eq_true_eq]; exact hc.2.2.2.2.1)))) ?_
  refine g5 ?_
  refine gl 38 rfl rfl rfl rfl _ rfl (dF (r_eql rfl rfl) hc.2.2.2.2.2) ?_
  refine g26 ?_
  refine f1 Tryz.results31 ?_
  exact ⟨(congrArg Value.bool (decide_eq_false (fun h => hc.2.2.2.2.2 (by rw [h])))), S6.dr0.dr0⟩
  refine g5 ?_
  refine vl _ rfl (dT (r_eql rfl rfl) hc.1) ?_
  refine g5 ?_
  refine gl 10 rfl rfl rfl rfl _ rfl (dT (r_eql rfl rfl) hc.2.1) ?_
  refine g6 ?_
  refine gl 17 rfl rfl rfl rfl _ rfl (dT (r_eql rfl rfl) hc.2.2.1) ?_
  refine g6 ?_
  refine yG (Equal_c _ _ _ _ _ _ _ S1 H0 H3) ?_
  rintro _ w7 ⟨rfl, S7⟩
  refine vl (.bool true) rfl (r_pickT rfl (Eq.trans (show _ = Value.bool (decide (a.name = b.name)) from rfl) (congrArg Value.bool (show (decide (a.name = b.name)) = true from by rw [decide_eq_true_eq]; exact hc.2.2.2.1)))) ?_
  refine g5 ?_
  refine yG (Equal_c _ _ _ _ _ _ _ S7 H1 H4) ?_
  rintro _ w8 ⟨rfl, S8⟩
  refine vl (.bool true) rfl (r_pickT rfl (Eq.trans (show _ = Value.bool (decide (a.value = b.value)) from rfl) (congrArg Value.bool (show (decide (a.value = b.value)) = true from by rw [decide_eq_true_eq]; exact hc.2.2.2.2.1)))) ?_
  refine g5 ?_
  refine gl 38 rfl rfl rfl rfl _ rfl (dT (r_eql rfl rfl) hc.2.2.2.2.2.1) ?_
  refine g6 ?_
  refine gl 45 rfl rfl rfl rfl _ rfl (dF (r_eql rfl rfl) hc.2.2.2.2.2.2) ?_
  refine g19 ?_
  refine f1 Tryz.results31 ?_
  exact ⟨(congrArg Value.bool (decide_eq_false (fun h => hc.2.2.2.2.2.2 (by rw [h])))), S8.dr0.dr0⟩
  refine g5 ?_
  refine vl _ rfl (dT (r_eql rfl rfl) hc.1) ?_
  refine g5 ?_
  refine gl 10 rfl rfl rfl rfl _ rfl (dT (r_eql rfl rfl) hc.2.1) ?_
  refine g6 ?_
  refine gl 17 rfl rfl rfl rfl _ rfl (dT (r_eql rfl rfl) hc.2.2.1) ?_
  refine g6 ?_
  refine yG (Equal_c _ _ _ _ _ _ _ S1 H0 H3) ?_
  rintro _ w9 ⟨rfl, S9⟩
  refine vl (.bool true) rfl (r_pickT rfl (Eq.trans (show _ = Value.bool (decide (a.name = b.name)) from rfl) (congrArg Value.bool (show (decide (a.name = b.name)) = true from by rw [decide_eq_true_eq]; exact hc.2.2.2.1)))) ?_
  refine g5 ?_
  refine yG (Equal_c _ _ _ _ _ _ _ S9 H1 H4) ?_
  rintro _ w10 ⟨rfl, S10⟩
  refine vl (.bool true) rfl (r_pickT rfl (Eq.trans (show _ = Value.bool (decide (a.value = b.value)) from rfl) (congrArg Value.bool (show (decide (a.value = b.value)) = true from by rw [decide_eq_true_eq]; exact hc.2.2.2.2.1)))) ?_
  refine g5 ?_
  refine gl 38 rfl rfl rfl rfl _ rfl (dT (r_eql rfl rfl) hc.2.2.2.2.2.1) ?_
  refine g6 ?_
  refine gl 45 rfl rfl rfl rfl _ rfl (dT (r_eql rfl rfl) hc.2.2.2.2.2.2.1) ?_
  refine g6 ?_
  refine gl 52 rfl rfl rfl rfl _ rfl (dF (r_eql rfl rfl) hc.2.2.2.2.2.2.2) ?_
  refine g12 ?_
  refine f1 Tryz.results31 ?_
  exact ⟨(congrArg Value.bool (decide_eq_false (fun h => hc.2.2.2.2.2.2.2 (by rw [h])))), S10.dr0.dr0⟩
  refine g5 ?_
  refine vl _ rfl (dT (r_eql rfl rfl) hc.1) ?_
  refine g5 ?_
  refine gl 10 rfl rfl rfl rfl _ rfl (dT (r_eql rfl rfl) hc.2.1) ?_
  refine g6 ?_
  refine gl 17 rfl rfl rfl rfl _ rfl (dT (r_eql rfl rfl) hc.2.2.1) ?_
  refine g6 ?_
  refine yG (Equal_c _ _ _ _ _ _ _ S1 H0 H3) ?_
  rintro _ w11 ⟨rfl, S11⟩
  refine vl (.bool true) rfl (r_pickT rfl (Eq.trans (show _ = Value.bool (decide (a.name = b.name)) from rfl) (congrArg Value.bool (show (decide (a.name = b.name)) = true from by rw [decide_eq_true_eq]; exact hc.2.2.2.1)))) ?_
  refine g5 ?_
  refine yG (Equal_c _ _ _ _ _ _ _ S11 H1 H4) ?_
  rintro _ w12 ⟨rfl, S12⟩
  refine vl (.bool true) rfl (r_pickT rfl (Eq.trans (show _ = Value.bool (decide (a.value = b.value)) from rfl) (congrArg Value.bool (show (decide (a.value = b.value)) = true from by rw [decide_eq_true_eq]; exact hc.2.2.2.2.1)))) ?_
  refine g5 ?_
  refine gl 38 rfl rfl rfl rfl _ rfl (dT (r_eql rfl rfl) hc.2.2.2.2.2.1) ?_
  refine g6 ?_
  refine gl 45 rfl rfl rfl rfl _ rfl (dT (r_eql rfl rfl) hc.2.2.2.2.2.2.1) ?_
  refine g6 ?_
  refine gl 52 rfl rfl rfl rfl _ rfl (dT (r_eql rfl rfl) hc.2.2.2.2.2.2.2.1) ?_
  refine g6 ?_
  refine yG (EqualF_c _ _ _ _ _ _ _ S12 H2 H5) ?_
  rintro _ w13 ⟨rfl, S13⟩
  refine vl (.bool false) rfl (r_pickT rfl (Eq.trans (show _ = Value.bool (decide (a.wraps = b.wraps)) from rfl) (congrArg Value.bool (show (decide (a.wraps = b.wraps)) = false from by rw [decide_eq_false_iff_not]; exact hc.2.2.2.2.2.2.2.2)))) ?_
  refine g4 ?_
  refine f1 Tryz.results31 ?_
  exact ⟨(congrArg Value.bool (decide_eq_false (fun h => hc.2.2.2.2.2.2.2.2 (by rw [h])))), S13.dr0.dr0⟩
  refine g5 ?_
  refine vl _ rfl (dT (r_eql rfl rfl) hc.1) ?_
  refine g5 ?_
  refine gl 10 rfl rfl rfl rfl _ rfl (dT (r_eql rfl rfl) hc.2.1) ?_
  refine g6 ?_
  refine gl 17 rfl rfl rfl rfl _ rfl (dT (r_eql rfl rfl) hc.2.2.1) ?_
  refine g6 ?_
  refine yG (Equal_c _ _ _ _ _ _ _ S1 H0 H3) ?_
  rintro _ w14 ⟨rfl, S14⟩
  refine vl (.bool true) rfl (r_pickT rfl (Eq.trans (show _ = Value.bool (decide (a.name = b.name)) from rfl) (congrArg Value.bool (show (decide (a.name = b.name)) = true from by rw [decide_eq_true_eq]; exact hc.2.2.2.1)))) ?_
  refine g5 ?_
  refine yG (Equal_c _ _ _ _ _ _ _ S14 H1 H4) ?_
  rintro _ w15 ⟨rfl, S15⟩
  refine vl (.bool true) rfl (r_pickT rfl (Eq.trans (show _ = Value.bool (decide (a.value = b.value)) from rfl) (congrArg Value.bool (show (decide (a.value = b.value)) = true from by rw [decide_eq_true_eq]; exact hc.2.2.2.2.1)))) ?_
  refine g5 ?_
  refine gl 38 rfl rfl rfl rfl _ rfl (dT (r_eql rfl rfl) hc.2.2.2.2.2.1) ?_
  refine g6 ?_
  refine gl 45 rfl rfl rfl rfl _ rfl (dT (r_eql rfl rfl) hc.2.2.2.2.2.2.1) ?_
  refine g6 ?_
  refine gl 52 rfl rfl rfl rfl _ rfl (dT (r_eql rfl rfl) hc.2.2.2.2.2.2.2.1) ?_
  refine g6 ?_
  refine yG (EqualF_c _ _ _ _ _ _ _ S15 H2 H5) ?_
  rintro _ w16 ⟨rfl, S16⟩
  refine vl (.bool true) rfl (r_pickT rfl (Eq.trans (show _ = Value.bool (decide (a.wraps = b.wraps)) from rfl) (congrArg Value.bool (show (decide (a.wraps = b.wraps)) = true from by rw [decide_eq_true_eq]; exact hc.2.2.2.2.2.2.2.2)))) ?_
  refine g4 ?_
  refine f1 Tryz.results31 ?_
  exact ⟨(congrArg Value.bool (decide_eq_true (entry_eq.2 hc))), S16.dr0.dr0⟩

end Go.Proofs.YtanpinfhlbbjkaaGreat
