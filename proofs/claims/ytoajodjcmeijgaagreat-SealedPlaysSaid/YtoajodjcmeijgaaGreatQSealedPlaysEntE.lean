import Derived.Test.YtoajodjcmeijgaaGreatQSealedPlaysEntD
set_option linter.unusedVariables false
set_option linter.unusedSimpArgs false
namespace Go.Proofs.YtoajodjcmeijgaaGreat
open Go.RowKit Go.Ecal

set_option maxRecDepth 100000 in
set_option maxHeartbeats 4000000 in
theorem Right_c (ce : List Value) (e : Entry) (I : Gh) (R : List HP) (w : World) (S : Sat w I (R)) (he : entR.r I ce e) : Ret Tryz.prog 71 [.agg ce.toArray] w fun v w' => ∃ J : Gh, Gh.le I J ∧ .bool e.right = v ∧ Sat w' J (R) := by
  obtain ⟨v14, v17, v23, rfl, r11, r12, r13, ⟨o15, H16⟩, ⟨o18, H19⟩, r20, r21, r22, ⟨o24, H25⟩⟩ := he
  refine ret_E Tryz.func71 rfl Tryz.ntmps71 (by simp) ?_
  refine EC_seq (EC_reg ?_)
  refine EL_box (entRC e v14 v17 v23) rfl rfl rfl ?_
  intro b26 w27 k28 A29 B30 z31
  have S32 := S.newB B30 A29 k28
  refine vA (.bool false) rfl rfl (EL_nil (thn_n (EC_seq (EC_seq ?_))))
  rcases first4 (within e.kind 1 5 = true) (within e.writer 1 16 = true) (within e.seq 1 1099511627776 = true) (e = e.bare) with hc | hc | hc | hc | hc
  refine EC_any 2 (fun w' => Gh.le I (gh w')) (fun w' => Arr w' b26 38 (entRC e v14 v17 v23)) (by kernel_rfl) ?_
  intro w33 B34
  have S35 := S32.below B34
  refine jT 0 rfl (by kernel_rfl) (ptr b26 0) rfl (fun _ hw ht => fP 0 rfl U38 (by kernel_rfl)) ⟨S35.le, fun h => S35.arr 0 rfl⟩ ?_
  refine jT 1 rfl (by kernel_rfl) (.int .i64 e.kind) rfl (fun _ hw ht => r_loadA rfl ht (u := (.int .i64 e.kind)) rfl U3 rfl) ⟨S35.le, fun h => S35.arr 0 rfl⟩ ?_
  refine EJ_one 2 (by kernel_rfl) ⟨_, rfl, ?_⟩
  refine eR rfl F92 rfl (within_c e.kind 1 5 _) ?_
  rintro _ w37 ⟨rfl, B36⟩
  have S38 := S35.below B36
  refine EL_nil ?_
  refine ⟨rfl, ⟨S38.le, fun h => by cases h⟩, ?_⟩
  refine jF 3 rfl (by kernel_rfl) (.bool true) rfl (fun _ hw => r_dec (show (!false) = true from rfl) (r_not (Eq.trans (show _ = Value.bool (within e.kind 1 5) from rfl) (congrArg Value.bool (show (within e.kind 1 5) = false from by simpa using hc))))) ⟨S38.le, fun h => by cases h⟩ ?_
  refine jF 4 rfl (by kernel_rfl) (.bool true) rfl (fun _ hw => r_move rfl) ⟨S38.le, fun h => by cases h⟩ ?_
  refine EJ_pass 5 rfl (by kernel_rfl) (by kernel_rfl) (by kernel_rfl) rfl 7 rfl rfl rfl rfl rfl ⟨S38.le, fun h => by cases h⟩ ?_
  refine EJ_pass 6 rfl (by kernel_rfl) (by kernel_rfl) (by kernel_rfl) rfl 7 rfl rfl rfl rfl rfl ⟨S38.le, fun h => by cases h⟩ ?_
  refine EJ_pass 7 rfl (by kernel_rfl) (by kernel_rfl) (by kernel_rfl) rfl 7 rfl rfl rfl rfl rfl ⟨S38.le, fun h => by cases h⟩ ?_
  refine EJ_pass 8 rfl (by kernel_rfl) (by kernel_rfl) (by kernel_rfl) rfl 7 rfl rfl rfl rfl rfl ⟨S38.le, fun h => by cases h⟩ ?_
  refine jF 9 rfl (by kernel_rfl) (.bool true) rfl (fun _ hw => r_pickT rfl rfl) ⟨S38.le, fun h => by cases h⟩ ?_
  refine jF 10 rfl (by kernel_rfl) (.bool true) rfl (fun _ hw => r_move rfl) ⟨S38.le, fun h => by cases h⟩ ?_
  refine EJ_pass 11 rfl (by kernel_rfl) (by kernel_rfl) (by kernel_rfl) rfl 13 rfl rfl rfl rfl rfl ⟨S38.le, fun h => by cases h⟩ ?_
  refine EJ_pass 12 rfl (by kernel_rfl) (by kernel_rfl) (by kernel_rfl) rfl 13 rfl rfl rfl rfl rfl ⟨S38.le, fun h => by cases h⟩ ?_
  refine EJ_pass 13 rfl (by kernel_rfl) (by kernel_rfl) (by kernel_rfl) rfl 13 rfl rfl rfl rfl rfl ⟨S38.le, fun h => by cases h⟩ ?_
  refine EJ_pass 14 rfl (by kernel_rfl) (by kernel_rfl) (by kernel_rfl) rfl 13 rfl rfl rfl rfl rfl ⟨S38.le, fun h => by cases h⟩ ?_
  refine jF 15 rfl (by kernel_rfl) (.bool true) rfl (fun _ hw => r_pickT rfl rfl) ⟨S38.le, fun h => by cases h⟩ ?_
  refine jF 16 rfl (by kernel_rfl) (.bool true) rfl (fun _ hw => r_move rfl) ⟨S38.le, fun h => by cases h⟩ ?_
  obtain ⟨I39, le40, S41, H42⟩ := S38.fk0
  refine EJ_strong (fun w' => Gh.le I39 (gh w')) _ (fun w' hw => lT le40 hw) (fun w' _ ht => ht) ?_
  refine EJ_pass 17 rfl (by kernel_rfl) (by kernel_rfl) (by kernel_rfl) rfl 19 rfl rfl rfl rfl rfl ⟨S41.le, fun h => by cases h⟩ ?_
  refine EJ_pass 18 rfl (by kernel_rfl) (by kernel_rfl) (by kernel_rfl) rfl 19 rfl rfl rfl rfl rfl ⟨S41.le, fun h => by cases h⟩ ?_
  refine EJ_pass 19 rfl (by kernel_rfl) (by kernel_rfl) (by kernel_rfl) rfl 19 rfl rfl rfl rfl rfl ⟨S41.le, fun h => by cases h⟩ ?_
  refine EJ_pass 20 rfl (by kernel_rfl) (by kernel_rfl) (by kernel_rfl) rfl 19 rfl rfl rfl rfl rfl ⟨S41.le, fun h => by cases h⟩ ?_
  refine EJ_pass 21 rfl (by kernel_rfl) (by kernel_rfl) (by kernel_rfl) rfl 19 rfl rfl rfl rfl rfl ⟨S41.le, fun h => by cases h⟩ ?_
  refine jF 22 rfl (by kernel_rfl) (.bool true) rfl (fun _ hw => r_pickT rfl rfl) ⟨S41.le, fun h => by cases h⟩ ?_
  refine EJ_done (by kernel_rfl) ?_
  refine thn_n ?_
  refine EC_cond_true rfl ?_
  refine EC_seq (EC_reg (vA (.bool false) rfl rfl (EL_nil (thn_n (EC_ret ?_)))))
  refine thn_r ?_
  refine fin1 Tryz.results71 (show _ = .bool false from rfl) ⟨_, rfl, ?_⟩
  exact ⟨I39, le40, (congrArg Value.bool (by rw [Entry.right, Entry.head]; have hc0 := hc; simp [hc0])), S41⟩
  refine EC_any 7 (fun w' => Gh.le I (gh w')) (fun w' => Arr w' b26 38 (entRC e v14 v17 v23)) (by kernel_rfl) ?_
  intro w43 B44
  have S45 := S32.below B44
  refine jT 0 rfl (by kernel_rfl) (ptr b26 0) rfl (fun _ hw ht => fP 0 rfl U38 (by kernel_rfl)) ⟨S45.le, fun h => S45.arr 0 rfl⟩ ?_
  refine jT 1 rfl (by kernel_rfl) (.int .i64 e.kind) rfl (fun _ hw ht => r_loadA rfl ht (u := (.int .i64 e.kind)) rfl U3 rfl) ⟨S45.le, fun h => S45.arr 0 rfl⟩ ?_
  refine EJ_one 2 (by kernel_rfl) ⟨_, rfl, ?_⟩
  refine eR rfl F92 rfl (within_c e.kind 1 5 _) ?_
  rintro _ w47 ⟨rfl, B46⟩
  have S48 := S45.below B46
  refine EL_nil ?_
  refine ⟨rfl, ⟨S48.le, fun h => S48.arr 0 rfl⟩, ?_⟩
  refine jT 3 rfl (by kernel_rfl) (.bool false) rfl (fun _ hw ht => r_dec (show (!true) = false from rfl) (r_not (Eq.trans (show _ = Value.bool (within e.kind 1 5) from rfl) (congrArg Value.bool (show (within e.kind 1 5) = true from hc.1))))) ⟨S48.le, fun h => S48.arr 0 rfl⟩ ?_
  refine jT 4 rfl (by kernel_rfl) (.bool false) rfl (fun _ hw ht => r_move rfl) ⟨S48.le, fun h => S48.arr 0 rfl⟩ ?_
  refine jG 5 rfl (by kernel_rfl) 7 rfl rfl rfl rfl (ptr b26 1) rfl (fun _ hw ht => fP 0 rfl U38 (by kernel_rfl)) ⟨S48.le, fun h => S48.arr 0 rfl⟩ ?_
  refine jG 6 rfl (by kernel_rfl) 7 rfl rfl rfl rfl (.int .i64 e.writer) rfl (fun _ hw ht => r_loadA rfl ht (u := (.int .i64 e.writer)) rfl U3 rfl) ⟨S48.le, fun h => S48.arr 0 rfl⟩ ?_
  refine EJ_one 7 (by kernel_rfl) ⟨_, rfl, ?_⟩
  refine eG 7 rfl rfl rfl rfl rfl F92 rfl (within_c e.writer 1 16 _) ?_
  rintro _ w50 ⟨rfl, B49⟩
  have S51 := S48.below B49
  refine EL_nil ?_
  refine ⟨rfl, ⟨S51.le, fun h => by cases h⟩, ?_⟩
  refine EJ_gfloat 8 rfl (by kernel_rfl) (by kernel_rfl) (by kernel_rfl) rfl 7 rfl rfl rfl rfl (.bool true) rfl (fun _ hw => r_dec (show (!false) = true from rfl) (r_not (Eq.trans (show _ = Value.bool (within e.writer 1 16) from rfl) (congrArg Value.bool (show (within e.writer 1 16) = false from by simpa using hc.2))))) ⟨S51.le, fun h => by cases h⟩ ?_
  refine jF 9 rfl (by kernel_rfl) (.bool true) rfl (fun _ hw => r_pickF rfl rfl) ⟨S51.le, fun h => by cases h⟩ ?_
  refine jF 10 rfl (by kernel_rfl) (.bool true) rfl (fun _ hw => r_move rfl) ⟨S51.le, fun h => by cases h⟩ ?_
  refine EJ_pass 11 rfl (by kernel_rfl) (by kernel_rfl) (by kernel_rfl) rfl 13 rfl rfl rfl rfl rfl ⟨S51.le, fun h => by cases h⟩ ?_
  refine EJ_pass 12 rfl (by kernel_rfl) (by kernel_rfl) (by kernel_rfl) rfl 13 rfl rfl rfl rfl rfl ⟨S51.le, fun h => by cases h⟩ ?_
  refine EJ_pass 13 rfl (by kernel_rfl) (by kernel_rfl) (by kernel_rfl) rfl 13 rfl rfl rfl rfl rfl ⟨S51.le, fun h => by cases h⟩ ?_
  refine EJ_pass 14 rfl (by kernel_rfl) (by kernel_rfl) (by kernel_rfl) rfl 13 rfl rfl rfl rfl rfl ⟨S51.le, fun h => by cases h⟩ ?_
  refine jF 15 rfl (by kernel_rfl) (.bool true) rfl (fun _ hw => r_pickT rfl rfl) ⟨S51.le, fun h => by cases h⟩ ?_
  refine jF 16 rfl (by kernel_rfl) (.bool true) rfl (fun _ hw => r_move rfl) ⟨S51.le, fun h => by cases h⟩ ?_
  obtain ⟨I52, le53, S54, H55⟩ := S51.fk0
  refine EJ_strong (fun w' => Gh.le I52 (gh w')) _ (fun w' hw => lT le53 hw) (fun w' _ ht => ht) ?_
  refine EJ_pass 17 rfl (by kernel_rfl) (by kernel_rfl) (by kernel_rfl) rfl 19 rfl rfl rfl rfl rfl ⟨S54.le, fun h => by cases h⟩ ?_
  refine EJ_pass 18 rfl (by kernel_rfl) (by kernel_rfl) (by kernel_rfl) rfl 19 rfl rfl rfl rfl rfl ⟨S54.le, fun h => by cases h⟩ ?_
  refine EJ_pass 19 rfl (by kernel_rfl) (by kernel_rfl) (by kernel_rfl) rfl 19 rfl rfl rfl rfl rfl ⟨S54.le, fun h => by cases h⟩ ?_
  refine EJ_pass 20 rfl (by kernel_rfl) (by kernel_rfl) (by kernel_rfl) rfl 19 rfl rfl rfl rfl rfl ⟨S54.le, fun h => by cases h⟩ ?_
  refine EJ_pass 21 rfl (by kernel_rfl) (by kernel_rfl) (by kernel_rfl) rfl 19 rfl rfl rfl rfl rfl ⟨S54.le, fun h => by cases h⟩ ?_
  refine jF 22 rfl (by kernel_rfl) (.bool true) rfl (fun _ hw => r_pickT rfl rfl) ⟨S54.le, fun h => by cases h⟩ ?_
  refine EJ_done (by kernel_rfl) ?_
  refine thn_n ?_
  refine EC_cond_true rfl ?_
  refine EC_seq (EC_reg (vA (.bool false) rfl rfl (EL_nil (thn_n (EC_ret ?_)))))
  refine thn_r ?_
  refine fin1 Tryz.results71 (show _ = .bool false from rfl) ⟨_, rfl, ?_⟩
  exact ⟨I52, le53, (congrArg Value.bool (by rw [Entry.right, Entry.head]; have hc0 := hc.2; simp [hc0])), S54⟩
  refine EC_any 13 (fun w' => Gh.le I (gh w')) (fun w' => Arr w' b26 38 (entRC e v14 v17 v23)) (by kernel_rfl) ?_
  intro w56 B57
  have S58 := S32.below B57
  refine jT 0 rfl (by kernel_rfl) (ptr b26 0) rfl (fun _ hw ht => fP 0 rfl U38 (by kernel_rfl)) ⟨S58.le, fun h => S58.arr 0 rfl⟩ ?_
  refine jT 1 rfl (by kernel_rfl) (.int .i64 e.kind) rfl (fun _ hw ht => r_loadA rfl ht (u := (.int .i64 e.kind)) rfl U3 rfl) ⟨S58.le, fun h => S58.arr 0 rfl⟩ ?_
  refine EJ_one 2 (by kernel_rfl) ⟨_, rfl, ?_⟩
  refine eR rfl F92 rfl (within_c e.kind 1 5 _) ?_
  rintro _ w60 ⟨rfl, B59⟩
  have S61 := S58.below B59
  refine EL_nil ?_
  refine ⟨rfl, ⟨S61.le, fun h => S61.arr 0 rfl⟩, ?_⟩
  refine jT 3 rfl (by kernel_rfl) (.bool false) rfl (fun _ hw ht => r_dec (show (!true) = false from rfl) (r_not (Eq.trans (show _ = Value.bool (within e.kind 1 5) from rfl) (congrArg Value.bool (show (within e.kind 1 5) = true from hc.1))))) ⟨S61.le, fun h => S61.arr 0 rfl⟩ ?_
  refine jT 4 rfl (by kernel_rfl) (.bool false) rfl (fun _ hw ht => r_move rfl) ⟨S61.le, fun h => S61.arr 0 rfl⟩ ?_
  refine jG 5 rfl (by kernel_rfl) 7 rfl rfl rfl rfl (ptr b26 1) rfl (fun _ hw ht => fP 0 rfl U38 (by kernel_rfl)) ⟨S61.le, fun h => S61.arr 0 rfl⟩ ?_
  refine jG 6 rfl (by kernel_rfl) 7 rfl rfl rfl rfl (.int .i64 e.writer) rfl (fun _ hw ht => r_loadA rfl ht (u := (.int .i64 e.writer)) rfl U3 rfl) ⟨S61.le, fun h => S61.arr 0 rfl⟩ ?_
  refine EJ_one 7 (by kernel_rfl) ⟨_, rfl, ?_⟩
  refine eG 7 rfl rfl rfl rfl rfl F92 rfl (within_c e.writer 1 16 _) ?_
  rintro _ w63 ⟨rfl, B62⟩
  have S64 := S61.below B62
  refine EL_nil ?_
  refine ⟨rfl, ⟨S64.le, fun h => S64.arr 0 rfl⟩, ?_⟩
  refine jG 8 rfl (by kernel_rfl) 7 rfl rfl rfl rfl (.bool false) rfl (fun _ hw ht => r_dec (show (!true) = false from rfl) (r_not (Eq.trans (show _ = Value.bool (within e.writer 1 16) from rfl) (congrArg Value.bool (show (within e.writer 1 16) = true from hc.2.1))))) ⟨S64.le, fun h => S64.arr 0 rfl⟩ ?_
  refine jT 9 rfl (by kernel_rfl) (.bool false) rfl (fun _ hw ht => r_pickF rfl rfl) ⟨S64.le, fun h => S64.arr 0 rfl⟩ ?_
  refine jT 10 rfl (by kernel_rfl) (.bool false) rfl (fun _ hw ht => r_move rfl) ⟨S64.le, fun h => S64.arr 0 rfl⟩ ?_
  refine jG 11 rfl (by kernel_rfl) 13 rfl rfl rfl rfl (ptr b26 2) rfl (fun _ hw ht => fP 0 rfl U38 (by kernel_rfl)) ⟨S64.le, fun h => S64.arr 0 rfl⟩ ?_
  refine jG 12 rfl (by kernel_rfl) 13 rfl rfl rfl rfl (.int .i64 e.seq) rfl (fun _ hw ht => r_loadA rfl ht (u := (.int .i64 e.seq)) rfl U3 rfl) ⟨S64.le, fun h => S64.arr 0 rfl⟩ ?_
  refine EJ_one 13 (by kernel_rfl) ⟨_, rfl, ?_⟩
  refine eG 13 rfl rfl rfl rfl rfl F92 rfl (within_c e.seq 1 1099511627776 _) ?_
  rintro _ w66 ⟨rfl, B65⟩
  have S67 := S64.below B65
  refine EL_nil ?_
  refine ⟨rfl, ⟨S67.le, fun h => by cases h⟩, ?_⟩
  refine EJ_gfloat 14 rfl (by kernel_rfl) (by kernel_rfl) (by kernel_rfl) rfl 13 rfl rfl rfl rfl (.bool true) rfl (fun _ hw => r_dec (show (!false) = true from rfl) (r_not (Eq.trans (show _ = Value.bool (within e.seq 1 1099511627776) from rfl) (congrArg Value.bool (show (within e.seq 1 1099511627776) = false from by simpa using hc.2.2))))) ⟨S67.le, fun h => by cases h⟩ ?_
  refine jF 15 rfl (by kernel_rfl) (.bool true) rfl (fun _ hw => r_pickF rfl rfl) ⟨S67.le, fun h => by cases h⟩ ?_
  refine jF 16 rfl (by kernel_rfl) (.bool true) rfl (fun _ hw => r_move rfl) ⟨S67.le, fun h => by cases h⟩ ?_
  obtain ⟨I68, le69, S70, H71⟩ := S67.fk0
  refine EJ_strong (fun w' => Gh.le I68 (gh w')) _ (fun w' hw => lT le69 hw) (fun w' _ ht => ht) ?_
  refine EJ_pass 17 rfl (by kernel_rfl) (by kernel_rfl) (by kernel_rfl) rfl 19 rfl rfl rfl rfl rfl ⟨S70.le, fun h => by cases h⟩ ?_
  refine EJ_pass 18 rfl (by kernel_rfl) (by kernel_rfl) (by kernel_rfl) rfl 19 rfl rfl rfl rfl rfl ⟨S70.le, fun h => by cases h⟩ ?_
  refine EJ_pass 19 rfl (by kernel_rfl) (by kernel_rfl) (by kernel_rfl) rfl 19 rfl rfl rfl rfl rfl ⟨S70.le, fun h => by cases h⟩ ?_
  refine EJ_pass 20 rfl (by kernel_rfl) (by kernel_rfl) (by kernel_rfl) rfl 19 rfl rfl rfl rfl rfl ⟨S70.le, fun h => by cases h⟩ ?_
  refine EJ_pass 21 rfl (by kernel_rfl) (by kernel_rfl) (by kernel_rfl) rfl 19 rfl rfl rfl rfl rfl ⟨S70.le, fun h => by cases h⟩ ?_
  refine jF 22 rfl (by kernel_rfl) (.bool true) rfl (fun _ hw => r_pickT rfl rfl) ⟨S70.le, fun h => by cases h⟩ ?_
  refine EJ_done (by kernel_rfl) ?_
  refine thn_n ?_
  refine EC_cond_true rfl ?_
  refine EC_seq (EC_reg (vA (.bool false) rfl rfl (EL_nil (thn_n (EC_ret ?_)))))
  refine thn_r ?_
  refine fin1 Tryz.results71 (show _ = .bool false from rfl) ⟨_, rfl, ?_⟩
  exact ⟨I68, le69, (congrArg Value.bool (by rw [Entry.right, Entry.head]; have hc0 := hc.2.2; simp [hc0])), S70⟩
  refine EC_any 20 (fun w' => Gh.le I (gh w')) (fun w' => Arr w' b26 38 (entRC e v14 v17 v23)) (by kernel_rfl) ?_
  intro w72 B73
  have S74 := S32.below B73
  refine jT 0 rfl (by kernel_rfl) (ptr b26 0) rfl (fun _ hw ht => fP 0 rfl U38 (by kernel_rfl)) ⟨S74.le, fun h => S74.arr 0 rfl⟩ ?_
  refine jT 1 rfl (by kernel_rfl) (.int .i64 e.kind) rfl (fun _ hw ht => r_loadA rfl ht (u := (.int .i64 e.kind)) rfl U3 rfl) ⟨S74.le, fun h => S74.arr 0 rfl⟩ ?_
  refine EJ_one 2 (by kernel_rfl) ⟨_, rfl, ?_⟩
  refine eR rfl F92 rfl (within_c e.kind 1 5 _) ?_
  rintro _ w76 ⟨rfl, B75⟩
  have S77 := S74.below B75
  refine EL_nil ?_
  refine ⟨rfl, ⟨S77.le, fun h => S77.arr 0 rfl⟩, ?_⟩
  refine jT 3 rfl (by kernel_rfl) (.bool false) rfl (fun _ hw ht => r_dec (show (!true) = false from rfl) (r_not (Eq.trans (show _ = Value.bool (within e.kind 1 5) from rfl) (congrArg Value.bool (show (within e.kind 1 5) = true from hc.1))))) ⟨S77.le, fun h => S77.arr 0 rfl⟩ ?_
  refine jT 4 rfl (by kernel_rfl) (.bool false) rfl (fun _ hw ht => r_move rfl) ⟨S77.le, fun h => S77.arr 0 rfl⟩ ?_
  refine jG 5 rfl (by kernel_rfl) 7 rfl rfl rfl rfl (ptr b26 1) rfl (fun _ hw ht => fP 0 rfl U38 (by kernel_rfl)) ⟨S77.le, fun h => S77.arr 0 rfl⟩ ?_
  refine jG 6 rfl (by kernel_rfl) 7 rfl rfl rfl rfl (.int .i64 e.writer) rfl (fun _ hw ht => r_loadA rfl ht (u := (.int .i64 e.writer)) rfl U3 rfl) ⟨S77.le, fun h => S77.arr 0 rfl⟩ ?_
  refine EJ_one 7 (by kernel_rfl) ⟨_, rfl, ?_⟩
  refine eG 7 rfl rfl rfl rfl rfl F92 rfl (within_c e.writer 1 16 _) ?_
  rintro _ w79 ⟨rfl, B78⟩
  have S80 := S77.below B78
  refine EL_nil ?_
  refine ⟨rfl, ⟨S80.le, fun h => S80.arr 0 rfl⟩, ?_⟩
  refine jG 8 rfl (by kernel_rfl) 7 rfl rfl rfl rfl (.bool false) rfl (fun _ hw ht => r_dec (show (!true) = false from rfl) (r_not (Eq.trans (show _ = Value.bool (within e.writer 1 16) from rfl) (congrArg Value.bool (show (within e.writer 1 16) = true from hc.2.1))))) ⟨S80.le, fun h => S80.arr 0 rfl⟩ ?_
  refine jT 9 rfl (by kernel_rfl) (.bool false) rfl (fun _ hw ht => r_pickF rfl rfl) ⟨S80.le, fun h => S80.arr 0 rfl⟩ ?_
  refine jT 10 rfl (by kernel_rfl) (.bool false) rfl (fun _ hw ht => r_move rfl) ⟨S80.le, fun h => S80.arr 0 rfl⟩ ?_
  refine jG 11 rfl (by kernel_rfl) 13 rfl rfl rfl rfl (ptr b26 2) rfl (fun _ hw ht => fP 0 rfl U38 (by kernel_rfl)) ⟨S80.le, fun h => S80.arr 0 rfl⟩ ?_
  refine jG 12 rfl (by kernel_rfl) 13 rfl rfl rfl rfl (.int .i64 e.seq) rfl (fun _ hw ht => r_loadA rfl ht (u := (.int .i64 e.seq)) rfl U3 rfl) ⟨S80.le, fun h => S80.arr 0 rfl⟩ ?_
  refine EJ_one 13 (by kernel_rfl) ⟨_, rfl, ?_⟩
  refine eG 13 rfl rfl rfl rfl rfl F92 rfl (within_c e.seq 1 1099511627776 _) ?_
  rintro _ w82 ⟨rfl, B81⟩
  have S83 := S80.below B81
  refine EL_nil ?_
  refine ⟨rfl, ⟨S83.le, fun h => S83.arr 0 rfl⟩, ?_⟩
  refine jG 14 rfl (by kernel_rfl) 13 rfl rfl rfl rfl (.bool false) rfl (fun _ hw ht => r_dec (show (!true) = false from rfl) (r_not (Eq.trans (show _ = Value.bool (within e.seq 1 1099511627776) from rfl) (congrArg Value.bool (show (within e.seq 1 1099511627776) = true from hc.2.2.1))))) ⟨S83.le, fun h => S83.arr 0 rfl⟩ ?_
  refine jT 15 rfl (by kernel_rfl) (.bool false) rfl (fun _ hw ht => r_pickF rfl rfl) ⟨S83.le, fun h => S83.arr 0 rfl⟩ ?_
  refine jT 16 rfl (by kernel_rfl) (.bool false) rfl (fun _ hw ht => r_move rfl) ⟨S83.le, fun h => S83.arr 0 rfl⟩ ?_
  refine jG 17 rfl (by kernel_rfl) 19 rfl rfl rfl rfl (.agg ((entRC e v14 v17 v23)).toArray) rfl (fun _ hw ht => r_loadAll rfl ht U38 rfl (by kernel_rfl)) ⟨S83.le, fun h => S83.arr 0 rfl⟩ ?_
  refine jG 18 rfl (by kernel_rfl) 19 rfl rfl rfl rfl (.agg ((entRC e v14 v17 v23)).toArray) rfl (fun _ hw ht => r_loadAll rfl ht U38 rfl (by kernel_rfl)) ⟨S83.le, fun h => S83.arr 0 rfl⟩ ?_
  refine EJ_one 19 (by kernel_rfl) ⟨_, rfl, ?_⟩
  refine eG 19 rfl rfl rfl rfl rfl F93 rfl (bare_c (entRC e v14 v17 v23) e I _ _ S83 ⟨v14, v17, v23, rfl, (by first | assumption | (dsimp only; omega)), (by first | assumption | (dsimp only; omega)), (by first | assumption | (dsimp only; omega)), ⟨o15, H16⟩, ⟨o18, H19⟩, (by first | assumption | (dsimp only; omega)), (by first | assumption | (dsimp only; omega)), (by first | assumption | (dsimp only; omega)), ⟨o24, H25⟩⟩) ?_
  rintro _ w84 ⟨cs86, rfl, h87, S85⟩
  obtain ⟨v91, v94, v100, rfl, r88, r89, r90, ⟨o92, H93⟩, ⟨o95, H96⟩, r97, r98, r99, ⟨o101, H102⟩⟩ := h87
  refine EL_nil ?_
  refine ⟨rfl, ⟨S85.le, fun h => S85.arr 0 rfl⟩, ?_⟩
  refine EJ_one 20 (by kernel_rfl) ⟨_, rfl, ?_⟩
  refine eG 19 rfl rfl rfl rfl rfl F23 rfl (Same_c (entRC e v14 v17 v23) (entRC e.bare v91 v94 v100) e e.bare I _ _ S85 ⟨v14, v17, v23, rfl, (by first | assumption | (dsimp only; omega)), (by first | assumption | (dsimp only; omega)), (by first | assumption | (dsimp only; omega)), ⟨o15, H16⟩, ⟨o18, H19⟩, (by first | assumption | (dsimp only; omega)), (by first | assumption | (dsimp only; omega)), (by first | assumption | (dsimp only; omega)), ⟨o24, H25⟩⟩ ⟨v91, v94, v100, rfl, (by first | assumption | (dsimp only; omega)), (by first | assumption | (dsimp only; omega)), (by first | assumption | (dsimp only; omega)), ⟨o92, H93⟩, ⟨o95, H96⟩, (by first | assumption | (dsimp only; omega)), (by first | assumption | (dsimp only; omega)), (by first | assumption | (dsimp only; omega)), ⟨o101, H102⟩⟩) ?_
  rintro _ w103 ⟨rfl, S104⟩
  refine EL_nil ?_
  refine ⟨rfl, ⟨S104.le, fun h => by cases h⟩, ?_⟩
  refine EJ_gfloat 21 rfl (by kernel_rfl) (by kernel_rfl) (by kernel_rfl) rfl 19 rfl rfl rfl rfl (.bool true) rfl (fun _ hw => r_dec (show (!false) = true from rfl) (r_not (Eq.trans (show _ = Value.bool (decide (e = e.bare)) from rfl) (congrArg Value.bool (show (decide (e = e.bare)) = false from by rw [decide_eq_false_iff_not]; exact hc.2.2.2))))) ⟨S104.le, fun h => by cases h⟩ ?_
  refine jF 22 rfl (by kernel_rfl) (.bool true) rfl (fun _ hw => r_pickF rfl rfl) ⟨S104.le, fun h => by cases h⟩ ?_
  refine EJ_done (by kernel_rfl) ?_
  refine thn_n ?_
  refine EC_cond_true rfl ?_
  refine EC_seq (EC_reg (vA (.bool false) rfl rfl (EL_nil (thn_n (EC_ret ?_)))))
  refine thn_r ?_
  refine fin1 Tryz.results71 (show _ = .bool false from rfl) ⟨_, rfl, ?_⟩
  have S105 := S104.dr0
  exact ⟨I, (Gh.le_refl _), (congrArg Value.bool (by rw [Entry.right, Entry.head]; have hc0 := hc.2.2.2; simp [hc0])), S105⟩
  refine EC_any 20 (fun w' => Gh.le I (gh w')) (fun w' => Arr w' b26 38 (entRC e v14 v17 v23)) (by kernel_rfl) ?_
  intro w106 B107
  have S108 := S32.below B107
  refine jT 0 rfl (by kernel_rfl) (ptr b26 0) rfl (fun _ hw ht => fP 0 rfl U38 (by kernel_rfl)) ⟨S108.le, fun h => S108.arr 0 rfl⟩ ?_
  refine jT 1 rfl (by kernel_rfl) (.int .i64 e.kind) rfl (fun _ hw ht => r_loadA rfl ht (u := (.int .i64 e.kind)) rfl U3 rfl) ⟨S108.le, fun h => S108.arr 0 rfl⟩ ?_
  refine EJ_one 2 (by kernel_rfl) ⟨_, rfl, ?_⟩
  refine eR rfl F92 rfl (within_c e.kind 1 5 _) ?_
  rintro _ w110 ⟨rfl, B109⟩
  have S111 := S108.below B109
  refine EL_nil ?_
  refine ⟨rfl, ⟨S111.le, fun h => S111.arr 0 rfl⟩, ?_⟩
  refine jT 3 rfl (by kernel_rfl) (.bool false) rfl (fun _ hw ht => r_dec (show (!true) = false from rfl) (r_not (Eq.trans (show _ = Value.bool (within e.kind 1 5) from rfl) (congrArg Value.bool (show (within e.kind 1 5) = true from hc.1))))) ⟨S111.le, fun h => S111.arr 0 rfl⟩ ?_
  refine jT 4 rfl (by kernel_rfl) (.bool false) rfl (fun _ hw ht => r_move rfl) ⟨S111.le, fun h => S111.arr 0 rfl⟩ ?_
  refine jG 5 rfl (by kernel_rfl) 7 rfl rfl rfl rfl (ptr b26 1) rfl (fun _ hw ht => fP 0 rfl U38 (by kernel_rfl)) ⟨S111.le, fun h => S111.arr 0 rfl⟩ ?_
  refine jG 6 rfl (by kernel_rfl) 7 rfl rfl rfl rfl (.int .i64 e.writer) rfl (fun _ hw ht => r_loadA rfl ht (u := (.int .i64 e.writer)) rfl U3 rfl) ⟨S111.le, fun h => S111.arr 0 rfl⟩ ?_
  refine EJ_one 7 (by kernel_rfl) ⟨_, rfl, ?_⟩
  refine eG 7 rfl rfl rfl rfl rfl F92 rfl (within_c e.writer 1 16 _) ?_
  rintro _ w113 ⟨rfl, B112⟩
  have S114 := S111.below B112
  refine EL_nil ?_
  refine ⟨rfl, ⟨S114.le, fun h => S114.arr 0 rfl⟩, ?_⟩
  refine jG 8 rfl (by kernel_rfl) 7 rfl rfl rfl rfl (.bool false) rfl (fun _ hw ht => r_dec (show (!true) = false from rfl) (r_not (Eq.trans (show _ = Value.bool (within e.writer 1 16) from rfl) (congrArg Value.bool (show (within e.writer 1 16) = true from hc.2.1))))) ⟨S114.le, fun h => S114.arr 0 rfl⟩ ?_
  refine jT 9 rfl (by kernel_rfl) (.bool false) rfl (fun _ hw ht => r_pickF rfl rfl) ⟨S114.le, fun h => S114.arr 0 rfl⟩ ?_
  refine jT 10 rfl (by kernel_rfl) (.bool false) rfl (fun _ hw ht => r_move rfl) ⟨S114.le, fun h => S114.arr 0 rfl⟩ ?_
  refine jG 11 rfl (by kernel_rfl) 13 rfl rfl rfl rfl (ptr b26 2) rfl (fun _ hw ht => fP 0 rfl U38 (by kernel_rfl)) ⟨S114.le, fun h => S114.arr 0 rfl⟩ ?_
  refine jG 12 rfl (by kernel_rfl) 13 rfl rfl rfl rfl (.int .i64 e.seq) rfl (fun _ hw ht => r_loadA rfl ht (u := (.int .i64 e.seq)) rfl U3 rfl) ⟨S114.le, fun h => S114.arr 0 rfl⟩ ?_
  refine EJ_one 13 (by kernel_rfl) ⟨_, rfl, ?_⟩
  refine eG 13 rfl rfl rfl rfl rfl F92 rfl (within_c e.seq 1 1099511627776 _) ?_
  rintro _ w116 ⟨rfl, B115⟩
  have S117 := S114.below B115
  refine EL_nil ?_
  refine ⟨rfl, ⟨S117.le, fun h => S117.arr 0 rfl⟩, ?_⟩
  refine jG 14 rfl (by kernel_rfl) 13 rfl rfl rfl rfl (.bool false) rfl (fun _ hw ht => r_dec (show (!true) = false from rfl) (r_not (Eq.trans (show _ = Value.bool (within e.seq 1 1099511627776) from rfl) (congrArg Value.bool (show (within e.seq 1 1099511627776) = true from hc.2.2.1))))) ⟨S117.le, fun h => S117.arr 0 rfl⟩ ?_
  refine jT 15 rfl (by kernel_rfl) (.bool false) rfl (fun _ hw ht => r_pickF rfl rfl) ⟨S117.le, fun h => S117.arr 0 rfl⟩ ?_
  refine jT 16 rfl (by kernel_rfl) (.bool false) rfl (fun _ hw ht => r_move rfl) ⟨S117.le, fun h => S117.arr 0 rfl⟩ ?_
  refine jG 17 rfl (by kernel_rfl) 19 rfl rfl rfl rfl (.agg ((entRC e v14 v17 v23)).toArray) rfl (fun _ hw ht => r_loadAll rfl ht U38 rfl (by kernel_rfl)) ⟨S117.le, fun h => S117.arr 0 rfl⟩ ?_
  refine jG 18 rfl (by kernel_rfl) 19 rfl rfl rfl rfl (.agg ((entRC e v14 v17 v23)).toArray) rfl (fun _ hw ht => r_loadAll rfl ht U38 rfl (by kernel_rfl)) ⟨S117.le, fun h => S117.arr 0 rfl⟩ ?_
  refine EJ_one 19 (by kernel_rfl) ⟨_, rfl, ?_⟩
  refine eG 19 rfl rfl rfl rfl rfl F93 rfl (bare_c (entRC e v14 v17 v23) e I _ _ S117 ⟨v14, v17, v23, rfl, (by first | assumption | (dsimp only; omega)), (by first | assumption | (dsimp only; omega)), (by first | assumption | (dsimp only; omega)), ⟨o15, H16⟩, ⟨o18, H19⟩, (by first | assumption | (dsimp only; omega)), (by first | assumption | (dsimp only; omega)), (by first | assumption | (dsimp only; omega)), ⟨o24, H25⟩⟩) ?_
  rintro _ w118 ⟨cs120, rfl, h121, S119⟩
  obtain ⟨v125, v128, v134, rfl, r122, r123, r124, ⟨o126, H127⟩, ⟨o129, H130⟩, r131, r132, r133, ⟨o135, H136⟩⟩ := h121
  refine EL_nil ?_
  refine ⟨rfl, ⟨S119.le, fun h => S119.arr 0 rfl⟩, ?_⟩
  refine EJ_one 20 (by kernel_rfl) ⟨_, rfl, ?_⟩
  refine eG 19 rfl rfl rfl rfl rfl F23 rfl (Same_c (entRC e v14 v17 v23) (entRC e.bare v125 v128 v134) e e.bare I _ _ S119 ⟨v14, v17, v23, rfl, (by first | assumption | (dsimp only; omega)), (by first | assumption | (dsimp only; omega)), (by first | assumption | (dsimp only; omega)), ⟨o15, H16⟩, ⟨o18, H19⟩, (by first | assumption | (dsimp only; omega)), (by first | assumption | (dsimp only; omega)), (by first | assumption | (dsimp only; omega)), ⟨o24, H25⟩⟩ ⟨v125, v128, v134, rfl, (by first | assumption | (dsimp only; omega)), (by first | assumption | (dsimp only; omega)), (by first | assumption | (dsimp only; omega)), ⟨o126, H127⟩, ⟨o129, H130⟩, (by first | assumption | (dsimp only; omega)), (by first | assumption | (dsimp only; omega)), (by first | assumption | (dsimp only; omega)), ⟨o135, H136⟩⟩) ?_
  rintro _ w137 ⟨rfl, S138⟩
  refine EL_nil ?_
  refine ⟨rfl, ⟨S138.le, fun h => by cases h⟩, ?_⟩
  refine EJ_gfloat 21 rfl (by kernel_rfl) (by kernel_rfl) (by kernel_rfl) rfl 19 rfl rfl rfl rfl (.bool false) rfl (fun _ hw => r_dec (show (!true) = false from rfl) (r_not (Eq.trans (show _ = Value.bool (decide (e = e.bare)) from rfl) (congrArg Value.bool (show (decide (e = e.bare)) = true from by rw [decide_eq_true_eq]; exact hc.2.2.2))))) ⟨S138.le, fun h => by cases h⟩ ?_
  refine jF 22 rfl (by kernel_rfl) (.bool false) rfl (fun _ hw => r_pickF rfl rfl) ⟨S138.le, fun h => by cases h⟩ ?_
  refine EJ_done (by kernel_rfl) ?_
  refine thn_n ?_
  refine EC_cond_false rfl ?_
  refine EC_skip (thn_n (EC_seq (EC_seq ?_)))
  rcases (by have := within_iff.1 hc.1; omega : e.kind = 1 ∨ e.kind = 2 ∨ e.kind = 3 ∨ e.kind = 4 ∨ e.kind = 5) with hk | hk | hk | hk | hk
  refine EC_reg (vl (ptr b26 0) rfl (fP 0 rfl U38 (by kernel_rfl)) (vL (.int .i64 e.kind) rfl rfl (S138.arr 0 rfl) rfl U3 rfl (EL_nil (thn_n (EC_block ?_)))))
  refine EC_seq (EC_seq (EC_reg (vl (.bool true) rfl (r_dec (show (decide (e.kind = 1)) = true from by rw [decide_eq_true_eq]; omega) (r_eql rfl rfl)) (vA (.bool true) rfl rfl (EL_nil ?_)))))
  refine thn_n ?_
  refine EC_cond_true rfl ?_
  refine EC_skip (thn_n ?_)
  refine EC_cond_true rfl ?_
  refine EC_seq (EC_reg (vl (ptr b26 3) rfl (fP 0 rfl U38 (by kernel_rfl)) (vL v14 rfl rfl (S138.arr 0 rfl) rfl U22 rfl (vl (.int .i64 (e.name.length : Int)) rfl (lenB (r_len rfl (H16 _ S138.le) U22)) ?_))))
  refine eR rfl F92 rfl (within_c (e.name.length : Int) 1 64 _) ?_
  rintro _ w140 ⟨rfl, B139⟩
  have S141 := S138.below B139
  refine vM (.bool (within (e.name.length : Int) 1 64)) rfl rfl (EL_gite 35 rfl rfl rfl (ptr b26 4) rfl (fun g142 => fP 0 rfl U38 (by kernel_rfl)) (EL_gite 35 rfl rfl rfl v17 rfl (fun g143 => r_loadA (cond_of g143 rfl) (S141.arr 0 rfl) (u := v17) rfl U22 rfl) (EL_gite 35 rfl rfl rfl (.int .i64 (e.value.length : Int)) rfl (fun g144 => lenB (r_len (cond_of g144 rfl) (H19 _ S141.le) U22)) (EL_gite 35 rfl rfl rfl (.bool (decide ((e.value.length : Int) ≤ 512))) rfl (fun g145 => r_leq (cond_of g145 rfl) rfl) (vl (.bool ((within (e.name.length : Int) 1 64) && (decide ((e.value.length : Int) ≤ 512)))) rfl (r_and rfl rfl rfl) ?_)))))
  refine vA (.bool ((within (e.name.length : Int) 1 64) && (decide ((e.value.length : Int) ≤ 512)))) rfl rfl (EL_nil (thn_n (EC_ret (inB_r (thn_r ?_)))))
  refine fin1 Tryz.results71 (show _ = .bool ((within (e.name.length : Int) 1 64) && (decide ((e.value.length : Int) ≤ 512))) from rfl) ⟨_, rfl, ?_⟩
  have S146 := S141.dr0
  exact ⟨I, (Gh.le_refl _), (congrArg Value.bool (by rw [Entry.right, Entry.head, hc.1, hc.2.1, hc.2.2.1, decide_eq_true hc.2.2.2, Entry.body, if_pos (.inl hk)] <;> rfl)), S146⟩
  refine EC_reg (vl (ptr b26 0) rfl (fP 0 rfl U38 (by kernel_rfl)) (vL (.int .i64 e.kind) rfl rfl (S138.arr 0 rfl) rfl U3 rfl (EL_nil (thn_n (EC_block ?_)))))
  refine EC_seq (EC_seq (EC_reg (vl (.bool false) rfl (r_dec (show (decide (e.kind = 1)) = false from by rw [decide_eq_false_iff_not]; omega) (r_eql rfl rfl)) (vA (.bool false) rfl rfl (EL_nil ?_)))))
  refine thn_n ?_
  refine EC_cond_false rfl ?_
  refine EC_reg (vl (.bool true) rfl (r_dec (show (decide (e.kind = 2)) = true from by rw [decide_eq_true_eq]; omega) (r_eql rfl rfl)) (vA (.bool true) rfl rfl (EL_nil (thn_n ?_))))
  refine EC_cond_true rfl ?_
  refine EC_seq (EC_reg (vl (ptr b26 3) rfl (fP 0 rfl U38 (by kernel_rfl)) (vL v14 rfl rfl (S138.arr 0 rfl) rfl U22 rfl (vl (.int .i64 (e.name.length : Int)) rfl (lenB (r_len rfl (H16 _ S138.le) U22)) ?_))))
  refine eR rfl F92 rfl (within_c (e.name.length : Int) 1 64 _) ?_
  rintro _ w148 ⟨rfl, B147⟩
  have S149 := S138.below B147
  refine vM (.bool (within (e.name.length : Int) 1 64)) rfl rfl (EL_gite 35 rfl rfl rfl (ptr b26 4) rfl (fun g150 => fP 0 rfl U38 (by kernel_rfl)) (EL_gite 35 rfl rfl rfl v17 rfl (fun g151 => r_loadA (cond_of g151 rfl) (S149.arr 0 rfl) (u := v17) rfl U22 rfl) (EL_gite 35 rfl rfl rfl (.int .i64 (e.value.length : Int)) rfl (fun g152 => lenB (r_len (cond_of g152 rfl) (H19 _ S149.le) U22)) (EL_gite 35 rfl rfl rfl (.bool (decide ((e.value.length : Int) ≤ 512))) rfl (fun g153 => r_leq (cond_of g153 rfl) rfl) (vl (.bool ((within (e.name.length : Int) 1 64) && (decide ((e.value.length : Int) ≤ 512)))) rfl (r_and rfl rfl rfl) ?_)))))
  refine vA (.bool ((within (e.name.length : Int) 1 64) && (decide ((e.value.length : Int) ≤ 512)))) rfl rfl (EL_nil (thn_n (EC_ret (inB_r (thn_r ?_)))))
  refine fin1 Tryz.results71 (show _ = .bool ((within (e.name.length : Int) 1 64) && (decide ((e.value.length : Int) ≤ 512))) from rfl) ⟨_, rfl, ?_⟩
  have S154 := S149.dr0
  exact ⟨I, (Gh.le_refl _), (congrArg Value.bool (by rw [Entry.right, Entry.head, hc.1, hc.2.1, hc.2.2.1, decide_eq_true hc.2.2.2, Entry.body, if_pos (.inr hk)] <;> rfl)), S154⟩
  refine EC_reg (vl (ptr b26 0) rfl (fP 0 rfl U38 (by kernel_rfl)) (vL (.int .i64 e.kind) rfl rfl (S138.arr 0 rfl) rfl U3 rfl (EL_nil (thn_n (EC_block ?_)))))
  refine EC_seq (EC_seq (EC_reg (vl (.bool false) rfl (r_dec (show (decide (e.kind = 1)) = false from by rw [decide_eq_false_iff_not]; omega) (r_eql rfl rfl)) (vA (.bool false) rfl rfl (EL_nil ?_)))))
  refine thn_n ?_
  refine EC_cond_false rfl ?_
  refine EC_reg (vl (.bool false) rfl (r_dec (show (decide (e.kind = 2)) = false from by rw [decide_eq_false_iff_not]; omega) (r_eql rfl rfl)) (vA (.bool false) rfl rfl (EL_nil (thn_n ?_))))
  refine EC_cond_false rfl ?_
  refine EC_seq (EC_reg (vl (.bool true) rfl (r_dec (show (decide (e.kind = 3)) = true from by rw [decide_eq_true_eq]; omega) (r_eql rfl rfl)) (vA (.bool true) rfl rfl (EL_nil (thn_n ?_)))))
  refine EC_cond_true rfl ?_
  refine EC_seq ?_
  rcases (by cases within e.who 1 16 <;> simp : within e.who 1 16 = true ∨ within e.who 1 16 = false) with hd | hd
  refine EC_reg (vl (ptr b26 5) rfl (fP 0 rfl U38 (by kernel_rfl)) (vL (.int .i64 e.who) rfl rfl (S138.arr 0 rfl) rfl U3 rfl ?_))
  refine eR rfl F92 rfl (within_c e.who 1 16 _) ?_
  rintro _ w156 ⟨rfl, B155⟩
  have S157 := S138.below B155
  refine vl (.bool true) rfl (r_move (Eq.trans (show _ = Value.bool (within e.who 1 16) from rfl) (congrArg Value.bool (show (within e.who 1 16) = true from hd)))) (gl  46 rfl rfl rfl rfl (ptr b26 6) rfl (fP 0 rfl U38 (by kernel_rfl)) ?_)
  refine gL  46 rfl rfl rfl rfl (.int .i64 e.rights) rfl rfl (S157.arr 0 rfl) rfl U3 rfl ?_
  refine eG 46 rfl rfl rfl rfl rfl F92 rfl (within_c e.rights 1 7 _) ?_
  rintro _ w159 ⟨rfl, B158⟩
  have S160 := S157.below B158
  refine vT (.bool (within e.rights 1 7)) rfl rfl rfl (vA (.bool (within e.rights 1 7)) rfl rfl (EL_nil (thn_n (EC_ret (inB_r ?_)))))
  refine thn_r ?_
  refine fin1 Tryz.results71 (show _ = .bool (within e.rights 1 7) from rfl) ⟨_, rfl, ?_⟩
  have S161 := S160.dr0
  exact ⟨I, (Gh.le_refl _), (congrArg Value.bool (by rw [Entry.right, Entry.head, hc.1, hc.2.1, hc.2.2.1, decide_eq_true hc.2.2.2, Entry.body, if_neg (by omega), if_pos hk, hd] <;> rfl)), S161⟩
  refine EC_reg (vl (ptr b26 5) rfl (fP 0 rfl U38 (by kernel_rfl)) (vL (.int .i64 e.who) rfl rfl (S138.arr 0 rfl) rfl U3 rfl ?_))
  refine eR rfl F92 rfl (within_c e.who 1 16 _) ?_
  rintro _ w163 ⟨rfl, B162⟩
  have S164 := S138.below B162
  refine vl (.bool false) rfl (r_move (Eq.trans (show _ = Value.bool (within e.who 1 16) from rfl) (congrArg Value.bool (show (within e.who 1 16) = false from hd)))) (EL_pass 46 rfl rfl rfl rfl rfl (EL_pass 46 rfl rfl rfl rfl rfl (EL_pass 46 rfl rfl rfl rfl rfl (vF (.bool false) rfl rfl rfl (vA (.bool false) rfl rfl ?_)))))
  refine EL_nil (thn_n (EC_ret (inB_r (thn_r ?_))))
  refine fin1 Tryz.results71 (show _ = .bool false from rfl) ⟨_, rfl, ?_⟩
  have S165 := S164.dr0
  exact ⟨I, (Gh.le_refl _), (congrArg Value.bool (by rw [Entry.right, Entry.head, hc.1, hc.2.1, hc.2.2.1, decide_eq_true hc.2.2.2, Entry.body, if_neg (by omega), if_pos hk, hd] <;> rfl)), S165⟩
  refine EC_reg (vl (ptr b26 0) rfl (fP 0 rfl U38 (by kernel_rfl)) (vL (.int .i64 e.kind) rfl rfl (S138.arr 0 rfl) rfl U3 rfl (EL_nil (thn_n (EC_block ?_)))))
  refine EC_seq (EC_seq (EC_reg (vl (.bool false) rfl (r_dec (show (decide (e.kind = 1)) = false from by rw [decide_eq_false_iff_not]; omega) (r_eql rfl rfl)) (vA (.bool false) rfl rfl (EL_nil ?_)))))
  refine thn_n ?_
  refine EC_cond_false rfl ?_
  refine EC_reg (vl (.bool false) rfl (r_dec (show (decide (e.kind = 2)) = false from by rw [decide_eq_false_iff_not]; omega) (r_eql rfl rfl)) (vA (.bool false) rfl rfl (EL_nil (thn_n ?_))))
  refine EC_cond_false rfl ?_
  refine EC_seq (EC_reg (vl (.bool false) rfl (r_dec (show (decide (e.kind = 3)) = false from by rw [decide_eq_false_iff_not]; omega) (r_eql rfl rfl)) (vA (.bool false) rfl rfl (EL_nil (thn_n ?_)))))
  refine EC_cond_false rfl ?_
  refine EC_seq (EC_reg (vl (.bool true) rfl (r_dec (show (decide (e.kind = 4)) = true from by rw [decide_eq_true_eq]; omega) (r_eql rfl rfl)) (vA (.bool true) rfl rfl (EL_nil (thn_n ?_)))))
  refine EC_cond_true rfl ?_
  refine EC_seq (EC_reg (vl (ptr b26 5) rfl (fP 0 rfl U38 (by kernel_rfl)) (vL (.int .i64 e.who) rfl rfl (S138.arr 0 rfl) rfl U3 rfl ?_)))
  refine eR rfl F92 rfl (within_c e.who 1 16 _) ?_
  rintro _ w167 ⟨rfl, B166⟩
  have S168 := S138.below B166
  refine vA (.bool (within e.who 1 16)) rfl rfl (EL_nil (thn_n (EC_ret (inB_r (thn_r ?_)))))
  refine fin1 Tryz.results71 (show _ = .bool (within e.who 1 16) from rfl) ⟨_, rfl, ?_⟩
  have S169 := S168.dr0
  exact ⟨I, (Gh.le_refl _), (congrArg Value.bool (by rw [Entry.right, Entry.head, hc.1, hc.2.1, hc.2.2.1, decide_eq_true hc.2.2.2, Entry.body, if_neg (by omega), if_neg (by omega), if_pos hk] <;> rfl)), S169⟩
  refine EC_reg (vl (ptr b26 0) rfl (fP 0 rfl U38 (by kernel_rfl)) (vL (.int .i64 e.kind) rfl rfl (S138.arr 0 rfl) rfl U3 rfl (EL_nil (thn_n (EC_block ?_)))))
  refine EC_seq (EC_seq (EC_reg (vl (.bool false) rfl (r_dec (show (decide (e.kind = 1)) = false from by rw [decide_eq_false_iff_not]; omega) (r_eql rfl rfl)) (vA (.bool false) rfl rfl (EL_nil ?_)))))
  refine thn_n ?_
  refine EC_cond_false rfl ?_
  refine EC_reg (vl (.bool false) rfl (r_dec (show (decide (e.kind = 2)) = false from by rw [decide_eq_false_iff_not]; omega) (r_eql rfl rfl)) (vA (.bool false) rfl rfl (EL_nil (thn_n ?_))))
  refine EC_cond_false rfl ?_
  refine EC_seq (EC_reg (vl (.bool false) rfl (r_dec (show (decide (e.kind = 3)) = false from by rw [decide_eq_false_iff_not]; omega) (r_eql rfl rfl)) (vA (.bool false) rfl rfl (EL_nil (thn_n ?_)))))
  refine EC_cond_false rfl ?_
  refine EC_seq (EC_reg (vl (.bool false) rfl (r_dec (show (decide (e.kind = 4)) = false from by rw [decide_eq_false_iff_not]; omega) (r_eql rfl rfl)) (vA (.bool false) rfl rfl (EL_nil (thn_n ?_)))))
  refine EC_cond_false rfl ?_
  refine EC_skip (inB_n (thn_n (EC_seq ?_)))
  rcases (by cases within e.epoch 1 16 <;> simp : within e.epoch 1 16 = true ∨ within e.epoch 1 16 = false) with hd | hd
  refine EC_reg (vl (ptr b26 7) rfl (fP 0 rfl U38 (by kernel_rfl)) (vL (.int .i64 e.epoch) rfl rfl (S138.arr 0 rfl) rfl U3 rfl ?_))
  refine eR rfl F92 rfl (within_c e.epoch 1 16 _) ?_
  rintro _ w171 ⟨rfl, B170⟩
  have S172 := S138.below B170
  refine vl (.bool true) rfl (r_move (Eq.trans (show _ = Value.bool (within e.epoch 1 16) from rfl) (congrArg Value.bool (show (within e.epoch 1 16) = true from hd)))) (gl  59 rfl rfl rfl rfl (ptr b26 8) rfl (fP 0 rfl U38 (by kernel_rfl)) ?_)
  refine gL  59 rfl rfl rfl rfl v23 rfl rfl (S172.arr 0 rfl) rfl U36 rfl ?_
  refine eG 59 rfl rfl rfl rfl rfl F94 rfl (wraps_c v23 e.wraps I _ _ S172 H25) ?_
  rintro _ w173 ⟨rfl, S174⟩
  refine vT (.bool (wrapsOk e.wraps)) rfl rfl rfl (vA (.bool (wrapsOk e.wraps)) rfl rfl (EL_nil (thn_n (EC_ret ?_))))
  refine fin1 Tryz.results71 (show _ = .bool (wrapsOk e.wraps) from rfl) ⟨_, rfl, ?_⟩
  have S175 := S174.dr0
  exact ⟨I, (Gh.le_refl _), (congrArg Value.bool (by rw [Entry.right, Entry.head, hc.1, hc.2.1, hc.2.2.1, decide_eq_true hc.2.2.2, Entry.body, if_neg (by omega), if_neg (by omega), if_neg (by omega), hd] <;> rfl)), S175⟩
  refine EC_reg (vl (ptr b26 7) rfl (fP 0 rfl U38 (by kernel_rfl)) (vL (.int .i64 e.epoch) rfl rfl (S138.arr 0 rfl) rfl U3 rfl ?_))
  refine eR rfl F92 rfl (within_c e.epoch 1 16 _) ?_
  rintro _ w177 ⟨rfl, B176⟩
  have S178 := S138.below B176
  refine vl (.bool false) rfl (r_move (Eq.trans (show _ = Value.bool (within e.epoch 1 16) from rfl) (congrArg Value.bool (show (within e.epoch 1 16) = false from hd)))) (EL_pass 59 rfl rfl rfl rfl rfl (EL_pass 59 rfl rfl rfl rfl rfl (EL_pass 59 rfl rfl rfl rfl rfl (vF (.bool false) rfl rfl rfl (vA (.bool false) rfl rfl ?_)))))
  refine EL_nil (thn_n (EC_ret ?_))
  refine fin1 Tryz.results71 (show _ = .bool false from rfl) ⟨_, rfl, ?_⟩
  have S179 := S178.dr0
  exact ⟨I, (Gh.le_refl _), (congrArg Value.bool (by rw [Entry.right, Entry.head, hc.1, hc.2.1, hc.2.2.1, decide_eq_true hc.2.2.2, Entry.body, if_neg (by omega), if_neg (by omega), if_neg (by omega), hd] <;> rfl)), S179⟩

end Go.Proofs.YtoajodjcmeijgaaGreat
