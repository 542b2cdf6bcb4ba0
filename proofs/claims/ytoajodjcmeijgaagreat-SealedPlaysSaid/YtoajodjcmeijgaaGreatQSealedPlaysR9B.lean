import Derived.Test.YtoajodjcmeijgaaGreatQSealedPlaysR9A
set_option linter.unusedVariables false
set_option linter.unusedSimpArgs false
namespace Go.Proofs.YtoajodjcmeijgaaGreat
open Go.RowKit Go.Ecal

set_option maxRecDepth 100000 in
set_option maxHeartbeats 4000000 in
theorem join9_c (v0 : Value) (ls : List (List UInt8)) (I : Gh) (R : List HP) (w : World) (S : Sat w I (R)) (Q0 : RoX I v0 bytesR ls) (hb : ls.flatten.length ≤ 1000000000) : Ret Tryz.prog 77 [v0] w fun v w' => ∃ v1 : Value, v1 = v ∧ Sat w' I (OwnB v1 ls.flatten :: R) := by
  have lq0 := XRow.le (Q0.row S.le)
  refine ret_E Tryz.func77 rfl Tryz.ntmps77 (by simp) ?_
  refine EC_seq (EC_reg (vA (.slice none 0 0) rfl rfl (EL_nil (thn_n (EC_seq ?_)))))
  refine EC_reg (vA (.slice none 0 0) rfl rfl (EL_nil (thn_n (EC_seq (EC_seq ?_)))))
  refine EC_reg (vA (.int .i64 0) rfl rfl (EL_nil (thn_n (EC_block ?_))))
  have S12 : Sat w I (OwnB (.slice none 0 0) ((ls.take 0).flatten) :: R) := S.nil 5 1
  refine EC_loop (fun m' E' w' => ∃ ov : Value, ∃ j : Nat, m' = ls.length - j ∧ E' 3 = ov ∧ E' 4 = .int .i64 (j : Int) ∧ E' 0 = v0 ∧ E' 2 = .slice none 0 0 ∧ (j ≤ ls.length) ∧ Sat w' I (OwnB ov ((ls.take j).flatten) :: R)) _ ⟨.slice none 0 0, 0, rfl, rfl, rfl, rfl, rfl, Nat.zero_le _, S12⟩ ?_
  rintro _ E13 w14 ⟨ov, j, rfl, e15, e16, e17, e18, hj, S19⟩
  refine EC_seq (EC_seq (EC_reg (vM (.int .i64 (j : Int)) rfl e16 (vM v0 rfl e17 (vl (.int .i64 (ls.length : Int)) rfl (r_lenX rfl (Q0.row S19.le) U106) ?_)))))
  refine vl (.bool (decide ((j : Int) < (ls.length : Int)))) rfl (r_lss rfl rfl) (EL_nil (thn_n ?_))
  refine EC_if (p := (j : Int) < (ls.length : Int)) rfl (fun h20 => ?_) (fun h20 => ?_)
  refine EC_skip (thn_n (EC_seq (EC_block (EC_reg (vM ov rfl e15 ?_)))))
  refine vM v0 rfl e17 (vM (.int .i64 (j : Int)) rfl e16 (vl (ptr (blkOf v0) (offOf v0 + ((j : Int) : Int).toNat * 1)) rfl (r_indexX rfl (Q0.row S19.le) rfl (by omega) (by first | omega | (simp; omega) | simp) U106 (by kernel_rfl)) ?_))
  obtain ⟨a21, ha22⟩ := get_some (l := ls) (j := ((j : Int) : Int).toNat) (by first | omega | (simp; omega) | simp)
  have fl := flat_le2 (j := j) ha22
  obtain ⟨cs23, hc24, he25⟩ := Q0.el ha22
  obtain ⟨v26, rfl, o27, H28⟩ := hc24
  refine vl v26 rfl (r_load0 rfl (he25 _ S19.le) U22 rfl) ?_
  refine EL_append (v := ov) (xs := ((ls.take j).flatten).map byt) (ys := a21.map byt) 0 elB rfl rfl rfl (own_len (S19.own 0 rfl)) (H28 _ S19.le) (byt_one _) (by first | (simp only [List.length_map, List.length_nil, List.length_append]; omega) | (simp; done) | (simp; omega)) (by decide) (Nat.zero_le _) ?_
  intro v29 w30 O31 G32 A33
  have S34 := S19.gb0 G32 (own_app O31) A33
  refine vA v29 rfl rfl (EL_nil (inB_n (thn_n (EC_reg (vM (.int .i64 (j : Int)) rfl e16 ?_)))))
  refine EL_int ((j : Int) + 1) rfl (r_addi rfl rfl (by omega)) ?_
  intro x35 hx35
  refine vA (.int .i64 x35) rfl rfl (EL_nil (thn_n ?_))
  have q37 : ((ls.take j).flatten) ++ a21 = (ls.take (j + 1)).flatten := take_flat2 (j := j) ha22
  have S36 := S34.ab0 q37
  refine ⟨_, ?_, v29, j + 1, rfl, rfl, (Eq.trans (show _ = Value.int .i64 x35 from rfl) (congrArg _ (by omega))), (by exact e17), (by exact e18), by omega, S36⟩
  first | omega | (simp; omega)
  refine EC_exit (thn_x (thn_x (inB_hit (thn_n (EC_seq ?_)))))
  refine EC_reg (vM ov rfl e15 (vA ov rfl rfl (EL_nil (thn_n (EC_ret ?_)))))
  refine fin1 Tryz.results77 (show _ = ov from rfl) ⟨_, rfl, ?_⟩
  have q39 : (ls.take j).flatten = ls.flatten := by rw [List.take_of_length_le (by omega)]
  have S38 := S19.ab0 q39
  exact ⟨ov, rfl, S38⟩

set_option maxRecDepth 100000 in
set_option maxHeartbeats 4000000 in
theorem Bytes9_c (ce : List Value) (e : Entry) (I : Gh) (R : List HP) (w : World) (S : Sat w I (R)) (he : entR.r I ce e) (hrt : e.right = true) : Ret Tryz.prog 38 [.agg ce.toArray] w fun v w' => ∃ v1 : Value, ∃ J : Gh, Gh.le I J ∧ v1 = v ∧ Sat w' J (OwnB v1 e.encB :: R) := by
  obtain ⟨v14, v17, v23, rfl, r11, r12, r13, ⟨o15, H16⟩, ⟨o18, H19⟩, r20, r21, r22, ⟨o24, H25⟩⟩ := he
  refine ret_E Tryz.func38 rfl Tryz.ntmps38 (by simp) ?_
  refine EC_seq (EC_reg ?_)
  refine EL_box (entRC e v14 v17 v23) rfl rfl rfl ?_
  intro b26 w27 k28 A29 B30 z31
  have S32 := S.newB B30 A29 k28
  refine vA (.slice none 0 0) rfl rfl (EL_nil (thn_n (EC_seq ?_)))
  have hhd := right_head hrt
  skip
  refine EC_any 10 (fun w' => Gh.le I (gh w')) (fun w' => Arr w' b26 51 (entRC e v14 v17 v23)) (by kernel_rfl) ?_
  intro w33 B34
  have S35 := S32.below B34
  refine jT 0 rfl (by kernel_rfl) (ptr b26 0) rfl (fun _ hw ht => fP 0 rfl U51 (by kernel_rfl)) ⟨S35.le, fun h => S35.arr 0 rfl⟩ ?_
  refine jT 1 rfl (by kernel_rfl) (.int .i64 e.kind) rfl (fun _ hw ht => r_loadA rfl ht (u := (.int .i64 e.kind)) rfl U3 rfl) ⟨S35.le, fun h => S35.arr 0 rfl⟩ ?_
  refine jT 3 rfl (by kernel_rfl) (ptr b26 1) rfl (fun _ hw ht => fP 0 rfl U51 (by kernel_rfl)) ⟨S35.le, fun h => S35.arr 0 rfl⟩ ?_
  refine jT 4 rfl (by kernel_rfl) (.int .i64 e.writer) rfl (fun _ hw ht => r_loadA rfl ht (u := (.int .i64 e.writer)) rfl U3 rfl) ⟨S35.le, fun h => S35.arr 0 rfl⟩ ?_
  refine jT 6 rfl (by kernel_rfl) (ptr b26 2) rfl (fun _ hw ht => fP 0 rfl U51 (by kernel_rfl)) ⟨S35.le, fun h => S35.arr 0 rfl⟩ ?_
  refine jT 7 rfl (by kernel_rfl) (.int .i64 e.seq) rfl (fun _ hw ht => r_loadA rfl ht (u := (.int .i64 e.seq)) rfl U3 rfl) ⟨S35.le, fun h => S35.arr 0 rfl⟩ ?_
  refine EJ_one 2 (by kernel_rfl) ⟨_, rfl, ?_⟩
  refine eR rfl F57 rfl (Num8_c e.kind I _ _ S35 (by first | assumption | omega | (simp; done) | (simp; omega))) ?_
  rintro _ w36 ⟨v38, rfl, S37⟩
  have hl39 := be6_len e.kind
  refine EL_nil ?_
  refine ⟨rfl, ⟨S37.le, fun h => S37.arr 1 rfl⟩, ?_⟩
  refine EJ_one 5 (by kernel_rfl) ⟨_, rfl, ?_⟩
  refine eR rfl F57 rfl (Num8_c e.writer I _ _ S37 (by first | assumption | omega | (simp; done) | (simp; omega))) ?_
  rintro _ w40 ⟨v42, rfl, S41⟩
  have hl43 := be6_len e.writer
  refine EL_nil ?_
  refine ⟨rfl, ⟨S41.le, fun h => S41.arr 2 rfl⟩, ?_⟩
  refine EJ_one 8 (by kernel_rfl) ⟨_, rfl, ?_⟩
  refine eR rfl F57 rfl (Num8_c e.seq I _ _ S41 (by first | assumption | omega | (simp; done) | (simp; omega))) ?_
  rintro _ w44 ⟨v46, rfl, S45⟩
  have hl47 := be6_len e.seq
  refine EL_nil ?_
  refine ⟨rfl, ⟨S45.le, fun h => S45.arr 3 rfl⟩, ?_⟩
  refine EJ_one 9 (by kernel_rfl) ⟨_, rfl, ?_⟩
  obtain ⟨I48, le49, S50, H51⟩ := S45.fb2
  obtain ⟨I52, le53, S54, H55⟩ := S50.fb1
  obtain ⟨I56, le57, S58, H59⟩ := S54.fb0
  refine EL_lit1 (l := [(0, v38), (1, v42), (2, v46)]) w44.heap.size [v38, v42, v46] el_106 rfl (by decide) rfl (Nat.le_refl _) (parts3 rfl rfl rfl) (Eq.trans (show Instr.fill _ _ [(0, v38), (1, v42), (2, v46)] = _ from (fill_one rfl (row_cells (H51 _ (lT (lT le53 le57) S58.le))) (by kernel_rfl) (fill_one rfl (row_cells (H55 _ (lT le57 S58.le))) (by kernel_rfl) (fill_one rfl (row_cells (H59 _ S58.le)) (by kernel_rfl) fill_end)))) (by kernel_rfl)) ?_
  intro v60 w61 O62 B63 k64
  have S65 : Sat w61 I56 (OwnX 22 bytesR v60 [be6 e.kind, be6 e.writer, be6 e.seq] :: Blk b26 51 (entRC e v14 v17 v23) :: R) := OwnX.cls (xss := [[v38], [v42], [v46]]) (.cons ⟨_, rfl, (row_one (H51 _ (lT (lT le53 le57) S58.le))), (H51.up (lT le53 le57))⟩ (.cons ⟨_, rfl, (row_one (H55 _ (lT le57 S58.le))), (H55.up le57)⟩ (.cons ⟨_, rfl, (row_one (H59 _ S58.le)), H59⟩ .nil))) (S58.newO B63 O62)
  refine EL_nil ?_
  refine ⟨rfl, ⟨(lT (lT (lT le49 le53) le57) S65.le), fun h => S65.arr 1 rfl⟩, ?_⟩
  refine EJ_strong (fun w' => Gh.le I56 (gh w')) _ (fun w' hw => lT (lT (lT le49 le53) le57) hw) (fun w' _ ht => ht) ?_
  refine EJ_one 10 (by kernel_rfl) ⟨_, rfl, ?_⟩
  have oH69 := (OwnX.one S65 0 rfl (by decide))
  obtain ⟨I66, le67, S68, H69⟩ := S65.fx0 (by decide)
  refine eR rfl F77 rfl (join9_c v60 [be6 e.kind, be6 e.writer, be6 e.seq] I66 _ _ S68 H69 (by simp; omega)) ?_
  rintro _ w70 ⟨v72, rfl, S71⟩
  have q74 : [be6 e.kind, be6 e.writer, be6 e.seq].flatten = (be6 e.kind) ++ ((be6 e.writer) ++ (be6 e.seq)) := by simp only [List.flatten_cons, List.flatten_nil, List.append_nil]
  have S73 := S71.ab0 q74
  have hbl : ((be6 e.kind) ++ ((be6 e.writer) ++ (be6 e.seq))).length = 18 := rfl
  refine EL_nil ?_
  refine ⟨rfl, ⟨(lT le67 S73.le), fun h => by cases h⟩, ?_⟩
  refine EJ_strong (fun w' => Gh.le I66 (gh w')) _ (fun w' hw => lT le67 hw) (fun w' _ ht => ht) ?_
  refine jF 11 rfl (by kernel_rfl) v72 rfl (fun _ hw => r_assign rfl) ⟨S73.le, fun h => by cases h⟩ ?_
  refine EJ_done (by kernel_rfl) ?_
  refine thn_n (EC_seq (EC_seq ?_))
  rcases (by have := right_kind hrt; omega : e.kind = 1 ∨ e.kind = 2 ∨ e.kind = 3 ∨ e.kind = 4 ∨ e.kind = 5) with hk | hk | hk | hk | hk
  have hbo := body_1 hrt (.inl hk)
  refine EC_reg (vl (ptr b26 0) rfl (fP 0 rfl U51 (by kernel_rfl)) (vL (.int .i64 e.kind) rfl rfl (S73.arr 1 rfl) rfl U3 rfl (EL_nil (thn_n (EC_block ?_)))))
  refine EC_seq (EC_reg (vl (.bool true) rfl (r_dec (show (decide (e.kind = 1)) = true from by rw [decide_eq_true_eq]; omega) (r_eql rfl rfl)) (vA (.bool true) rfl rfl (EL_nil (thn_n ?_)))))
  refine EC_cond_true rfl ?_
  refine EC_seq ?_
  refine EC_any 8 (fun w' => Gh.le I66 (gh w')) (fun w' => Arr w' b26 51 (entRC e v14 v17 v23)) (by kernel_rfl) ?_
  intro w75 B76
  have S77 := S73.below B76
  refine jT 0 rfl (by kernel_rfl) v72 rfl (fun _ hw ht => r_move rfl) ⟨S77.le, fun h => S77.arr 1 rfl⟩ ?_
  refine jT 1 rfl (by kernel_rfl) (ptr b26 3) rfl (fun _ hw ht => fP 0 rfl U51 (by kernel_rfl)) ⟨S77.le, fun h => S77.arr 1 rfl⟩ ?_
  refine jT 2 rfl (by kernel_rfl) v14 rfl (fun _ hw ht => r_loadA rfl ht (u := v14) rfl U22 rfl) ⟨S77.le, fun h => S77.arr 1 rfl⟩ ?_
  refine jT 4 rfl (by kernel_rfl) (ptr b26 4) rfl (fun _ hw ht => fP 0 rfl U51 (by kernel_rfl)) ⟨S77.le, fun h => S77.arr 1 rfl⟩ ?_
  refine jT 5 rfl (by kernel_rfl) v17 rfl (fun _ hw ht => r_loadA rfl ht (u := v17) rfl U22 rfl) ⟨S77.le, fun h => S77.arr 1 rfl⟩ ?_
  refine EJ_one 3 (by kernel_rfl) ⟨_, rfl, ?_⟩
  refine eR rfl F40 rfl (Text8_c v14 e.name I66 _ _ S77 (H16.up (lT (lT (lT le49 le53) le57) le67)) (by omega)) ?_
  rintro _ w78 ⟨v80, rfl, S79⟩
  have hl81 : (be2 (e.name.length : Int)).length = 2 := rfl
  refine EL_nil ?_
  refine ⟨rfl, ⟨S79.le, fun h => S79.arr 2 rfl⟩, ?_⟩
  refine EJ_one 6 (by kernel_rfl) ⟨_, rfl, ?_⟩
  refine eR rfl F40 rfl (Text8_c v17 e.value I66 _ _ S79 (H19.up (lT (lT (lT le49 le53) le57) le67)) (by omega)) ?_
  rintro _ w82 ⟨v84, rfl, S83⟩
  have hl85 : (be2 (e.value.length : Int)).length = 2 := rfl
  refine EL_nil ?_
  refine ⟨rfl, ⟨S83.le, fun h => S83.arr 3 rfl⟩, ?_⟩
  refine EJ_one 7 (by kernel_rfl) ⟨_, rfl, ?_⟩
  obtain ⟨I86, le87, S88, H89⟩ := S83.fb2
  obtain ⟨I90, le91, S92, H93⟩ := S88.fb1
  obtain ⟨I94, le95, S96, H97⟩ := S92.fb0
  refine EL_lit1 (l := [(0, v72), (1, v80), (2, v84)]) w82.heap.size [v72, v80, v84] el_106 rfl (by decide) rfl (Nat.le_refl _) (parts3 rfl rfl rfl) (Eq.trans (show Instr.fill _ _ [(0, v72), (1, v80), (2, v84)] = _ from (fill_one rfl (row_cells (H89 _ (lT (lT le91 le95) S96.le))) (by kernel_rfl) (fill_one rfl (row_cells (H93 _ (lT le95 S96.le))) (by kernel_rfl) (fill_one rfl (row_cells (H97 _ S96.le)) (by kernel_rfl) fill_end)))) (by kernel_rfl)) ?_
  intro v98 w99 O100 B101 k102
  have S103 : Sat w99 I94 (OwnX 22 bytesR v98 [(be6 e.kind) ++ ((be6 e.writer) ++ (be6 e.seq)), be2 (e.name.length : Int) ++ e.name, be2 (e.value.length : Int) ++ e.value] :: Blk b26 51 (entRC e v14 v17 v23) :: R) := OwnX.cls (xss := [[v72], [v80], [v84]]) (.cons ⟨_, rfl, (row_one (H89 _ (lT (lT le91 le95) S96.le))), (H89.up (lT le91 le95))⟩ (.cons ⟨_, rfl, (row_one (H93 _ (lT le95 S96.le))), (H93.up le95)⟩ (.cons ⟨_, rfl, (row_one (H97 _ S96.le)), H97⟩ .nil))) (S96.newO B101 O100)
  refine EL_nil ?_
  refine ⟨rfl, ⟨(lT (lT (lT le87 le91) le95) S103.le), fun h => S103.arr 1 rfl⟩, ?_⟩
  refine EJ_strong (fun w' => Gh.le I94 (gh w')) _ (fun w' hw => lT (lT (lT le87 le91) le95) hw) (fun w' _ ht => ht) ?_
  refine EJ_one 8 (by kernel_rfl) ⟨_, rfl, ?_⟩
  have oH107 := (OwnX.one S103 0 rfl (by decide))
  obtain ⟨I104, le105, S106, H107⟩ := S103.fx0 (by decide)
  refine eR rfl F77 rfl (join9_c v98 [(be6 e.kind) ++ ((be6 e.writer) ++ (be6 e.seq)), be2 (e.name.length : Int) ++ e.name, be2 (e.value.length : Int) ++ e.value] I104 _ _ S106 H107 (by simp; omega)) ?_
  rintro _ w108 ⟨v110, rfl, S109⟩
  have q112 : [(be6 e.kind) ++ ((be6 e.writer) ++ (be6 e.seq)), be2 (e.name.length : Int) ++ e.name, be2 (e.value.length : Int) ++ e.value].flatten = ((be6 e.kind) ++ ((be6 e.writer) ++ (be6 e.seq))) ++ ((be2 (e.name.length : Int) ++ e.name) ++ (be2 (e.value.length : Int) ++ e.value)) := by simp only [List.flatten_cons, List.flatten_nil, List.append_nil]
  have S111 := S109.ab0 q112
  refine EL_nil ?_
  refine ⟨rfl, ⟨(lT le105 S111.le), fun h => by cases h⟩, ?_⟩
  refine EJ_strong (fun w' => Gh.le I104 (gh w')) _ (fun w' hw => lT le105 hw) (fun w' _ ht => ht) ?_
  refine jF 9 rfl (by kernel_rfl) v110 rfl (fun _ hw => r_assign rfl) ⟨S111.le, fun h => by cases h⟩ ?_
  refine EJ_done (by kernel_rfl) ?_
  refine thn_n (EC_ret (inB_r (thn_r ?_)))
  refine fin1 Tryz.results38 (show _ = v110 from rfl) ⟨_, rfl, ?_⟩
  have q114 : ((be6 e.kind) ++ ((be6 e.writer) ++ (be6 e.seq))) ++ ((be2 (e.name.length : Int) ++ e.name) ++ (be2 (e.value.length : Int) ++ e.value)) = e.encB := enc_1 hrt hk
  have S113 := S111.ab0 q114
  have S115 := S113.dr1
  exact ⟨v110, I104, (lT (lT (lT (lT (lT (lT (lT le49 le53) le57) le67) le87) le91) le95) le105), rfl, S115⟩
  have hbo := body_1 hrt (.inr hk)
  refine EC_reg (vl (ptr b26 0) rfl (fP 0 rfl U51 (by kernel_rfl)) (vL (.int .i64 e.kind) rfl rfl (S73.arr 1 rfl) rfl U3 rfl (EL_nil (thn_n (EC_block ?_)))))
  refine EC_seq (EC_reg (vl (.bool false) rfl (r_dec (show (decide (e.kind = 1)) = false from by rw [decide_eq_false_iff_not]; omega) (r_eql rfl rfl)) (vA (.bool false) rfl rfl (EL_nil (thn_n ?_)))))
  refine EC_cond_false rfl ?_
  refine EC_seq (EC_reg (vl (.bool true) rfl (r_dec (show (decide (e.kind = 2)) = true from by rw [decide_eq_true_eq]; omega) (r_eql rfl rfl)) (vA (.bool true) rfl rfl (EL_nil (thn_n ?_)))))
  refine EC_cond_true rfl ?_
  refine EC_seq (EC_reg (vM v72 rfl rfl (vl (ptr b26 3) rfl (fP 0 rfl U51 (by kernel_rfl)) (vL v14 rfl rfl (S73.arr 1 rfl) rfl U22 rfl ?_))))
  refine eR rfl F40 rfl (Text8_c v14 e.name I66 _ _ S73 (H16.up (lT (lT (lT le49 le53) le57) le67)) (by omega)) ?_
  rintro _ w116 ⟨v118, rfl, S117⟩
  have hl119 : (be2 (e.name.length : Int)).length = 2 := rfl
  obtain ⟨I120, le121, S122, H123⟩ := S117.fb1
  obtain ⟨I124, le125, S126, H127⟩ := S122.fb0
  refine EL_lit1 (l := [(0, v72), (1, v118)]) w116.heap.size [v72, v118] el_106 rfl (by decide) rfl (Nat.le_refl _) (parts2 rfl rfl) (Eq.trans (show Instr.fill _ _ [(0, v72), (1, v118)] = _ from (fill_one rfl (row_cells (H123 _ (lT le125 S126.le))) (by kernel_rfl) (fill_one rfl (row_cells (H127 _ S126.le)) (by kernel_rfl) fill_end))) (by kernel_rfl)) ?_
  intro v128 w129 O130 B131 k132
  have S133 : Sat w129 I124 (OwnX 22 bytesR v128 [(be6 e.kind) ++ ((be6 e.writer) ++ (be6 e.seq)), be2 (e.name.length : Int) ++ e.name] :: Blk b26 51 (entRC e v14 v17 v23) :: R) := OwnX.cls (xss := [[v72], [v118]]) (.cons ⟨_, rfl, (row_one (H123 _ (lT le125 S126.le))), (H123.up le125)⟩ (.cons ⟨_, rfl, (row_one (H127 _ S126.le)), H127⟩ .nil)) (S126.newO B131 O130)
  have oH137 := (OwnX.one S133 0 rfl (by decide))
  obtain ⟨I134, le135, S136, H137⟩ := S133.fx0 (by decide)
  refine eR rfl F77 rfl (join9_c v128 [(be6 e.kind) ++ ((be6 e.writer) ++ (be6 e.seq)), be2 (e.name.length : Int) ++ e.name] I134 _ _ S136 H137 (by simp; omega)) ?_
  rintro _ w138 ⟨v140, rfl, S139⟩
  have q142 : [(be6 e.kind) ++ ((be6 e.writer) ++ (be6 e.seq)), be2 (e.name.length : Int) ++ e.name].flatten = ((be6 e.kind) ++ ((be6 e.writer) ++ (be6 e.seq))) ++ (be2 (e.name.length : Int) ++ e.name) := by simp only [List.flatten_cons, List.flatten_nil, List.append_nil]
  have S141 := S139.ab0 q142
  refine vA v140 rfl rfl (EL_nil (thn_n (EC_ret (inB_r (thn_r ?_)))))
  refine fin1 Tryz.results38 (show _ = v140 from rfl) ⟨_, rfl, ?_⟩
  have q144 : ((be6 e.kind) ++ ((be6 e.writer) ++ (be6 e.seq))) ++ (be2 (e.name.length : Int) ++ e.name) = e.encB := enc_2 hrt hk
  have S143 := S141.ab0 q144
  have S145 := S143.dr1
  exact ⟨v140, I134, (lT (lT (lT (lT (lT (lT le49 le53) le57) le67) le121) le125) le135), rfl, S145⟩
  have hbo := body_3 hrt hk
  refine EC_reg (vl (ptr b26 0) rfl (fP 0 rfl U51 (by kernel_rfl)) (vL (.int .i64 e.kind) rfl rfl (S73.arr 1 rfl) rfl U3 rfl (EL_nil (thn_n (EC_block ?_)))))
  refine EC_seq (EC_reg (vl (.bool false) rfl (r_dec (show (decide (e.kind = 1)) = false from by rw [decide_eq_false_iff_not]; omega) (r_eql rfl rfl)) (vA (.bool false) rfl rfl (EL_nil (thn_n ?_)))))
  refine EC_cond_false rfl ?_
  refine EC_seq (EC_reg (vl (.bool false) rfl (r_dec (show (decide (e.kind = 2)) = false from by rw [decide_eq_false_iff_not]; omega) (r_eql rfl rfl)) (vA (.bool false) rfl rfl (EL_nil (thn_n ?_)))))
  refine EC_cond_false rfl ?_
  refine EC_seq (EC_reg (vl (.bool true) rfl (r_dec (show (decide (e.kind = 3)) = true from by rw [decide_eq_true_eq]; omega) (r_eql rfl rfl)) (vA (.bool true) rfl rfl (EL_nil (thn_n ?_)))))
  refine EC_cond_true rfl ?_
  refine EC_seq ?_
  refine EC_any 8 (fun w' => Gh.le I66 (gh w')) (fun w' => Arr w' b26 51 (entRC e v14 v17 v23)) (by kernel_rfl) ?_
  intro w146 B147
  have S148 := S73.below B147
  refine jT 0 rfl (by kernel_rfl) v72 rfl (fun _ hw ht => r_move rfl) ⟨S148.le, fun h => S148.arr 1 rfl⟩ ?_
  refine jT 1 rfl (by kernel_rfl) (ptr b26 5) rfl (fun _ hw ht => fP 0 rfl U51 (by kernel_rfl)) ⟨S148.le, fun h => S148.arr 1 rfl⟩ ?_
  refine jT 2 rfl (by kernel_rfl) (.int .i64 e.who) rfl (fun _ hw ht => r_loadA rfl ht (u := (.int .i64 e.who)) rfl U3 rfl) ⟨S148.le, fun h => S148.arr 1 rfl⟩ ?_
  refine jT 4 rfl (by kernel_rfl) (ptr b26 6) rfl (fun _ hw ht => fP 0 rfl U51 (by kernel_rfl)) ⟨S148.le, fun h => S148.arr 1 rfl⟩ ?_
  refine jT 5 rfl (by kernel_rfl) (.int .i64 e.rights) rfl (fun _ hw ht => r_loadA rfl ht (u := (.int .i64 e.rights)) rfl U3 rfl) ⟨S148.le, fun h => S148.arr 1 rfl⟩ ?_
  refine EJ_one 3 (by kernel_rfl) ⟨_, rfl, ?_⟩
  refine eR rfl F57 rfl (Num8_c e.who I66 _ _ S148 (by first | assumption | omega | (simp; done) | (simp; omega))) ?_
  rintro _ w149 ⟨v151, rfl, S150⟩
  have hl152 := be6_len e.who
  refine EL_nil ?_
  refine ⟨rfl, ⟨S150.le, fun h => S150.arr 2 rfl⟩, ?_⟩
  refine EJ_one 6 (by kernel_rfl) ⟨_, rfl, ?_⟩
  refine eR rfl F57 rfl (Num8_c e.rights I66 _ _ S150 (by first | assumption | omega | (simp; done) | (simp; omega))) ?_
  rintro _ w153 ⟨v155, rfl, S154⟩
  have hl156 := be6_len e.rights
  refine EL_nil ?_
  refine ⟨rfl, ⟨S154.le, fun h => S154.arr 3 rfl⟩, ?_⟩
  refine EJ_one 7 (by kernel_rfl) ⟨_, rfl, ?_⟩
  obtain ⟨I157, le158, S159, H160⟩ := S154.fb2
  obtain ⟨I161, le162, S163, H164⟩ := S159.fb1
  obtain ⟨I165, le166, S167, H168⟩ := S163.fb0
  refine EL_lit1 (l := [(0, v72), (1, v151), (2, v155)]) w153.heap.size [v72, v151, v155] el_106 rfl (by decide) rfl (Nat.le_refl _) (parts3 rfl rfl rfl) (Eq.trans (show Instr.fill _ _ [(0, v72), (1, v151), (2, v155)] = _ from (fill_one rfl (row_cells (H160 _ (lT (lT le162 le166) S167.le))) (by kernel_rfl) (fill_one rfl (row_cells (H164 _ (lT le166 S167.le))) (by kernel_rfl) (fill_one rfl (row_cells (H168 _ S167.le)) (by kernel_rfl) fill_end)))) (by kernel_rfl)) ?_
  intro v169 w170 O171 B172 k173
  have S174 : Sat w170 I165 (OwnX 22 bytesR v169 [(be6 e.kind) ++ ((be6 e.writer) ++ (be6 e.seq)), be6 e.who, be6 e.rights] :: Blk b26 51 (entRC e v14 v17 v23) :: R) := OwnX.cls (xss := [[v72], [v151], [v155]]) (.cons ⟨_, rfl, (row_one (H160 _ (lT (lT le162 le166) S167.le))), (H160.up (lT le162 le166))⟩ (.cons ⟨_, rfl, (row_one (H164 _ (lT le166 S167.le))), (H164.up le166)⟩ (.cons ⟨_, rfl, (row_one (H168 _ S167.le)), H168⟩ .nil))) (S167.newO B172 O171)
  refine EL_nil ?_
  refine ⟨rfl, ⟨(lT (lT (lT le158 le162) le166) S174.le), fun h => S174.arr 1 rfl⟩, ?_⟩
  refine EJ_strong (fun w' => Gh.le I165 (gh w')) _ (fun w' hw => lT (lT (lT le158 le162) le166) hw) (fun w' _ ht => ht) ?_
  refine EJ_one 8 (by kernel_rfl) ⟨_, rfl, ?_⟩
  have oH178 := (OwnX.one S174 0 rfl (by decide))
  obtain ⟨I175, le176, S177, H178⟩ := S174.fx0 (by decide)
  refine eR rfl F77 rfl (join9_c v169 [(be6 e.kind) ++ ((be6 e.writer) ++ (be6 e.seq)), be6 e.who, be6 e.rights] I175 _ _ S177 H178 (by simp; omega)) ?_
  rintro _ w179 ⟨v181, rfl, S180⟩
  have q183 : [(be6 e.kind) ++ ((be6 e.writer) ++ (be6 e.seq)), be6 e.who, be6 e.rights].flatten = ((be6 e.kind) ++ ((be6 e.writer) ++ (be6 e.seq))) ++ ((be6 e.who) ++ (be6 e.rights)) := by simp only [List.flatten_cons, List.flatten_nil, List.append_nil]
  have S182 := S180.ab0 q183
  refine EL_nil ?_
  refine ⟨rfl, ⟨(lT le176 S182.le), fun h => by cases h⟩, ?_⟩
  refine EJ_strong (fun w' => Gh.le I175 (gh w')) _ (fun w' hw => lT le176 hw) (fun w' _ ht => ht) ?_
  refine jF 9 rfl (by kernel_rfl) v181 rfl (fun _ hw => r_assign rfl) ⟨S182.le, fun h => by cases h⟩ ?_
  refine EJ_done (by kernel_rfl) ?_
  refine thn_n (EC_ret (inB_r (thn_r ?_)))
  refine fin1 Tryz.results38 (show _ = v181 from rfl) ⟨_, rfl, ?_⟩
  have q185 : ((be6 e.kind) ++ ((be6 e.writer) ++ (be6 e.seq))) ++ ((be6 e.who) ++ (be6 e.rights)) = e.encB := enc_3 hrt hk
  have S184 := S182.ab0 q185
  have S186 := S184.dr1
  exact ⟨v181, I175, (lT (lT (lT (lT (lT (lT (lT le49 le53) le57) le67) le158) le162) le166) le176), rfl, S186⟩
  have hbo := body_4 hrt hk
  refine EC_reg (vl (ptr b26 0) rfl (fP 0 rfl U51 (by kernel_rfl)) (vL (.int .i64 e.kind) rfl rfl (S73.arr 1 rfl) rfl U3 rfl (EL_nil (thn_n (EC_block ?_)))))
  refine EC_seq (EC_reg (vl (.bool false) rfl (r_dec (show (decide (e.kind = 1)) = false from by rw [decide_eq_false_iff_not]; omega) (r_eql rfl rfl)) (vA (.bool false) rfl rfl (EL_nil (thn_n ?_)))))
  refine EC_cond_false rfl ?_
  refine EC_seq (EC_reg (vl (.bool false) rfl (r_dec (show (decide (e.kind = 2)) = false from by rw [decide_eq_false_iff_not]; omega) (r_eql rfl rfl)) (vA (.bool false) rfl rfl (EL_nil (thn_n ?_)))))
  refine EC_cond_false rfl ?_
  refine EC_seq (EC_reg (vl (.bool false) rfl (r_dec (show (decide (e.kind = 3)) = false from by rw [decide_eq_false_iff_not]; omega) (r_eql rfl rfl)) (vA (.bool false) rfl rfl (EL_nil (thn_n ?_)))))
  refine EC_cond_false rfl ?_
  refine EC_seq (EC_reg (vl (.bool true) rfl (r_dec (show (decide (e.kind = 4)) = true from by rw [decide_eq_true_eq]; omega) (r_eql rfl rfl)) (vA (.bool true) rfl rfl (EL_nil (thn_n ?_)))))
  refine EC_cond_true rfl ?_
  refine EC_seq (EC_reg (vM v72 rfl rfl (vl (ptr b26 5) rfl (fP 0 rfl U51 (by kernel_rfl)) (vL (.int .i64 e.who) rfl rfl (S73.arr 1 rfl) rfl U3 rfl ?_))))
  refine eR rfl F57 rfl (Num8_c e.who I66 _ _ S73 (by first | assumption | omega | (simp; done) | (simp; omega))) ?_
  rintro _ w187 ⟨v189, rfl, S188⟩
  have hl190 := be6_len e.who
  obtain ⟨I191, le192, S193, H194⟩ := S188.fb1
  obtain ⟨I195, le196, S197, H198⟩ := S193.fb0
  refine EL_lit1 (l := [(0, v72), (1, v189)]) w187.heap.size [v72, v189] el_106 rfl (by decide) rfl (Nat.le_refl _) (parts2 rfl rfl) (Eq.trans (show Instr.fill _ _ [(0, v72), (1, v189)] = _ from (fill_one rfl (row_cells (H194 _ (lT le196 S197.le))) (by kernel_rfl) (fill_one rfl (row_cells (H198 _ S197.le)) (by kernel_rfl) fill_end))) (by kernel_rfl)) ?_
  intro v199 w200 O201 B202 k203
  have S204 : Sat w200 I195 (OwnX 22 bytesR v199 [(be6 e.kind) ++ ((be6 e.writer) ++ (be6 e.seq)), be6 e.who] :: Blk b26 51 (entRC e v14 v17 v23) :: R) := OwnX.cls (xss := [[v72], [v189]]) (.cons ⟨_, rfl, (row_one (H194 _ (lT le196 S197.le))), (H194.up le196)⟩ (.cons ⟨_, rfl, (row_one (H198 _ S197.le)), H198⟩ .nil)) (S197.newO B202 O201)
  have oH208 := (OwnX.one S204 0 rfl (by decide))
  obtain ⟨I205, le206, S207, H208⟩ := S204.fx0 (by decide)
  refine eR rfl F77 rfl (join9_c v199 [(be6 e.kind) ++ ((be6 e.writer) ++ (be6 e.seq)), be6 e.who] I205 _ _ S207 H208 (by simp; omega)) ?_
  rintro _ w209 ⟨v211, rfl, S210⟩
  have q213 : [(be6 e.kind) ++ ((be6 e.writer) ++ (be6 e.seq)), be6 e.who].flatten = ((be6 e.kind) ++ ((be6 e.writer) ++ (be6 e.seq))) ++ (be6 e.who) := by simp only [List.flatten_cons, List.flatten_nil, List.append_nil]
  have S212 := S210.ab0 q213
  refine vA v211 rfl rfl (EL_nil (thn_n (EC_ret (inB_r (thn_r ?_)))))
  refine fin1 Tryz.results38 (show _ = v211 from rfl) ⟨_, rfl, ?_⟩
  have q215 : ((be6 e.kind) ++ ((be6 e.writer) ++ (be6 e.seq))) ++ (be6 e.who) = e.encB := enc_4 hrt hk
  have S214 := S212.ab0 q215
  have S216 := S214.dr1
  exact ⟨v211, I205, (lT (lT (lT (lT (lT (lT le49 le53) le57) le67) le192) le196) le206), rfl, S216⟩
  have hbo := body_5 hrt hk
  refine EC_reg (vl (ptr b26 0) rfl (fP 0 rfl U51 (by kernel_rfl)) (vL (.int .i64 e.kind) rfl rfl (S73.arr 1 rfl) rfl U3 rfl (EL_nil (thn_n (EC_block ?_)))))
  refine EC_seq (EC_reg (vl (.bool false) rfl (r_dec (show (decide (e.kind = 1)) = false from by rw [decide_eq_false_iff_not]; omega) (r_eql rfl rfl)) (vA (.bool false) rfl rfl (EL_nil (thn_n ?_)))))
  refine EC_cond_false rfl ?_
  refine EC_seq (EC_reg (vl (.bool false) rfl (r_dec (show (decide (e.kind = 2)) = false from by rw [decide_eq_false_iff_not]; omega) (r_eql rfl rfl)) (vA (.bool false) rfl rfl (EL_nil (thn_n ?_)))))
  refine EC_cond_false rfl ?_
  refine EC_seq (EC_reg (vl (.bool false) rfl (r_dec (show (decide (e.kind = 3)) = false from by rw [decide_eq_false_iff_not]; omega) (r_eql rfl rfl)) (vA (.bool false) rfl rfl (EL_nil (thn_n ?_)))))
  refine EC_cond_false rfl ?_
  refine EC_seq (EC_reg (vl (.bool false) rfl (r_dec (show (decide (e.kind = 4)) = false from by rw [decide_eq_false_iff_not]; omega) (r_eql rfl rfl)) (vA (.bool false) rfl rfl (EL_nil (thn_n ?_)))))
  refine EC_cond_false rfl ?_
  refine EC_skip (inB_n (thn_n (EC_seq ?_)))
  refine EC_any 9 (fun w' => Gh.le I66 (gh w')) (fun w' => Arr w' b26 51 (entRC e v14 v17 v23)) (by kernel_rfl) ?_
  intro w217 B218
  have S219 := S73.below B218
  refine jT 0 rfl (by kernel_rfl) v72 rfl (fun _ hw ht => r_move rfl) ⟨S219.le, fun h => S219.arr 1 rfl⟩ ?_
  refine jT 1 rfl (by kernel_rfl) (ptr b26 7) rfl (fun _ hw ht => fP 0 rfl U51 (by kernel_rfl)) ⟨S219.le, fun h => S219.arr 1 rfl⟩ ?_
  refine jT 2 rfl (by kernel_rfl) (.int .i64 e.epoch) rfl (fun _ hw ht => r_loadA rfl ht (u := (.int .i64 e.epoch)) rfl U3 rfl) ⟨S219.le, fun h => S219.arr 1 rfl⟩ ?_
  refine jT 4 rfl (by kernel_rfl) (ptr b26 8) rfl (fun _ hw ht => fP 0 rfl U51 (by kernel_rfl)) ⟨S219.le, fun h => S219.arr 1 rfl⟩ ?_
  refine jT 5 rfl (by kernel_rfl) v23 rfl (fun _ hw ht => r_loadA rfl ht (u := v23) rfl U49 rfl) ⟨S219.le, fun h => S219.arr 1 rfl⟩ ?_
  refine jT 6 rfl (by kernel_rfl) (.int .i64 (e.wraps.length : Int)) rfl (fun _ hw ht => r_lenX rfl (H25.row (lT (lT (lT (lT le49 le53) le57) le67) hw)) U49) ⟨S219.le, fun h => S219.arr 1 rfl⟩ ?_
  refine EJ_one 3 (by kernel_rfl) ⟨_, rfl, ?_⟩
  refine eR rfl F57 rfl (Num8_c e.epoch I66 _ _ S219 (by first | assumption | omega | (simp; done) | (simp; omega))) ?_
  rintro _ w220 ⟨v222, rfl, S221⟩
  have hl223 := be6_len e.epoch
  refine EL_nil ?_
  refine ⟨rfl, ⟨S221.le, fun h => S221.arr 2 rfl⟩, ?_⟩
  refine EJ_one 7 (by kernel_rfl) ⟨_, rfl, ?_⟩
  refine eR rfl F57 rfl (Num8_c (e.wraps.length : Int) I66 _ _ S221 (by first | assumption | omega | (simp; done) | (simp; omega))) ?_
  rintro _ w224 ⟨v226, rfl, S225⟩
  have hl227 := be6_len (e.wraps.length : Int)
  refine EL_nil ?_
  refine ⟨rfl, ⟨S225.le, fun h => S225.arr 3 rfl⟩, ?_⟩
  refine EJ_one 8 (by kernel_rfl) ⟨_, rfl, ?_⟩
  obtain ⟨I228, le229, S230, H231⟩ := S225.fb2
  obtain ⟨I232, le233, S234, H235⟩ := S230.fb1
  obtain ⟨I236, le237, S238, H239⟩ := S234.fb0
  refine EL_lit1 (l := [(0, v72), (1, v222), (2, v226)]) w224.heap.size [v72, v222, v226] el_106 rfl (by decide) rfl (Nat.le_refl _) (parts3 rfl rfl rfl) (Eq.trans (show Instr.fill _ _ [(0, v72), (1, v222), (2, v226)] = _ from (fill_one rfl (row_cells (H231 _ (lT (lT le233 le237) S238.le))) (by kernel_rfl) (fill_one rfl (row_cells (H235 _ (lT le237 S238.le))) (by kernel_rfl) (fill_one rfl (row_cells (H239 _ S238.le)) (by kernel_rfl) fill_end)))) (by kernel_rfl)) ?_
  intro v240 w241 O242 B243 k244
  have S245 : Sat w241 I236 (OwnX 22 bytesR v240 [(be6 e.kind) ++ ((be6 e.writer) ++ (be6 e.seq)), be6 e.epoch, be6 (e.wraps.length : Int)] :: Blk b26 51 (entRC e v14 v17 v23) :: R) := OwnX.cls (xss := [[v72], [v222], [v226]]) (.cons ⟨_, rfl, (row_one (H231 _ (lT (lT le233 le237) S238.le))), (H231.up (lT le233 le237))⟩ (.cons ⟨_, rfl, (row_one (H235 _ (lT le237 S238.le))), (H235.up le237)⟩ (.cons ⟨_, rfl, (row_one (H239 _ S238.le)), H239⟩ .nil))) (S238.newO B243 O242)
  refine EL_nil ?_
  refine ⟨rfl, ⟨(lT (lT (lT le229 le233) le237) S245.le), fun h => S245.arr 1 rfl⟩, ?_⟩
  refine EJ_strong (fun w' => Gh.le I236 (gh w')) _ (fun w' hw => lT (lT (lT le229 le233) le237) hw) (fun w' _ ht => ht) ?_
  refine EJ_one 9 (by kernel_rfl) ⟨_, rfl, ?_⟩
  have oH249 := (OwnX.one S245 0 rfl (by decide))
  obtain ⟨I246, le247, S248, H249⟩ := S245.fx0 (by decide)
  refine eR rfl F77 rfl (join9_c v240 [(be6 e.kind) ++ ((be6 e.writer) ++ (be6 e.seq)), be6 e.epoch, be6 (e.wraps.length : Int)] I246 _ _ S248 H249 (by simp; omega)) ?_
  rintro _ w250 ⟨v252, rfl, S251⟩
  have q254 : [(be6 e.kind) ++ ((be6 e.writer) ++ (be6 e.seq)), be6 e.epoch, be6 (e.wraps.length : Int)].flatten = ((be6 e.kind) ++ ((be6 e.writer) ++ (be6 e.seq))) ++ ((be6 e.epoch) ++ (be6 (e.wraps.length : Int))) := by simp only [List.flatten_cons, List.flatten_nil, List.append_nil]
  have S253 := S251.ab0 q254
  refine EL_nil ?_
  refine ⟨rfl, ⟨(lT le247 S253.le), fun h => by cases h⟩, ?_⟩
  refine EJ_strong (fun w' => Gh.le I246 (gh w')) _ (fun w' hw => lT le247 hw) (fun w' _ ht => ht) ?_
  refine jF 10 rfl (by kernel_rfl) v252 rfl (fun _ hw => r_assign rfl) ⟨S253.le, fun h => by cases h⟩ ?_
  refine EJ_done (by kernel_rfl) ?_
  refine thn_n (EC_seq (EC_seq (EC_reg (vA (.int .i64 0) rfl rfl (EL_nil ?_)))))
  refine thn_n (EC_block ?_)
  have q256 : ((be6 e.kind) ++ ((be6 e.writer) ++ (be6 e.seq))) ++ ((be6 e.epoch) ++ (be6 (e.wraps.length : Int))) = wrapsTo e 0 := wto_zero hrt hk
  have S255 := S253.ab0 q256
  refine EC_loop (fun m' E' w' => ∃ j : Nat, ∃ qv : Value, ∃ J : Gh, m' = e.wraps.length - j ∧ E' 4 = .int .i64 (j : Int) ∧ E' 3 = qv ∧ E' 1 = ptr b26 ∧ E' 2 = .slice none 0 0 ∧ (j ≤ e.wraps.length) ∧ Gh.le I246 J ∧ Sat w' J (OwnB qv (wrapsTo e j) :: Blk b26 51 (entRC e v14 v17 v23) :: R)) _ ⟨0, v252, I246, rfl, rfl, rfl, rfl, rfl, Nat.zero_le _, (Gh.le_refl _), S255⟩ ?_
  rintro _ E257 w258 ⟨j, qv, I259, rfl, e260, e261, e262, e263, hj, le264, S265⟩
  refine EC_seq (EC_seq (EC_reg (vM (.int .i64 (j : Int)) rfl e260 (vl (ptr b26 8) rfl (fP 0 (by exact e262) U51 (by kernel_rfl)) (vL v23 rfl rfl (S265.arr 1 rfl) rfl U49 rfl ?_)))))
  refine vl (.int .i64 (e.wraps.length : Int)) rfl (r_lenX rfl (H25.row (lT (lT (lT (lT (lT (lT (lT (lT (lT le49 le53) le57) le67) le229) le233) le237) le247) le264) S265.le)) U49) (vl (.bool (decide ((j : Int) < (e.wraps.length : Int)))) rfl (r_lss rfl rfl) (EL_nil (thn_n ?_)))
  refine EC_if (p := (j : Int) < (e.wraps.length : Int)) rfl (fun h266 => ?_) (fun h266 => ?_)
  refine EC_skip (thn_n (EC_seq (EC_block ?_)))
  obtain ⟨a267, ha268⟩ := get_some (l := e.wraps) (j := ((j : Int) : Int).toNat) (by first | omega | (simp; omega) | simp)
  obtain ⟨cs269, hc270, he271⟩ := H25.el ha268
  obtain ⟨v273, rfl, r272, ⟨o274, H275⟩⟩ := hc270
  have hwb := hbo.2.1 a267 (List.mem_of_getElem? ha268)
  have hwl := wto_len e j
  skip
  refine EC_any 16 (fun w' => Gh.le I259 (gh w')) (fun w' => Arr w' b26 51 (entRC e v14 v17 v23)) (by kernel_rfl) ?_
  intro w276 B277
  have S278 := S265.below B277
  refine jT 0 rfl (by kernel_rfl) qv rfl (fun _ hw ht => r_move (by exact e261)) ⟨S278.le, fun h => S278.arr 1 rfl⟩ ?_
  refine jT 1 rfl (by kernel_rfl) (ptr b26 8) rfl (fun _ hw ht => fP 0 (by exact e262) U51 (by kernel_rfl)) ⟨S278.le, fun h => S278.arr 1 rfl⟩ ?_
  refine jT 2 rfl (by kernel_rfl) v23 rfl (fun _ hw ht => r_loadA rfl ht (u := v23) rfl U49 rfl) ⟨S278.le, fun h => S278.arr 1 rfl⟩ ?_
  refine jT 3 rfl (by kernel_rfl) (.int .i64 (j : Int)) rfl (fun _ hw ht => r_move (by exact e260)) ⟨S278.le, fun h => S278.arr 1 rfl⟩ ?_
  refine jT 4 rfl (by kernel_rfl) (ptr (blkOf v23) (offOf v23 + ((j : Int) : Int).toNat * 2)) rfl (fun _ hw ht => r_indexX rfl (H25.row (lT (lT (lT (lT (lT (lT (lT (lT (lT le49 le53) le57) le67) le229) le233) le237) le247) le264) hw)) rfl (by omega) (by first | omega | (simp; omega) | simp) U49 (by kernel_rfl)) ⟨S278.le, fun h => S278.arr 1 rfl⟩ ?_
  refine jT 5 rfl (by kernel_rfl) (ptr (blkOf v23) (offOf v23 + ((j : Int) : Int).toNat * 2 + 0)) rfl (fun _ hw ht => r_fieldP (s := 1) rfl U91 rfl (by kernel_rfl) (by decide) rfl) ⟨S278.le, fun h => S278.arr 1 rfl⟩ ?_
  obtain ⟨cs279, hc280, he281⟩ := H25.el ha268
  obtain ⟨v283, rfl, r282, ⟨o284, H285⟩⟩ := hc280
  refine jT 6 rfl (by kernel_rfl) (.int .i64 a267.who) rfl (fun _ hw ht => r_loadF (k := 0) rfl (he281 _ (lT (lT (lT (lT (lT (lT (lT (lT (lT le49 le53) le57) le67) le229) le233) le237) le247) le264) hw)) rfl U3 rfl) ⟨S278.le, fun h => S278.arr 1 rfl⟩ ?_
  refine jT 8 rfl (by kernel_rfl) (ptr b26 8) rfl (fun _ hw ht => fP 0 (by exact e262) U51 (by kernel_rfl)) ⟨S278.le, fun h => S278.arr 1 rfl⟩ ?_
  refine jT 9 rfl (by kernel_rfl) v23 rfl (fun _ hw ht => r_loadA rfl ht (u := v23) rfl U49 rfl) ⟨S278.le, fun h => S278.arr 1 rfl⟩ ?_
  refine jT 10 rfl (by kernel_rfl) (.int .i64 (j : Int)) rfl (fun _ hw ht => r_move (by exact e260)) ⟨S278.le, fun h => S278.arr 1 rfl⟩ ?_
  refine jT 11 rfl (by kernel_rfl) (ptr (blkOf v23) (offOf v23 + ((j : Int) : Int).toNat * 2)) rfl (fun _ hw ht => r_indexX rfl (H25.row (lT (lT (lT (lT (lT (lT (lT (lT (lT le49 le53) le57) le67) le229) le233) le237) le247) le264) hw)) rfl (by omega) (by first | omega | (simp; omega) | simp) U49 (by kernel_rfl)) ⟨S278.le, fun h => S278.arr 1 rfl⟩ ?_
  refine jT 12 rfl (by kernel_rfl) (ptr (blkOf v23) (offOf v23 + ((j : Int) : Int).toNat * 2 + 1)) rfl (fun _ hw ht => r_fieldP (s := 1) rfl U91 rfl (by kernel_rfl) (by decide) rfl) ⟨S278.le, fun h => S278.arr 1 rfl⟩ ?_
  obtain ⟨cs286, hc287, he288⟩ := H25.el ha268
  obtain ⟨v290, rfl, r289, ⟨o291, H292⟩⟩ := hc287
  refine jT 13 rfl (by kernel_rfl) v290 rfl (fun _ hw ht => r_loadF (k := 1) rfl (he288 _ (lT (lT (lT (lT (lT (lT (lT (lT (lT le49 le53) le57) le67) le229) le233) le237) le247) le264) hw)) rfl U22 rfl) ⟨S278.le, fun h => S278.arr 1 rfl⟩ ?_
  refine EJ_one 7 (by kernel_rfl) ⟨_, rfl, ?_⟩
  refine eR rfl F57 rfl (Num8_c a267.who I259 _ _ S278 (by first | assumption | omega | (simp; done) | (simp; omega))) ?_
  rintro _ w293 ⟨v295, rfl, S294⟩
  have hl296 := be6_len a267.who
  refine EL_nil ?_
  refine ⟨rfl, ⟨S294.le, fun h => S294.arr 2 rfl⟩, ?_⟩
  refine EJ_one 14 (by kernel_rfl) ⟨_, rfl, ?_⟩
  refine eR rfl F40 rfl (Text8_c v290 a267.box I259 _ _ S294 (H292.up (lT (lT (lT (lT (lT (lT (lT (lT le49 le53) le57) le67) le229) le233) le237) le247) le264)) (by omega)) ?_
  rintro _ w297 ⟨v299, rfl, S298⟩
  have hl300 : (be2 (a267.box.length : Int)).length = 2 := rfl
  refine EL_nil ?_
  refine ⟨rfl, ⟨S298.le, fun h => S298.arr 3 rfl⟩, ?_⟩
  refine EJ_one 15 (by kernel_rfl) ⟨_, rfl, ?_⟩
  obtain ⟨I301, le302, S303, H304⟩ := S298.fb2
  obtain ⟨I305, le306, S307, H308⟩ := S303.fb1
  obtain ⟨I309, le310, S311, H312⟩ := S307.fb0
  refine EL_lit1 (l := [(0, qv), (1, v295), (2, v299)]) w297.heap.size [qv, v295, v299] el_106 rfl (by decide) rfl (Nat.le_refl _) (parts3 rfl rfl rfl) (Eq.trans (show Instr.fill _ _ [(0, qv), (1, v295), (2, v299)] = _ from (fill_one rfl (row_cells (H304 _ (lT (lT le306 le310) S311.le))) (by kernel_rfl) (fill_one rfl (row_cells (H308 _ (lT le310 S311.le))) (by kernel_rfl) (fill_one rfl (row_cells (H312 _ S311.le)) (by kernel_rfl) fill_end)))) (by kernel_rfl)) ?_
  intro v313 w314 O315 B316 k317
  have S318 : Sat w314 I309 (OwnX 22 bytesR v313 [wrapsTo e j, be6 a267.who, be2 (a267.box.length : Int) ++ a267.box] :: Blk b26 51 (entRC e v14 v17 v23) :: R) := OwnX.cls (xss := [[qv], [v295], [v299]]) (.cons ⟨_, rfl, (row_one (H304 _ (lT (lT le306 le310) S311.le))), (H304.up (lT le306 le310))⟩ (.cons ⟨_, rfl, (row_one (H308 _ (lT le310 S311.le))), (H308.up le310)⟩ (.cons ⟨_, rfl, (row_one (H312 _ S311.le)), H312⟩ .nil))) (S311.newO B316 O315)
  refine EL_nil ?_
  refine ⟨rfl, ⟨(lT (lT (lT le302 le306) le310) S318.le), fun h => S318.arr 1 rfl⟩, ?_⟩
  refine EJ_strong (fun w' => Gh.le I309 (gh w')) _ (fun w' hw => lT (lT (lT le302 le306) le310) hw) (fun w' _ ht => ht) ?_
  refine EJ_one 16 (by kernel_rfl) ⟨_, rfl, ?_⟩
  have oH322 := (OwnX.one S318 0 rfl (by decide))
  obtain ⟨I319, le320, S321, H322⟩ := S318.fx0 (by decide)
  refine eR rfl F77 rfl (join9_c v313 [wrapsTo e j, be6 a267.who, be2 (a267.box.length : Int) ++ a267.box] I319 _ _ S321 H322 (by simp; omega)) ?_
  rintro _ w323 ⟨v325, rfl, S324⟩
  have q327 : [wrapsTo e j, be6 a267.who, be2 (a267.box.length : Int) ++ a267.box].flatten = (wrapsTo e j) ++ ((be6 a267.who) ++ (be2 (a267.box.length : Int) ++ a267.box)) := by simp only [List.flatten_cons, List.flatten_nil, List.append_nil]
  have S326 := S324.ab0 q327
  refine EL_nil ?_
  refine ⟨rfl, ⟨(lT le320 S326.le), fun h => by cases h⟩, ?_⟩
  refine EJ_strong (fun w' => Gh.le I319 (gh w')) _ (fun w' hw => lT le320 hw) (fun w' _ ht => ht) ?_
  refine jF 17 rfl (by kernel_rfl) v325 rfl (fun _ hw => r_assign rfl) ⟨S326.le, fun h => by cases h⟩ ?_
  refine EJ_done (by kernel_rfl) ?_
  refine inB_n (thn_n (EC_reg (vM (.int .i64 (j : Int)) rfl e260 ?_)))
  refine EL_int ((j : Int) + 1) rfl (r_addi rfl rfl (by omega)) ?_
  intro x328 hx328
  refine vA (.int .i64 x328) rfl rfl (EL_nil (thn_n ?_))
  have q330 : (wrapsTo e j) ++ ((be6 a267.who) ++ (be2 (a267.box.length : Int) ++ a267.box)) = wrapsTo e (j + 1) := wto_step hrt hk (show e.wraps[j]? = _ from ha268)
  have S329 := S326.ab0 q330
  refine ⟨_, ?_, j + 1, v325, I319, rfl, (Eq.trans (show _ = Value.int .i64 x328 from rfl) (congrArg _ (by omega))), rfl, (by exact e262), (by exact e263), by omega, (lT (lT (lT (lT le264 le302) le306) le310) le320), S329⟩
  first | omega | (simp; omega)
  refine EC_exit (thn_x (thn_x (inB_hit (thn_n (EC_seq ?_)))))
  refine EC_reg (vM qv rfl e261 (vA qv rfl rfl (EL_nil (thn_n (EC_ret ?_)))))
  refine fin1 Tryz.results38 (show _ = qv from rfl) ⟨_, rfl, ?_⟩
  have q332 : wrapsTo e j = e.encB := wto_end hrt hk (by omega)
  have S331 := S265.ab0 q332
  have S333 := S331.dr1
  exact ⟨qv, I259, (lT (lT (lT (lT (lT (lT (lT (lT le49 le53) le57) le67) le229) le233) le237) le247) le264), rfl, S333⟩

end Go.Proofs.YtoajodjcmeijgaaGreat
