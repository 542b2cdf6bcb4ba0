import Derived.Test.YtoajodjcmeijgaaGreatQSealedPlaysR9C
import Derived.Test.YtoajodjcmeijgaaGreatQSealedPlaysR15B
set_option linter.unusedVariables false
set_option linter.unusedSimpArgs false
namespace Go.Proofs.YtoajodjcmeijgaaGreat
open Go.RowKit Go.Ecal

set_option maxRecDepth 100000 in
set_option maxHeartbeats 4000000 in
theorem Seal15_c (p : Value) (L : List Thing) (v0 : Value) (s : List UInt8) (v1 : Value) (k : List UInt8) (cr : List Value) (r : Record) (ce : List Value) (e : Entry) (I : Gh) (R : List HP) (w : World) (S : Sat w I (RefT p L :: R)) (Q0 : RoB I v0 s) (Q1 : RoB I v1 k) (hr : recR.r I cr r) (he : entR.r I ce e) (hl : L.length ≤ 800000) (hP : Plain L) (hs : s.length ≤ 100000) : Ret Tryz.prog 11 [p, v0, v1, .agg cr.toArray, .agg ce.toArray] w fun v w' => ∃ cq : List Value, ∃ J : Gh, Gh.le I J ∧ .tuple #[.agg cq.toArray, .int .i64 (sealRE k r e)] = v ∧ recR.r J cq (sealRR L s k r e) ∧ Sat w' J (RefT p (sealRL L s k r e) :: R) := by
  have lq0 := RoB.le Q0 S.le
  have lq1 := RoB.le Q1 S.le
  obtain ⟨v15, rfl, r11, r12, r13, r14, ⟨o16, H17⟩⟩ := hr
  obtain ⟨v21, v24, v30, rfl, r18, r19, r20, ⟨o22, H23⟩, ⟨o25, H26⟩, r27, r28, r29, ⟨o31, H32⟩⟩ := he
  refine ret_E Tryz.func11 rfl Tryz.ntmps11 (by simp) ?_
  refine EC_seq (EC_reg ?_)
  refine EL_box (recRC r v15) rfl rfl rfl ?_
  intro b33 w34 k35 A36 B37 z38
  have S39 := S.newB B37 A36 k35
  refine EL_box (entRC e v21 v24 v30) rfl rfl rfl ?_
  intro b40 w41 k42 A43 B44 z45
  have S46 := S39.newB B44 A43 k42
  refine EL_alloc (z := .agg #[.int .i64 0, .int .i64 0, .int .i64 0, .int .i64 0, .slice none 0 0]) recR0 rfl (by kernel_rfl) rfl ?_
  intro b47 w48 k49 A50 B51 z52
  have S53 := S46.newB B51 A50 k49
  refine vA (.int .i64 0) rfl rfl (EL_nil (thn_n (EC_seq (EC_seq (EC_reg ?_)))))
  refine vl (.agg ((entRC e v21 v24 v30)).toArray) rfl (r_loadAll rfl (S53.arr 1 rfl) U51 rfl (by kernel_rfl)) ?_
  refine eR rfl F37 rfl (Right9_c (entRC e v21 v24 v30) e I _ _ S53 ⟨v21, v24, v30, rfl, (by first | assumption | (dsimp only; omega)), (by first | assumption | (dsimp only; omega)), (by first | assumption | (dsimp only; omega)), ⟨o22, H23⟩, ⟨o25, H26⟩, (by first | assumption | (dsimp only; omega)), (by first | assumption | (dsimp only; omega)), (by first | assumption | (dsimp only; omega)), ⟨o31, H32⟩⟩) ?_
  rintro _ w54 ⟨rfl, S55⟩
  refine vl (.bool !e.right) rfl (r_not rfl) (EL_nil (thn_n ?_))
  refine EC_cond (t := !e.right) rfl (fun h56 => ?_) (fun h56 => ?_)
  have hr0 : e.right = false := (Bool.not_eq_true' _).mp h56
  have hE : sealRE k r e = 10 := by rw [sealRE, if_pos (by rw [encE_wrong hr0]; decide), encE_wrong hr0]
  refine EC_seq (EC_reg (vl (.agg (recR0).toArray) rfl (r_buildS (l := []) st_46 rfl (Eq.trans (show Instr.fill _ _ [] = _ from fill_end) (by kernel_rfl))) ?_))
  refine sA recR0 rfl rfl (S55.arr 0 rfl) rfl (by kernel_rfl) (by simp [Value.oneCell']) ?_
  intro w57 A58 K59 z60
  have S61 := S55.wr0 (ds := recR0) K59 A58
  refine vA (.int .i64 10) rfl rfl (EL_nil (thn_n (EC_ret (thn_r ?_))))
  refine fin2c Tryz.results11 (show _ = ptr b47 from rfl) (show _ = .int .i64 10 from rfl) (S61.arr 0 rfl) U46 rfl (by kernel_rfl) ⟨_, rfl, ?_⟩
  rw [show sealRL L s k r e = L from if_neg (by rw [hE]; decide)]
  have q62 : (sealRR L s k r e) = (⟨0, 0, 0, 0, []⟩ : Record) := by rw [sealRR, if_neg (by rw [hE]; decide)]; rfl
  have S63 := S61.dr0
  have S64 := S63.dr0
  have S65 := S64.dr0
  exact ⟨recR0, I, (Gh.le_refl _), (by rw [hE]), (by rw [q62]; exact (recRz _)), S65⟩
  have hrt : e.right = true := (Bool.not_eq_false' _).mp h56
  have hel := encB_len hrt
  have hrh := right_head hrt
  refine EC_skip (thn_n (EC_seq (EC_seq (EC_reg (vl (ptr b40 1) rfl (fP 0 rfl U51 (by kernel_rfl)) ?_)))))
  refine vL (.int .i64 e.writer) rfl rfl (S55.arr 1 rfl) rfl U3 rfl (vl (ptr b33 2) rfl (fP 0 rfl U46 (by kernel_rfl)) (vL (.int .i64 r.writer) rfl rfl (S55.arr 2 rfl) rfl U3 rfl (vl (.bool (decide (e.writer ≠ r.writer))) rfl (r_neq rfl rfl) (EL_nil (thn_n ?_)))))
  refine EC_if (p := e.writer ≠ r.writer) rfl (fun h66 => ?_) (fun h66 => ?_)
  have hE : sealRE k r e = 40 := by rw [sealRE_is hrt, if_pos (by first | exact h66 | simpa using h66)]
  refine EC_seq (EC_reg (vl (.agg (recR0).toArray) rfl (r_buildS (l := []) st_46 rfl (Eq.trans (show Instr.fill _ _ [] = _ from fill_end) (by kernel_rfl))) ?_))
  refine sA recR0 rfl rfl (S55.arr 0 rfl) rfl (by kernel_rfl) (by simp [Value.oneCell']) ?_
  intro w67 A68 K69 z70
  have S71 := S55.wr0 (ds := recR0) K69 A68
  refine vA (.int .i64 40) rfl rfl (EL_nil (thn_n (EC_ret (thn_r ?_))))
  refine fin2c Tryz.results11 (show _ = ptr b47 from rfl) (show _ = .int .i64 40 from rfl) (S71.arr 0 rfl) U46 rfl (by kernel_rfl) ⟨_, rfl, ?_⟩
  rw [show sealRL L s k r e = L from if_neg (by rw [hE]; decide)]
  have q72 : (sealRR L s k r e) = (⟨0, 0, 0, 0, []⟩ : Record) := by rw [sealRR, if_neg (by rw [hE]; decide)]; rfl
  have S73 := S71.dr0
  have S74 := S73.dr0
  have S75 := S74.dr0
  exact ⟨recR0, I, (Gh.le_refl _), (by rw [hE]), (by rw [q72]; exact (recRz _)), S75⟩
  have hwr : e.writer = r.writer := by omega
  refine EC_skip (thn_n (EC_seq (EC_seq (EC_reg (vM v1 rfl rfl ?_)))))
  refine vl (.int .i64 (k.length : Int)) rfl (lenB (r_len rfl (Q1 _ S55.le) U22)) (vl (.bool (decide ((k.length : Int) ≠ 32))) rfl (r_neq rfl rfl) (EL_nil (thn_n ?_)))
  refine EC_if (p := (k.length : Int) ≠ 32) rfl (fun h76 => ?_) (fun h76 => ?_)
  have hE : sealRE k r e = 21 := by rw [sealRE_is hrt, if_neg (fun q => q hwr), if_pos (by omega)]
  refine EC_seq (EC_reg (vl (.agg (recR0).toArray) rfl (r_buildS (l := []) st_46 rfl (Eq.trans (show Instr.fill _ _ [] = _ from fill_end) (by kernel_rfl))) ?_))
  refine sA recR0 rfl rfl (S55.arr 0 rfl) rfl (by kernel_rfl) (by simp [Value.oneCell']) ?_
  intro w77 A78 K79 z80
  have S81 := S55.wr0 (ds := recR0) K79 A78
  refine vA (.int .i64 21) rfl rfl (EL_nil (thn_n (EC_ret (thn_r ?_))))
  refine fin2c Tryz.results11 (show _ = ptr b47 from rfl) (show _ = .int .i64 21 from rfl) (S81.arr 0 rfl) U46 rfl (by kernel_rfl) ⟨_, rfl, ?_⟩
  rw [show sealRL L s k r e = L from if_neg (by rw [hE]; decide)]
  have q82 : (sealRR L s k r e) = (⟨0, 0, 0, 0, []⟩ : Record) := by rw [sealRR, if_neg (by rw [hE]; decide)]; rfl
  have S83 := S81.dr0
  have S84 := S83.dr0
  have S85 := S84.dr0
  exact ⟨recR0, I, (Gh.le_refl _), (by rw [hE]), (by rw [q82]; exact (recRz _)), S85⟩
  have hk32 : k.length = 32 := by omega
  refine EC_skip (thn_n (EC_seq (EC_seq (EC_reg (vl (.agg ((recRC r v15)).toArray) rfl (r_loadAll rfl (S55.arr 2 rfl) U46 rfl (by kernel_rfl)) ?_)))))
  refine eR rfl F17 rfl (Nums15_c (recRC r v15) r I _ _ S55 ⟨v15, rfl, (by first | assumption | (dsimp only; omega)), (by first | assumption | (dsimp only; omega)), (by first | assumption | (dsimp only; omega)), (by first | assumption | (dsimp only; omega)), ⟨o16, H17⟩⟩) ?_
  rintro _ w86 ⟨rfl, S87⟩
  refine vl (.bool !r.nums) rfl (r_not rfl) (EL_nil (thn_n ?_))
  refine EC_cond (t := !r.nums) rfl (fun h88 => ?_) (fun h88 => ?_)
  have hn0 : r.nums = false := (Bool.not_eq_true' _).mp h88
  have hE : sealRE k r e = 12 := by rw [sealRE_is hrt, if_neg (fun q => q hwr), if_neg (fun q => q hk32), if_pos hn0]
  refine EC_seq (EC_reg (vl (.agg (recR0).toArray) rfl (r_buildS (l := []) st_46 rfl (Eq.trans (show Instr.fill _ _ [] = _ from fill_end) (by kernel_rfl))) ?_))
  refine sA recR0 rfl rfl (S87.arr 0 rfl) rfl (by kernel_rfl) (by simp [Value.oneCell']) ?_
  intro w89 A90 K91 z92
  have S93 := S87.wr0 (ds := recR0) K91 A90
  refine vA (.int .i64 12) rfl rfl (EL_nil (thn_n (EC_ret (thn_r ?_))))
  refine fin2c Tryz.results11 (show _ = ptr b47 from rfl) (show _ = .int .i64 12 from rfl) (S93.arr 0 rfl) U46 rfl (by kernel_rfl) ⟨_, rfl, ?_⟩
  rw [show sealRL L s k r e = L from if_neg (by rw [hE]; decide)]
  have q94 : (sealRR L s k r e) = (⟨0, 0, 0, 0, []⟩ : Record) := by rw [sealRR, if_neg (by rw [hE]; decide)]; rfl
  have S95 := S93.dr0
  have S96 := S95.dr0
  have S97 := S96.dr0
  exact ⟨recR0, I, (Gh.le_refl _), (by rw [hE]), (by rw [q94]; exact (recRz _)), S97⟩
  have hn1 : r.nums = true := (Bool.not_eq_false' _).mp h88
  have hnu := nums_iff.1 hn1
  have hso : SealsOk k r e := ⟨hrt, hwr, hk32, hn1, hel⟩
  have hE := seals_fine hso
  refine EC_skip (thn_n (EC_seq (EC_reg (vl (.agg ((entRC e v21 v24 v30)).toArray) rfl (r_loadAll rfl (S87.arr 1 rfl) U51 rfl (by kernel_rfl)) ?_))))
  refine eR rfl F38 rfl (Bytes9_c (entRC e v21 v24 v30) e I _ _ S87 ⟨v21, v24, v30, rfl, (by first | assumption | (dsimp only; omega)), (by first | assumption | (dsimp only; omega)), (by first | assumption | (dsimp only; omega)), ⟨o22, H23⟩, ⟨o25, H26⟩, (by first | assumption | (dsimp only; omega)), (by first | assumption | (dsimp only; omega)), (by first | assumption | (dsimp only; omega)), ⟨o31, H32⟩⟩ hrt) ?_
  rintro _ w98 ⟨v100, I101, le102, rfl, S99⟩
  refine vA v100 rfl rfl (EL_nil (thn_n (EC_seq (EC_seq (EC_reg ?_)))))
  refine vM v100 rfl rfl (vl (.int .i64 (e.encB.length : Int)) rfl (lenB (r_len rfl (own_row (S99.own 0 rfl)) U22)) ?_)
  refine EL_int ((e.encB.length : Int) + 36) rfl (r_addi rfl rfl (by omega)) ?_
  intro x103 hx103
  refine eR rfl F39 rfl (Size13_c x103 I101 _ _ S99 (by omega)) ?_
  rintro _ w104 ⟨rfl, S105⟩
  refine vl (.bool (decide ((bsize x103) = 0))) rfl (r_eql rfl rfl) (EL_nil (thn_n ?_))
  refine EC_cond_false (Eq.trans (show _ = Value.bool (decide ((bsize x103) = 0)) from rfl) (congrArg Value.bool (show (decide ((bsize x103) = 0)) = false from (by rw [decide_eq_false_iff_not, hx103]; exact size_ok hrt)))) ?_
  refine EC_skip (thn_n (EC_seq ?_))
  refine EC_any 11 (fun w' => Gh.le I101 (gh w')) (fun w' => Arr w' b33 46 (recRC r v15)) (by kernel_rfl) ?_
  intro w106 B107
  have S108 := S105.below B107
  refine jT 0 rfl (by kernel_rfl) v100 rfl (fun _ hw ht => r_move rfl) ⟨S108.le, fun h => S108.arr 3 rfl⟩ ?_
  refine jT 2 rfl (by kernel_rfl) p rfl (fun _ hw ht => r_move rfl) ⟨S108.le, fun h => S108.arr 3 rfl⟩ ?_
  refine jT 3 rfl (by kernel_rfl) v0 rfl (fun _ hw ht => r_move rfl) ⟨S108.le, fun h => S108.arr 3 rfl⟩ ?_
  refine jT 4 rfl (by kernel_rfl) (ptr b33 0) rfl (fun _ hw ht => fP 0 rfl U46 (by kernel_rfl)) ⟨S108.le, fun h => S108.arr 3 rfl⟩ ?_
  refine jT 5 rfl (by kernel_rfl) (.int .i64 r.coll) rfl (fun _ hw ht => r_loadA rfl ht (u := (.int .i64 r.coll)) rfl U3 rfl) ⟨S108.le, fun h => S108.arr 3 rfl⟩ ?_
  refine jT 6 rfl (by kernel_rfl) (ptr b33 2) rfl (fun _ hw ht => fP 0 rfl U46 (by kernel_rfl)) ⟨S108.le, fun h => S108.arr 3 rfl⟩ ?_
  refine jT 7 rfl (by kernel_rfl) (.int .i64 r.writer) rfl (fun _ hw ht => r_loadA rfl ht (u := (.int .i64 r.writer)) rfl U3 rfl) ⟨S108.le, fun h => S108.arr 3 rfl⟩ ?_
  refine jT 8 rfl (by kernel_rfl) v100 rfl (fun _ hw ht => r_move rfl) ⟨S108.le, fun h => S108.arr 3 rfl⟩ ?_
  refine EJ_one 1 (by kernel_rfl) ⟨_, rfl, ?_⟩
  obtain ⟨I109, le110, S111, H112⟩ := S108.fb0
  refine eR rfl F40 rfl (Text8_c v100 e.encB I109 _ _ S111 H112 (by first | omega | (rw [markB_len]; decide))) ?_
  rintro _ w113 ⟨v115, rfl, S114⟩
  have hl116 : (be2 (e.encB.length : Int)).length = 2 := rfl
  refine EL_nil ?_
  refine ⟨rfl, ⟨(lT le110 S114.le), fun h => S114.arr 3 rfl⟩, ?_⟩
  refine EJ_strong (fun w' => Gh.le I109 (gh w')) _ (fun w' hw => lT le110 hw) (fun w' _ ht => ht) ?_
  refine EJ_one 9 (by kernel_rfl) ⟨_, rfl, ?_⟩
  have S117 := S114.fr4
  refine eR rfl F41 rfl (Mark15_c p L v0 s r.coll r.writer v100 e.encB I109 _ _ S117 (Q0.up (lT le102 le110)) H112 (by omega) hP (rightW_iff.2 (by omega)) (by omega) (by omega)) ?_
  rintro _ w118 ⟨v120, I121, le122, rfl, S119⟩
  have hl123 := markB_len L s r.coll r.writer e.encB
  refine EL_nil ?_
  refine ⟨rfl, ⟨(lT le122 S119.le), fun h => S119.arr 5 rfl⟩, ?_⟩
  refine EJ_strong (fun w' => Gh.le I121 (gh w')) _ (fun w' hw => lT le122 hw) (fun w' _ ht => ht) ?_
  refine EJ_one 10 (by kernel_rfl) ⟨_, rfl, ?_⟩
  obtain ⟨I124, le125, S126, H127⟩ := S119.fb0
  refine eR rfl F40 rfl (Text8_c v120 (markB L s r.coll r.writer e.encB) I124 _ _ S126 H127 (by first | omega | (rw [markB_len]; decide))) ?_
  rintro _ w128 ⟨v130, rfl, S129⟩
  have hl131 : (be2 ((markB L s r.coll r.writer e.encB).length : Int)).length = 2 := rfl
  refine EL_nil ?_
  refine ⟨rfl, ⟨(lT le125 S129.le), fun h => S129.arr 5 rfl⟩, ?_⟩
  refine EJ_strong (fun w' => Gh.le I124 (gh w')) _ (fun w' hw => lT le125 hw) (fun w' _ ht => ht) ?_
  refine EJ_one 11 (by kernel_rfl) ⟨_, rfl, ?_⟩
  refine EL_append (v := v115) (xs := (be2 (e.encB.length : Int) ++ e.encB).map byt) (ys := (be2 ((markB L s r.coll r.writer e.encB).length : Int) ++ (markB L s r.coll r.writer e.encB)).map byt) 0 elB rfl rfl rfl (own_len (S129.own 2 rfl)) (own_row (S129.own 0 rfl)) (byt_one _) (by first | (simp only [List.length_map, List.length_nil, List.length_append]; omega) | (simp; done) | (simp; omega)) (by decide) (Nat.zero_le _) ?_
  intro v132 w133 O134 G135 A136
  have S137 := S129.gb2 G135 (own_app O134) A136
  refine EL_nil ?_
  refine ⟨rfl, ⟨S137.le, fun h => by cases h⟩, ?_⟩
  refine jF 12 rfl (by kernel_rfl) v132 rfl (fun _ hw => r_assign rfl) ⟨S137.le, fun h => by cases h⟩ ?_
  refine EJ_done (by kernel_rfl) ?_
  refine thn_n (EC_seq ?_)
  have q139 : (be2 (e.encB.length : Int) ++ e.encB) ++ (be2 ((markB L s r.coll r.writer e.encB).length : Int) ++ (markB L s r.coll r.writer e.encB)) = twoT e.encB (markB L s r.coll r.writer e.encB) := rfl
  have S138 := S137.ab2 q139
  have htl := twoT_len e.encB (markB L s r.coll r.writer e.encB)
  have hmb := markB_len L s r.coll r.writer e.encB
  skip
  refine EC_any 11 (fun w' => Gh.le I124 (gh w')) (fun w' => Arr w' b33 46 (recRC r v15)) (by kernel_rfl) ?_
  intro w140 B141
  have S142 := S138.below B141
  refine jT 0 rfl (by kernel_rfl) p rfl (fun _ hw ht => r_move rfl) ⟨S142.le, fun h => S142.arr 5 rfl⟩ ?_
  refine jT 1 rfl (by kernel_rfl) v1 rfl (fun _ hw ht => r_move rfl) ⟨S142.le, fun h => S142.arr 5 rfl⟩ ?_
  refine jT 2 rfl (by kernel_rfl) (ptr b33 2) rfl (fun _ hw ht => fP 0 rfl U46 (by kernel_rfl)) ⟨S142.le, fun h => S142.arr 5 rfl⟩ ?_
  refine jT 3 rfl (by kernel_rfl) (.int .i64 r.writer) rfl (fun _ hw ht => r_loadA rfl ht (u := (.int .i64 r.writer)) rfl U3 rfl) ⟨S142.le, fun h => S142.arr 5 rfl⟩ ?_
  refine jT 4 rfl (by kernel_rfl) (ptr b33 3) rfl (fun _ hw ht => fP 0 rfl U46 (by kernel_rfl)) ⟨S142.le, fun h => S142.arr 5 rfl⟩ ?_
  refine jT 5 rfl (by kernel_rfl) (.int .i64 r.count) rfl (fun _ hw ht => r_loadA rfl ht (u := (.int .i64 r.count)) rfl U3 rfl) ⟨S142.le, fun h => S142.arr 5 rfl⟩ ?_
  refine jT 7 rfl (by kernel_rfl) (.agg ((recRC r v15)).toArray) rfl (fun _ hw ht => r_loadAll rfl ht U46 rfl (by kernel_rfl)) ⟨S142.le, fun h => S142.arr 5 rfl⟩ ?_
  refine jT 9 rfl (by kernel_rfl) v132 rfl (fun _ hw ht => r_move rfl) ⟨S142.le, fun h => S142.arr 5 rfl⟩ ?_
  refine EJ_one 6 (by kernel_rfl) ⟨_, rfl, ?_⟩
  refine eR rfl F18 rfl (Nonce14_c r.writer r.count I124 _ _ S142 (by omega) (by omega)) ?_
  rintro _ w143 ⟨v145, rfl, S144⟩
  refine EL_nil ?_
  refine ⟨rfl, ⟨S144.le, fun h => S144.arr 6 rfl⟩, ?_⟩
  refine EJ_one 8 (by kernel_rfl) ⟨_, rfl, ?_⟩
  refine eR rfl F20 rfl (Front15_c (recRC r v15) r I124 _ _ S144 ⟨v15, rfl, (by first | assumption | (dsimp only; omega)), (by first | assumption | (dsimp only; omega)), (by first | assumption | (dsimp only; omega)), (by first | assumption | (dsimp only; omega)), ⟨o16, (H17.up (lT (lT (lT le102 le110) le122) le125))⟩⟩ hn1) ?_
  rintro _ w146 ⟨v148, rfl, S147⟩
  refine EL_nil ?_
  refine ⟨rfl, ⟨S147.le, fun h => S147.arr 7 rfl⟩, ?_⟩
  refine EJ_one 10 (by kernel_rfl) ⟨_, rfl, ?_⟩
  obtain ⟨I149, le150, S151, H152⟩ := S147.fb4
  refine eR rfl F42 rfl (Pad13_c v132 (twoT e.encB (markB L s r.coll r.writer e.encB)) I149 _ _ S151 H152 (by omega)) ?_
  rintro _ w153 ⟨v155, rfl, S154⟩
  refine EL_nil ?_
  refine ⟨rfl, ⟨(lT le150 S154.le), fun h => S154.arr 7 rfl⟩, ?_⟩
  refine EJ_strong (fun w' => Gh.le I149 (gh w')) _ (fun w' hw => lT le150 hw) (fun w' _ ht => ht) ?_
  refine EJ_one 11 (by kernel_rfl) ⟨_, rfl, ?_⟩
  obtain ⟨I156, le157, S158, H159⟩ := S154.fb2
  obtain ⟨I160, le161, S162, H163⟩ := S158.fb1
  obtain ⟨I164, le165, S166, H167⟩ := S162.fb0
  have S168 := S166.fr1
  refine eR rfl F21 rfl (rSealOk_c p (markL L s r.coll r.writer e.encB) v1 k v145 (be6 r.writer ++ be6 r.count) v148 r.front v155 (bpad (twoT e.encB (markB L s r.coll r.writer e.encB))) I164 _ _ S168 (Q1.up (lT (lT (lT (lT (lT (lT (lT le102 le110) le122) le125) le150) le157) le161) le165)) (H159.up (lT le161 le165)) (H163.up le165) H167 (Nat.le_trans (markL_len _ _ _ _ _) (by omega)) (by omega) (by simp [be6]) (Nat.le_trans (front_le _) (by decide)) (by have := bpad_most (b := twoT e.encB (markB L s r.coll r.writer e.encB)) (by omega); omega) (szOk_iff.2 ⟨hk32, rfl⟩)) ?_
  rintro _ w169 ⟨v171, I172, le173, rfl, S170⟩
  refine EL_nil ?_
  refine ⟨rfl, ⟨(lT (lT (lT (lT le157 le161) le165) le173) S170.le), fun h => by cases h⟩, ?_⟩
  refine EJ_strong (fun w' => Gh.le I172 (gh w')) _ (fun w' hw => lT (lT (lT (lT le157 le161) le165) le173) hw) (fun w' _ ht => ht) ?_
  refine jF 12 rfl (by kernel_rfl) (.tuple #[v171, .int .i64 0]) rfl (fun _ hw => r_move rfl) ⟨S170.le, fun h => by cases h⟩ ?_
  refine jF 13 rfl (by kernel_rfl) v171 rfl (fun _ hw => r_extract rfl rfl) ⟨S170.le, fun h => by cases h⟩ ?_
  refine jF 14 rfl (by kernel_rfl) (.int .i64 0) rfl (fun _ hw => r_extract rfl rfl) ⟨S170.le, fun h => by cases h⟩ ?_
  refine jF 15 rfl (by kernel_rfl) v171 rfl (fun _ hw => r_assign rfl) ⟨S170.le, fun h => by cases h⟩ ?_
  refine jF 16 rfl (by kernel_rfl) (.int .i64 0) rfl (fun _ hw => r_assign rfl) ⟨S170.le, fun h => by cases h⟩ ?_
  refine EJ_done (by kernel_rfl) ?_
  refine thn_n (EC_seq (EC_reg (vM v171 rfl rfl (vl (ptr b33 4) rfl (fP 0 rfl U46 (by kernel_rfl)) ?_))))
  refine EL_storeA (j := 4) (u := v171) rfl rfl (S170.arr 5 rfl) (by first | decide | (simp; omega) | simp) (own_one (S170.own 0 rfl)) (by kernel_rfl) ?_
  intro w174 A175 K176 z177
  have S178 := S170.wr5 (ds := (recRC r v171)) K176 A175
  refine EL_nil (thn_n (EC_seq (EC_reg (vl (.agg ((recRC r v171)).toArray) rfl (r_loadAll rfl (S178.arr 5 rfl) U46 rfl (by kernel_rfl)) (vM (.int .i64 0) rfl rfl ?_)))))
  refine sA (recRC r v171) rfl rfl (S178.arr 3 rfl) rfl (by kernel_rfl) (ones_cons rfl (ones_cons rfl (ones_cons rfl (ones_cons rfl (ones_cons (own_one (S178.own 0 rfl)) (fun _ h => nomatch h)))))) ?_
  intro w179 A180 K181 z182
  have S183 := S178.wr3 (ds := (recRC r v171)) K181 A180
  refine vA (.int .i64 0) rfl rfl (EL_nil (thn_n (EC_ret ?_)))
  refine fin2c Tryz.results11 (show _ = ptr b47 from rfl) (show _ = .int .i64 0 from rfl) (S183.arr 3 rfl) U46 rfl (by kernel_rfl) ⟨_, rfl, ?_⟩
  have q185 : (markL L s r.coll r.writer e.encB) ++ [tBox k (be6 r.writer ++ be6 r.count) r.front (bpad (twoT e.encB (markB L s r.coll r.writer e.encB)))] = sealRL L s k r e := (sealRL_ok hso).symm
  have S184 := Sat.ah1 (RefT p) S183 q185
  obtain ⟨I186, le187, S188, H189⟩ := S184.fb0
  have q190 : (sealRR L s k r e) = (⟨r.coll, r.epoch, r.writer, r.count, boxOf (((markL L s r.coll r.writer e.encB).length : Int) + 1) (bpad (twoT e.encB (markB L s r.coll r.writer e.encB))).length⟩ : Record) := by rw [sealRR_ok hso]
  have S191 := S188.dr1
  have S192 := S191.dr1
  have S193 := S192.dr1
  have S194 := S193.dr1
  exact ⟨(recRC r v171), I186, (lT (lT (lT (lT (lT (lT (lT (lT (lT le102 le110) le122) le125) le150) le157) le161) le165) le173) le187), (by rw [hE]), (by rw [q190]; exact ⟨v171, rfl, (by first | assumption | (dsimp only; omega)), (by first | assumption | (dsimp only; omega)), (by first | assumption | (dsimp only; omega)), (by first | assumption | (dsimp only; omega)), ⟨(row_one (H189 _ S194.le)), H189⟩⟩), S194⟩

set_option maxRecDepth 100000 in
set_option maxHeartbeats 4000000 in
theorem Open15_c (p : Value) (L : List Thing) (v0 : Value) (s : List UInt8) (v1 : Value) (k : List UInt8) (cr : List Value) (r : Record) (I : Gh) (R : List HP) (w : World) (S : Sat w I (RefT p L :: R)) (Q0 : RoB I v0 s) (Q1 : RoB I v1 k) (hr : recR.r I cr r) (hl : L.length ≤ 800000) (hP : Plain L) (hs : s.length ≤ 100000) (hT : ∀ t ∈ L, t.text.length ≤ 800000000) : Ret Tryz.prog 15 [p, v0, v1, .agg cr.toArray] w fun v w' => ∃ cq : List Value, ∃ J : Gh, Gh.le I J ∧ .tuple #[.agg cq.toArray, .int .i64 (openRE L s k r)] = v ∧ entR.r J cq (openRV L s k r) ∧ Sat w' J (RefT p (openRL L s k r) :: R) := by
  have lq0 := RoB.le Q0 S.le
  have lq1 := RoB.le Q1 S.le
  obtain ⟨v15, rfl, r11, r12, r13, r14, ⟨o16, H17⟩⟩ := hr
  refine ret_E Tryz.func15 rfl Tryz.ntmps15 (by simp) ?_
  refine EC_seq (EC_reg ?_)
  refine EL_box (recRC r v15) rfl rfl rfl ?_
  intro b18 w19 k20 A21 B22 z23
  have S24 := S.newB B22 A21 k20
  refine EL_alloc (z := .agg #[.int .i64 0, .int .i64 0, .int .i64 0, .slice none 0 0, .slice none 0 0, .int .i64 0, .int .i64 0, .int .i64 0, .slice none 0 0]) entR0 rfl (by kernel_rfl) rfl ?_
  intro b25 w26 k27 A28 B29 z30
  have S31 := S24.newB B29 A28 k27
  refine vA (.int .i64 0) rfl rfl (EL_nil (thn_n (EC_seq (EC_seq ?_))))
  rcases opened_cases L k r with hc | hc | hc | hc
  have hE : openRE L s k r = 10 := by rw [openRE, if_neg (by rw [hc]; decide)]
  have hL0 : openRL L s k r = L := by rw [openRL, if_neg (by rw [hc]; decide)]
  refine EC_reg (vl (.agg ((recRC r v15)).toArray) rfl (r_loadAll rfl (S31.arr 1 rfl) U46 rfl (by kernel_rfl)) ?_)
  refine eR rfl F51 rfl (Right15_c (recRC r v15) r I _ _ S31 ⟨v15, rfl, (by first | assumption | (dsimp only; omega)), (by first | assumption | (dsimp only; omega)), (by first | assumption | (dsimp only; omega)), (by first | assumption | (dsimp only; omega)), ⟨o16, H17⟩⟩) ?_
  rintro _ w32 ⟨rfl, S33⟩
  refine vl (.bool true) rfl (r_dec (show (!false) = true from rfl) (r_not (Eq.trans (show _ = Value.bool (r.right) from rfl) (congrArg Value.bool (show (r.right) = false from hc))))) (EL_nil (thn_n ?_))
  refine EC_cond_true rfl ?_
  refine EC_seq (EC_reg (vl (.agg (entR0).toArray) rfl (r_buildS (l := []) st_51 rfl (Eq.trans (show Instr.fill _ _ [] = _ from fill_end) (by kernel_rfl))) ?_))
  refine sA entR0 rfl rfl (S33.arr 0 rfl) rfl (by kernel_rfl) (by simp [Value.oneCell']) ?_
  intro w34 A35 K36 z37
  have S38 := S33.wr0 (ds := entR0) K36 A35
  refine vA (.int .i64 10) rfl rfl (EL_nil (thn_n (EC_ret (thn_r ?_))))
  refine fin2c Tryz.results15 (show _ = ptr b25 from rfl) (show _ = .int .i64 10 from rfl) (S38.arr 0 rfl) U51 rfl (by kernel_rfl) ⟨_, rfl, ?_⟩
  have q40 : L = openRL L s k r := hL0.symm
  have S39 := Sat.ah2 (RefT p) S38 q40
  have q41 : (openRV L s k r) = (⟨0, 0, 0, [], [], 0, 0, 0, []⟩ : Entry) := by rw [openRV, if_neg (by rw [hE]; decide)]; rfl
  have S42 := S39.dr0
  have S43 := S42.dr0
  exact ⟨entR0, I, (Gh.le_refl _), (by rw [hE]), (by rw [q41]; exact (entRz _)), S43⟩
  have hE : openRE L s k r = 21 := by rw [openRE, if_pos hc.1, if_neg hc.2]
  have hL0 : openRL L s k r = L := by rw [openRL, if_pos hc.1, if_neg hc.2]
  refine EC_reg (vl (.agg ((recRC r v15)).toArray) rfl (r_loadAll rfl (S31.arr 1 rfl) U46 rfl (by kernel_rfl)) ?_)
  refine eR rfl F51 rfl (Right15_c (recRC r v15) r I _ _ S31 ⟨v15, rfl, (by first | assumption | (dsimp only; omega)), (by first | assumption | (dsimp only; omega)), (by first | assumption | (dsimp only; omega)), (by first | assumption | (dsimp only; omega)), ⟨o16, H17⟩⟩) ?_
  rintro _ w44 ⟨rfl, S45⟩
  refine vl (.bool false) rfl (r_dec (show (!true) = false from rfl) (r_not (Eq.trans (show _ = Value.bool (r.right) from rfl) (congrArg Value.bool (show (r.right) = true from hc.1))))) (EL_nil (thn_n ?_))
  refine EC_cond_false rfl ?_
  refine EC_skip (thn_n (EC_seq (EC_seq (EC_reg (vM v1 rfl rfl ?_)))))
  refine vl (.int .i64 (k.length : Int)) rfl (lenB (r_len rfl (Q1 _ S45.le) U22)) (vl (.bool true) rfl (r_dec (show (decide ((k.length : Int) ≠ 32)) = true from by have := hc.2; simp; omega) (r_neq rfl rfl)) (EL_nil (thn_n ?_)))
  refine EC_cond_true rfl ?_
  refine EC_seq (EC_reg (vl (.agg (entR0).toArray) rfl (r_buildS (l := []) st_51 rfl (Eq.trans (show Instr.fill _ _ [] = _ from fill_end) (by kernel_rfl))) ?_))
  refine sA entR0 rfl rfl (S45.arr 0 rfl) rfl (by kernel_rfl) (by simp [Value.oneCell']) ?_
  intro w46 A47 K48 z49
  have S50 := S45.wr0 (ds := entR0) K48 A47
  refine vA (.int .i64 21) rfl rfl (EL_nil (thn_n (EC_ret (thn_r ?_))))
  refine fin2c Tryz.results15 (show _ = ptr b25 from rfl) (show _ = .int .i64 21 from rfl) (S50.arr 0 rfl) U51 rfl (by kernel_rfl) ⟨_, rfl, ?_⟩
  have q52 : L = openRL L s k r := hL0.symm
  have S51 := Sat.ah2 (RefT p) S50 q52
  have q53 : (openRV L s k r) = (⟨0, 0, 0, [], [], 0, 0, 0, []⟩ : Entry) := by rw [openRV, if_neg (by rw [hE]; decide)]; rfl
  have S54 := S51.dr0
  have S55 := S54.dr0
  exact ⟨entR0, I, (Gh.le_refl _), (by rw [hE]), (by rw [q53]; exact (entRz _)), S55⟩
  have hE : openRE L s k r = 20 := by rw [openRE, if_pos hc.1, if_pos hc.2.1, hc.2.2]
  have hL0 : openRL L s k r = L := by rw [openRL, if_pos hc.1, if_pos hc.2.1, hc.2.2]
  have hnu := nums_iff.1 (right_nums hc.1)
  have hbx := right_box hc.1
  refine EC_reg (vl (.agg ((recRC r v15)).toArray) rfl (r_loadAll rfl (S31.arr 1 rfl) U46 rfl (by kernel_rfl)) ?_)
  refine eR rfl F51 rfl (Right15_c (recRC r v15) r I _ _ S31 ⟨v15, rfl, (by first | assumption | (dsimp only; omega)), (by first | assumption | (dsimp only; omega)), (by first | assumption | (dsimp only; omega)), (by first | assumption | (dsimp only; omega)), ⟨o16, H17⟩⟩) ?_
  rintro _ w56 ⟨rfl, S57⟩
  refine vl (.bool false) rfl (r_dec (show (!true) = false from rfl) (r_not (Eq.trans (show _ = Value.bool (r.right) from rfl) (congrArg Value.bool (show (r.right) = true from hc.1))))) (EL_nil (thn_n ?_))
  refine EC_cond_false rfl ?_
  refine EC_skip (thn_n (EC_seq (EC_seq (EC_reg (vM v1 rfl rfl ?_)))))
  refine vl (.int .i64 (k.length : Int)) rfl (lenB (r_len rfl (Q1 _ S57.le) U22)) (vl (.bool false) rfl (r_dec (show (decide ((k.length : Int) ≠ 32)) = false from by have := hc.2.1; simp; omega) (r_neq rfl rfl)) (EL_nil (thn_n ?_)))
  refine EC_cond_false rfl ?_
  refine EC_skip (thn_n (EC_seq ?_))
  refine EC_any 11 (fun w' => Gh.le I (gh w')) (fun w' => Arr w' b18 46 (recRC r v15)) (by kernel_rfl) ?_
  intro w58 B59
  have S60 := S57.below B59
  refine jT 0 rfl (by kernel_rfl) p rfl (fun _ hw ht => r_move rfl) ⟨S60.le, fun h => S60.arr 1 rfl⟩ ?_
  refine jT 1 rfl (by kernel_rfl) v1 rfl (fun _ hw ht => r_move rfl) ⟨S60.le, fun h => S60.arr 1 rfl⟩ ?_
  refine jT 2 rfl (by kernel_rfl) (ptr b18 2) rfl (fun _ hw ht => fP 0 rfl U46 (by kernel_rfl)) ⟨S60.le, fun h => S60.arr 1 rfl⟩ ?_
  refine jT 3 rfl (by kernel_rfl) (.int .i64 r.writer) rfl (fun _ hw ht => r_loadA rfl ht (u := (.int .i64 r.writer)) rfl U3 rfl) ⟨S60.le, fun h => S60.arr 1 rfl⟩ ?_
  refine jT 4 rfl (by kernel_rfl) (ptr b18 3) rfl (fun _ hw ht => fP 0 rfl U46 (by kernel_rfl)) ⟨S60.le, fun h => S60.arr 1 rfl⟩ ?_
  refine jT 5 rfl (by kernel_rfl) (.int .i64 r.count) rfl (fun _ hw ht => r_loadA rfl ht (u := (.int .i64 r.count)) rfl U3 rfl) ⟨S60.le, fun h => S60.arr 1 rfl⟩ ?_
  refine jT 7 rfl (by kernel_rfl) (.agg ((recRC r v15)).toArray) rfl (fun _ hw ht => r_loadAll rfl ht U46 rfl (by kernel_rfl)) ⟨S60.le, fun h => S60.arr 1 rfl⟩ ?_
  refine jT 9 rfl (by kernel_rfl) (ptr b18 4) rfl (fun _ hw ht => fP 0 rfl U46 (by kernel_rfl)) ⟨S60.le, fun h => S60.arr 1 rfl⟩ ?_
  refine jT 10 rfl (by kernel_rfl) v15 rfl (fun _ hw ht => r_loadA rfl ht (u := v15) rfl U22 rfl) ⟨S60.le, fun h => S60.arr 1 rfl⟩ ?_
  refine EJ_one 6 (by kernel_rfl) ⟨_, rfl, ?_⟩
  refine eR rfl F18 rfl (Nonce14_c r.writer r.count I _ _ S60 (by omega) (by omega)) ?_
  rintro _ w61 ⟨v63, rfl, S62⟩
  refine EL_nil ?_
  refine ⟨rfl, ⟨S62.le, fun h => S62.arr 2 rfl⟩, ?_⟩
  refine EJ_one 8 (by kernel_rfl) ⟨_, rfl, ?_⟩
  refine eR rfl F20 rfl (Front15_c (recRC r v15) r I _ _ S62 ⟨v15, rfl, (by first | assumption | (dsimp only; omega)), (by first | assumption | (dsimp only; omega)), (by first | assumption | (dsimp only; omega)), (by first | assumption | (dsimp only; omega)), ⟨o16, H17⟩⟩ (right_nums hc.1)) ?_
  rintro _ w64 ⟨v66, rfl, S65⟩
  refine EL_nil ?_
  refine ⟨rfl, ⟨S65.le, fun h => S65.arr 3 rfl⟩, ?_⟩
  refine EJ_one 11 (by kernel_rfl) ⟨_, rfl, ?_⟩
  obtain ⟨I67, le68, S69, H70⟩ := S65.fb1
  obtain ⟨I71, le72, S73, H74⟩ := S69.fb0
  have S75 := S73.fr2
  refine eR rfl F52 rfl (rOpenNo_c p L v1 k v63 (be6 r.writer ++ be6 r.count) v66 r.front v15 r.box I71 _ _ S75 (Q1.up (lT le68 le72)) (H70.up le72) H74 (H17.up (lT le68 le72)) (by omega) (by omega) (by simp [be6]) (Nat.le_trans (front_le _) (by decide)) (by omega) hT (szOk_iff.2 ⟨hc.2.1, rfl⟩) (by have h9 := hc.2.2; rw [opened, nonce_rec (right_nums hc.1)] at h9; exact h9)) ?_
  rintro _ w76 ⟨v78, I79, le80, rfl, H81, S77⟩
  refine EL_nil ?_
  refine ⟨rfl, ⟨(lT (lT (lT le68 le72) le80) S77.le), fun h => by cases h⟩, ?_⟩
  refine EJ_strong (fun w' => Gh.le I79 (gh w')) _ (fun w' hw => lT (lT (lT le68 le72) le80) hw) (fun w' _ ht => ht) ?_
  refine jF 12 rfl (by kernel_rfl) (.tuple #[v78, .int .i64 20]) rfl (fun _ hw => r_move rfl) ⟨S77.le, fun h => by cases h⟩ ?_
  refine jF 13 rfl (by kernel_rfl) v78 rfl (fun _ hw => r_extract rfl rfl) ⟨S77.le, fun h => by cases h⟩ ?_
  refine jF 14 rfl (by kernel_rfl) (.int .i64 20) rfl (fun _ hw => r_extract rfl rfl) ⟨S77.le, fun h => by cases h⟩ ?_
  refine jF 15 rfl (by kernel_rfl) v78 rfl (fun _ hw => r_assign rfl) ⟨S77.le, fun h => by cases h⟩ ?_
  refine jF 16 rfl (by kernel_rfl) (.int .i64 20) rfl (fun _ hw => r_assign rfl) ⟨S77.le, fun h => by cases h⟩ ?_
  refine EJ_done (by kernel_rfl) ?_
  refine thn_n (EC_seq (EC_seq (EC_reg (vM (.int .i64 20) rfl rfl (vl (.bool true) rfl (r_dec (by decide) (r_neq rfl rfl)) ?_)))))
  refine EL_nil (thn_n ?_)
  refine EC_cond_true rfl ?_
  refine EC_seq (EC_reg (vl (.agg (entR0).toArray) rfl (r_buildS (l := []) st_51 rfl (Eq.trans (show Instr.fill _ _ [] = _ from fill_end) (by kernel_rfl))) ?_))
  refine sA entR0 rfl rfl (S77.arr 1 rfl) rfl (by kernel_rfl) (by simp [Value.oneCell']) ?_
  intro w82 A83 K84 z85
  have S86 := S77.wr1 (ds := entR0) K84 A83
  refine vA (.int .i64 20) rfl rfl (EL_nil (thn_n (EC_ret (thn_r ?_))))
  refine fin2c Tryz.results15 (show _ = ptr b25 from rfl) (show _ = .int .i64 20 from rfl) (S86.arr 1 rfl) U51 rfl (by kernel_rfl) ⟨_, rfl, ?_⟩
  have q88 : L = openRL L s k r := hL0.symm
  have S87 := Sat.ah0 (RefT p) S86 q88
  have q89 : (openRV L s k r) = (⟨0, 0, 0, [], [], 0, 0, 0, []⟩ : Entry) := by rw [openRV, if_neg (by rw [hE]; decide)]; rfl
  have S90 := S87.dr1
  have S91 := S90.dr1
  exact ⟨entR0, I79, (lT (lT le68 le72) le80), (by rw [hE]), (by rw [q89]; exact (entRz _)), S91⟩
  obtain ⟨hr0, hk0, y, hy⟩ := hc
  have hE1 : openRE L s k r = openYE L s r y := by rw [openRE, if_pos hr0, if_pos hk0, hy]
  have hL1 : openRL L s k r = openYL L s r y := by rw [openRL, if_pos hr0, if_pos hk0, hy]
  have hnu := nums_iff.1 (right_nums hr0)
  have hbx := right_box hr0
  have hyl : y.length ≤ 800000000 := open_txt hT hy
  refine EC_reg (vl (.agg ((recRC r v15)).toArray) rfl (r_loadAll rfl (S31.arr 1 rfl) U46 rfl (by kernel_rfl)) ?_)
  refine eR rfl F51 rfl (Right15_c (recRC r v15) r I _ _ S31 ⟨v15, rfl, (by first | assumption | (dsimp only; omega)), (by first | assumption | (dsimp only; omega)), (by first | assumption | (dsimp only; omega)), (by first | assumption | (dsimp only; omega)), ⟨o16, H17⟩⟩) ?_
  rintro _ w92 ⟨rfl, S93⟩
  refine vl (.bool false) rfl (r_dec (show (!true) = false from rfl) (r_not (Eq.trans (show _ = Value.bool (r.right) from rfl) (congrArg Value.bool (show (r.right) = true from hr0))))) (EL_nil (thn_n ?_))
  refine EC_cond_false rfl ?_
  refine EC_skip (thn_n (EC_seq (EC_seq (EC_reg (vM v1 rfl rfl ?_)))))
  refine vl (.int .i64 (k.length : Int)) rfl (lenB (r_len rfl (Q1 _ S93.le) U22)) (vl (.bool false) rfl (r_dec (show (decide ((k.length : Int) ≠ 32)) = false from by have := hk0; simp; omega) (r_neq rfl rfl)) (EL_nil (thn_n ?_)))
  refine EC_cond_false rfl ?_
  refine EC_skip (thn_n (EC_seq ?_))
  refine EC_any 11 (fun w' => Gh.le I (gh w')) (fun w' => Arr w' b18 46 (recRC r v15)) (by kernel_rfl) ?_
  intro w94 B95
  have S96 := S93.below B95
  refine jT 0 rfl (by kernel_rfl) p rfl (fun _ hw ht => r_move rfl) ⟨S96.le, fun h => S96.arr 1 rfl⟩ ?_
  refine jT 1 rfl (by kernel_rfl) v1 rfl (fun _ hw ht => r_move rfl) ⟨S96.le, fun h => S96.arr 1 rfl⟩ ?_
  refine jT 2 rfl (by kernel_rfl) (ptr b18 2) rfl (fun _ hw ht => fP 0 rfl U46 (by kernel_rfl)) ⟨S96.le, fun h => S96.arr 1 rfl⟩ ?_
  refine jT 3 rfl (by kernel_rfl) (.int .i64 r.writer) rfl (fun _ hw ht => r_loadA rfl ht (u := (.int .i64 r.writer)) rfl U3 rfl) ⟨S96.le, fun h => S96.arr 1 rfl⟩ ?_
  refine jT 4 rfl (by kernel_rfl) (ptr b18 3) rfl (fun _ hw ht => fP 0 rfl U46 (by kernel_rfl)) ⟨S96.le, fun h => S96.arr 1 rfl⟩ ?_
  refine jT 5 rfl (by kernel_rfl) (.int .i64 r.count) rfl (fun _ hw ht => r_loadA rfl ht (u := (.int .i64 r.count)) rfl U3 rfl) ⟨S96.le, fun h => S96.arr 1 rfl⟩ ?_
  refine jT 7 rfl (by kernel_rfl) (.agg ((recRC r v15)).toArray) rfl (fun _ hw ht => r_loadAll rfl ht U46 rfl (by kernel_rfl)) ⟨S96.le, fun h => S96.arr 1 rfl⟩ ?_
  refine jT 9 rfl (by kernel_rfl) (ptr b18 4) rfl (fun _ hw ht => fP 0 rfl U46 (by kernel_rfl)) ⟨S96.le, fun h => S96.arr 1 rfl⟩ ?_
  refine jT 10 rfl (by kernel_rfl) v15 rfl (fun _ hw ht => r_loadA rfl ht (u := v15) rfl U22 rfl) ⟨S96.le, fun h => S96.arr 1 rfl⟩ ?_
  refine EJ_one 6 (by kernel_rfl) ⟨_, rfl, ?_⟩
  refine eR rfl F18 rfl (Nonce14_c r.writer r.count I _ _ S96 (by omega) (by omega)) ?_
  rintro _ w97 ⟨v99, rfl, S98⟩
  refine EL_nil ?_
  refine ⟨rfl, ⟨S98.le, fun h => S98.arr 2 rfl⟩, ?_⟩
  refine EJ_one 8 (by kernel_rfl) ⟨_, rfl, ?_⟩
  refine eR rfl F20 rfl (Front15_c (recRC r v15) r I _ _ S98 ⟨v15, rfl, (by first | assumption | (dsimp only; omega)), (by first | assumption | (dsimp only; omega)), (by first | assumption | (dsimp only; omega)), (by first | assumption | (dsimp only; omega)), ⟨o16, H17⟩⟩ (right_nums hr0)) ?_
  rintro _ w100 ⟨v102, rfl, S101⟩
  refine EL_nil ?_
  refine ⟨rfl, ⟨S101.le, fun h => S101.arr 3 rfl⟩, ?_⟩
  refine EJ_one 11 (by kernel_rfl) ⟨_, rfl, ?_⟩
  obtain ⟨I103, le104, S105, H106⟩ := S101.fb1
  obtain ⟨I107, le108, S109, H110⟩ := S105.fb0
  have S111 := S109.fr2
  refine eR rfl F52 rfl (rOpenOk_c p L v1 k v99 (be6 r.writer ++ be6 r.count) v102 r.front v15 r.box y I107 _ _ S111 (Q1.up (lT le104 le108)) (H106.up le108) H110 (H17.up (lT le104 le108)) (by omega) (by omega) (by simp [be6]) (Nat.le_trans (front_le _) (by decide)) (by omega) hT (szOk_iff.2 ⟨hk0, rfl⟩) (by have h9 := hy; rw [opened, nonce_rec (right_nums hr0)] at h9; exact h9)) ?_
  rintro _ w112 ⟨v114, I115, le116, rfl, H117, S113⟩
  refine EL_nil ?_
  refine ⟨rfl, ⟨(lT (lT (lT le104 le108) le116) S113.le), fun h => by cases h⟩, ?_⟩
  refine EJ_strong (fun w' => Gh.le I115 (gh w')) _ (fun w' hw => lT (lT (lT le104 le108) le116) hw) (fun w' _ ht => ht) ?_
  refine jF 12 rfl (by kernel_rfl) (.tuple #[v114, .int .i64 0]) rfl (fun _ hw => r_move rfl) ⟨S113.le, fun h => by cases h⟩ ?_
  refine jF 13 rfl (by kernel_rfl) v114 rfl (fun _ hw => r_extract rfl rfl) ⟨S113.le, fun h => by cases h⟩ ?_
  refine jF 14 rfl (by kernel_rfl) (.int .i64 0) rfl (fun _ hw => r_extract rfl rfl) ⟨S113.le, fun h => by cases h⟩ ?_
  refine jF 15 rfl (by kernel_rfl) v114 rfl (fun _ hw => r_assign rfl) ⟨S113.le, fun h => by cases h⟩ ?_
  refine jF 16 rfl (by kernel_rfl) (.int .i64 0) rfl (fun _ hw => r_assign rfl) ⟨S113.le, fun h => by cases h⟩ ?_
  refine EJ_done (by kernel_rfl) ?_
  refine thn_n (EC_seq (EC_seq (EC_reg (vM (.int .i64 0) rfl rfl (vl (.bool false) rfl (r_dec (by decide) (r_neq rfl rfl)) ?_)))))
  refine EL_nil (thn_n ?_)
  refine EC_cond_false rfl ?_
  refine EC_skip (thn_n (EC_seq ?_))
  rcases first3 (stripE y = 0) (innerOk y = true) (decE (innerB y) = 0) with hd | hd | hd | hd
  have hyo : yOk y = false := yno (.inl hd)
  have hE : openRE L s k r = 10 := by rw [hE1, openYE, if_neg (by rw [hyo]; decide)]
  have hL0 : openRL L s k r = L := by rw [hL1, openYL, if_neg (by rw [hyo]; rintro ⟨h, _⟩; cases h)]
  refine EC_reg (vM v114 rfl rfl ?_)
  refine eR rfl F53 rfl (Strip13_c v114 y I115 _ _ S113 H117 (by omega)) ?_
  rintro _ w118 ⟨u120, I121, le122, rfl, H123, S119⟩
  refine vl (.tuple #[u120, .bool false]) rfl (r_move (Eq.trans (show _ = .tuple #[u120, .bool (decide (stripE y = 0))] from rfl) (by rw [show (decide (stripE y = 0)) = false from by rw [decide_eq_false_iff_not]; exact hd]))) (vX u120 rfl rfl rfl (vX (.bool false) rfl rfl rfl (vA u120 rfl rfl (vA (.bool false) rfl rfl (EL_nil ?_)))))
  refine thn_n (EC_seq (EC_reg (vM u120 rfl rfl (vl (.agg ([u120, .int .i64 0, .bool false]).toArray) rfl (r_buildS (l := [(0, u120)]) st_100 (parts1 rfl) (Eq.trans (show Instr.fill _ _ [(0, u120)] = _ from (fill_one rfl (row_cells (H123 _ S119.le)) rfl fill_end)) (by kernel_rfl))) ?_))))
  refine EL_box [u120, .int .i64 0, .bool false] rfl rfl rfl ?_
  intro b124 w125 k126 A127 B128 z129
  have S130 := S119.newB B128 A127 k126
  refine vA (ptr b124) rfl rfl (EL_nil (thn_n (EC_seq ?_)))
  have hsb := stripB_le y
  have S131 := RdQ.cls (r := Rd.mk (stripB y) false) 0 (row_one (H123 _ S130.le)) H123 (by first | assumption | omega | (simp; omega)) rfl (Nat.zero_le _) (by rw [List.drop_zero]) S130
  skip
  refine EC_reg (vM (ptr b124) rfl rfl ?_)
  refine eR rfl F54 rfl (RText8_c (ptr b124) (Rd.mk (stripB y) false) 0 4096 I121 _ _ S131) ?_
  rintro _ w132 ⟨u134, I135, le136, rfl, H137, S133⟩
  refine vA u134 rfl rfl (EL_nil (thn_n (EC_seq (EC_reg (vM (ptr b124) rfl rfl ?_)))))
  refine eR rfl F54 rfl (RText8_c (ptr b124) (rdTxtS (Rd.mk (stripB y) false) 0 4096) 0 4096 I135 _ _ S133) ?_
  rintro _ w138 ⟨u140, I141, le142, rfl, H143, S139⟩
  refine vA u140 rfl rfl (EL_nil (thn_n (EC_seq (EC_reg (vM u134 rfl rfl ?_)))))
  refine eR rfl F55 rfl (Read9_c u134 (rdTxt (Rd.mk (stripB y) false) 0 4096) I141 _ _ S139 (H137.up le142) (Nat.le_trans (txt4096 _) (by decide))) ?_
  rintro _ w144 ⟨cs146, I147, le148, rfl, h149, S145⟩
  obtain ⟨v153, v156, v162, rfl, r150, r151, r152, ⟨o154, H155⟩, ⟨o157, H158⟩, r159, r160, r161, ⟨o163, H164⟩⟩ := h149
  refine vM (.tuple #[.agg ((entRC (decV (rdTxt (Rd.mk (stripB y) false) 0 4096)) v153 v156 v162)).toArray, .bool (decOk (rdTxt (Rd.mk (stripB y) false) 0 4096))]) rfl rfl (vX (.agg ((entRC (decV (rdTxt (Rd.mk (stripB y) false) 0 4096)) v153 v156 v162)).toArray) rfl rfl rfl (vX (.bool (decOk (rdTxt (Rd.mk (stripB y) false) 0 4096))) rfl rfl rfl ?_))
  refine EL_alloc (z := .agg #[.int .i64 0, .int .i64 0, .int .i64 0, .slice none 0 0, .slice none 0 0, .int .i64 0, .int .i64 0, .int .i64 0, .slice none 0 0]) entR0 rfl (by kernel_rfl) rfl ?_
  intro b165 w166 k167 A168 B169 z170
  have S171 := S145.newB B169 A168 k167
  refine sA (entRC (decV (rdTxt (Rd.mk (stripB y) false) 0 4096)) v153 v156 v162) rfl rfl (S171.arr 0 rfl) rfl (by kernel_rfl) (ones_cons rfl (ones_cons rfl (ones_cons rfl (ones_cons o154 (ones_cons o157 (ones_cons rfl (ones_cons rfl (ones_cons rfl (ones_cons o163 (fun _ h => nomatch h)))))))))) ?_
  intro w172 A173 K174 z175
  have S176 := S171.wr0 (ds := (entRC (decV (rdTxt (Rd.mk (stripB y) false) 0 4096)) v153 v156 v162)) K174 A173
  refine vA (.bool (decOk (rdTxt (Rd.mk (stripB y) false) 0 4096))) rfl rfl (EL_nil (thn_n (EC_seq (EC_seq (EC_reg ?_)))))
  refine vM (.bool false) rfl rfl (vl (.bool true) rfl (r_dec (show (!false) = true from rfl) (r_not rfl)) (vM (.bool true) rfl rfl (EL_pass 64 rfl rfl rfl rfl rfl (EL_pass 64 rfl rfl rfl rfl rfl (EL_pass 64 rfl rfl rfl rfl rfl ?_)))))
  refine vT (.bool true) rfl rfl rfl (vM (.bool true) rfl rfl (EL_pass 69 rfl rfl rfl rfl rfl (EL_pass 69 rfl rfl rfl rfl rfl (vT (.bool true) rfl rfl rfl (EL_nil ?_)))))
  refine thn_n ?_
  refine EC_cond_true rfl ?_
  refine EC_seq (EC_reg (vl (.agg (entR0).toArray) rfl (r_buildS (l := []) st_51 rfl (Eq.trans (show Instr.fill _ _ [] = _ from fill_end) (by kernel_rfl))) ?_))
  refine sA entR0 rfl rfl (S176.arr 3 rfl) rfl (by kernel_rfl) (by simp [Value.oneCell']) ?_
  intro w177 A178 K179 z180
  have S181 := S176.wr3 (ds := entR0) K179 A178
  refine vA (.int .i64 10) rfl rfl (EL_nil (thn_n (EC_ret (thn_r ?_))))
  refine fin2c Tryz.results15 (show _ = ptr b25 from rfl) (show _ = .int .i64 10 from rfl) (S181.arr 3 rfl) U51 rfl (by kernel_rfl) ⟨_, rfl, ?_⟩
  have q183 : L = openRL L s k r := hL0.symm
  have S182 := Sat.ah2 (RefT p) S181 q183
  have q184 : (openRV L s k r) = (⟨0, 0, 0, [], [], 0, 0, 0, []⟩ : Entry) := by rw [openRV, if_neg (by rw [hE]; decide)]; rfl
  have S185 := S182.dr0
  have S186 := S185.dr0
  have S187 := S186.dr1
  have S188 := S187.dr1
  exact ⟨entR0, I147, (lT (lT (lT (lT (lT (lT le104 le108) le116) le122) le136) le142) le148), (by rw [hE]), (by rw [q184]; exact (entRz _)), S188⟩
  have hyo : yOk y = false := yno (.inr (.inl hd.2))
  have hE : openRE L s k r = 10 := by rw [hE1, openYE, if_neg (by rw [hyo]; decide)]
  have hL0 : openRL L s k r = L := by rw [hL1, openYL, if_neg (by rw [hyo]; rintro ⟨h, _⟩; cases h)]
  refine EC_reg (vM v114 rfl rfl ?_)
  refine eR rfl F53 rfl (Strip13_c v114 y I115 _ _ S113 H117 (by omega)) ?_
  rintro _ w189 ⟨u191, I192, le193, rfl, H194, S190⟩
  refine vl (.tuple #[u191, .bool true]) rfl (r_move (Eq.trans (show _ = .tuple #[u191, .bool (decide (stripE y = 0))] from rfl) (by rw [show (decide (stripE y = 0)) = true from by rw [decide_eq_true_eq]; exact hd.1]))) (vX u191 rfl rfl rfl (vX (.bool true) rfl rfl rfl (vA u191 rfl rfl (vA (.bool true) rfl rfl (EL_nil ?_)))))
  refine thn_n (EC_seq (EC_reg (vM u191 rfl rfl (vl (.agg ([u191, .int .i64 0, .bool false]).toArray) rfl (r_buildS (l := [(0, u191)]) st_100 (parts1 rfl) (Eq.trans (show Instr.fill _ _ [(0, u191)] = _ from (fill_one rfl (row_cells (H194 _ S190.le)) rfl fill_end)) (by kernel_rfl))) ?_))))
  refine EL_box [u191, .int .i64 0, .bool false] rfl rfl rfl ?_
  intro b195 w196 k197 A198 B199 z200
  have S201 := S190.newB B199 A198 k197
  refine vA (ptr b195) rfl rfl (EL_nil (thn_n (EC_seq ?_)))
  have hsb := stripB_le y
  have S202 := RdQ.cls (r := Rd.mk (stripB y) false) 0 (row_one (H194 _ S201.le)) H194 (by first | assumption | omega | (simp; omega)) rfl (Nat.zero_le _) (by rw [List.drop_zero]) S201
  skip
  refine EC_reg (vM (ptr b195) rfl rfl ?_)
  refine eR rfl F54 rfl (RText8_c (ptr b195) (Rd.mk (stripB y) false) 0 4096 I192 _ _ S202) ?_
  rintro _ w203 ⟨u205, I206, le207, rfl, H208, S204⟩
  refine vA u205 rfl rfl (EL_nil (thn_n (EC_seq (EC_reg (vM (ptr b195) rfl rfl ?_)))))
  refine eR rfl F54 rfl (RText8_c (ptr b195) (rdTxtS (Rd.mk (stripB y) false) 0 4096) 0 4096 I206 _ _ S204) ?_
  rintro _ w209 ⟨u211, I212, le213, rfl, H214, S210⟩
  refine vA u211 rfl rfl (EL_nil (thn_n (EC_seq (EC_reg (vM u205 rfl rfl ?_)))))
  refine eR rfl F55 rfl (Read9_c u205 (rdTxt (Rd.mk (stripB y) false) 0 4096) I212 _ _ S210 (H208.up le213) (Nat.le_trans (txt4096 _) (by decide))) ?_
  rintro _ w215 ⟨cs217, I218, le219, rfl, h220, S216⟩
  obtain ⟨v224, v227, v233, rfl, r221, r222, r223, ⟨o225, H226⟩, ⟨o228, H229⟩, r230, r231, r232, ⟨o234, H235⟩⟩ := h220
  refine vM (.tuple #[.agg ((entRC (decV (rdTxt (Rd.mk (stripB y) false) 0 4096)) v224 v227 v233)).toArray, .bool (decOk (rdTxt (Rd.mk (stripB y) false) 0 4096))]) rfl rfl (vX (.agg ((entRC (decV (rdTxt (Rd.mk (stripB y) false) 0 4096)) v224 v227 v233)).toArray) rfl rfl rfl (vX (.bool (decOk (rdTxt (Rd.mk (stripB y) false) 0 4096))) rfl rfl rfl ?_))
  refine EL_alloc (z := .agg #[.int .i64 0, .int .i64 0, .int .i64 0, .slice none 0 0, .slice none 0 0, .int .i64 0, .int .i64 0, .int .i64 0, .slice none 0 0]) entR0 rfl (by kernel_rfl) rfl ?_
  intro b236 w237 k238 A239 B240 z241
  have S242 := S216.newB B240 A239 k238
  refine sA (entRC (decV (rdTxt (Rd.mk (stripB y) false) 0 4096)) v224 v227 v233) rfl rfl (S242.arr 0 rfl) rfl (by kernel_rfl) (ones_cons rfl (ones_cons rfl (ones_cons rfl (ones_cons o225 (ones_cons o228 (ones_cons rfl (ones_cons rfl (ones_cons rfl (ones_cons o234 (fun _ h => nomatch h)))))))))) ?_
  intro w243 A244 K245 z246
  have S247 := S242.wr0 (ds := (entRC (decV (rdTxt (Rd.mk (stripB y) false) 0 4096)) v224 v227 v233)) K245 A244
  refine vA (.bool (decOk (rdTxt (Rd.mk (stripB y) false) 0 4096))) rfl rfl (EL_nil (thn_n (EC_seq (EC_seq (EC_reg ?_)))))
  refine vM (.bool true) rfl rfl (vl (.bool false) rfl (r_dec (show (!true) = false from rfl) (r_not rfl)) (vM (.bool false) rfl rfl (gM  64 rfl rfl rfl rfl (ptr b195) rfl rfl ?_)))
  have S248 := S247.fr1
  refine eG 64 rfl rfl rfl rfl rfl F56 rfl (REnd8_c (ptr b195) (rdTxtS (rdTxtS (Rd.mk (stripB y) false) 0 4096) 0 4096) I218 _ _ S248) ?_
  rintro _ w249 ⟨rfl, S250⟩
  refine gl  64 rfl rfl rfl rfl (.bool true) rfl (r_dec (show (!false) = true from rfl) (r_not (Eq.trans (show _ = Value.bool (rdEnd (rdTxtS (rdTxtS (Rd.mk (stripB y) false) 0 4096) 0 4096)) from rfl) (congrArg Value.bool (show (rdEnd (rdTxtS (rdTxtS (Rd.mk (stripB y) false) 0 4096) 0 4096)) = false from (Bool.not_eq_true _).mp hd.2))))) (vF (.bool true) rfl rfl rfl (vM (.bool true) rfl rfl (EL_pass 69 rfl rfl rfl rfl rfl (EL_pass 69 rfl rfl rfl rfl rfl (vT (.bool true) rfl rfl rfl ?_)))))
  refine EL_nil (thn_n ?_)
  refine EC_cond_true rfl ?_
  refine EC_seq (EC_reg (vl (.agg (entR0).toArray) rfl (r_buildS (l := []) st_51 rfl (Eq.trans (show Instr.fill _ _ [] = _ from fill_end) (by kernel_rfl))) ?_))
  refine sA entR0 rfl rfl (S250.arr 3 rfl) rfl (by kernel_rfl) (by simp [Value.oneCell']) ?_
  intro w251 A252 K253 z254
  have S255 := S250.wr3 (ds := entR0) K253 A252
  refine vA (.int .i64 10) rfl rfl (EL_nil (thn_n (EC_ret (thn_r ?_))))
  refine fin2c Tryz.results15 (show _ = ptr b25 from rfl) (show _ = .int .i64 10 from rfl) (S255.arr 3 rfl) U51 rfl (by kernel_rfl) ⟨_, rfl, ?_⟩
  have q257 : L = openRL L s k r := hL0.symm
  have S256 := Sat.ah2 (RefT p) S255 q257
  have q258 : (openRV L s k r) = (⟨0, 0, 0, [], [], 0, 0, 0, []⟩ : Entry) := by rw [openRV, if_neg (by rw [hE]; decide)]; rfl
  have S259 := S256.dr0
  have S260 := S259.dr0
  have S261 := S260.dr1
  have S262 := S261.dr1
  exact ⟨entR0, I218, (lT (lT (lT (lT (lT (lT le104 le108) le116) le193) le207) le213) le219), (by rw [hE]), (by rw [q258]; exact (entRz _)), S262⟩
  have hyo : yOk y = false := yno (.inr (.inr hd.2.2))
  have hE : openRE L s k r = 10 := by rw [hE1, openYE, if_neg (by rw [hyo]; decide)]
  have hL0 : openRL L s k r = L := by rw [hL1, openYL, if_neg (by rw [hyo]; rintro ⟨h, _⟩; cases h)]
  refine EC_reg (vM v114 rfl rfl ?_)
  refine eR rfl F53 rfl (Strip13_c v114 y I115 _ _ S113 H117 (by omega)) ?_
  rintro _ w263 ⟨u265, I266, le267, rfl, H268, S264⟩
  refine vl (.tuple #[u265, .bool true]) rfl (r_move (Eq.trans (show _ = .tuple #[u265, .bool (decide (stripE y = 0))] from rfl) (by rw [show (decide (stripE y = 0)) = true from by rw [decide_eq_true_eq]; exact hd.1]))) (vX u265 rfl rfl rfl (vX (.bool true) rfl rfl rfl (vA u265 rfl rfl (vA (.bool true) rfl rfl (EL_nil ?_)))))
  refine thn_n (EC_seq (EC_reg (vM u265 rfl rfl (vl (.agg ([u265, .int .i64 0, .bool false]).toArray) rfl (r_buildS (l := [(0, u265)]) st_100 (parts1 rfl) (Eq.trans (show Instr.fill _ _ [(0, u265)] = _ from (fill_one rfl (row_cells (H268 _ S264.le)) rfl fill_end)) (by kernel_rfl))) ?_))))
  refine EL_box [u265, .int .i64 0, .bool false] rfl rfl rfl ?_
  intro b269 w270 k271 A272 B273 z274
  have S275 := S264.newB B273 A272 k271
  refine vA (ptr b269) rfl rfl (EL_nil (thn_n (EC_seq ?_)))
  have hsb := stripB_le y
  have S276 := RdQ.cls (r := Rd.mk (stripB y) false) 0 (row_one (H268 _ S275.le)) H268 (by first | assumption | omega | (simp; omega)) rfl (Nat.zero_le _) (by rw [List.drop_zero]) S275
  skip
  refine EC_reg (vM (ptr b269) rfl rfl ?_)
  refine eR rfl F54 rfl (RText8_c (ptr b269) (Rd.mk (stripB y) false) 0 4096 I266 _ _ S276) ?_
  rintro _ w277 ⟨u279, I280, le281, rfl, H282, S278⟩
  refine vA u279 rfl rfl (EL_nil (thn_n (EC_seq (EC_reg (vM (ptr b269) rfl rfl ?_)))))
  refine eR rfl F54 rfl (RText8_c (ptr b269) (rdTxtS (Rd.mk (stripB y) false) 0 4096) 0 4096 I280 _ _ S278) ?_
  rintro _ w283 ⟨u285, I286, le287, rfl, H288, S284⟩
  refine vA u285 rfl rfl (EL_nil (thn_n (EC_seq (EC_reg (vM u279 rfl rfl ?_)))))
  refine eR rfl F55 rfl (Read9_c u279 (rdTxt (Rd.mk (stripB y) false) 0 4096) I286 _ _ S284 (H282.up le287) (Nat.le_trans (txt4096 _) (by decide))) ?_
  rintro _ w289 ⟨cs291, I292, le293, rfl, h294, S290⟩
  obtain ⟨v298, v301, v307, rfl, r295, r296, r297, ⟨o299, H300⟩, ⟨o302, H303⟩, r304, r305, r306, ⟨o308, H309⟩⟩ := h294
  refine vl (.tuple #[.agg ((entRC (decV (rdTxt (Rd.mk (stripB y) false) 0 4096)) v298 v301 v307)).toArray, .bool false]) rfl (r_move (Eq.trans (show _ = .tuple #[.agg ((entRC (decV (rdTxt (Rd.mk (stripB y) false) 0 4096)) v298 v301 v307)).toArray, .bool (decOk (rdTxt (Rd.mk (stripB y) false) 0 4096))] from rfl) (by rw [show (decOk (rdTxt (Rd.mk (stripB y) false) 0 4096)) = false from (by rw [← Bool.not_eq_true]; exact fun h => hd.2.2 (decE_ok.2 h))]))) (vX (.agg ((entRC (decV (rdTxt (Rd.mk (stripB y) false) 0 4096)) v298 v301 v307)).toArray) rfl rfl rfl (vX (.bool false) rfl rfl rfl ?_))
  refine EL_alloc (z := .agg #[.int .i64 0, .int .i64 0, .int .i64 0, .slice none 0 0, .slice none 0 0, .int .i64 0, .int .i64 0, .int .i64 0, .slice none 0 0]) entR0 rfl (by kernel_rfl) rfl ?_
  intro b310 w311 k312 A313 B314 z315
  have S316 := S290.newB B314 A313 k312
  refine sA (entRC (decV (rdTxt (Rd.mk (stripB y) false) 0 4096)) v298 v301 v307) rfl rfl (S316.arr 0 rfl) rfl (by kernel_rfl) (ones_cons rfl (ones_cons rfl (ones_cons rfl (ones_cons o299 (ones_cons o302 (ones_cons rfl (ones_cons rfl (ones_cons rfl (ones_cons o308 (fun _ h => nomatch h)))))))))) ?_
  intro w317 A318 K319 z320
  have S321 := S316.wr0 (ds := (entRC (decV (rdTxt (Rd.mk (stripB y) false) 0 4096)) v298 v301 v307)) K319 A318
  refine vA (.bool false) rfl rfl (EL_nil (thn_n (EC_seq (EC_seq (EC_reg ?_)))))
  refine vM (.bool true) rfl rfl (vl (.bool false) rfl (r_dec (show (!true) = false from rfl) (r_not rfl)) (vM (.bool false) rfl rfl (gM  64 rfl rfl rfl rfl (ptr b269) rfl rfl ?_)))
  have S322 := S321.fr1
  refine eG 64 rfl rfl rfl rfl rfl F56 rfl (REnd8_c (ptr b269) (rdTxtS (rdTxtS (Rd.mk (stripB y) false) 0 4096) 0 4096) I292 _ _ S322) ?_
  rintro _ w323 ⟨rfl, S324⟩
  refine gl  64 rfl rfl rfl rfl (.bool false) rfl (r_dec (show (!true) = false from rfl) (r_not (Eq.trans (show _ = Value.bool (rdEnd (rdTxtS (rdTxtS (Rd.mk (stripB y) false) 0 4096) 0 4096)) from rfl) (congrArg Value.bool (show (rdEnd (rdTxtS (rdTxtS (Rd.mk (stripB y) false) 0 4096) 0 4096)) = true from (show _ from hd.2.1)))))) (vF (.bool false) rfl rfl rfl (vM (.bool false) rfl rfl (gM  69 rfl rfl rfl rfl (.bool false) rfl rfl (gl  69 rfl rfl rfl rfl (.bool true) rfl (r_dec (show (!false) = true from rfl) (r_not rfl)) (vF (.bool true) rfl rfl rfl ?_)))))
  refine EL_nil (thn_n ?_)
  refine EC_cond_true rfl ?_
  refine EC_seq (EC_reg (vl (.agg (entR0).toArray) rfl (r_buildS (l := []) st_51 rfl (Eq.trans (show Instr.fill _ _ [] = _ from fill_end) (by kernel_rfl))) ?_))
  refine sA entR0 rfl rfl (S324.arr 3 rfl) rfl (by kernel_rfl) (by simp [Value.oneCell']) ?_
  intro w325 A326 K327 z328
  have S329 := S324.wr3 (ds := entR0) K327 A326
  refine vA (.int .i64 10) rfl rfl (EL_nil (thn_n (EC_ret (thn_r ?_))))
  refine fin2c Tryz.results15 (show _ = ptr b25 from rfl) (show _ = .int .i64 10 from rfl) (S329.arr 3 rfl) U51 rfl (by kernel_rfl) ⟨_, rfl, ?_⟩
  have q331 : L = openRL L s k r := hL0.symm
  have S330 := Sat.ah2 (RefT p) S329 q331
  have q332 : (openRV L s k r) = (⟨0, 0, 0, [], [], 0, 0, 0, []⟩ : Entry) := by rw [openRV, if_neg (by rw [hE]; decide)]; rfl
  have S333 := S330.dr0
  have S334 := S333.dr0
  have S335 := S334.dr1
  have S336 := S335.dr1
  exact ⟨entR0, I292, (lT (lT (lT (lT (lT (lT le104 le108) le116) le267) le281) le287) le293), (by rw [hE]), (by rw [q332]; exact (entRz _)), S336⟩
  have hyo : yOk y = true := yyes hd
  refine EC_reg (vM v114 rfl rfl ?_)
  refine eR rfl F53 rfl (Strip13_c v114 y I115 _ _ S113 H117 (by omega)) ?_
  rintro _ w337 ⟨u339, I340, le341, rfl, H342, S338⟩
  refine vl (.tuple #[u339, .bool true]) rfl (r_move (Eq.trans (show _ = .tuple #[u339, .bool (decide (stripE y = 0))] from rfl) (by rw [show (decide (stripE y = 0)) = true from by rw [decide_eq_true_eq]; exact hd.1]))) (vX u339 rfl rfl rfl (vX (.bool true) rfl rfl rfl (vA u339 rfl rfl (vA (.bool true) rfl rfl (EL_nil ?_)))))
  refine thn_n (EC_seq (EC_reg (vM u339 rfl rfl (vl (.agg ([u339, .int .i64 0, .bool false]).toArray) rfl (r_buildS (l := [(0, u339)]) st_100 (parts1 rfl) (Eq.trans (show Instr.fill _ _ [(0, u339)] = _ from (fill_one rfl (row_cells (H342 _ S338.le)) rfl fill_end)) (by kernel_rfl))) ?_))))
  refine EL_box [u339, .int .i64 0, .bool false] rfl rfl rfl ?_
  intro b343 w344 k345 A346 B347 z348
  have S349 := S338.newB B347 A346 k345
  refine vA (ptr b343) rfl rfl (EL_nil (thn_n (EC_seq ?_)))
  have hsb := stripB_le y
  have S350 := RdQ.cls (r := Rd.mk (stripB y) false) 0 (row_one (H342 _ S349.le)) H342 (by first | assumption | omega | (simp; omega)) rfl (Nat.zero_le _) (by rw [List.drop_zero]) S349
  skip
  refine EC_reg (vM (ptr b343) rfl rfl ?_)
  refine eR rfl F54 rfl (RText8_c (ptr b343) (Rd.mk (stripB y) false) 0 4096 I340 _ _ S350) ?_
  rintro _ w351 ⟨u353, I354, le355, rfl, H356, S352⟩
  refine vA u353 rfl rfl (EL_nil (thn_n (EC_seq (EC_reg (vM (ptr b343) rfl rfl ?_)))))
  refine eR rfl F54 rfl (RText8_c (ptr b343) (rdTxtS (Rd.mk (stripB y) false) 0 4096) 0 4096 I354 _ _ S352) ?_
  rintro _ w357 ⟨u359, I360, le361, rfl, H362, S358⟩
  refine vA u359 rfl rfl (EL_nil (thn_n (EC_seq (EC_reg (vM u353 rfl rfl ?_)))))
  refine eR rfl F55 rfl (Read9_c u353 (rdTxt (Rd.mk (stripB y) false) 0 4096) I360 _ _ S358 (H356.up le361) (Nat.le_trans (txt4096 _) (by decide))) ?_
  rintro _ w363 ⟨cs365, I366, le367, rfl, h368, S364⟩
  obtain ⟨v372, v375, v381, rfl, r369, r370, r371, ⟨o373, H374⟩, ⟨o376, H377⟩, r378, r379, r380, ⟨o382, H383⟩⟩ := h368
  refine vl (.tuple #[.agg ((entRC (decV (rdTxt (Rd.mk (stripB y) false) 0 4096)) v372 v375 v381)).toArray, .bool true]) rfl (r_move (Eq.trans (show _ = .tuple #[.agg ((entRC (decV (rdTxt (Rd.mk (stripB y) false) 0 4096)) v372 v375 v381)).toArray, .bool (decOk (rdTxt (Rd.mk (stripB y) false) 0 4096))] from rfl) (by rw [show (decOk (rdTxt (Rd.mk (stripB y) false) 0 4096)) = true from (decE_ok.1 hd.2.2)]))) (vX (.agg ((entRC (decV (rdTxt (Rd.mk (stripB y) false) 0 4096)) v372 v375 v381)).toArray) rfl rfl rfl (vX (.bool true) rfl rfl rfl ?_))
  refine EL_alloc (z := .agg #[.int .i64 0, .int .i64 0, .int .i64 0, .slice none 0 0, .slice none 0 0, .int .i64 0, .int .i64 0, .int .i64 0, .slice none 0 0]) entR0 rfl (by kernel_rfl) rfl ?_
  intro b384 w385 k386 A387 B388 z389
  have S390 := S364.newB B388 A387 k386
  refine sA (entRC (decV (rdTxt (Rd.mk (stripB y) false) 0 4096)) v372 v375 v381) rfl rfl (S390.arr 0 rfl) rfl (by kernel_rfl) (ones_cons rfl (ones_cons rfl (ones_cons rfl (ones_cons o373 (ones_cons o376 (ones_cons rfl (ones_cons rfl (ones_cons rfl (ones_cons o382 (fun _ h => nomatch h)))))))))) ?_
  intro w391 A392 K393 z394
  have S395 := S390.wr0 (ds := (entRC (decV (rdTxt (Rd.mk (stripB y) false) 0 4096)) v372 v375 v381)) K393 A392
  refine vA (.bool true) rfl rfl (EL_nil (thn_n (EC_seq (EC_seq (EC_reg ?_)))))
  refine vM (.bool true) rfl rfl (vl (.bool false) rfl (r_dec (show (!true) = false from rfl) (r_not rfl)) (vM (.bool false) rfl rfl (gM  64 rfl rfl rfl rfl (ptr b343) rfl rfl ?_)))
  have S396 := S395.fr1
  refine eG 64 rfl rfl rfl rfl rfl F56 rfl (REnd8_c (ptr b343) (rdTxtS (rdTxtS (Rd.mk (stripB y) false) 0 4096) 0 4096) I366 _ _ S396) ?_
  rintro _ w397 ⟨rfl, S398⟩
  refine gl  64 rfl rfl rfl rfl (.bool false) rfl (r_dec (show (!true) = false from rfl) (r_not (Eq.trans (show _ = Value.bool (rdEnd (rdTxtS (rdTxtS (Rd.mk (stripB y) false) 0 4096) 0 4096)) from rfl) (congrArg Value.bool (show (rdEnd (rdTxtS (rdTxtS (Rd.mk (stripB y) false) 0 4096) 0 4096)) = true from (show _ from hd.2.1)))))) (vF (.bool false) rfl rfl rfl (vM (.bool false) rfl rfl (gM  69 rfl rfl rfl rfl (.bool true) rfl rfl (gl  69 rfl rfl rfl rfl (.bool false) rfl (r_dec (show (!true) = false from rfl) (r_not rfl)) (vF (.bool false) rfl rfl rfl ?_)))))
  refine EL_nil (thn_n ?_)
  refine EC_cond_false rfl ?_
  refine EC_skip (thn_n (EC_seq (EC_seq ?_)))
  rcases Decidable.em ((decV (innerB y)).writer = r.writer) with hw0 | hw0
  have hL0 : openRL L s k r = markL L s r.coll r.writer (innerB y) := by rw [hL1, openYL, if_pos ⟨hyo, hw0⟩]
  refine EC_reg (vl (ptr b384 1) rfl (fP 0 rfl U51 (by kernel_rfl)) (vL (.int .i64 ((decV (rdTxt (Rd.mk (stripB y) false) 0 4096)).writer)) rfl rfl (S398.arr 1 rfl) rfl U3 rfl (vl (ptr b18 2) rfl (fP 0 rfl U46 (by kernel_rfl)) (vL (.int .i64 r.writer) rfl rfl (S398.arr 4 rfl) rfl U3 rfl (vl (.bool false) rfl (r_dec (show (decide (((decV (rdTxt (Rd.mk (stripB y) false) 0 4096)).writer) ≠ r.writer)) = false from by rw [decide_eq_false_iff_not]; exact fun h => h hw0) (r_neq rfl rfl)) ?_)))))
  refine EL_nil (thn_n ?_)
  refine EC_cond_false rfl ?_
  refine EC_skip (thn_n (EC_seq (EC_seq ?_)))
  refine EC_any 9 (fun w' => Gh.le I366 (gh w')) (fun w' => Arr w' b18 46 (recRC r v15)) (by kernel_rfl) ?_
  intro w399 B400
  have S401 := S398.below B400
  refine jF 0 rfl (by kernel_rfl) u359 rfl (fun _ hw => r_move rfl) ⟨S401.le, fun h => S401.arr 4 rfl⟩ ?_
  refine jF 1 rfl (by kernel_rfl) (.string (str (rdTxt (rdTxtS (Rd.mk (stripB y) false) 0 4096) 0 4096))) rfl (fun _ hw => r_str rfl (H362 _ (lT le367 hw)) U22 U5 U9) ⟨S401.le, fun h => S401.arr 4 rfl⟩ ?_
  refine jT 2 rfl (by kernel_rfl) p rfl (fun _ hw ht => r_move rfl) ⟨S401.le, fun h => S401.arr 4 rfl⟩ ?_
  refine jT 3 rfl (by kernel_rfl) v0 rfl (fun _ hw ht => r_move rfl) ⟨S401.le, fun h => S401.arr 4 rfl⟩ ?_
  refine jT 4 rfl (by kernel_rfl) (ptr b18 0) rfl (fun _ hw ht => fP 0 rfl U46 (by kernel_rfl)) ⟨S401.le, fun h => S401.arr 4 rfl⟩ ?_
  refine jT 5 rfl (by kernel_rfl) (.int .i64 r.coll) rfl (fun _ hw ht => r_loadA rfl ht (u := (.int .i64 r.coll)) rfl U3 rfl) ⟨S401.le, fun h => S401.arr 4 rfl⟩ ?_
  refine jT 6 rfl (by kernel_rfl) (ptr b18 2) rfl (fun _ hw ht => fP 0 rfl U46 (by kernel_rfl)) ⟨S401.le, fun h => S401.arr 4 rfl⟩ ?_
  refine jT 7 rfl (by kernel_rfl) (.int .i64 r.writer) rfl (fun _ hw ht => r_loadA rfl ht (u := (.int .i64 r.writer)) rfl U3 rfl) ⟨S401.le, fun h => S401.arr 4 rfl⟩ ?_
  refine jT 8 rfl (by kernel_rfl) u353 rfl (fun _ hw ht => r_move rfl) ⟨S401.le, fun h => S401.arr 4 rfl⟩ ?_
  refine EJ_one 9 (by kernel_rfl) ⟨_, rfl, ?_⟩
  have S402 := S401.fr2
  refine eR rfl F41 rfl (Mark15_c p L v0 s r.coll r.writer u353 (rdTxt (Rd.mk (stripB y) false) 0 4096) I366 _ _ S402 (Q0.up (lT (lT (lT (lT (lT (lT le104 le108) le116) le341) le355) le361) le367)) (H356.up (lT le361 le367)) (by omega) hP (rightW_iff.2 (by omega)) (by omega) (txt4096 _)) ?_
  rintro _ w403 ⟨v405, I406, le407, rfl, S404⟩
  refine EL_nil ?_
  refine ⟨rfl, ⟨(lT le407 S404.le), fun h => by cases h⟩, ?_⟩
  refine EJ_strong (fun w' => Gh.le I406 (gh w')) _ (fun w' hw => lT le407 hw) (fun w' _ ht => ht) ?_
  obtain ⟨I408, le409, S410, H411⟩ := S404.fb0
  refine EJ_strong (fun w' => Gh.le I408 (gh w')) _ (fun w' hw => lT le409 hw) (fun w' _ ht => ht) ?_
  refine jF 10 rfl (by kernel_rfl) (.string (str (markB L s r.coll r.writer (rdTxt (Rd.mk (stripB y) false) 0 4096)))) rfl (fun _ hw => r_str rfl (H411 _ hw) U22 U5 U9) ⟨S410.le, fun h => by cases h⟩ ?_
  refine jF 11 rfl (by kernel_rfl) (.bool (decide ((rdTxt (rdTxtS (Rd.mk (stripB y) false) 0 4096) 0 4096) ≠ (markB L s r.coll r.writer (rdTxt (Rd.mk (stripB y) false) 0 4096))))) rfl (fun _ hw => r_neqs rfl rfl) ⟨S410.le, fun h => by cases h⟩ ?_
  refine EJ_done (by kernel_rfl) ?_
  refine thn_n ?_
  refine EC_if (p := (rdTxt (rdTxtS (Rd.mk (stripB y) false) 0 4096) 0 4096) ≠ (markB L s r.coll r.writer (rdTxt (Rd.mk (stripB y) false) 0 4096))) rfl (fun h412 => ?_) (fun h412 => ?_)
  have hm : ¬ innerT y = markB L s r.coll r.writer (innerB y) := by simpa [innerT, innerB] using h412
  have hE : openRE L s k r = 22 := by rw [hE1, openYE, if_pos hyo, if_pos hw0, if_neg hm]
  refine EC_seq (EC_reg (vl (.agg (entR0).toArray) rfl (r_buildS (l := []) st_51 rfl (Eq.trans (show Instr.fill _ _ [] = _ from fill_end) (by kernel_rfl))) ?_))
  refine sA entR0 rfl rfl (S410.arr 3 rfl) rfl (by kernel_rfl) (by simp [Value.oneCell']) ?_
  intro w413 A414 K415 z416
  have S417 := S410.wr3 (ds := entR0) K415 A414
  refine vA (.int .i64 22) rfl rfl (EL_nil (thn_n (EC_ret (thn_r ?_))))
  refine fin2c Tryz.results15 (show _ = ptr b25 from rfl) (show _ = .int .i64 22 from rfl) (S417.arr 3 rfl) U51 rfl (by kernel_rfl) ⟨_, rfl, ?_⟩
  have q419 : markL L s r.coll r.writer (rdTxt (Rd.mk (stripB y) false) 0 4096) = openRL L s k r := hL0.symm
  have S418 := Sat.ah0 (RefT p) S417 q419
  have q420 : (openRV L s k r) = (⟨0, 0, 0, [], [], 0, 0, 0, []⟩ : Entry) := by rw [openRV, if_neg (by rw [hE]; decide)]; rfl
  have S421 := S418.dr1
  have S422 := S421.dr1
  have S423 := S422.dr1
  have S424 := S423.dr1
  exact ⟨entR0, I408, (lT (lT (lT (lT (lT (lT (lT (lT le104 le108) le116) le341) le355) le361) le367) le407) le409), (by rw [hE]), (by rw [q420]; exact (entRz _)), S424⟩
  have hm : innerT y = markB L s r.coll r.writer (innerB y) := by simpa [innerT, innerB] using h412
  have hE : openRE L s k r = 0 := by rw [hE1, openYE, if_pos hyo, if_pos hw0, if_pos hm]
  refine EC_skip (thn_n (EC_seq (EC_reg (vl (.agg ((entRC (decV (rdTxt (Rd.mk (stripB y) false) 0 4096)) v372 v375 v381)).toArray) rfl (r_loadAll rfl (S410.arr 2 rfl) U51 rfl (by kernel_rfl)) ?_))))
  refine sA (entRC (decV (rdTxt (Rd.mk (stripB y) false) 0 4096)) v372 v375 v381) rfl rfl (S410.arr 3 rfl) rfl (by kernel_rfl) (ones_cons rfl (ones_cons rfl (ones_cons rfl (ones_cons o373 (ones_cons o376 (ones_cons rfl (ones_cons rfl (ones_cons rfl (ones_cons o382 (fun _ h => nomatch h)))))))))) ?_
  intro w425 A426 K427 z428
  have S429 := S410.wr3 (ds := (entRC (decV (rdTxt (Rd.mk (stripB y) false) 0 4096)) v372 v375 v381)) K427 A426
  refine vA (.int .i64 0) rfl rfl (EL_nil (thn_n (EC_ret ?_)))
  refine fin2c Tryz.results15 (show _ = ptr b25 from rfl) (show _ = .int .i64 0 from rfl) (S429.arr 3 rfl) U51 rfl (by kernel_rfl) ⟨_, rfl, ?_⟩
  have q431 : markL L s r.coll r.writer (rdTxt (Rd.mk (stripB y) false) 0 4096) = openRL L s k r := hL0.symm
  have S430 := Sat.ah0 (RefT p) S429 q431
  have q432 : (openRV L s k r) = (⟨(decV (rdTxt (Rd.mk (stripB y) false) 0 4096)).kind, (decV (rdTxt (Rd.mk (stripB y) false) 0 4096)).writer, (decV (rdTxt (Rd.mk (stripB y) false) 0 4096)).seq, (decV (rdTxt (Rd.mk (stripB y) false) 0 4096)).name, (decV (rdTxt (Rd.mk (stripB y) false) 0 4096)).value, (decV (rdTxt (Rd.mk (stripB y) false) 0 4096)).who, (decV (rdTxt (Rd.mk (stripB y) false) 0 4096)).rights, (decV (rdTxt (Rd.mk (stripB y) false) 0 4096)).epoch, (decV (rdTxt (Rd.mk (stripB y) false) 0 4096)).wraps⟩ : Entry) := by rw [openRV, if_pos hE, hy]; rfl
  have S433 := S430.dr1
  have S434 := S433.dr1
  have S435 := S434.dr1
  have S436 := S435.dr1
  exact ⟨(entRC (decV (rdTxt (Rd.mk (stripB y) false) 0 4096)) v372 v375 v381), I408, (lT (lT (lT (lT (lT (lT (lT (lT le104 le108) le116) le341) le355) le361) le367) le407) le409), (by rw [hE]), (by rw [q432]; exact ⟨v372, v375, v381, rfl, (by first | assumption | (dsimp only; omega)), (by first | assumption | (dsimp only; omega)), (by first | assumption | (dsimp only; omega)), ⟨o373, (H374.up (lT le407 le409))⟩, ⟨o376, (H377.up (lT le407 le409))⟩, (by first | assumption | (dsimp only; omega)), (by first | assumption | (dsimp only; omega)), (by first | assumption | (dsimp only; omega)), ⟨o382, (H383.up (lT le407 le409))⟩⟩), S436⟩
  have hE : openRE L s k r = 40 := by rw [hE1, openYE, if_pos hyo, if_neg hw0]
  have hL0 : openRL L s k r = L := by rw [hL1, openYL, if_neg (fun h => hw0 h.2)]
  refine EC_reg (vl (ptr b384 1) rfl (fP 0 rfl U51 (by kernel_rfl)) (vL (.int .i64 ((decV (rdTxt (Rd.mk (stripB y) false) 0 4096)).writer)) rfl rfl (S398.arr 1 rfl) rfl U3 rfl (vl (ptr b18 2) rfl (fP 0 rfl U46 (by kernel_rfl)) (vL (.int .i64 r.writer) rfl rfl (S398.arr 4 rfl) rfl U3 rfl (vl (.bool true) rfl (r_dec (show (decide (((decV (rdTxt (Rd.mk (stripB y) false) 0 4096)).writer) ≠ r.writer)) = true from by rw [decide_eq_true_eq]; exact hw0) (r_neq rfl rfl)) ?_)))))
  refine EL_nil (thn_n ?_)
  refine EC_cond_true rfl ?_
  refine EC_seq (EC_reg (vl (.agg (entR0).toArray) rfl (r_buildS (l := []) st_51 rfl (Eq.trans (show Instr.fill _ _ [] = _ from fill_end) (by kernel_rfl))) ?_))
  refine sA entR0 rfl rfl (S398.arr 3 rfl) rfl (by kernel_rfl) (by simp [Value.oneCell']) ?_
  intro w437 A438 K439 z440
  have S441 := S398.wr3 (ds := entR0) K439 A438
  refine vA (.int .i64 40) rfl rfl (EL_nil (thn_n (EC_ret (thn_r ?_))))
  refine fin2c Tryz.results15 (show _ = ptr b25 from rfl) (show _ = .int .i64 40 from rfl) (S441.arr 3 rfl) U51 rfl (by kernel_rfl) ⟨_, rfl, ?_⟩
  have q443 : L = openRL L s k r := hL0.symm
  have S442 := Sat.ah2 (RefT p) S441 q443
  have q444 : (openRV L s k r) = (⟨0, 0, 0, [], [], 0, 0, 0, []⟩ : Entry) := by rw [openRV, if_neg (by rw [hE]; decide)]; rfl
  have S445 := S442.dr0
  have S446 := S445.dr0
  have S447 := S446.dr1
  have S448 := S447.dr1
  exact ⟨entR0, I366, (lT (lT (lT (lT (lT (lT le104 le108) le116) le341) le355) le361) le367), (by rw [hE]), (by rw [q444]; exact (entRz _)), S448⟩

end Go.Proofs.YtoajodjcmeijgaaGreat
