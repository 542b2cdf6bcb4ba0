import Derived.Test.YtoajodjcmeijgaaGreatQSealedPlaysSeaB
set_option linter.unusedVariables false
set_option linter.unusedSimpArgs false
namespace Go.Proofs.YtoajodjcmeijgaaGreat
open Go.RowKit Go.Ecal

set_option maxRecDepth 100000 in
set_option maxHeartbeats 4000000 in
theorem ROpen_c (p : Value) (L : List Thing) (v0 : Value) (s : List UInt8) (v1 : Value) (k : List UInt8) (cr : List Value) (r : Record) (I : Gh) (R : List HP) (w : World) (S : Sat w I (Suite p L :: R)) (Q0 : RoB I v0 s) (Q1 : RoB I v1 k) (hr : recR.r I cr r) (hl : L.length ≤ 800000) (hs : s.length ≤ 100000) (hT : ∀ t ∈ L, t.text.length ≤ 800000000) : Ret Tryz.prog 14 [p, v0, v1, .agg cr.toArray] w fun v w' => ∃ cq : List Value, ∃ J : Gh, Gh.le I J ∧ .tuple #[.agg cq.toArray, .int .i64 (openRE L s k r)] = v ∧ entR.r J cq (openRV L s k r) ∧ Sat w' J (Suite p (openRL L s k r) :: R) := by
  have lq0 := RoB.le Q0 S.le
  have lq1 := RoB.le Q1 S.le
  obtain ⟨v15, rfl, r11, r12, r13, r14, ⟨o16, H17⟩⟩ := hr
  refine ret_E Tryz.func14 rfl Tryz.ntmps14 (by simp) ?_
  refine EC_seq (EC_reg ?_)
  refine EL_box (recRC r v15) rfl rfl rfl ?_
  intro b18 w19 k20 A21 B22 z23
  have S24 := S.newB B22 A21 k20
  refine EL_alloc (z := .agg #[.int .i64 0, .int .i64 0, .int .i64 0, .slice none 0 0, .slice none 0 0, .int .i64 0, .int .i64 0, .int .i64 0, .slice none 0 0]) entR0 rfl (by kernel_rfl) rfl ?_
  intro b25 w26 k27 A28 B29 z30
  have S31 := S24.newB B29 A28 k27
  refine vA (.int .i64 0) rfl rfl (EL_nil (thn_n (EC_seq (EC_block (EC_seq ?_)))))
  rcases opened_cases L k r with hc | hc | hc | hc
  have hE : openRE L s k r = 10 := by rw [openRE, if_neg (by rw [hc]; decide)]
  have hL0 : openRL L s k r = L := by rw [openRL, if_neg (by rw [hc]; decide)]
  refine EC_reg (vl (.agg ((recRC r v15)).toArray) rfl (r_loadAll rfl (S31.arr 1 rfl) U35 rfl (by kernel_rfl)) ?_)
  refine eR rfl F43 rfl (RRight_c (recRC r v15) r I _ _ S31 ⟨v15, rfl, (by first | assumption | (dsimp only; omega)), (by first | assumption | (dsimp only; omega)), (by first | assumption | (dsimp only; omega)), (by first | assumption | (dsimp only; omega)), ⟨o16, H17⟩⟩) ?_
  rintro _ w32 ⟨rfl, S33⟩
  refine vl (.bool true) rfl (r_dec (show (!false) = true from rfl) (r_not (Eq.trans (show _ = Value.bool (r.right) from rfl) (congrArg Value.bool (show (r.right) = false from hc))))) (vA (.bool true) rfl rfl (EL_nil (thn_n ?_)))
  refine EC_cond_true rfl ?_
  refine EC_seq (EC_reg (vl (.agg (entR0).toArray) rfl (r_buildS (l := []) st_38 rfl (Eq.trans (show Instr.fill _ _ [] = _ from fill_end) (by kernel_rfl))) ?_))
  refine sA entR0 rfl rfl (S33.arr 0 rfl) rfl (by kernel_rfl) (by simp [Value.oneCell']) ?_
  intro w34 A35 K36 z37
  have S38 := S33.wr0 (ds := entR0) K36 A35
  refine vA (.int .i64 10) rfl rfl (EL_nil (thn_n (EC_ret (inB_r (thn_r ?_)))))
  refine fin2c Tryz.results14 (show _ = ptr b25 from rfl) (show _ = .int .i64 10 from rfl) (S38.arr 0 rfl) U38 rfl (by kernel_rfl) ⟨_, rfl, ?_⟩
  have q40 : L = openRL L s k r := hL0.symm
  have S39 := Sat.ah2 (Suite p) S38 q40
  have q41 : (openRV L s k r) = (⟨0, 0, 0, [], [], 0, 0, 0, []⟩ : Entry) := by rw [openRV, if_neg (by rw [hE]; decide)]; rfl
  have S42 := S39.dr0
  have S43 := S42.dr0
  exact ⟨entR0, I, (Gh.le_refl _), (by rw [hE]), (by rw [q41]; exact (entRz _)), S43⟩
  have hE : openRE L s k r = 21 := by rw [openRE, if_pos hc.1, if_neg hc.2]
  have hL0 : openRL L s k r = L := by rw [openRL, if_pos hc.1, if_neg hc.2]
  refine EC_reg (vl (.agg ((recRC r v15)).toArray) rfl (r_loadAll rfl (S31.arr 1 rfl) U35 rfl (by kernel_rfl)) ?_)
  refine eR rfl F43 rfl (RRight_c (recRC r v15) r I _ _ S31 ⟨v15, rfl, (by first | assumption | (dsimp only; omega)), (by first | assumption | (dsimp only; omega)), (by first | assumption | (dsimp only; omega)), (by first | assumption | (dsimp only; omega)), ⟨o16, H17⟩⟩) ?_
  rintro _ w44 ⟨rfl, S45⟩
  refine vl (.bool false) rfl (r_dec (show (!true) = false from rfl) (r_not (Eq.trans (show _ = Value.bool (r.right) from rfl) (congrArg Value.bool (show (r.right) = true from hc.1))))) (vA (.bool false) rfl rfl (EL_nil (thn_n ?_)))
  refine EC_cond_false rfl ?_
  refine EC_seq (EC_reg (vM v1 rfl rfl (vl (.int .i64 (k.length : Int)) rfl (lenB (r_len rfl (Q1 _ S45.le) U22)) (vl (.bool true) rfl (r_dec (show (decide ((k.length : Int) ≠ 32)) = true from by have := hc.2; simp; omega) (r_neq rfl rfl)) (vA (.bool true) rfl rfl ?_)))))
  refine EL_nil (thn_n ?_)
  refine EC_cond_true rfl ?_
  refine EC_seq (EC_reg (vl (.agg (entR0).toArray) rfl (r_buildS (l := []) st_38 rfl (Eq.trans (show Instr.fill _ _ [] = _ from fill_end) (by kernel_rfl))) ?_))
  refine sA entR0 rfl rfl (S45.arr 0 rfl) rfl (by kernel_rfl) (by simp [Value.oneCell']) ?_
  intro w46 A47 K48 z49
  have S50 := S45.wr0 (ds := entR0) K48 A47
  refine vA (.int .i64 21) rfl rfl (EL_nil (thn_n (EC_ret (inB_r (thn_r ?_)))))
  refine fin2c Tryz.results14 (show _ = ptr b25 from rfl) (show _ = .int .i64 21 from rfl) (S50.arr 0 rfl) U38 rfl (by kernel_rfl) ⟨_, rfl, ?_⟩
  have q52 : L = openRL L s k r := hL0.symm
  have S51 := Sat.ah2 (Suite p) S50 q52
  have q53 : (openRV L s k r) = (⟨0, 0, 0, [], [], 0, 0, 0, []⟩ : Entry) := by rw [openRV, if_neg (by rw [hE]; decide)]; rfl
  have S54 := S51.dr0
  have S55 := S54.dr0
  exact ⟨entR0, I, (Gh.le_refl _), (by rw [hE]), (by rw [q53]; exact (entRz _)), S55⟩
  have hE : openRE L s k r = 20 := by rw [openRE, if_pos hc.1, if_pos hc.2.1, hc.2.2]
  have hL0 : openRL L s k r = L := by rw [openRL, if_pos hc.1, if_pos hc.2.1, hc.2.2]
  have hnu := nums_iff.1 (right_nums hc.1)
  have hbx := right_box hc.1
  refine EC_reg (vl (.agg ((recRC r v15)).toArray) rfl (r_loadAll rfl (S31.arr 1 rfl) U35 rfl (by kernel_rfl)) ?_)
  refine eR rfl F43 rfl (RRight_c (recRC r v15) r I _ _ S31 ⟨v15, rfl, (by first | assumption | (dsimp only; omega)), (by first | assumption | (dsimp only; omega)), (by first | assumption | (dsimp only; omega)), (by first | assumption | (dsimp only; omega)), ⟨o16, H17⟩⟩) ?_
  rintro _ w56 ⟨rfl, S57⟩
  refine vl (.bool false) rfl (r_dec (show (!true) = false from rfl) (r_not (Eq.trans (show _ = Value.bool (r.right) from rfl) (congrArg Value.bool (show (r.right) = true from hc.1))))) (vA (.bool false) rfl rfl (EL_nil (thn_n ?_)))
  refine EC_cond_false rfl ?_
  refine EC_seq (EC_reg (vM v1 rfl rfl (vl (.int .i64 (k.length : Int)) rfl (lenB (r_len rfl (Q1 _ S57.le) U22)) (vl (.bool false) rfl (r_dec (show (decide ((k.length : Int) ≠ 32)) = false from by have := hc.2.1; simp; omega) (r_neq rfl rfl)) (vA (.bool false) rfl rfl ?_)))))
  refine EL_nil (thn_n ?_)
  refine EC_cond_false rfl ?_
  refine EC_skip (inB_n (thn_n (EC_seq (EC_reg (vl (ptr b18 2) rfl (fP 0 rfl U35 (by kernel_rfl)) ?_)))))
  refine vL (.int .i64 r.writer) rfl rfl (S57.arr 1 rfl) rfl U3 rfl (vl (ptr b18 3) rfl (fP 0 rfl U35 (by kernel_rfl)) (vL (.int .i64 r.count) rfl rfl (S57.arr 1 rfl) rfl U3 rfl ?_))
  refine eR rfl F35 rfl (Nonce_c r.writer r.count I _ _ S57) ?_
  rintro _ w58 ⟨v60, I61, le62, rfl, S59⟩
  refine vM (.tuple #[v60, .int .i64 (nonceE r.writer r.count)]) rfl rfl (vX v60 rfl rfl rfl (vX (.int .i64 (nonceE r.writer r.count)) rfl rfl rfl (vA v60 rfl rfl (vA (.int .i64 (nonceE r.writer r.count)) rfl rfl (EL_nil ?_)))))
  refine thn_n (EC_seq ?_)
  refine EC_any 7 (fun w' => Gh.le I61 (gh w')) (fun w' => Arr w' b18 35 (recRC r v15)) (by kernel_rfl) ?_
  intro w63 B64
  have S65 := S59.below B64
  refine jT 0 rfl (by kernel_rfl) p rfl (fun _ hw ht => r_move rfl) ⟨S65.le, fun h => S65.arr 2 rfl⟩ ?_
  refine jT 1 rfl (by kernel_rfl) v1 rfl (fun _ hw ht => r_move rfl) ⟨S65.le, fun h => S65.arr 2 rfl⟩ ?_
  refine jT 2 rfl (by kernel_rfl) v60 rfl (fun _ hw ht => r_move rfl) ⟨S65.le, fun h => S65.arr 2 rfl⟩ ?_
  refine jT 3 rfl (by kernel_rfl) (.agg ((recRC r v15)).toArray) rfl (fun _ hw ht => r_loadAll rfl ht U35 rfl (by kernel_rfl)) ⟨S65.le, fun h => S65.arr 2 rfl⟩ ?_
  refine jT 5 rfl (by kernel_rfl) (ptr b18 4) rfl (fun _ hw ht => fP 0 rfl U35 (by kernel_rfl)) ⟨S65.le, fun h => S65.arr 2 rfl⟩ ?_
  refine jT 6 rfl (by kernel_rfl) v15 rfl (fun _ hw ht => r_loadA rfl ht (u := v15) rfl U22 rfl) ⟨S65.le, fun h => S65.arr 2 rfl⟩ ?_
  refine EJ_one 4 (by kernel_rfl) ⟨_, rfl, ?_⟩
  refine eR rfl F36 rfl (front_c (recRC r v15) r I61 _ _ S65 ⟨v15, rfl, (by first | assumption | (dsimp only; omega)), (by first | assumption | (dsimp only; omega)), (by first | assumption | (dsimp only; omega)), (by first | assumption | (dsimp only; omega)), ⟨o16, (H17.up le62)⟩⟩) ?_
  rintro _ w66 ⟨v68, I69, le70, rfl, S67⟩
  refine EL_nil ?_
  refine ⟨rfl, ⟨(lT le70 S67.le), fun h => S67.arr 3 rfl⟩, ?_⟩
  refine EJ_strong (fun w' => Gh.le I69 (gh w')) _ (fun w' hw => lT le70 hw) (fun w' _ ht => ht) ?_
  refine EJ_one 7 (by kernel_rfl) ⟨_, rfl, ?_⟩
  obtain ⟨I71, le72, S73, H74⟩ := S67.fb1
  obtain ⟨I75, le76, S77, H78⟩ := S73.fb0
  have S79 := S77.fr2
  refine eR rfl F44 rfl (OpenNo_c p L v1 k v60 (nonceB r.writer r.count) v68 r.front v15 r.box I75 _ _ S79 (Q1.up (lT (lT (lT le62 le70) le72) le76)) (H74.up le76) H78 (H17.up (lT (lT (lT le62 le70) le72) le76)) (by omega) (by omega) (by rw [nonceB, if_pos (nonceOk_iff.2 (by omega))]; simp [be6]) (by have := putB_le r.numParts; simp [Record.numParts] at this; simp [Record.front, Record.numParts]; omega) (by omega) hT (szOk_iff.2 ⟨hc.2.1, by rw [nonceB, if_pos (nonceOk_iff.2 (by omega))]; rfl⟩) hc.2.2) ?_
  rintro _ w80 ⟨v82, I83, le84, rfl, H85, S81⟩
  refine EL_nil ?_
  refine ⟨rfl, ⟨(lT (lT (lT le72 le76) le84) S81.le), fun h => by cases h⟩, ?_⟩
  refine EJ_strong (fun w' => Gh.le I83 (gh w')) _ (fun w' hw => lT (lT (lT le72 le76) le84) hw) (fun w' _ ht => ht) ?_
  refine jF 8 rfl (by kernel_rfl) (.tuple #[v82, .int .i64 20]) rfl (fun _ hw => r_move rfl) ⟨S81.le, fun h => by cases h⟩ ?_
  refine jF 9 rfl (by kernel_rfl) v82 rfl (fun _ hw => r_extract rfl rfl) ⟨S81.le, fun h => by cases h⟩ ?_
  refine jF 10 rfl (by kernel_rfl) (.int .i64 20) rfl (fun _ hw => r_extract rfl rfl) ⟨S81.le, fun h => by cases h⟩ ?_
  refine jF 11 rfl (by kernel_rfl) v82 rfl (fun _ hw => r_assign rfl) ⟨S81.le, fun h => by cases h⟩ ?_
  refine jF 12 rfl (by kernel_rfl) (.int .i64 20) rfl (fun _ hw => r_assign rfl) ⟨S81.le, fun h => by cases h⟩ ?_
  refine EJ_done (by kernel_rfl) ?_
  refine thn_n (EC_seq (EC_seq (EC_reg (vM (.int .i64 20) rfl rfl (vl (.bool true) rfl (r_dec (by decide) (r_neq rfl rfl)) ?_)))))
  refine EL_nil (thn_n ?_)
  refine EC_cond_true rfl ?_
  refine EC_seq (EC_reg (vl (.agg (entR0).toArray) rfl (r_buildS (l := []) st_38 rfl (Eq.trans (show Instr.fill _ _ [] = _ from fill_end) (by kernel_rfl))) ?_))
  refine sA entR0 rfl rfl (S81.arr 1 rfl) rfl (by kernel_rfl) (by simp [Value.oneCell']) ?_
  intro w86 A87 K88 z89
  have S90 := S81.wr1 (ds := entR0) K88 A87
  refine vA (.int .i64 20) rfl rfl (EL_nil (thn_n (EC_ret (thn_r ?_))))
  refine fin2c Tryz.results14 (show _ = ptr b25 from rfl) (show _ = .int .i64 20 from rfl) (S90.arr 1 rfl) U38 rfl (by kernel_rfl) ⟨_, rfl, ?_⟩
  have q92 : L = openRL L s k r := hL0.symm
  have S91 := Sat.ah0 (Suite p) S90 q92
  have q93 : (openRV L s k r) = (⟨0, 0, 0, [], [], 0, 0, 0, []⟩ : Entry) := by rw [openRV, if_neg (by rw [hE]; decide)]; rfl
  have S94 := S91.dr1
  have S95 := S94.dr1
  exact ⟨entR0, I83, (lT (lT (lT (lT le62 le70) le72) le76) le84), (by rw [hE]), (by rw [q93]; exact (entRz _)), S95⟩
  obtain ⟨hr0, hk0, y, hy⟩ := hc
  have hE1 : openRE L s k r = openYE L s r y := by rw [openRE, if_pos hr0, if_pos hk0, hy]
  have hL1 : openRL L s k r = openYL L s r y := by rw [openRL, if_pos hr0, if_pos hk0, hy]
  have hnu := nums_iff.1 (right_nums hr0)
  have hbx := right_box hr0
  have hyl : y.length ≤ 800000000 := open_txt hT hy
  refine EC_reg (vl (.agg ((recRC r v15)).toArray) rfl (r_loadAll rfl (S31.arr 1 rfl) U35 rfl (by kernel_rfl)) ?_)
  refine eR rfl F43 rfl (RRight_c (recRC r v15) r I _ _ S31 ⟨v15, rfl, (by first | assumption | (dsimp only; omega)), (by first | assumption | (dsimp only; omega)), (by first | assumption | (dsimp only; omega)), (by first | assumption | (dsimp only; omega)), ⟨o16, H17⟩⟩) ?_
  rintro _ w96 ⟨rfl, S97⟩
  refine vl (.bool false) rfl (r_dec (show (!true) = false from rfl) (r_not (Eq.trans (show _ = Value.bool (r.right) from rfl) (congrArg Value.bool (show (r.right) = true from hr0))))) (vA (.bool false) rfl rfl (EL_nil (thn_n ?_)))
  refine EC_cond_false rfl ?_
  refine EC_seq (EC_reg (vM v1 rfl rfl (vl (.int .i64 (k.length : Int)) rfl (lenB (r_len rfl (Q1 _ S97.le) U22)) (vl (.bool false) rfl (r_dec (show (decide ((k.length : Int) ≠ 32)) = false from by have := hk0; simp; omega) (r_neq rfl rfl)) (vA (.bool false) rfl rfl ?_)))))
  refine EL_nil (thn_n ?_)
  refine EC_cond_false rfl ?_
  refine EC_skip (inB_n (thn_n (EC_seq (EC_reg (vl (ptr b18 2) rfl (fP 0 rfl U35 (by kernel_rfl)) ?_)))))
  refine vL (.int .i64 r.writer) rfl rfl (S97.arr 1 rfl) rfl U3 rfl (vl (ptr b18 3) rfl (fP 0 rfl U35 (by kernel_rfl)) (vL (.int .i64 r.count) rfl rfl (S97.arr 1 rfl) rfl U3 rfl ?_))
  refine eR rfl F35 rfl (Nonce_c r.writer r.count I _ _ S97) ?_
  rintro _ w98 ⟨v100, I101, le102, rfl, S99⟩
  refine vM (.tuple #[v100, .int .i64 (nonceE r.writer r.count)]) rfl rfl (vX v100 rfl rfl rfl (vX (.int .i64 (nonceE r.writer r.count)) rfl rfl rfl (vA v100 rfl rfl (vA (.int .i64 (nonceE r.writer r.count)) rfl rfl (EL_nil ?_)))))
  refine thn_n (EC_seq ?_)
  refine EC_any 7 (fun w' => Gh.le I101 (gh w')) (fun w' => Arr w' b18 35 (recRC r v15)) (by kernel_rfl) ?_
  intro w103 B104
  have S105 := S99.below B104
  refine jT 0 rfl (by kernel_rfl) p rfl (fun _ hw ht => r_move rfl) ⟨S105.le, fun h => S105.arr 2 rfl⟩ ?_
  refine jT 1 rfl (by kernel_rfl) v1 rfl (fun _ hw ht => r_move rfl) ⟨S105.le, fun h => S105.arr 2 rfl⟩ ?_
  refine jT 2 rfl (by kernel_rfl) v100 rfl (fun _ hw ht => r_move rfl) ⟨S105.le, fun h => S105.arr 2 rfl⟩ ?_
  refine jT 3 rfl (by kernel_rfl) (.agg ((recRC r v15)).toArray) rfl (fun _ hw ht => r_loadAll rfl ht U35 rfl (by kernel_rfl)) ⟨S105.le, fun h => S105.arr 2 rfl⟩ ?_
  refine jT 5 rfl (by kernel_rfl) (ptr b18 4) rfl (fun _ hw ht => fP 0 rfl U35 (by kernel_rfl)) ⟨S105.le, fun h => S105.arr 2 rfl⟩ ?_
  refine jT 6 rfl (by kernel_rfl) v15 rfl (fun _ hw ht => r_loadA rfl ht (u := v15) rfl U22 rfl) ⟨S105.le, fun h => S105.arr 2 rfl⟩ ?_
  refine EJ_one 4 (by kernel_rfl) ⟨_, rfl, ?_⟩
  refine eR rfl F36 rfl (front_c (recRC r v15) r I101 _ _ S105 ⟨v15, rfl, (by first | assumption | (dsimp only; omega)), (by first | assumption | (dsimp only; omega)), (by first | assumption | (dsimp only; omega)), (by first | assumption | (dsimp only; omega)), ⟨o16, (H17.up le102)⟩⟩) ?_
  rintro _ w106 ⟨v108, I109, le110, rfl, S107⟩
  refine EL_nil ?_
  refine ⟨rfl, ⟨(lT le110 S107.le), fun h => S107.arr 3 rfl⟩, ?_⟩
  refine EJ_strong (fun w' => Gh.le I109 (gh w')) _ (fun w' hw => lT le110 hw) (fun w' _ ht => ht) ?_
  refine EJ_one 7 (by kernel_rfl) ⟨_, rfl, ?_⟩
  obtain ⟨I111, le112, S113, H114⟩ := S107.fb1
  obtain ⟨I115, le116, S117, H118⟩ := S113.fb0
  have S119 := S117.fr2
  refine eR rfl F44 rfl (OpenOk_c p L v1 k v100 (nonceB r.writer r.count) v108 r.front v15 r.box y I115 _ _ S119 (Q1.up (lT (lT (lT le102 le110) le112) le116)) (H114.up le116) H118 (H17.up (lT (lT (lT le102 le110) le112) le116)) (by omega) (by omega) (by rw [nonceB, if_pos (nonceOk_iff.2 (by omega))]; simp [be6]) (by have := putB_le r.numParts; simp [Record.numParts] at this; simp [Record.front, Record.numParts]; omega) (by omega) hT (szOk_iff.2 ⟨hk0, by rw [nonceB, if_pos (nonceOk_iff.2 (by omega))]; rfl⟩) hy) ?_
  rintro _ w120 ⟨v122, I123, le124, rfl, H125, S121⟩
  refine EL_nil ?_
  refine ⟨rfl, ⟨(lT (lT (lT le112 le116) le124) S121.le), fun h => by cases h⟩, ?_⟩
  refine EJ_strong (fun w' => Gh.le I123 (gh w')) _ (fun w' hw => lT (lT (lT le112 le116) le124) hw) (fun w' _ ht => ht) ?_
  refine jF 8 rfl (by kernel_rfl) (.tuple #[v122, .int .i64 0]) rfl (fun _ hw => r_move rfl) ⟨S121.le, fun h => by cases h⟩ ?_
  refine jF 9 rfl (by kernel_rfl) v122 rfl (fun _ hw => r_extract rfl rfl) ⟨S121.le, fun h => by cases h⟩ ?_
  refine jF 10 rfl (by kernel_rfl) (.int .i64 0) rfl (fun _ hw => r_extract rfl rfl) ⟨S121.le, fun h => by cases h⟩ ?_
  refine jF 11 rfl (by kernel_rfl) v122 rfl (fun _ hw => r_assign rfl) ⟨S121.le, fun h => by cases h⟩ ?_
  refine jF 12 rfl (by kernel_rfl) (.int .i64 0) rfl (fun _ hw => r_assign rfl) ⟨S121.le, fun h => by cases h⟩ ?_
  refine EJ_done (by kernel_rfl) ?_
  refine thn_n (EC_seq (EC_seq (EC_reg (vM (.int .i64 0) rfl rfl (vl (.bool false) rfl (r_dec (by decide) (r_neq rfl rfl)) ?_)))))
  refine EL_nil (thn_n ?_)
  refine EC_cond_false rfl ?_
  refine EC_skip (thn_n (EC_seq (EC_reg (vM v122 rfl rfl ?_))))
  refine eR rfl F45 rfl (Strip_c v122 y I123 _ _ S121 H125 (by first | assumption | omega | (simp; done) | (simp; omega))) ?_
  rintro _ w126 ⟨v128, rfl, S127⟩
  refine vM (.tuple #[v128, .int .i64 (stripE y)]) rfl rfl (vX v128 rfl rfl rfl (vX (.int .i64 (stripE y)) rfl rfl rfl (vA v128 rfl rfl (vA (.int .i64 (stripE y)) rfl rfl (EL_nil ?_)))))
  refine thn_n (EC_seq (EC_reg (vM v128 rfl rfl ?_)))
  obtain ⟨I129, le130, S131, H132⟩ := S127.fb0
  refine eR rfl F46 rfl (Read_c v128 (stripB y) I129 _ _ S131 H132 (by have := stripB_le y; omega)) ?_
  rintro _ w133 ⟨p135, I136, le137, rfl, S134⟩
  obtain ⟨q138, rfl⟩ := RdP.ptr S134
  refine vA (ptr q138) rfl rfl (EL_nil (thn_n (EC_seq (EC_reg (vM (ptr q138) rfl rfl ?_)))))
  refine eR rfl F47 rfl (Text_c (ptr q138) (Rd.mk (stripB y) false) 0 4096 I136 _ _ S134) ?_
  rintro _ w139 ⟨u141, I142, le143, rfl, H144, S140⟩
  refine vA u141 rfl rfl (EL_nil (thn_n (EC_seq (EC_reg (vM (ptr q138) rfl rfl ?_)))))
  refine eR rfl F47 rfl (Text_c (ptr q138) (rdTxtS (Rd.mk (stripB y) false) 0 4096) 0 4096 I142 _ _ S140) ?_
  rintro _ w145 ⟨u147, I148, le149, rfl, H150, S146⟩
  refine vA u147 rfl rfl (EL_nil (thn_n (EC_seq (EC_reg (vM u141 rfl rfl ?_)))))
  refine eR rfl F48 rfl (Decode_c u141 (rdTxt (Rd.mk (stripB y) false) 0 4096) I148 _ _ S146 (H144.up le149) (Nat.le_trans (txt4096 _) (by decide))) ?_
  rintro _ w151 ⟨cs153, I154, le155, rfl, h156, S152⟩
  obtain ⟨v160, v163, v169, rfl, r157, r158, r159, ⟨o161, H162⟩, ⟨o164, H165⟩, r166, r167, r168, ⟨o170, H171⟩⟩ := h156
  refine vM (.tuple #[.agg ((entRC (decV (rdTxt (Rd.mk (stripB y) false) 0 4096)) v160 v163 v169)).toArray, .int .i64 (decE (rdTxt (Rd.mk (stripB y) false) 0 4096))]) rfl rfl (vX (.agg ((entRC (decV (rdTxt (Rd.mk (stripB y) false) 0 4096)) v160 v163 v169)).toArray) rfl rfl rfl (vX (.int .i64 (decE (rdTxt (Rd.mk (stripB y) false) 0 4096))) rfl rfl rfl ?_))
  refine EL_alloc (z := .agg #[.int .i64 0, .int .i64 0, .int .i64 0, .slice none 0 0, .slice none 0 0, .int .i64 0, .int .i64 0, .int .i64 0, .slice none 0 0]) entR0 rfl (by kernel_rfl) rfl ?_
  intro b172 w173 k174 A175 B176 z177
  have S178 := S152.newB B176 A175 k174
  refine sA (entRC (decV (rdTxt (Rd.mk (stripB y) false) 0 4096)) v160 v163 v169) rfl rfl (S178.arr 0 rfl) rfl (by kernel_rfl) (ones_cons rfl (ones_cons rfl (ones_cons rfl (ones_cons o161 (ones_cons o164 (ones_cons rfl (ones_cons rfl (ones_cons rfl (ones_cons o170 (fun _ h => nomatch h)))))))))) ?_
  intro w179 A180 K181 z182
  have S183 := S178.wr0 (ds := (entRC (decV (rdTxt (Rd.mk (stripB y) false) 0 4096)) v160 v163 v169)) K181 A180
  refine vA (.int .i64 (decE (rdTxt (Rd.mk (stripB y) false) 0 4096))) rfl rfl (EL_nil (thn_n (EC_seq (EC_block (EC_seq ?_)))))
  rcases first3 (stripE y = 0) (innerOk y = true) (decE (innerB y) = 0) with hd | hd | hd | hd
  have hyo : yOk y = false := yno (.inl hd)
  have hE : openRE L s k r = 10 := by rw [hE1, openYE, if_neg (by rw [hyo]; decide)]
  have hL0 : openRL L s k r = L := by rw [hL1, openYL, if_neg (by rw [hyo]; rintro ⟨h, _⟩; cases h)]
  refine EC_reg (vM (.int .i64 (stripE y)) rfl rfl (vl (.bool true) rfl (r_dec (show (decide ((stripE y) ≠ 0)) = true from by simpa using hd) (r_neq rfl rfl)) (vM (.bool true) rfl rfl (EL_pass 71 rfl rfl rfl rfl rfl (EL_pass 71 rfl rfl rfl rfl rfl ?_)))))
  refine EL_pass 71 rfl rfl rfl rfl rfl (vT (.bool true) rfl rfl rfl (vM (.bool true) rfl rfl (EL_pass 76 rfl rfl rfl rfl rfl (EL_pass 76 rfl rfl rfl rfl rfl (vT (.bool true) rfl rfl rfl ?_)))))
  refine vA (.bool true) rfl rfl (EL_nil (thn_n ?_))
  refine EC_cond_true rfl ?_
  refine EC_seq (EC_reg (vl (.agg (entR0).toArray) rfl (r_buildS (l := []) st_38 rfl (Eq.trans (show Instr.fill _ _ [] = _ from fill_end) (by kernel_rfl))) ?_))
  refine sA entR0 rfl rfl (S183.arr 3 rfl) rfl (by kernel_rfl) (by simp [Value.oneCell']) ?_
  intro w184 A185 K186 z187
  have S188 := S183.wr3 (ds := entR0) K186 A185
  refine vA (.int .i64 10) rfl rfl (EL_nil (thn_n (EC_ret (inB_r (thn_r ?_)))))
  refine fin2c Tryz.results14 (show _ = ptr b25 from rfl) (show _ = .int .i64 10 from rfl) (S188.arr 3 rfl) U38 rfl (by kernel_rfl) ⟨_, rfl, ?_⟩
  have q190 : L = openRL L s k r := hL0.symm
  have S189 := Sat.ah2 (Suite p) S188 q190
  have q191 : (openRV L s k r) = (⟨0, 0, 0, [], [], 0, 0, 0, []⟩ : Entry) := by rw [openRV, if_neg (by rw [hE]; decide)]; rfl
  have S192 := S189.dr0
  have S193 := S192.dr0
  have S194 := S193.dr1
  have S195 := S194.dr1
  exact ⟨entR0, I154, (lT (lT (lT (lT (lT (lT (lT (lT (lT le102 le110) le112) le116) le124) le130) le137) le143) le149) le155), (by rw [hE]), (by rw [q191]; exact (entRz _)), S195⟩
  have hyo : yOk y = false := yno (.inr (.inl hd.2))
  have hE : openRE L s k r = 10 := by rw [hE1, openYE, if_neg (by rw [hyo]; decide)]
  have hL0 : openRL L s k r = L := by rw [hL1, openYL, if_neg (by rw [hyo]; rintro ⟨h, _⟩; cases h)]
  refine EC_reg (vM (.int .i64 (stripE y)) rfl rfl (vl (.bool false) rfl (r_dec (show (decide ((stripE y) ≠ 0)) = false from by simp [hd.1]) (r_neq rfl rfl)) (vM (.bool false) rfl rfl (gM  71 rfl rfl rfl rfl (ptr q138) rfl rfl ?_))))
  have S196 := S183.fr1
  refine eG 71 rfl rfl rfl rfl rfl F49 rfl (End_c (ptr q138) (rdTxtS (rdTxtS (Rd.mk (stripB y) false) 0 4096) 0 4096) I154 _ _ S196) ?_
  rintro _ w197 ⟨rfl, S198⟩
  refine gl  71 rfl rfl rfl rfl (.bool true) rfl (r_dec (show (!false) = true from rfl) (r_not (Eq.trans (show _ = Value.bool (rdEnd (rdTxtS (rdTxtS (Rd.mk (stripB y) false) 0 4096) 0 4096)) from rfl) (congrArg Value.bool (show (rdEnd (rdTxtS (rdTxtS (Rd.mk (stripB y) false) 0 4096) 0 4096)) = false from (Bool.not_eq_true _).mp hd.2))))) (vF (.bool true) rfl rfl rfl (vM (.bool true) rfl rfl (EL_pass 76 rfl rfl rfl rfl rfl (EL_pass 76 rfl rfl rfl rfl rfl (vT (.bool true) rfl rfl rfl ?_)))))
  refine vA (.bool true) rfl rfl (EL_nil (thn_n ?_))
  refine EC_cond_true rfl ?_
  refine EC_seq (EC_reg (vl (.agg (entR0).toArray) rfl (r_buildS (l := []) st_38 rfl (Eq.trans (show Instr.fill _ _ [] = _ from fill_end) (by kernel_rfl))) ?_))
  refine sA entR0 rfl rfl (S198.arr 3 rfl) rfl (by kernel_rfl) (by simp [Value.oneCell']) ?_
  intro w199 A200 K201 z202
  have S203 := S198.wr3 (ds := entR0) K201 A200
  refine vA (.int .i64 10) rfl rfl (EL_nil (thn_n (EC_ret (inB_r (thn_r ?_)))))
  refine fin2c Tryz.results14 (show _ = ptr b25 from rfl) (show _ = .int .i64 10 from rfl) (S203.arr 3 rfl) U38 rfl (by kernel_rfl) ⟨_, rfl, ?_⟩
  have q205 : L = openRL L s k r := hL0.symm
  have S204 := Sat.ah2 (Suite p) S203 q205
  have q206 : (openRV L s k r) = (⟨0, 0, 0, [], [], 0, 0, 0, []⟩ : Entry) := by rw [openRV, if_neg (by rw [hE]; decide)]; rfl
  have S207 := S204.dr0
  have S208 := S207.dr0
  have S209 := S208.dr1
  have S210 := S209.dr1
  exact ⟨entR0, I154, (lT (lT (lT (lT (lT (lT (lT (lT (lT le102 le110) le112) le116) le124) le130) le137) le143) le149) le155), (by rw [hE]), (by rw [q206]; exact (entRz _)), S210⟩
  have hyo : yOk y = false := yno (.inr (.inr hd.2.2))
  have hE : openRE L s k r = 10 := by rw [hE1, openYE, if_neg (by rw [hyo]; decide)]
  have hL0 : openRL L s k r = L := by rw [hL1, openYL, if_neg (by rw [hyo]; rintro ⟨h, _⟩; cases h)]
  refine EC_reg (vM (.int .i64 (stripE y)) rfl rfl (vl (.bool false) rfl (r_dec (show (decide ((stripE y) ≠ 0)) = false from by simp [hd.1]) (r_neq rfl rfl)) (vM (.bool false) rfl rfl (gM  71 rfl rfl rfl rfl (ptr q138) rfl rfl ?_))))
  have S211 := S183.fr1
  refine eG 71 rfl rfl rfl rfl rfl F49 rfl (End_c (ptr q138) (rdTxtS (rdTxtS (Rd.mk (stripB y) false) 0 4096) 0 4096) I154 _ _ S211) ?_
  rintro _ w212 ⟨rfl, S213⟩
  refine gl  71 rfl rfl rfl rfl (.bool false) rfl (r_dec (show (!true) = false from rfl) (r_not (Eq.trans (show _ = Value.bool (rdEnd (rdTxtS (rdTxtS (Rd.mk (stripB y) false) 0 4096) 0 4096)) from rfl) (congrArg Value.bool (show (rdEnd (rdTxtS (rdTxtS (Rd.mk (stripB y) false) 0 4096) 0 4096)) = true from (show _ from hd.2.1)))))) (vF (.bool false) rfl rfl rfl (vM (.bool false) rfl rfl (gM  76 rfl rfl rfl rfl (.int .i64 (decE (rdTxt (Rd.mk (stripB y) false) 0 4096))) rfl rfl (gl  76 rfl rfl rfl rfl (.bool true) rfl (r_dec (show (decide ((decE (rdTxt (Rd.mk (stripB y) false) 0 4096)) ≠ 0)) = true from by rw [decide_eq_true_eq]; exact hd.2.2) (r_neq rfl rfl)) (vF (.bool true) rfl rfl rfl ?_)))))
  refine vA (.bool true) rfl rfl (EL_nil (thn_n ?_))
  refine EC_cond_true rfl ?_
  refine EC_seq (EC_reg (vl (.agg (entR0).toArray) rfl (r_buildS (l := []) st_38 rfl (Eq.trans (show Instr.fill _ _ [] = _ from fill_end) (by kernel_rfl))) ?_))
  refine sA entR0 rfl rfl (S213.arr 3 rfl) rfl (by kernel_rfl) (by simp [Value.oneCell']) ?_
  intro w214 A215 K216 z217
  have S218 := S213.wr3 (ds := entR0) K216 A215
  refine vA (.int .i64 10) rfl rfl (EL_nil (thn_n (EC_ret (inB_r (thn_r ?_)))))
  refine fin2c Tryz.results14 (show _ = ptr b25 from rfl) (show _ = .int .i64 10 from rfl) (S218.arr 3 rfl) U38 rfl (by kernel_rfl) ⟨_, rfl, ?_⟩
  have q220 : L = openRL L s k r := hL0.symm
  have S219 := Sat.ah2 (Suite p) S218 q220
  have q221 : (openRV L s k r) = (⟨0, 0, 0, [], [], 0, 0, 0, []⟩ : Entry) := by rw [openRV, if_neg (by rw [hE]; decide)]; rfl
  have S222 := S219.dr0
  have S223 := S222.dr0
  have S224 := S223.dr1
  have S225 := S224.dr1
  exact ⟨entR0, I154, (lT (lT (lT (lT (lT (lT (lT (lT (lT le102 le110) le112) le116) le124) le130) le137) le143) le149) le155), (by rw [hE]), (by rw [q221]; exact (entRz _)), S225⟩
  have hyo : yOk y = true := yyes hd
  refine EC_reg (vM (.int .i64 (stripE y)) rfl rfl (vl (.bool false) rfl (r_dec (show (decide ((stripE y) ≠ 0)) = false from by simp [hd.1]) (r_neq rfl rfl)) (vM (.bool false) rfl rfl (gM  71 rfl rfl rfl rfl (ptr q138) rfl rfl ?_))))
  have S226 := S183.fr1
  refine eG 71 rfl rfl rfl rfl rfl F49 rfl (End_c (ptr q138) (rdTxtS (rdTxtS (Rd.mk (stripB y) false) 0 4096) 0 4096) I154 _ _ S226) ?_
  rintro _ w227 ⟨rfl, S228⟩
  refine gl  71 rfl rfl rfl rfl (.bool false) rfl (r_dec (show (!true) = false from rfl) (r_not (Eq.trans (show _ = Value.bool (rdEnd (rdTxtS (rdTxtS (Rd.mk (stripB y) false) 0 4096) 0 4096)) from rfl) (congrArg Value.bool (show (rdEnd (rdTxtS (rdTxtS (Rd.mk (stripB y) false) 0 4096) 0 4096)) = true from (show _ from hd.2.1)))))) (vF (.bool false) rfl rfl rfl (vM (.bool false) rfl rfl (gM  76 rfl rfl rfl rfl (.int .i64 (decE (rdTxt (Rd.mk (stripB y) false) 0 4096))) rfl rfl (gl  76 rfl rfl rfl rfl (.bool false) rfl (r_dec (show (decide ((decE (rdTxt (Rd.mk (stripB y) false) 0 4096)) ≠ 0)) = false from (by have := hd.2.2; rw [decide_eq_false_iff_not]; exact fun h => h this)) (r_neq rfl rfl)) (vF (.bool false) rfl rfl rfl ?_)))))
  refine vA (.bool false) rfl rfl (EL_nil (thn_n ?_))
  refine EC_cond_false rfl ?_
  refine EC_seq ?_
  rcases Decidable.em ((decV (innerB y)).writer = r.writer) with hw0 | hw0
  have hL0 : openRL L s k r = markL L s r.coll r.writer (innerB y) := by rw [hL1, openYL, if_pos ⟨hyo, hw0⟩]
  refine EC_reg (vl (ptr b172 1) rfl (fP 0 rfl U38 (by kernel_rfl)) (vL (.int .i64 ((decV (rdTxt (Rd.mk (stripB y) false) 0 4096)).writer)) rfl rfl (S228.arr 1 rfl) rfl U3 rfl (vl (ptr b18 2) rfl (fP 0 rfl U35 (by kernel_rfl)) (vL (.int .i64 r.writer) rfl rfl (S228.arr 4 rfl) rfl U3 rfl (vl (.bool false) rfl (r_dec (show (decide (((decV (rdTxt (Rd.mk (stripB y) false) 0 4096)).writer) ≠ r.writer)) = false from by rw [decide_eq_false_iff_not]; exact fun h => h hw0) (r_neq rfl rfl)) ?_)))))
  refine vA (.bool false) rfl rfl (EL_nil (thn_n ?_))
  refine EC_cond_false rfl ?_
  refine EC_seq (EC_reg (vM u147 rfl rfl (vM p rfl rfl (vM v0 rfl rfl (vl (ptr b18 0) rfl (fP 0 rfl U35 (by kernel_rfl)) ?_)))))
  refine vL (.int .i64 r.coll) rfl rfl (S228.arr 4 rfl) rfl U3 rfl (vl (ptr b18 2) rfl (fP 0 rfl U35 (by kernel_rfl)) (vL (.int .i64 r.writer) rfl rfl (S228.arr 4 rfl) rfl U3 rfl (vM u141 rfl rfl ?_)))
  have S229 := S228.fr2
  refine eR rfl F33 rfl (mark_c p L v0 s r.coll r.writer u141 (rdTxt (Rd.mk (stripB y) false) 0 4096) I154 _ _ S229 (Q0.up (lT (lT (lT (lT (lT (lT (lT (lT (lT le102 le110) le112) le116) le124) le130) le137) le143) le149) le155)) (H144.up (lT le149 le155)) (by omega) (by first | assumption | omega | (simp; done) | (simp; omega)) (by first | assumption | omega | (simp; done) | (simp; omega))) ?_
  rintro _ w230 ⟨v232, I233, le234, rfl, S231⟩
  obtain ⟨I235, le236, S237, H238⟩ := S231.fb0
  refine eR rfl F50 rfl (MacEqual_c u147 (rdTxt (rdTxtS (Rd.mk (stripB y) false) 0 4096) 0 4096) v232 (markB L s r.coll r.writer (rdTxt (Rd.mk (stripB y) false) 0 4096)) I235 _ _ S237 (H150.up (lT (lT le155 le234) le236)) H238) ?_
  rintro _ w239 ⟨rfl, S240⟩
  refine vl (.bool (!(decide ((rdTxt (rdTxtS (Rd.mk (stripB y) false) 0 4096) 0 4096) = (markB L s r.coll r.writer (rdTxt (Rd.mk (stripB y) false) 0 4096)))))) rfl (r_not rfl) (vA (.bool (!(decide ((rdTxt (rdTxtS (Rd.mk (stripB y) false) 0 4096) 0 4096) = (markB L s r.coll r.writer (rdTxt (Rd.mk (stripB y) false) 0 4096)))))) rfl rfl (EL_nil (thn_n ?_)))
  refine EC_cond (t := !(decide ((rdTxt (rdTxtS (Rd.mk (stripB y) false) 0 4096) 0 4096) = (markB L s r.coll r.writer (rdTxt (Rd.mk (stripB y) false) 0 4096))))) rfl (fun h241 => ?_) (fun h241 => ?_)
  have hm : ¬ innerT y = markB L s r.coll r.writer (innerB y) := by simpa [innerT, innerB] using h241
  have hE : openRE L s k r = 22 := by rw [hE1, openYE, if_pos hyo, if_pos hw0, if_neg hm]
  refine EC_seq (EC_reg (vl (.agg (entR0).toArray) rfl (r_buildS (l := []) st_38 rfl (Eq.trans (show Instr.fill _ _ [] = _ from fill_end) (by kernel_rfl))) ?_))
  refine sA entR0 rfl rfl (S240.arr 3 rfl) rfl (by kernel_rfl) (by simp [Value.oneCell']) ?_
  intro w242 A243 K244 z245
  have S246 := S240.wr3 (ds := entR0) K244 A243
  refine vA (.int .i64 22) rfl rfl (EL_nil (thn_n (EC_ret (inB_r (thn_r ?_)))))
  refine fin2c Tryz.results14 (show _ = ptr b25 from rfl) (show _ = .int .i64 22 from rfl) (S246.arr 3 rfl) U38 rfl (by kernel_rfl) ⟨_, rfl, ?_⟩
  have q248 : markL L s r.coll r.writer (rdTxt (Rd.mk (stripB y) false) 0 4096) = openRL L s k r := hL0.symm
  have S247 := Sat.ah0 (Suite p) S246 q248
  have q249 : (openRV L s k r) = (⟨0, 0, 0, [], [], 0, 0, 0, []⟩ : Entry) := by rw [openRV, if_neg (by rw [hE]; decide)]; rfl
  have S250 := S247.dr1
  have S251 := S250.dr1
  have S252 := S251.dr1
  have S253 := S252.dr1
  exact ⟨entR0, I235, (lT (lT (lT (lT (lT (lT (lT (lT (lT (lT (lT le102 le110) le112) le116) le124) le130) le137) le143) le149) le155) le234) le236), (by rw [hE]), (by rw [q249]; exact (entRz _)), S253⟩
  have hm : innerT y = markB L s r.coll r.writer (innerB y) := by simpa [innerT, innerB] using h241
  have hE : openRE L s k r = 0 := by rw [hE1, openYE, if_pos hyo, if_pos hw0, if_pos hm]
  refine EC_skip (inB_n (thn_n (EC_seq (EC_reg (vl (.agg ((entRC (decV (rdTxt (Rd.mk (stripB y) false) 0 4096)) v160 v163 v169)).toArray) rfl (r_loadAll rfl (S240.arr 2 rfl) U38 rfl (by kernel_rfl)) ?_)))))
  refine sA (entRC (decV (rdTxt (Rd.mk (stripB y) false) 0 4096)) v160 v163 v169) rfl rfl (S240.arr 3 rfl) rfl (by kernel_rfl) (ones_cons rfl (ones_cons rfl (ones_cons rfl (ones_cons o161 (ones_cons o164 (ones_cons rfl (ones_cons rfl (ones_cons rfl (ones_cons o170 (fun _ h => nomatch h)))))))))) ?_
  intro w254 A255 K256 z257
  have S258 := S240.wr3 (ds := (entRC (decV (rdTxt (Rd.mk (stripB y) false) 0 4096)) v160 v163 v169)) K256 A255
  refine vA (.int .i64 0) rfl rfl (EL_nil (thn_n (EC_ret ?_)))
  refine fin2c Tryz.results14 (show _ = ptr b25 from rfl) (show _ = .int .i64 0 from rfl) (S258.arr 3 rfl) U38 rfl (by kernel_rfl) ⟨_, rfl, ?_⟩
  have q260 : markL L s r.coll r.writer (rdTxt (Rd.mk (stripB y) false) 0 4096) = openRL L s k r := hL0.symm
  have S259 := Sat.ah0 (Suite p) S258 q260
  have q261 : (openRV L s k r) = (⟨(decV (rdTxt (Rd.mk (stripB y) false) 0 4096)).kind, (decV (rdTxt (Rd.mk (stripB y) false) 0 4096)).writer, (decV (rdTxt (Rd.mk (stripB y) false) 0 4096)).seq, (decV (rdTxt (Rd.mk (stripB y) false) 0 4096)).name, (decV (rdTxt (Rd.mk (stripB y) false) 0 4096)).value, (decV (rdTxt (Rd.mk (stripB y) false) 0 4096)).who, (decV (rdTxt (Rd.mk (stripB y) false) 0 4096)).rights, (decV (rdTxt (Rd.mk (stripB y) false) 0 4096)).epoch, (decV (rdTxt (Rd.mk (stripB y) false) 0 4096)).wraps⟩ : Entry) := by rw [openRV, if_pos hE, hy]; rfl
  have S262 := S259.dr1
  have S263 := S262.dr1
  have S264 := S263.dr1
  have S265 := S264.dr1
  exact ⟨(entRC (decV (rdTxt (Rd.mk (stripB y) false) 0 4096)) v160 v163 v169), I235, (lT (lT (lT (lT (lT (lT (lT (lT (lT (lT (lT le102 le110) le112) le116) le124) le130) le137) le143) le149) le155) le234) le236), (by rw [hE]), (by rw [q261]; exact ⟨v160, v163, v169, rfl, (by first | assumption | (dsimp only; omega)), (by first | assumption | (dsimp only; omega)), (by first | assumption | (dsimp only; omega)), ⟨o161, (H162.up (lT le234 le236))⟩, ⟨o164, (H165.up (lT le234 le236))⟩, (by first | assumption | (dsimp only; omega)), (by first | assumption | (dsimp only; omega)), (by first | assumption | (dsimp only; omega)), ⟨o170, (H171.up (lT le234 le236))⟩⟩), S265⟩
  have hE : openRE L s k r = 40 := by rw [hE1, openYE, if_pos hyo, if_neg hw0]
  have hL0 : openRL L s k r = L := by rw [hL1, openYL, if_neg (fun h => hw0 h.2)]
  refine EC_reg (vl (ptr b172 1) rfl (fP 0 rfl U38 (by kernel_rfl)) (vL (.int .i64 ((decV (rdTxt (Rd.mk (stripB y) false) 0 4096)).writer)) rfl rfl (S228.arr 1 rfl) rfl U3 rfl (vl (ptr b18 2) rfl (fP 0 rfl U35 (by kernel_rfl)) (vL (.int .i64 r.writer) rfl rfl (S228.arr 4 rfl) rfl U3 rfl (vl (.bool true) rfl (r_dec (show (decide (((decV (rdTxt (Rd.mk (stripB y) false) 0 4096)).writer) ≠ r.writer)) = true from by rw [decide_eq_true_eq]; exact hw0) (r_neq rfl rfl)) ?_)))))
  refine vA (.bool true) rfl rfl (EL_nil (thn_n ?_))
  refine EC_cond_true rfl ?_
  refine EC_seq (EC_reg (vl (.agg (entR0).toArray) rfl (r_buildS (l := []) st_38 rfl (Eq.trans (show Instr.fill _ _ [] = _ from fill_end) (by kernel_rfl))) ?_))
  refine sA entR0 rfl rfl (S228.arr 3 rfl) rfl (by kernel_rfl) (by simp [Value.oneCell']) ?_
  intro w266 A267 K268 z269
  have S270 := S228.wr3 (ds := entR0) K268 A267
  refine vA (.int .i64 40) rfl rfl (EL_nil (thn_n (EC_ret (inB_r (thn_r ?_)))))
  refine fin2c Tryz.results14 (show _ = ptr b25 from rfl) (show _ = .int .i64 40 from rfl) (S270.arr 3 rfl) U38 rfl (by kernel_rfl) ⟨_, rfl, ?_⟩
  have q272 : L = openRL L s k r := hL0.symm
  have S271 := Sat.ah2 (Suite p) S270 q272
  have q273 : (openRV L s k r) = (⟨0, 0, 0, [], [], 0, 0, 0, []⟩ : Entry) := by rw [openRV, if_neg (by rw [hE]; decide)]; rfl
  have S274 := S271.dr0
  have S275 := S274.dr0
  have S276 := S275.dr1
  have S277 := S276.dr1
  exact ⟨entR0, I154, (lT (lT (lT (lT (lT (lT (lT (lT (lT le102 le110) le112) le116) le124) le130) le137) le143) le149) le155), (by rw [hE]), (by rw [q273]; exact (entRz _)), S277⟩

end Go.Proofs.YtoajodjcmeijgaaGreat
