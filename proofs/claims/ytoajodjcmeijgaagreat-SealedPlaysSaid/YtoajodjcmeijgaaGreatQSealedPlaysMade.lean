import Derived.Test.YtoajodjcmeijgaaGreatQSealedPlaysR9A
set_option linter.unusedVariables false
set_option linter.unusedSimpArgs false
namespace Go.Proofs.YtoajodjcmeijgaaGreat
open Go.RowKit Go.Ecal

set_option maxRecDepth 100000 in
set_option maxHeartbeats 4000000 in
theorem Small_c (ce : List Value) (e : Entry) (I : Gh) (R : List HP) (w : World) (S : Sat w I (R)) (he : entR.r I ce e) : Ret Tryz.prog 8 [.agg ce.toArray] w fun v w' => .bool (smallE e) = v ∧ Sat w' I (R) := by
  obtain ⟨v14, v17, v23, rfl, r11, r12, r13, ⟨o15, H16⟩, ⟨o18, H19⟩, r20, r21, r22, ⟨o24, H25⟩⟩ := he
  refine ret_E Tryz.func8 rfl Tryz.ntmps8 (by simp) ?_
  refine EC_seq (EC_reg ?_)
  refine EL_box (entRC e v14 v17 v23) rfl rfl rfl ?_
  intro b26 w27 k28 A29 B30 z31
  have S32 := S.newB B30 A29 k28
  refine vA (.bool false) rfl rfl (EL_nil (thn_n (EC_seq (EC_seq ?_))))
  have lqw := XRow.le (H25.row S32.le)
  skip
  refine EC_reg (vl (ptr b26 8) rfl (fP 0 rfl U38 (by kernel_rfl)) (vL v23 rfl rfl (S32.arr 0 rfl) rfl U36 rfl (vl (.int .i64 (e.wraps.length : Int)) rfl (r_lenX rfl (H25.row S32.le) U36) (vM (.int .i64 0) rfl rfl (EL_nil ?_)))))
  refine thn_n (EC_block ?_)
  refine EC_loop (fun m' E' w' => ∃ j : Nat, m' = e.wraps.length - j ∧ E' 8 = .int .i64 (j : Int) ∧ E' 1 = ptr b26 ∧ E' 6 = v23 ∧ E' 7 = .int .i64 (e.wraps.length : Int) ∧ (j ≤ e.wraps.length) ∧ (∀ w ∈ e.wraps.take j, w.box.length ≤ 100) ∧ Sat w' I (Blk b26 38 (entRC e v14 v17 v23) :: R)) _ ⟨0, rfl, rfl, rfl, rfl, rfl, Nat.zero_le _, (by simp), S32⟩ ?_
  rintro _ E33 w34 ⟨j, rfl, e35, e36, e37, e38, hj, hsm, S39⟩
  refine EC_seq (EC_reg (vl (.bool (decide ((j : Int) < (e.wraps.length : Int)))) rfl (r_lss (by exact e35) (by exact e38)) (EL_nil (thn_n (EC_seq ?_)))))
  refine EC_if (p := (j : Int) < (e.wraps.length : Int)) rfl (fun h40 => ?_) (fun h40 => ?_)
  refine EC_skip (thn_n (EC_seq (EC_block (EC_seq (EC_reg ?_)))))
  refine vl (ptr (blkOf v23) (offOf v23 + ((j : Int) : Int).toNat * 2)) rfl (r_indexX (by exact e37) (H25.row S39.le) (by exact e35) (by omega) (by first | omega | (simp; omega) | simp) U36 (by kernel_rfl)) ?_
  obtain ⟨a41, ha42⟩ := get_some (l := e.wraps) (j := ((j : Int) : Int).toNat) (by first | omega | (simp; omega) | simp)
  obtain ⟨cs43, hc44, he45⟩ := H25.el ha42
  obtain ⟨v47, rfl, r46, ⟨o48, H49⟩⟩ := hc44
  refine vl (.agg ([.int .i64 a41.who, v47]).toArray) rfl (r_loadR (cs := [.int .i64 a41.who, v47]) rfl (he45 _ S39.le) U80 rfl (by kernel_rfl)) ?_
  refine EL_alloc (z := .agg #[.int .i64 0, .slice none 0 0]) [.int .i64 0, .slice none 0 0] rfl (by kernel_rfl) rfl ?_
  intro b50 w51 k52 A53 B54 z55
  have S56 := S39.newB B54 A53 k52
  refine sA [.int .i64 a41.who, v47] rfl rfl (S56.arr 0 rfl) rfl (by kernel_rfl) (ones_cons rfl (ones_cons o48 (fun _ h => nomatch h))) ?_
  intro w57 A58 K59 z60
  have S61 := S56.wr0 (ds := [.int .i64 a41.who, v47]) K59 A58
  refine EL_nil (thn_n (EC_seq (EC_reg (vl (ptr b50 1) rfl (fP 0 rfl U80 (by kernel_rfl)) (vL v47 rfl rfl (S61.arr 0 rfl) rfl U22 rfl ?_)))))
  refine vl (.int .i64 (a41.box.length : Int)) rfl (lenB (r_len rfl (H49 _ S61.le) U22)) (vl (.bool (decide (100 < (a41.box.length : Int)))) rfl (r_gtr rfl rfl) (EL_nil (thn_n ?_)))
  refine EC_if (p := 100 < (a41.box.length : Int)) rfl (fun h62 => ?_) (fun h62 => ?_)
  refine EC_seq (EC_reg (vA (.bool false) rfl rfl (EL_nil (thn_n (EC_ret ?_)))))
  refine inB_r (thn_r (thn_r (inB_r (thn_r ?_))))
  refine fin1 Tryz.results8 (show _ = .bool false from rfl) ⟨_, rfl, ?_⟩
  have S63 := S61.dr0
  have S64 := S63.dr0
  exact ⟨(by rw [smallE_no (show e.wraps[j]? = _ from ha42) (by omega)]), S64⟩
  refine EC_skip (inB_n (thn_n (EC_reg ?_)))
  refine EL_int ((j : Int) + 1) rfl (r_addi (by exact e35) rfl (by omega)) ?_
  intro x65 hx65
  refine vM (.int .i64 x65) rfl rfl (EL_nil (thn_n ?_))
  have S66 := S61.dr0
  refine ⟨_, ?_, j + 1, rfl, (Eq.trans (show _ = Value.int .i64 x65 from rfl) (congrArg _ (by omega))), (by exact e36), (by exact e37), (by exact e38), by omega, (small_next hsm (show e.wraps[j]? = _ from ha42) (by omega)), S66⟩
  first | omega | (simp; omega)
  refine EC_exit (thn_x (thn_x (inB_hit (thn_n (EC_seq ?_)))))
  refine EC_reg (vl (ptr b26 3) rfl (fP 0 (by exact e36) U38 (by kernel_rfl)) (vL v14 rfl rfl (S39.arr 0 rfl) rfl U22 rfl (vl (.int .i64 (e.name.length : Int)) rfl (lenB (r_len rfl (H16 _ S39.le) U22)) (vl (.bool (decide ((e.name.length : Int) ≤ 100))) rfl (r_leq rfl rfl) (vM (.bool (decide ((e.name.length : Int) ≤ 100))) rfl rfl ?_)))))
  refine EL_gite 21 rfl rfl rfl (ptr b26 4) rfl (fun g67 => fP 0 (by exact e36) U38 (by kernel_rfl)) (EL_gite 21 rfl rfl rfl v17 rfl (fun g68 => r_loadA (cond_of g68 rfl) (S39.arr 0 rfl) (u := v17) rfl U22 rfl) (EL_gite 21 rfl rfl rfl (.int .i64 (e.value.length : Int)) rfl (fun g69 => lenB (r_len (cond_of g69 rfl) (H19 _ S39.le) U22)) (EL_gite 21 rfl rfl rfl (.bool (decide ((e.value.length : Int) ≤ 600))) rfl (fun g70 => r_leq (cond_of g70 rfl) rfl) (vl (.bool ((decide ((e.name.length : Int) ≤ 100)) && (decide ((e.value.length : Int) ≤ 600)))) rfl (r_and rfl rfl rfl) (vM (.bool ((decide ((e.name.length : Int) ≤ 100)) && (decide ((e.value.length : Int) ≤ 600)))) rfl rfl ?_)))))
  refine EL_gite 27 rfl rfl rfl (ptr b26 8) rfl (fun g71 => fP 0 (by exact e36) U38 (by kernel_rfl)) (EL_gite 27 rfl rfl rfl v23 rfl (fun g72 => r_loadA (cond_of g72 rfl) (S39.arr 0 rfl) (u := v23) rfl U36 rfl) (EL_gite 27 rfl rfl rfl (.int .i64 (e.wraps.length : Int)) rfl (fun g73 => r_lenX (cond_of g73 rfl) (H25.row S39.le) U36) (EL_gite 27 rfl rfl rfl (.bool (decide ((e.wraps.length : Int) ≤ 20))) rfl (fun g74 => r_leq (cond_of g74 rfl) rfl) (vl (.bool (((decide ((e.name.length : Int) ≤ 100)) && (decide ((e.value.length : Int) ≤ 600))) && (decide ((e.wraps.length : Int) ≤ 20)))) rfl (r_and rfl rfl rfl) (vA (.bool (((decide ((e.name.length : Int) ≤ 100)) && (decide ((e.value.length : Int) ≤ 600))) && (decide ((e.wraps.length : Int) ≤ 20)))) rfl rfl ?_)))))
  refine EL_nil (thn_n (EC_ret ?_))
  refine fin1 Tryz.results8 (show _ = .bool (((decide ((e.name.length : Int) ≤ 100)) && (decide ((e.value.length : Int) ≤ 600))) && (decide ((e.wraps.length : Int) ≤ 20))) from rfl) ⟨_, rfl, ?_⟩
  have S75 := S39.dr0
  exact ⟨(congrArg Value.bool (smallE_is (by rwa [List.take_of_length_le (by omega)] at hsm)).symm), S75⟩

set_option maxRecDepth 100000 in
set_option maxHeartbeats 4000000 in
theorem MEntry_c (ce : List Value) (e : Entry) (I : Gh) (R : List HP) (w : World) (S : Sat w I (R)) (he : entR.r I ce e) (hws : e.wraps.length ≤ 1000000) : Ret Tryz.prog 12 [.agg ce.toArray] w fun v w' => ∃ cr : List Value, ∃ J : Gh, Gh.le I J ∧ .agg cr.toArray = v ∧ entR.r J cr e ∧ Sat w' J (R) := by
  obtain ⟨v14, v17, v23, rfl, r11, r12, r13, ⟨o15, H16⟩, ⟨o18, H19⟩, r20, r21, r22, ⟨o24, H25⟩⟩ := he
  refine ret_E Tryz.func12 rfl Tryz.ntmps12 (by simp) ?_
  refine EC_seq (EC_reg ?_)
  refine EL_box (entRC e v14 v17 v23) rfl rfl rfl ?_
  intro b26 w27 k28 A29 B30 z31
  have S32 := S.newB B30 A29 k28
  refine EL_alloc (z := .agg #[.int .i64 0, .int .i64 0, .int .i64 0, .slice none 0 0, .slice none 0 0, .int .i64 0, .int .i64 0, .int .i64 0, .slice none 0 0]) entR0 rfl (by kernel_rfl) rfl ?_
  intro b33 w34 k35 A36 B37 z38
  have S39 := S32.newB B37 A36 k35
  refine EL_nil (thn_n (EC_seq (EC_reg (vl (ptr b26 0) rfl (fP 0 rfl U38 (by kernel_rfl)) (vL (.int .i64 e.kind) rfl rfl (S39.arr 1 rfl) rfl U3 rfl ?_)))))
  refine vl (ptr b26 1) rfl (fP 0 rfl U38 (by kernel_rfl)) (vL (.int .i64 e.writer) rfl rfl (S39.arr 1 rfl) rfl U3 rfl (vl (ptr b26 2) rfl (fP 0 rfl U38 (by kernel_rfl)) (vL (.int .i64 e.seq) rfl rfl (S39.arr 1 rfl) rfl U3 rfl (vl (ptr b26 3) rfl (fP 0 rfl U38 (by kernel_rfl)) (vL v14 rfl rfl (S39.arr 1 rfl) rfl U22 rfl ?_)))))
  refine vl (ptr b26 4) rfl (fP 0 rfl U38 (by kernel_rfl)) (vL v17 rfl rfl (S39.arr 1 rfl) rfl U22 rfl (vl (ptr b26 5) rfl (fP 0 rfl U38 (by kernel_rfl)) (vL (.int .i64 e.who) rfl rfl (S39.arr 1 rfl) rfl U3 rfl (vl (ptr b26 6) rfl (fP 0 rfl U38 (by kernel_rfl)) (vL (.int .i64 e.rights) rfl rfl (S39.arr 1 rfl) rfl U3 rfl ?_)))))
  refine vl (ptr b26 7) rfl (fP 0 rfl U38 (by kernel_rfl)) (vL (.int .i64 e.epoch) rfl rfl (S39.arr 1 rfl) rfl U3 rfl (vl (.agg ((entRC e v14 v17 (.slice none 0 0))).toArray) rfl (r_buildS (l := [(0, .int .i64 e.kind), (1, .int .i64 e.writer), (2, .int .i64 e.seq), (3, v14), (4, v17), (5, .int .i64 e.who), (6, .int .i64 e.rights), (7, .int .i64 e.epoch)]) st_51 (parts8 rfl rfl rfl rfl rfl rfl rfl rfl) (Eq.trans (show Instr.fill _ _ [(0, .int .i64 e.kind), (1, .int .i64 e.writer), (2, .int .i64 e.seq), (3, v14), (4, v17), (5, .int .i64 e.who), (6, .int .i64 e.rights), (7, .int .i64 e.epoch)] = _ from (fill_one rfl rfl rfl (fill_one rfl rfl rfl (fill_one rfl rfl rfl (fill_one rfl (one_cells o15) rfl (fill_one rfl (one_cells o18) rfl (fill_one rfl rfl rfl (fill_one rfl rfl rfl (fill_one rfl rfl rfl fill_end))))))))) (by kernel_rfl))) ?_))
  refine EL_alloc (z := .agg #[.int .i64 0, .int .i64 0, .int .i64 0, .slice none 0 0, .slice none 0 0, .int .i64 0, .int .i64 0, .int .i64 0, .slice none 0 0]) entR0 rfl (by kernel_rfl) rfl ?_
  intro b40 w41 k42 A43 B44 z45
  have S46 := S39.newB B44 A43 k42
  refine sA (entRC e v14 v17 (.slice none 0 0)) rfl rfl (S46.arr 0 rfl) rfl (by kernel_rfl) (ones_cons rfl (ones_cons rfl (ones_cons rfl (ones_cons o15 (ones_cons o18 (ones_cons rfl (ones_cons rfl (ones_cons rfl (ones_cons rfl (fun _ h => nomatch h)))))))))) ?_
  intro w47 A48 K49 z50
  have S51 := S46.wr0 (ds := (entRC e v14 v17 (.slice none 0 0))) K49 A48
  refine EL_nil (thn_n (EC_seq (EC_seq (EC_reg (vl (ptr b26 8) rfl (fP 0 rfl U38 (by kernel_rfl)) ?_)))))
  refine vL v23 rfl rfl (S51.arr 2 rfl) rfl U36 rfl (vl (.int .i64 (e.wraps.length : Int)) rfl (r_lenX rfl (H25.row S51.le) U36) (vM (.int .i64 0) rfl rfl (EL_nil (thn_n (EC_block ?_)))))
  have S52 : Sat w47 I (OwnX 91 wrapR (.slice none 0 0) [] :: Blk b40 51 (entRC e v14 v17 (.slice none 0 0)) :: Blk b33 51 entR0 :: Blk b26 38 (entRC e v14 v17 v23) :: R) := OwnX.nil S51 91 wrapR
  have q54 : [] = e.wraps.take 0 := by rw [List.take_zero]
  have S53 := S52.ax0 q54
  have S55 := S53.fr3
  have S56 := S55.fr3
  have S57 := S56.fr2
  have S58 := S57.fr3
  refine EC_loop (fun m' E' w' => ∃ j : Nat, ∃ wv : Value, ∃ J : Gh, m' = e.wraps.length - j ∧ E' 26 = .int .i64 (j : Int) ∧ E' 2 = ptr b33 ∧ E' 3 = ptr b40 ∧ E' 24 = v23 ∧ E' 25 = .int .i64 (e.wraps.length : Int) ∧ (j ≤ e.wraps.length) ∧ Gh.le I J ∧ Sat w' J (Blk b40 51 (entRC e v14 v17 wv) :: OwnX 91 wrapR wv (e.wraps.take j) :: Blk b33 51 entR0 :: Blk b26 38 (entRC e v14 v17 v23) :: R)) _ ⟨0, .slice none 0 0, I, rfl, rfl, rfl, rfl, rfl, rfl, Nat.zero_le _, (Gh.le_refl _), S58⟩ ?_
  rintro _ E59 w60 ⟨j, wv, I61, rfl, e62, e63, e64, e65, e66, hj, le67, S68⟩
  refine EC_seq (EC_reg (vl (.bool (decide ((j : Int) < (e.wraps.length : Int)))) rfl (r_lss (by exact e62) (by exact e66)) (EL_nil (thn_n (EC_seq ?_)))))
  refine EC_if (p := (j : Int) < (e.wraps.length : Int)) rfl (fun h69 => ?_) (fun h69 => ?_)
  refine EC_skip (thn_n (EC_seq (EC_block (EC_seq (EC_reg ?_)))))
  refine vl (ptr (blkOf v23) (offOf v23 + ((j : Int) : Int).toNat * 2)) rfl (r_indexX (by exact e65) (H25.row (lT le67 S68.le)) (by exact e62) (by omega) (by first | omega | (simp; omega) | simp) U36 (by kernel_rfl)) ?_
  obtain ⟨a70, ha71⟩ := get_some (l := e.wraps) (j := ((j : Int) : Int).toNat) (by first | omega | (simp; omega) | simp)
  obtain ⟨cs72, hc73, he74⟩ := H25.el ha71
  obtain ⟨v76, rfl, r75, ⟨o77, H78⟩⟩ := hc73
  refine vl (.agg ([.int .i64 a70.who, v76]).toArray) rfl (r_loadR (cs := [.int .i64 a70.who, v76]) rfl (he74 _ (lT le67 S68.le)) U80 rfl (by kernel_rfl)) ?_
  refine EL_alloc (z := .agg #[.int .i64 0, .slice none 0 0]) [.int .i64 0, .slice none 0 0] rfl (by kernel_rfl) rfl ?_
  intro b79 w80 k81 A82 B83 z84
  have S85 := S68.newB B83 A82 k81
  refine sA [.int .i64 a70.who, v76] rfl rfl (S85.arr 0 rfl) rfl (by kernel_rfl) (ones_cons rfl (ones_cons o77 (fun _ h => nomatch h))) ?_
  intro w86 A87 K88 z89
  have S90 := S85.wr0 (ds := [.int .i64 a70.who, v76]) K88 A87
  refine EL_nil (thn_n (EC_reg (vl (ptr b40 8) rfl (fP 0 (by exact e64) U51 (by kernel_rfl)) (vL wv rfl rfl (S90.arr 1 rfl) rfl U49 rfl (vl (.agg ([.int .i64 a70.who, v76]).toArray) rfl (r_loadAll rfl (S90.arr 0 rfl) U80 rfl (by kernel_rfl)) ?_)))))
  refine EL_litW (z := #[.int .i64 0, .slice none 0 0]) (cs := ([.int .i64 a70.who, v76]).toArray) (sz := 2) (l := [(0, .agg ([.int .i64 a70.who, v76]).toArray)]) rfl U49 (by kernel_rfl) (parts1 rfl) (by kernel_rfl) rfl (by decide) ?_
  intro v91 w92 O93 B94 k95
  have S96 : Sat w92 I61 (OwnX 91 wrapR v91 [a70] :: Blk b79 80 [.int .i64 a70.who, v76] :: Blk b40 51 (entRC e v14 v17 wv) :: OwnX 91 wrapR wv (e.wraps.take j) :: Blk b33 51 entR0 :: Blk b26 38 (entRC e v14 v17 v23) :: R) := OwnX.cls (xss := [[.int .i64 a70.who, v76]]) (.cons ⟨v76, rfl, (by first | assumption | (dsimp only; omega)), ⟨o77, (H78.up le67)⟩⟩ .nil) (S90.newO B94 O93)
  have oH103 := (OwnX.one S96 0 rfl (by decide))
  obtain ⟨I100, le101, S102, H103⟩ := S96.fx0 (by decide)
  have S104 := S102.fr2
  refine EL_appX (z := (.agg #[.int .i64 0, .slice none 0 0])) (bytes := 32) rfl U49 (by kernel_rfl) rfl (by decide) rfl rfl S104 H103 (by first | omega | (simp; done) | (simp only [List.length_cons, List.length_nil]; omega) | (rw [List.length_append]; simp only [List.length_cons, List.length_nil]; omega) | (simp; omega)) (by first | omega | (simp; done) | (simp only [List.length_cons, List.length_nil]; omega) | (rw [List.length_append]; simp only [List.length_cons, List.length_nil]; omega) | (simp; omega)) ?_
  intro v97 w98 S99
  refine vl (ptr b40 8) rfl (fP 0 (by exact e64) U51 (by kernel_rfl)) ?_
  refine EL_storeA (j := 8) (u := v97) rfl rfl (S99.arr 2 rfl) (by first | decide | (simp; omega) | simp) (OwnX.one S99 0 rfl (by decide)) (by kernel_rfl) ?_
  intro w105 A106 K107 z108
  have S109 := S99.wr2 (ds := (entRC e v14 v17 v97)) K107 A106
  refine EL_nil (inB_n (thn_n (EC_reg ?_)))
  refine EL_int ((j : Int) + 1) rfl (r_addi (by exact e62) rfl (by omega)) ?_
  intro x110 hx110
  refine vM (.int .i64 x110) rfl rfl (EL_nil (thn_n ?_))
  have q112 : (e.wraps.take j) ++ [a70] = e.wraps.take (j + 1) := take_snoc (show e.wraps[j]? = _ from ha71)
  have S111 := S109.ax0 q112
  have S113 := S111.dr1
  have S114 := S113.fr3
  have S115 := S114.fr3
  have S116 := S115.fr2
  have S117 := S116.fr3
  refine ⟨_, ?_, j + 1, v97, I100, rfl, (Eq.trans (show _ = Value.int .i64 x110 from rfl) (congrArg _ (by omega))), (by exact e63), (by exact e64), (by exact e65), (by exact e66), by omega, (lT le67 le101), S117⟩
  first | omega | (simp; omega)
  refine EC_exit (thn_x (thn_x (inB_hit (thn_n (EC_seq ?_)))))
  refine EC_reg (vl (.agg ((entRC e v14 v17 wv)).toArray) rfl (r_loadAll (by exact e64) (S68.arr 0 rfl) U51 rfl (by kernel_rfl)) ?_)
  refine sA (entRC e v14 v17 wv) (by exact e63) rfl (S68.arr 2 rfl) rfl (by kernel_rfl) (ones_cons rfl (ones_cons rfl (ones_cons rfl (ones_cons o15 (ones_cons o18 (ones_cons rfl (ones_cons rfl (ones_cons rfl (ones_cons (OwnX.one S68 1 rfl (by decide)) (fun _ h => nomatch h)))))))))) ?_
  intro w118 A119 K120 z121
  have S122 := S68.wr2 (ds := (entRC e v14 v17 wv)) K120 A119
  refine EL_nil (thn_n (EC_ret ?_))
  refine fin1c Tryz.results12 (show _ = ptr b33 from (by exact e63)) (S122.arr 2 rfl) U51 rfl (by kernel_rfl) ⟨_, rfl, ?_⟩
  have q124 : e.wraps.take j = e.wraps := by rw [List.take_of_length_le (by omega)]
  have S123 := S122.ax1 q124
  have oH128 := (OwnX.one S123 1 rfl (by decide))
  obtain ⟨I125, le126, S127, H128⟩ := S123.fx1 (by decide)
  have q129 : e = (⟨e.kind, e.writer, e.seq, e.name, e.value, e.who, e.rights, e.epoch, e.wraps⟩ : Entry) := rfl
  have S130 := S127.dr0
  have S131 := S130.dr0
  have S132 := S131.dr0
  exact ⟨(entRC e v14 v17 wv), I125, (lT le67 le126), rfl, (by rw [q129]; exact ⟨v14, v17, wv, rfl, (by first | assumption | (dsimp only; omega)), (by first | assumption | (dsimp only; omega)), (by first | assumption | (dsimp only; omega)), ⟨o15, (H16.up (lT le67 le126))⟩, ⟨o18, (H19.up (lT le67 le126))⟩, (by first | assumption | (dsimp only; omega)), (by first | assumption | (dsimp only; omega)), (by first | assumption | (dsimp only; omega)), ⟨oH128, H128⟩⟩), S132⟩

end Go.Proofs.YtoajodjcmeijgaaGreat
