import Derived.Test.YtoajodjcmeijgaaQSealedHidesR9A
set_option linter.unusedVariables false
set_option linter.unusedSimpArgs false
namespace Go.Proofs.Ytoajodjcmeijgaa
open Go.RowKit Go.Ecal

set_option maxRecDepth 100000 in
set_option maxHeartbeats 4000000 in
theorem Small_c (ce : List Value) (e : Entry) (I : Gh) (R : List HP) (w : World) (S : Sat w I (R)) (he : entR.r I ce e) : Ret Try.prog 10 [.agg ce.toArray] w fun v w' => .bool (smallE e) = v ∧ Sat w' I (R) := by
  obtain ⟨v14, v17, v23, rfl, r11, r12, r13, ⟨o15, H16⟩, ⟨o18, H19⟩, r20, r21, r22, ⟨o24, H25⟩⟩ := he
  refine ret_E Try.func10 rfl Try.ntmps10 (by simp) ?_
  refine EC_seq ?_
  refine EC_reg ?_
  refine EL_box [.int .i64 e.kind, .int .i64 e.writer, .int .i64 e.seq, v14, v17, .int .i64 e.who, .int .i64 e.rights, .int .i64 e.epoch, v23] rfl rfl rfl ?_
  intro b26 w27 k28 A29 B30 z31
  have S32 := S.newB B30 A29 k28
  refine EL_val (.bool false) w27 rfl (r_assign rfl) ?_
  refine EL_nil ?_
  refine thn_n ?_
  refine EC_seq ?_
  refine EC_seq ?_
  have lqw := XRow.le (H25.row S32.le)
  skip
  · refine EC_reg ?_
    refine EL_val (ptr b26 8) w27 rfl (r_fieldP (o := 0) (s := 1) rfl Try.underlying25 rfl (by kernel_rfl) (by decide) rfl) ?_
    refine EL_val v23 w27 rfl (r_loadA rfl (S32.arr 0 rfl) (u := v23) rfl Try.underlying23 rfl) ?_
    refine EL_val (.int .i64 (e.wraps.length : Int)) w27 rfl (r_lenX rfl (H25.row S32.le) Try.underlying23) ?_
    refine EL_val (.int .i64 0) w27 rfl (r_move rfl) ?_
    refine EL_nil ?_
    refine thn_n ?_
    refine EC_block ?_
    refine EC_loop (fun m' E' w' => ∃ j : Nat, m' = e.wraps.length - j ∧ E' 8 = .int .i64 (j : Int) ∧ E' 1 = ptr b26 ∧ E' 6 = v23 ∧ E' 7 = .int .i64 (e.wraps.length : Int) ∧ (j ≤ e.wraps.length) ∧ (∀ w ∈ e.wraps.take j, w.box.length ≤ 100) ∧ Sat w' I (Blk b26 25 [.int .i64 e.kind, .int .i64 e.writer, .int .i64 e.seq, v14, v17, .int .i64 e.who, .int .i64 e.rights, .int .i64 e.epoch, v23] :: R)) _ ⟨0, rfl, rfl, rfl, rfl, rfl, Nat.zero_le _, (by simp), S32⟩ ?_
    rintro _ E33 w34 ⟨j, rfl, e35, e36, e37, e38, hj, hsm, S39⟩
    refine EC_seq ?_
    refine EC_reg ?_
    refine EL_val (.bool (decide ((j : Int) < (e.wraps.length : Int)))) w34 rfl (r_lss (by exact e35) (by exact e38)) ?_
    refine EL_nil ?_
    refine thn_n ?_
    refine EC_seq ?_
    refine EC_if (p := (j : Int) < (e.wraps.length : Int)) rfl (fun h40 => ?_) (fun h40 => ?_)
    · refine EC_skip ?_
      refine thn_n ?_
      refine EC_seq ?_
      refine EC_block ?_
      refine EC_seq ?_
      refine EC_reg ?_
      refine EL_val (ptr (blkOf v23) (offOf v23 + ((j : Int) : Int).toNat * 2)) w34 rfl (r_indexX (by exact e37) (H25.row S39.le) (by exact e35) (by omega) (by first | omega | (simp; omega) | simp) Try.underlying23 (by kernel_rfl)) ?_
      obtain ⟨a41, ha42⟩ := get_some (l := e.wraps) (j := ((j : Int) : Int).toNat) (by first | omega | (simp; omega) | simp)
      obtain ⟨cs43, hc44, he45⟩ := H25.el ha42
      obtain ⟨v47, rfl, r46, ⟨o48, H49⟩⟩ := hc44
      refine EL_val (.agg ([.int .i64 a41.who, v47]).toArray) w34 rfl (r_loadR (cs := [.int .i64 a41.who, v47]) rfl (he45 _ S39.le) Try.underlying62 rfl (by kernel_rfl)) ?_
      refine EL_alloc (z := .agg #[.int .i64 0, .slice none 0 0]) [.int .i64 0, .slice none 0 0] rfl (by kernel_rfl) rfl ?_
      intro b50 w51 k52 A53 B54 z55
      have S56 := S39.newB B54 A53 k52
      refine EL_storeAll (v := .agg ([.int .i64 a41.who, v47]).toArray) (cs' := ([.int .i64 a41.who, v47]).toArray) rfl rfl rfl (S56.arr 0 rfl) rfl (by kernel_rfl) (ones_cons rfl (ones_cons o48 (fun _ h => nomatch h))) ?_
      intro w57 A58 K59 z60
      have S61 := S56.wr0 (ds := [.int .i64 a41.who, v47]) K59 A58
      refine EL_nil ?_
      refine thn_n ?_
      refine EC_seq ?_
      refine EC_reg ?_
      refine EL_val (ptr b50 1) w57 rfl (r_fieldP (o := 0) (s := 1) rfl Try.underlying62 rfl (by kernel_rfl) (by decide) rfl) ?_
      refine EL_val v47 w57 rfl (r_loadA rfl (S61.arr 0 rfl) (u := v47) rfl Try.underlying22 rfl) ?_
      refine EL_val (.int .i64 (a41.box.length : Int)) w57 rfl (lenB (r_len rfl (H49 _ S61.le) Try.underlying22)) ?_
      refine EL_val (.bool (decide (100 < (a41.box.length : Int)))) w57 rfl (r_gtr rfl rfl) ?_
      refine EL_nil ?_
      refine thn_n ?_
      refine EC_if (p := 100 < (a41.box.length : Int)) rfl (fun h62 => ?_) (fun h62 => ?_)
      · refine EC_seq ?_
        refine EC_reg ?_
        refine EL_val (.bool false) w57 rfl (r_assign rfl) ?_
        refine EL_nil ?_
        refine thn_n ?_
        refine EC_ret ?_
        refine inB_r ?_
        refine thn_r ?_
        refine thn_r ?_
        refine inB_r ?_
        refine thn_r ?_
        refine fin1 Try.results10 (show _ = .bool false from rfl) ⟨_, rfl, ?_⟩
        have S63 := S61.dr0
        have S64 := S63.dr0
        exact ⟨(by rw [smallE_no (show e.wraps[j]? = _ from ha42) (by omega)]), S64⟩
      · refine EC_skip ?_
        refine inB_n ?_
        refine thn_n ?_
        refine EC_reg ?_
        refine EL_int ((j : Int) + 1) rfl (r_addi (by exact e35) rfl (by omega)) ?_
        intro x65 hx65
        refine EL_val (.int .i64 x65) w57 rfl (r_move rfl) ?_
        refine EL_nil ?_
        refine thn_n ?_
        have S66 := S61.dr0
        refine ⟨_, ?_, j + 1, rfl, (Eq.trans (show _ = Value.int .i64 x65 from rfl) (congrArg _ (by omega))), (by exact e36), (by exact e37), (by exact e38), by omega, (small_next hsm (show e.wraps[j]? = _ from ha42) (by omega)), S66⟩
        first | omega | (simp; omega)
    · refine EC_exit ?_
      refine thn_x ?_
      refine thn_x ?_
      refine inB_hit ?_
      refine thn_n ?_
      refine EC_seq ?_
      refine EC_reg ?_
      refine EL_val (ptr b26 3) w34 rfl (r_fieldP (o := 0) (s := 1) (by exact e36) Try.underlying25 rfl (by kernel_rfl) (by decide) rfl) ?_
      refine EL_val v14 w34 rfl (r_loadA rfl (S39.arr 0 rfl) (u := v14) rfl Try.underlying22 rfl) ?_
      refine EL_val (.int .i64 (e.name.length : Int)) w34 rfl (lenB (r_len rfl (H16 _ S39.le) Try.underlying22)) ?_
      refine EL_val (.bool (decide ((e.name.length : Int) ≤ 100))) w34 rfl (r_leq rfl rfl) ?_
      refine EL_val (.bool (decide ((e.name.length : Int) ≤ 100))) w34 rfl (r_move rfl) ?_
      refine EL_gite 21 rfl rfl rfl (ptr b26 4) rfl (fun g67 => r_fieldP (o := 0) (s := 1) (by exact e36) Try.underlying25 rfl (by kernel_rfl) (by decide) rfl) ?_
      refine EL_gite 21 rfl rfl rfl v17 rfl (fun g68 => r_loadA (cond_of g68 rfl) (S39.arr 0 rfl) (u := v17) rfl Try.underlying22 rfl) ?_
      refine EL_gite 21 rfl rfl rfl (.int .i64 (e.value.length : Int)) rfl (fun g69 => lenB (r_len (cond_of g69 rfl) (H19 _ S39.le) Try.underlying22)) ?_
      refine EL_gite 21 rfl rfl rfl (.bool (decide ((e.value.length : Int) ≤ 600))) rfl (fun g70 => r_leq (cond_of g70 rfl) rfl) ?_
      refine EL_val (.bool ((decide ((e.name.length : Int) ≤ 100)) && (decide ((e.value.length : Int) ≤ 600)))) w34 rfl (r_and rfl rfl rfl) ?_
      refine EL_val (.bool ((decide ((e.name.length : Int) ≤ 100)) && (decide ((e.value.length : Int) ≤ 600)))) w34 rfl (r_move rfl) ?_
      refine EL_gite 27 rfl rfl rfl (ptr b26 8) rfl (fun g71 => r_fieldP (o := 0) (s := 1) (by exact e36) Try.underlying25 rfl (by kernel_rfl) (by decide) rfl) ?_
      refine EL_gite 27 rfl rfl rfl v23 rfl (fun g72 => r_loadA (cond_of g72 rfl) (S39.arr 0 rfl) (u := v23) rfl Try.underlying23 rfl) ?_
      refine EL_gite 27 rfl rfl rfl (.int .i64 (e.wraps.length : Int)) rfl (fun g73 => r_lenX (cond_of g73 rfl) (H25.row S39.le) Try.underlying23) ?_
      refine EL_gite 27 rfl rfl rfl (.bool (decide ((e.wraps.length : Int) ≤ 20))) rfl (fun g74 => r_leq (cond_of g74 rfl) rfl) ?_
      refine EL_val (.bool (((decide ((e.name.length : Int) ≤ 100)) && (decide ((e.value.length : Int) ≤ 600))) && (decide ((e.wraps.length : Int) ≤ 20)))) w34 rfl (r_and rfl rfl rfl) ?_
      refine EL_val (.bool (((decide ((e.name.length : Int) ≤ 100)) && (decide ((e.value.length : Int) ≤ 600))) && (decide ((e.wraps.length : Int) ≤ 20)))) w34 rfl (r_assign rfl) ?_
      refine EL_nil ?_
      refine thn_n ?_
      refine EC_ret ?_
      refine fin1 Try.results10 (show _ = .bool (((decide ((e.name.length : Int) ≤ 100)) && (decide ((e.value.length : Int) ≤ 600))) && (decide ((e.wraps.length : Int) ≤ 20))) from rfl) ⟨_, rfl, ?_⟩
      have S75 := S39.dr0
      exact ⟨(congrArg Value.bool (smallE_is (by rwa [List.take_of_length_le (by omega)] at hsm)).symm), S75⟩

set_option maxRecDepth 100000 in
set_option maxHeartbeats 4000000 in
theorem MEntry_c (ce : List Value) (e : Entry) (I : Gh) (R : List HP) (w : World) (S : Sat w I (R)) (he : entR.r I ce e) (hws : e.wraps.length ≤ 1000000) : Ret Try.prog 11 [.agg ce.toArray] w fun v w' => ∃ cr : List Value, ∃ J : Gh, Gh.le I J ∧ .agg cr.toArray = v ∧ entR.r J cr e ∧ Sat w' J (R) := by
  obtain ⟨v14, v17, v23, rfl, r11, r12, r13, ⟨o15, H16⟩, ⟨o18, H19⟩, r20, r21, r22, ⟨o24, H25⟩⟩ := he
  refine ret_E Try.func11 rfl Try.ntmps11 (by simp) ?_
  refine EC_seq ?_
  refine EC_reg ?_
  refine EL_box [.int .i64 e.kind, .int .i64 e.writer, .int .i64 e.seq, v14, v17, .int .i64 e.who, .int .i64 e.rights, .int .i64 e.epoch, v23] rfl rfl rfl ?_
  intro b26 w27 k28 A29 B30 z31
  have S32 := S.newB B30 A29 k28
  refine EL_alloc (z := .agg #[.int .i64 0, .int .i64 0, .int .i64 0, .slice none 0 0, .slice none 0 0, .int .i64 0, .int .i64 0, .int .i64 0, .slice none 0 0]) [.int .i64 0, .int .i64 0, .int .i64 0, .slice none 0 0, .slice none 0 0, .int .i64 0, .int .i64 0, .int .i64 0, .slice none 0 0] rfl (by kernel_rfl) rfl ?_
  intro b33 w34 k35 A36 B37 z38
  have S39 := S32.newB B37 A36 k35
  refine EL_nil ?_
  refine thn_n ?_
  refine EC_seq ?_
  refine EC_reg ?_
  refine EL_val (ptr b26 0) w34 rfl (r_fieldP (o := 0) (s := 1) rfl Try.underlying25 rfl (by kernel_rfl) (by decide) rfl) ?_
  refine EL_val (.int .i64 e.kind) w34 rfl (r_loadA rfl (S39.arr 1 rfl) (u := (.int .i64 e.kind)) rfl Try.underlying3 rfl) ?_
  refine EL_val (ptr b26 1) w34 rfl (r_fieldP (o := 0) (s := 1) rfl Try.underlying25 rfl (by kernel_rfl) (by decide) rfl) ?_
  refine EL_val (.int .i64 e.writer) w34 rfl (r_loadA rfl (S39.arr 1 rfl) (u := (.int .i64 e.writer)) rfl Try.underlying3 rfl) ?_
  refine EL_val (ptr b26 2) w34 rfl (r_fieldP (o := 0) (s := 1) rfl Try.underlying25 rfl (by kernel_rfl) (by decide) rfl) ?_
  refine EL_val (.int .i64 e.seq) w34 rfl (r_loadA rfl (S39.arr 1 rfl) (u := (.int .i64 e.seq)) rfl Try.underlying3 rfl) ?_
  refine EL_val (ptr b26 3) w34 rfl (r_fieldP (o := 0) (s := 1) rfl Try.underlying25 rfl (by kernel_rfl) (by decide) rfl) ?_
  refine EL_val v14 w34 rfl (r_loadA rfl (S39.arr 1 rfl) (u := v14) rfl Try.underlying22 rfl) ?_
  refine EL_val (ptr b26 4) w34 rfl (r_fieldP (o := 0) (s := 1) rfl Try.underlying25 rfl (by kernel_rfl) (by decide) rfl) ?_
  refine EL_val v17 w34 rfl (r_loadA rfl (S39.arr 1 rfl) (u := v17) rfl Try.underlying22 rfl) ?_
  refine EL_val (ptr b26 5) w34 rfl (r_fieldP (o := 0) (s := 1) rfl Try.underlying25 rfl (by kernel_rfl) (by decide) rfl) ?_
  refine EL_val (.int .i64 e.who) w34 rfl (r_loadA rfl (S39.arr 1 rfl) (u := (.int .i64 e.who)) rfl Try.underlying3 rfl) ?_
  refine EL_val (ptr b26 6) w34 rfl (r_fieldP (o := 0) (s := 1) rfl Try.underlying25 rfl (by kernel_rfl) (by decide) rfl) ?_
  refine EL_val (.int .i64 e.rights) w34 rfl (r_loadA rfl (S39.arr 1 rfl) (u := (.int .i64 e.rights)) rfl Try.underlying3 rfl) ?_
  refine EL_val (ptr b26 7) w34 rfl (r_fieldP (o := 0) (s := 1) rfl Try.underlying25 rfl (by kernel_rfl) (by decide) rfl) ?_
  refine EL_val (.int .i64 e.epoch) w34 rfl (r_loadA rfl (S39.arr 1 rfl) (u := (.int .i64 e.epoch)) rfl Try.underlying3 rfl) ?_
  refine EL_val (.agg ([.int .i64 e.kind, .int .i64 e.writer, .int .i64 e.seq, v14, v17, .int .i64 e.who, .int .i64 e.rights, .int .i64 e.epoch, .slice none 0 0]).toArray) w34 rfl (r_buildS (l := [(0, .int .i64 e.kind), (1, .int .i64 e.writer), (2, .int .i64 e.seq), (3, v14), (4, v17), (5, .int .i64 e.who), (6, .int .i64 e.rights), (7, .int .i64 e.epoch)]) st_32 (parts8 rfl rfl rfl rfl rfl rfl rfl rfl) (Eq.trans (show Instr.fill _ _ [(0, .int .i64 e.kind), (1, .int .i64 e.writer), (2, .int .i64 e.seq), (3, v14), (4, v17), (5, .int .i64 e.who), (6, .int .i64 e.rights), (7, .int .i64 e.epoch)] = _ from (fill_one rfl rfl rfl (fill_one rfl rfl rfl (fill_one rfl rfl rfl (fill_one rfl (one_cells o15) rfl (fill_one rfl (one_cells o18) rfl (fill_one rfl rfl rfl (fill_one rfl rfl rfl (fill_one rfl rfl rfl fill_end))))))))) (by kernel_rfl))) ?_
  refine EL_alloc (z := .agg #[.int .i64 0, .int .i64 0, .int .i64 0, .slice none 0 0, .slice none 0 0, .int .i64 0, .int .i64 0, .int .i64 0, .slice none 0 0]) [.int .i64 0, .int .i64 0, .int .i64 0, .slice none 0 0, .slice none 0 0, .int .i64 0, .int .i64 0, .int .i64 0, .slice none 0 0] rfl (by kernel_rfl) rfl ?_
  intro b40 w41 k42 A43 B44 z45
  have S46 := S39.newB B44 A43 k42
  refine EL_storeAll (v := .agg ([.int .i64 e.kind, .int .i64 e.writer, .int .i64 e.seq, v14, v17, .int .i64 e.who, .int .i64 e.rights, .int .i64 e.epoch, .slice none 0 0]).toArray) (cs' := ([.int .i64 e.kind, .int .i64 e.writer, .int .i64 e.seq, v14, v17, .int .i64 e.who, .int .i64 e.rights, .int .i64 e.epoch, .slice none 0 0]).toArray) rfl rfl rfl (S46.arr 0 rfl) rfl (by kernel_rfl) (ones_cons rfl (ones_cons rfl (ones_cons rfl (ones_cons o15 (ones_cons o18 (ones_cons rfl (ones_cons rfl (ones_cons rfl (ones_cons rfl (fun _ h => nomatch h)))))))))) ?_
  intro w47 A48 K49 z50
  have S51 := S46.wr0 (ds := [.int .i64 e.kind, .int .i64 e.writer, .int .i64 e.seq, v14, v17, .int .i64 e.who, .int .i64 e.rights, .int .i64 e.epoch, .slice none 0 0]) K49 A48
  refine EL_nil ?_
  refine thn_n ?_
  refine EC_seq ?_
  refine EC_seq ?_
  refine EC_reg ?_
  refine EL_val (ptr b26 8) w47 rfl (r_fieldP (o := 0) (s := 1) rfl Try.underlying25 rfl (by kernel_rfl) (by decide) rfl) ?_
  refine EL_val v23 w47 rfl (r_loadA rfl (S51.arr 2 rfl) (u := v23) rfl Try.underlying23 rfl) ?_
  refine EL_val (.int .i64 (e.wraps.length : Int)) w47 rfl (r_lenX rfl (H25.row S51.le) Try.underlying23) ?_
  refine EL_val (.int .i64 0) w47 rfl (r_move rfl) ?_
  refine EL_nil ?_
  refine thn_n ?_
  refine EC_block ?_
  have S52 : Sat w47 I (OwnX 63 wrapR (.slice none 0 0) [] :: Blk b40 32 [.int .i64 e.kind, .int .i64 e.writer, .int .i64 e.seq, v14, v17, .int .i64 e.who, .int .i64 e.rights, .int .i64 e.epoch, .slice none 0 0] :: Blk b33 32 [.int .i64 0, .int .i64 0, .int .i64 0, .slice none 0 0, .slice none 0 0, .int .i64 0, .int .i64 0, .int .i64 0, .slice none 0 0] :: Blk b26 25 [.int .i64 e.kind, .int .i64 e.writer, .int .i64 e.seq, v14, v17, .int .i64 e.who, .int .i64 e.rights, .int .i64 e.epoch, v23] :: R) := OwnX.nil S51 63 wrapR
  have q54 : [] = e.wraps.take 0 := by rw [List.take_zero]
  have S53 := S52.ax0 q54
  have S55 := S53.fr3
  have S56 := S55.fr3
  have S57 := S56.fr2
  have S58 := S57.fr3
  refine EC_loop (fun m' E' w' => ∃ j : Nat, ∃ wv : Value, ∃ J : Gh, m' = e.wraps.length - j ∧ E' 26 = .int .i64 (j : Int) ∧ E' 2 = ptr b33 ∧ E' 3 = ptr b40 ∧ E' 24 = v23 ∧ E' 25 = .int .i64 (e.wraps.length : Int) ∧ (j ≤ e.wraps.length) ∧ Gh.le I J ∧ Sat w' J (Blk b40 32 [.int .i64 e.kind, .int .i64 e.writer, .int .i64 e.seq, v14, v17, .int .i64 e.who, .int .i64 e.rights, .int .i64 e.epoch, wv] :: OwnX 63 wrapR wv (e.wraps.take j) :: Blk b33 32 [.int .i64 0, .int .i64 0, .int .i64 0, .slice none 0 0, .slice none 0 0, .int .i64 0, .int .i64 0, .int .i64 0, .slice none 0 0] :: Blk b26 25 [.int .i64 e.kind, .int .i64 e.writer, .int .i64 e.seq, v14, v17, .int .i64 e.who, .int .i64 e.rights, .int .i64 e.epoch, v23] :: R)) _ ⟨0, .slice none 0 0, I, rfl, rfl, rfl, rfl, rfl, rfl, Nat.zero_le _, (Gh.le_refl _), S58⟩ ?_
  rintro _ E59 w60 ⟨j, wv, I61, rfl, e62, e63, e64, e65, e66, hj, le67, S68⟩
  refine EC_seq ?_
  refine EC_reg ?_
  refine EL_val (.bool (decide ((j : Int) < (e.wraps.length : Int)))) w60 rfl (r_lss (by exact e62) (by exact e66)) ?_
  refine EL_nil ?_
  refine thn_n ?_
  refine EC_seq ?_
  refine EC_if (p := (j : Int) < (e.wraps.length : Int)) rfl (fun h69 => ?_) (fun h69 => ?_)
  · refine EC_skip ?_
    refine thn_n ?_
    refine EC_seq ?_
    refine EC_block ?_
    refine EC_seq ?_
    refine EC_reg ?_
    refine EL_val (ptr (blkOf v23) (offOf v23 + ((j : Int) : Int).toNat * 2)) w60 rfl (r_indexX (by exact e65) (H25.row (Gh.le_trans le67 S68.le)) (by exact e62) (by omega) (by first | omega | (simp; omega) | simp) Try.underlying23 (by kernel_rfl)) ?_
    obtain ⟨a70, ha71⟩ := get_some (l := e.wraps) (j := ((j : Int) : Int).toNat) (by first | omega | (simp; omega) | simp)
    obtain ⟨cs72, hc73, he74⟩ := H25.el ha71
    obtain ⟨v76, rfl, r75, ⟨o77, H78⟩⟩ := hc73
    refine EL_val (.agg ([.int .i64 a70.who, v76]).toArray) w60 rfl (r_loadR (cs := [.int .i64 a70.who, v76]) rfl (he74 _ (Gh.le_trans le67 S68.le)) Try.underlying62 rfl (by kernel_rfl)) ?_
    refine EL_alloc (z := .agg #[.int .i64 0, .slice none 0 0]) [.int .i64 0, .slice none 0 0] rfl (by kernel_rfl) rfl ?_
    intro b79 w80 k81 A82 B83 z84
    have S85 := S68.newB B83 A82 k81
    refine EL_storeAll (v := .agg ([.int .i64 a70.who, v76]).toArray) (cs' := ([.int .i64 a70.who, v76]).toArray) rfl rfl rfl (S85.arr 0 rfl) rfl (by kernel_rfl) (ones_cons rfl (ones_cons o77 (fun _ h => nomatch h))) ?_
    intro w86 A87 K88 z89
    have S90 := S85.wr0 (ds := [.int .i64 a70.who, v76]) K88 A87
    refine EL_nil ?_
    refine thn_n ?_
    refine EC_reg ?_
    refine EL_val (ptr b40 8) w86 rfl (r_fieldP (o := 0) (s := 1) (by exact e64) Try.underlying32 rfl (by kernel_rfl) (by decide) rfl) ?_
    refine EL_val wv w86 rfl (r_loadA rfl (S90.arr 1 rfl) (u := wv) rfl Try.underlying30 rfl) ?_
    refine EL_val (.agg ([.int .i64 a70.who, v76]).toArray) w86 rfl (r_loadAll rfl (S90.arr 0 rfl) Try.underlying62 rfl (by kernel_rfl)) ?_
    refine EL_litW (z := #[.int .i64 0, .slice none 0 0]) (cs := ([.int .i64 a70.who, v76]).toArray) (sz := 2) (l := [(0, .agg ([.int .i64 a70.who, v76]).toArray)]) rfl Try.underlying30 (by kernel_rfl) (parts1 rfl) (by kernel_rfl) rfl (by decide) ?_
    intro v91 w92 O93 B94 k95
    have S96 : Sat w92 I61 (OwnX 63 wrapR v91 [a70] :: Blk b79 62 [.int .i64 a70.who, v76] :: Blk b40 32 [.int .i64 e.kind, .int .i64 e.writer, .int .i64 e.seq, v14, v17, .int .i64 e.who, .int .i64 e.rights, .int .i64 e.epoch, wv] :: OwnX 63 wrapR wv (e.wraps.take j) :: Blk b33 32 [.int .i64 0, .int .i64 0, .int .i64 0, .slice none 0 0, .slice none 0 0, .int .i64 0, .int .i64 0, .int .i64 0, .slice none 0 0] :: Blk b26 25 [.int .i64 e.kind, .int .i64 e.writer, .int .i64 e.seq, v14, v17, .int .i64 e.who, .int .i64 e.rights, .int .i64 e.epoch, v23] :: R) := OwnX.cls (xss := [[.int .i64 a70.who, v76]]) (.cons ⟨v76, rfl, (by first | assumption | omega | (dsimp only; omega)), ⟨o77, (H78.up le67)⟩⟩ .nil) (S90.newO B94 O93)
    have oH103 := (OwnX.one S96 0 rfl (by decide))
    obtain ⟨I100, le101, S102, H103⟩ := S96.fx0 (by decide)
    have S104 := S102.fr2
    refine EL_appX (z := (.agg #[.int .i64 0, .slice none 0 0])) (bytes := 32) rfl Try.underlying30 (by kernel_rfl) rfl (by decide) rfl rfl S104 H103 (by first | omega | (simp; done) | (simp only [List.length_cons, List.length_nil]; omega) | (rw [List.length_append]; simp only [List.length_cons, List.length_nil]; omega) | (simp; omega)) (by first | omega | (simp; done) | (simp only [List.length_cons, List.length_nil]; omega) | (rw [List.length_append]; simp only [List.length_cons, List.length_nil]; omega) | (simp; omega)) ?_
    intro v97 w98 S99
    refine EL_val (ptr b40 8) w98 rfl (r_fieldP (o := 0) (s := 1) (by exact e64) Try.underlying32 rfl (by kernel_rfl) (by decide) rfl) ?_
    refine EL_storeA (j := 8) (u := v97) rfl rfl (S99.arr 2 rfl) (by first | decide | (simp; omega) | simp) (OwnX.one S99 0 rfl (by decide)) (by kernel_rfl) ?_
    intro w105 A106 K107 z108
    have S109 := S99.wr2 (ds := [.int .i64 e.kind, .int .i64 e.writer, .int .i64 e.seq, v14, v17, .int .i64 e.who, .int .i64 e.rights, .int .i64 e.epoch, v97]) K107 A106
    refine EL_nil ?_
    refine inB_n ?_
    refine thn_n ?_
    refine EC_reg ?_
    refine EL_int ((j : Int) + 1) rfl (r_addi (by exact e62) rfl (by omega)) ?_
    intro x110 hx110
    refine EL_val (.int .i64 x110) w105 rfl (r_move rfl) ?_
    refine EL_nil ?_
    refine thn_n ?_
    have q112 : (e.wraps.take j) ++ [a70] = e.wraps.take (j + 1) := take_snoc (show e.wraps[j]? = _ from ha71)
    have S111 := S109.ax0 q112
    have S113 := S111.dr1
    have S114 := S113.fr3
    have S115 := S114.fr3
    have S116 := S115.fr2
    have S117 := S116.fr3
    refine ⟨_, ?_, j + 1, v97, I100, rfl, (Eq.trans (show _ = Value.int .i64 x110 from rfl) (congrArg _ (by omega))), (by exact e63), (by exact e64), (by exact e65), (by exact e66), by omega, (Gh.le_trans le67 le101), S117⟩
    first | omega | (simp; omega)
  · refine EC_exit ?_
    refine thn_x ?_
    refine thn_x ?_
    refine inB_hit ?_
    refine thn_n ?_
    refine EC_seq ?_
    refine EC_reg ?_
    refine EL_val (.agg ([.int .i64 e.kind, .int .i64 e.writer, .int .i64 e.seq, v14, v17, .int .i64 e.who, .int .i64 e.rights, .int .i64 e.epoch, wv]).toArray) w60 rfl (r_loadAll (by exact e64) (S68.arr 0 rfl) Try.underlying32 rfl (by kernel_rfl)) ?_
    refine EL_storeAll (v := .agg ([.int .i64 e.kind, .int .i64 e.writer, .int .i64 e.seq, v14, v17, .int .i64 e.who, .int .i64 e.rights, .int .i64 e.epoch, wv]).toArray) (cs' := ([.int .i64 e.kind, .int .i64 e.writer, .int .i64 e.seq, v14, v17, .int .i64 e.who, .int .i64 e.rights, .int .i64 e.epoch, wv]).toArray) (by exact e63) rfl rfl (S68.arr 2 rfl) rfl (by kernel_rfl) (ones_cons rfl (ones_cons rfl (ones_cons rfl (ones_cons o15 (ones_cons o18 (ones_cons rfl (ones_cons rfl (ones_cons rfl (ones_cons (OwnX.one S68 1 rfl (by decide)) (fun _ h => nomatch h)))))))))) ?_
    intro w118 A119 K120 z121
    have S122 := S68.wr2 (ds := [.int .i64 e.kind, .int .i64 e.writer, .int .i64 e.seq, v14, v17, .int .i64 e.who, .int .i64 e.rights, .int .i64 e.epoch, wv]) K120 A119
    refine EL_nil ?_
    refine thn_n ?_
    refine EC_ret ?_
    refine fin1c Try.results11 (show _ = ptr b33 from (by exact e63)) (S122.arr 2 rfl) Try.underlying32 rfl (by kernel_rfl) ⟨_, rfl, ?_⟩
    have q124 : e.wraps.take j = e.wraps := by rw [List.take_of_length_le (by omega)]
    have S123 := S122.ax1 q124
    have oH128 := (OwnX.one S123 1 rfl (by decide))
    obtain ⟨I125, le126, S127, H128⟩ := S123.fx1 (by decide)
    have q129 : e = (⟨e.kind, e.writer, e.seq, e.name, e.value, e.who, e.rights, e.epoch, e.wraps⟩ : Entry) := rfl
    have S130 := S127.dr0
    have S131 := S130.dr0
    have S132 := S131.dr0
    exact ⟨[.int .i64 e.kind, .int .i64 e.writer, .int .i64 e.seq, v14, v17, .int .i64 e.who, .int .i64 e.rights, .int .i64 e.epoch, wv], I125, (Gh.le_trans le67 le126), rfl, (by rw [q129]; exact ⟨v14, v17, wv, rfl, (by first | assumption | omega | (dsimp only; omega)), (by first | assumption | omega | (dsimp only; omega)), (by first | assumption | omega | (dsimp only; omega)), ⟨o15, (H16.up (Gh.le_trans le67 le126))⟩, ⟨o18, (H19.up (Gh.le_trans le67 le126))⟩, (by first | assumption | omega | (dsimp only; omega)), (by first | assumption | omega | (dsimp only; omega)), (by first | assumption | omega | (dsimp only; omega)), ⟨oH128, H128⟩⟩), S132⟩

end Go.Proofs.Ytoajodjcmeijgaa
