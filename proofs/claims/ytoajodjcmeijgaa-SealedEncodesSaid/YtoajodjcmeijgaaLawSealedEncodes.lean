/-
  Any record is right just if the document says so; its bytes are the document's, and are read as it.
  Its conditions: none: whatever the input, in whatever memory.
-/
import Derived.Test.YtoajodjcmeijgaaRows
import Derived.Test.YtoajodjcmeijgaaAnc
import Derived.Test.YtoajodjcmeijgaaR15
import Derived.ProofKit
import Derived.OpenShut
import Derived.ShutString
import Derived.ChangeOld
set_option linter.unusedVariables false
set_option linter.unusedSimpArgs false
namespace Go.Proofs.Ytoajodjcmeijgaa.sealedEncodes
open Go.ChangeShapes Go.WideShapes Go.ChangeAt Go.RowKit Go.Ecal
open Go.ChangeMaps (open_string shut_string)
set_option maxRecDepth 100000 in
theorem opn_27 : Opn Try.prog 27 recR := fun enc w sp hd fuel cs x h => by
  obtain ⟨xs, n, _, _, hl, hxl, hf⟩ := DataW.trod_struct Try.underlying27 h
  have hlen : cs.length = 5 := hl.trans (by kernel_rfl)
  obtain ⟨c0, t0, rfl, l0⟩ := cons_of_len hlen
  obtain ⟨c1, t1, rfl, l1⟩ := cons_of_len l0
  obtain ⟨c2, t2, rfl, l2⟩ := cons_of_len l1
  obtain ⟨c3, t3, rfl, l3⟩ := cons_of_len l2
  obtain ⟨c4, t4, rfl, l4⟩ := cons_of_len l3
  obtain rfl := List.eq_nil_of_length_eq_zero l4
  have e0 : DataW.trod enc Try.prog w 0 sp hd n 3 [c0] = xs[0]? := Opn.part hf rfl rfl rfl (k := 1) (by kernel_rfl) rfl
  obtain ⟨a0, h0⟩ := Opn.field (Opn.int Try.underlying3) (by rw [hxl]; decide) e0
  have e1 : DataW.trod enc Try.prog w 0 sp hd n 3 [c1] = xs[1]? := Opn.part hf rfl rfl rfl (k := 1) (by kernel_rfl) rfl
  obtain ⟨a1, h1⟩ := Opn.field (Opn.int Try.underlying3) (by rw [hxl]; decide) e1
  have e2 : DataW.trod enc Try.prog w 0 sp hd n 3 [c2] = xs[2]? := Opn.part hf rfl rfl rfl (k := 1) (by kernel_rfl) rfl
  obtain ⟨a2, h2⟩ := Opn.field (Opn.int Try.underlying3) (by rw [hxl]; decide) e2
  have e3 : DataW.trod enc Try.prog w 0 sp hd n 3 [c3] = xs[3]? := Opn.part hf rfl rfl rfl (k := 1) (by kernel_rfl) rfl
  obtain ⟨a3, h3⟩ := Opn.field (Opn.int Try.underlying3) (by rw [hxl]; decide) e3
  have e4 : DataW.trod enc Try.prog w 0 sp hd n 22 [c4] = xs[4]? := Opn.part hf rfl rfl rfl (k := 1) (by kernel_rfl) rfl
  obtain ⟨a4, h4⟩ := Opn.field (Opn.bytes Try.underlying22 Try.underlying5 (by kernel_rfl)) (by rw [hxl]; decide) e4
  obtain ⟨q, rh0⟩ := h0; simp only [List.cons.injEq, and_true] at q; subst q
  obtain ⟨q, rh1⟩ := h1; simp only [List.cons.injEq, and_true] at q; subst q
  obtain ⟨q, rh2⟩ := h2; simp only [List.cons.injEq, and_true] at q; subst q
  obtain ⟨q, rh3⟩ := h3; simp only [List.cons.injEq, and_true] at q; subst q
  obtain ⟨vh4, q, oh4, rh4⟩ := h4; simp only [List.cons.injEq, and_true] at q; subst q
  exact ⟨⟨a0, a1, a2, a3, a4⟩, ⟨_, rfl, rh0, rh1, rh2, rh3, ⟨oh4, rh4⟩⟩⟩
set_option maxRecDepth 100000 in
set_option maxHeartbeats 4000000 in
theorem SealedEncodes_w (c0 : List Value) (r : Record) (I : Gh) (R : List HP) (w : World) (S : Sat w I (R)) (hr : recR.r I c0 r) : Ret Try.prog 6 [.agg c0.toArray] w fun v w' => ∃ J : Gh, Gh.le I J ∧ .bool true = v ∧ Sat w' J (R) := by
  obtain ⟨v15, rfl, r11, r12, r13, r14, ⟨o16, H17⟩⟩ := hr
  refine ret_E Try.func6 rfl Try.ntmps6 (by simp) ?_
  refine EC_seq ?_
  refine EC_reg ?_
  refine EL_box [.int .i64 r.coll, .int .i64 r.epoch, .int .i64 r.writer, .int .i64 r.count, v15] rfl rfl rfl ?_
  intro b18 w19 k20 A21 B22 z23
  have S24 := S.newB B22 A21 k20
  refine EL_val (.bool false) w19 rfl (r_assign rfl) ?_
  refine EL_nil ?_
  refine thn_n ?_
  refine EC_seq ?_
  refine EC_seq ?_
  refine EC_reg ?_
  refine EL_ret _ rfl Try.func9 rfl nm9 rfl (anchor_c I _ _ S24) ?_
  rintro _ w25 ⟨I27, le28, rfl, S26⟩
  refine EL_val (.bool false) w25 rfl (r_dec (show (!true) = false from rfl) (r_not rfl)) ?_
  refine EL_nil ?_
  refine thn_n ?_
  refine EC_cond_false rfl ?_
  refine EC_skip ?_
  refine thn_n ?_
  refine EC_seq ?_
  refine EC_seq ?_
  refine EC_reg ?_
  refine EL_val (ptr b18 4) w25 rfl (r_fieldP (o := 0) (s := 1) rfl Try.underlying27 rfl (by kernel_rfl) (by decide) rfl) ?_
  refine EL_val v15 w25 rfl (r_loadA rfl (S26.arr 0 rfl) (u := v15) rfl Try.underlying22 rfl) ?_
  refine EL_val (.int .i64 (r.box.length : Int)) w25 rfl (lenB (r_len rfl (H17 _ (Gh.le_trans le28 S26.le)) Try.underlying22)) ?_
  refine EL_val (.bool (decide (2500 < (r.box.length : Int)))) w25 rfl (r_gtr rfl rfl) ?_
  refine EL_nil ?_
  refine thn_n ?_
  refine EC_if (p := 2500 < (r.box.length : Int)) rfl (fun h29 => ?_) (fun h29 => ?_)
  · refine EC_seq ?_
    refine EC_reg ?_
    refine EL_val (.bool true) w25 rfl (r_assign rfl) ?_
    refine EL_nil ?_
    refine thn_n ?_
    refine EC_ret ?_
    refine thn_r ?_
    refine fin1 Try.results6 (show _ = .bool true from rfl) ⟨_, rfl, ?_⟩
    have S30 := S26.dr0
    exact ⟨I27, le28, rfl, S30⟩
  · have hg : r.box.length ≤ 2500 := by omega
    refine EC_skip ?_
    refine thn_n ?_
    refine EC_seq ?_
    refine EC_reg ?_
    refine EL_val (.agg ([.int .i64 r.coll, .int .i64 r.epoch, .int .i64 r.writer, .int .i64 r.count, v15]).toArray) w25 rfl (r_loadAll rfl (S26.arr 0 rfl) Try.underlying27 rfl (by kernel_rfl)) ?_
    refine EL_alloc (z := .agg #[.int .i64 0, .int .i64 0, .int .i64 0, .int .i64 0, .slice none 0 0]) [.int .i64 0, .int .i64 0, .int .i64 0, .int .i64 0, .slice none 0 0] rfl (by kernel_rfl) rfl ?_
    intro b31 w32 k33 A34 B35 z36
    have S37 := S26.newB B35 A34 k33
    refine EL_storeAll (v := .agg ([.int .i64 r.coll, .int .i64 r.epoch, .int .i64 r.writer, .int .i64 r.count, v15]).toArray) (cs' := ([.int .i64 r.coll, .int .i64 r.epoch, .int .i64 r.writer, .int .i64 r.count, v15]).toArray) rfl rfl rfl (S37.arr 0 rfl) rfl (by kernel_rfl) (ones_cons rfl (ones_cons rfl (ones_cons rfl (ones_cons rfl (ones_cons o16 (fun _ h => nomatch h)))))) ?_
    intro w38 A39 K40 z41
    have S42 := S37.wr0 (ds := [.int .i64 r.coll, .int .i64 r.epoch, .int .i64 r.writer, .int .i64 r.count, v15]) K40 A39
    refine EL_nil ?_
    refine thn_n ?_
    refine EC_seq ?_
    refine EC_reg ?_
    refine EL_val (.agg ([.int .i64 r.coll, .int .i64 r.epoch, .int .i64 r.writer, .int .i64 r.count, v15]).toArray) w38 rfl (r_loadAll rfl (S42.arr 1 rfl) Try.underlying27 rfl (by kernel_rfl)) ?_
    refine EL_ret _ rfl Try.func29 rfl nm29 rfl (REnc_c [.int .i64 r.coll, .int .i64 r.epoch, .int .i64 r.writer, .int .i64 r.count, v15] r I27 _ _ S42 ⟨v15, rfl, (by first | assumption | omega | (dsimp only; omega)), (by first | assumption | omega | (dsimp only; omega)), (by first | assumption | omega | (dsimp only; omega)), (by first | assumption | omega | (dsimp only; omega)), ⟨o16, (H17.up le28)⟩⟩) ?_
    rintro _ w43 ⟨v45, I46, le47, rfl, S44⟩
    refine EL_val (.tuple #[v45, .int .i64 r.encE]) w43 rfl (r_move rfl) ?_
    refine EL_val v45 w43 rfl (r_extract rfl rfl) ?_
    refine EL_val (.int .i64 r.encE) w43 rfl (r_extract rfl rfl) ?_
    refine EL_val v45 w43 rfl (r_assign rfl) ?_
    refine EL_val (.int .i64 r.encE) w43 rfl (r_assign rfl) ?_
    refine EL_nil ?_
    refine thn_n ?_
    refine EC_seq ?_
    refine EC_seq ?_
    refine EC_any 3 (fun w' => Gh.le I46 (gh w')) (fun w' => Arr w' b18 27 [.int .i64 r.coll, .int .i64 r.epoch, .int .i64 r.writer, .int .i64 r.count, v15] ∧ Arr w' b31 42 [.int .i64 r.coll, .int .i64 r.epoch, .int .i64 r.writer, .int .i64 r.count, v15]) (by kernel_rfl) ?_
    intro w48 B49
    have S50 := S44.below B49
    refine EJ_take 0 rfl (by kernel_rfl) (by kernel_rfl) (by kernel_rfl) rfl (by kernel_rfl) (.agg ([.int .i64 r.coll, .int .i64 r.epoch, .int .i64 r.writer, .int .i64 r.count, v15]).toArray) rfl (fun _ hw ht => r_loadAll rfl ht.1 Try.underlying27 rfl (by kernel_rfl)) ⟨S50.le, fun h => ⟨S50.arr 2 rfl, S50.arr 1 rfl⟩⟩ ?_
    refine EJ_take 2 rfl (by kernel_rfl) (by kernel_rfl) (by kernel_rfl) rfl (by kernel_rfl) (.agg ([.int .i64 r.coll, .int .i64 r.epoch, .int .i64 r.writer, .int .i64 r.count, v15]).toArray) rfl (fun _ hw ht => r_loadAll rfl ht.2 Try.underlying42 rfl (by kernel_rfl)) ⟨S50.le, fun h => ⟨S50.arr 2 rfl, S50.arr 1 rfl⟩⟩ ?_
    refine EJ_one 1 (by kernel_rfl) ⟨_, rfl, ?_⟩
    refine EL_ret _ rfl Try.func30 rfl nm30 rfl (RRight_c [.int .i64 r.coll, .int .i64 r.epoch, .int .i64 r.writer, .int .i64 r.count, v15] r I46 _ _ S50 ⟨v15, rfl, (by first | assumption | omega | (dsimp only; omega)), (by first | assumption | omega | (dsimp only; omega)), (by first | assumption | omega | (dsimp only; omega)), (by first | assumption | omega | (dsimp only; omega)), ⟨o16, (H17.up (Gh.le_trans le28 le47))⟩⟩) ?_
    rintro _ w51 ⟨rfl, S52⟩
    refine EL_nil ?_
    refine ⟨rfl, ⟨S52.le, fun h => ⟨S52.arr 2 rfl, S52.arr 1 rfl⟩⟩, ?_⟩
    refine EJ_one 3 (by kernel_rfl) ⟨_, rfl, ?_⟩
    refine EL_ret _ rfl Try.func31 rfl nm31 rfl (Right15_c [.int .i64 r.coll, .int .i64 r.epoch, .int .i64 r.writer, .int .i64 r.count, v15] r I46 _ _ S52 ⟨v15, rfl, (by first | assumption | omega | (dsimp only; omega)), (by first | assumption | omega | (dsimp only; omega)), (by first | assumption | omega | (dsimp only; omega)), (by first | assumption | omega | (dsimp only; omega)), ⟨o16, (H17.up (Gh.le_trans le28 le47))⟩⟩) ?_
    rintro _ w53 ⟨rfl, S54⟩
    refine EL_nil ?_
    refine ⟨rfl, ⟨S54.le, fun h => by cases h⟩, ?_⟩
    refine EJ_float 4 rfl (by kernel_rfl) (by kernel_rfl) (by kernel_rfl) rfl (.bool false) rfl (fun _ hw => r_dec (show (r.right != r.right) = false from by simp) (r_neqb rfl rfl Try.underlying4)) ⟨S54.le, fun h => by cases h⟩ ?_
    refine EJ_done (by kernel_rfl) ?_
    refine thn_n ?_
    refine EC_cond_false rfl ?_
    refine EC_skip ?_
    refine thn_n ?_
    refine EC_seq ?_
    refine EC_seq ?_
    refine EC_reg ?_
    refine EL_val (.agg ([.int .i64 r.coll, .int .i64 r.epoch, .int .i64 r.writer, .int .i64 r.count, v15]).toArray) w53 rfl (r_loadAll rfl (S54.arr 1 rfl) Try.underlying42 rfl (by kernel_rfl)) ?_
    refine EL_ret _ rfl Try.func31 rfl nm31 rfl (Right15_c [.int .i64 r.coll, .int .i64 r.epoch, .int .i64 r.writer, .int .i64 r.count, v15] r I46 _ _ S54 ⟨v15, rfl, (by first | assumption | omega | (dsimp only; omega)), (by first | assumption | omega | (dsimp only; omega)), (by first | assumption | omega | (dsimp only; omega)), (by first | assumption | omega | (dsimp only; omega)), ⟨o16, (H17.up (Gh.le_trans le28 le47))⟩⟩) ?_
    rintro _ w55 ⟨rfl, S56⟩
    refine EL_val (.bool !r.right) w55 rfl (r_not rfl) ?_
    refine EL_nil ?_
    refine thn_n ?_
    refine EC_cond (t := !r.right) rfl (fun h57 => ?_) (fun h57 => ?_)
    · have hrt : r.right = false := (Bool.not_eq_true' _).mp h57
      refine EC_seq ?_
      refine EC_reg ?_
      refine EL_val (.int .i64 r.encE) w55 rfl (r_move rfl) ?_
      refine EL_val (.bool true) w55 rfl (r_dec (show (decide (r.encE = 10)) = true from by rw [Record.encE, hrt]; rfl) (r_eql rfl rfl)) ?_
      refine EL_val (.bool true) w55 rfl (r_move rfl) ?_
      refine EL_gval 30 rfl rfl rfl rfl v45 w55 rfl (r_move rfl) ?_
      refine EL_gval 30 rfl rfl rfl rfl (.int .i64 (r.encB.length : Int)) w55 rfl (lenB (r_len rfl (own_row (S56.own 0 rfl)) Try.underlying22)) ?_
      refine EL_gval 30 rfl rfl rfl rfl (.bool true) w55 rfl (r_dec (show (decide ((r.encB.length : Int) = 0)) = true from by rw [Record.encB, hrt]; rfl) (r_eql rfl rfl)) ?_
      refine EL_val (.bool true) w55 rfl (r_pickT rfl rfl) ?_
      refine EL_val (.bool true) w55 rfl (r_assign rfl) ?_
      refine EL_nil ?_
      refine thn_n ?_
      refine EC_ret ?_
      refine thn_r ?_
      refine fin1 Try.results6 (show _ = .bool true from rfl) ⟨_, rfl, ?_⟩
      have S58 := S56.dr0
      have S59 := S58.dr0
      have S60 := S59.dr0
      exact ⟨I46, (Gh.le_trans le28 le47), rfl, S60⟩
    · have hrt : r.right = true := (Bool.not_eq_false' _).mp h57
      have hrp := rec_put hrt
      have hel := enc_len hrt
      have hrd := rec_read hrt
      refine EC_skip ?_
      refine thn_n ?_
      refine EC_seq ?_
      refine EC_reg ?_
      refine EL_val v45 w55 rfl (r_move rfl) ?_
      obtain ⟨I61, le62, S63, H64⟩ := S56.fb0
      refine EL_ret _ rfl Try.func32 rfl nm32 rfl (RDec_c v45 r.encB I61 _ _ S63 H64 (by omega)) ?_
      rintro _ w65 ⟨cs67, I68, le69, rfl, h70, S66⟩
      obtain ⟨v75, rfl, r71, r72, r73, r74, ⟨o76, H77⟩⟩ := h70
      refine EL_val (.tuple #[.agg ([.int .i64 ((recV r.encB).coll), .int .i64 ((recV r.encB).epoch), .int .i64 ((recV r.encB).writer), .int .i64 ((recV r.encB).count), v75]).toArray, .int .i64 (recE r.encB)]) w65 rfl (r_move rfl) ?_
      refine EL_val (.agg ([.int .i64 ((recV r.encB).coll), .int .i64 ((recV r.encB).epoch), .int .i64 ((recV r.encB).writer), .int .i64 ((recV r.encB).count), v75]).toArray) w65 rfl (r_extract rfl rfl) ?_
      refine EL_val (.int .i64 (recE r.encB)) w65 rfl (r_extract rfl rfl) ?_
      refine EL_alloc (z := .agg #[.int .i64 0, .int .i64 0, .int .i64 0, .int .i64 0, .slice none 0 0]) [.int .i64 0, .int .i64 0, .int .i64 0, .int .i64 0, .slice none 0 0] rfl (by kernel_rfl) rfl ?_
      intro b78 w79 k80 A81 B82 z83
      have S84 := S66.newB B82 A81 k80
      refine EL_storeAll (v := .agg ([.int .i64 ((recV r.encB).coll), .int .i64 ((recV r.encB).epoch), .int .i64 ((recV r.encB).writer), .int .i64 ((recV r.encB).count), v75]).toArray) (cs' := ([.int .i64 ((recV r.encB).coll), .int .i64 ((recV r.encB).epoch), .int .i64 ((recV r.encB).writer), .int .i64 ((recV r.encB).count), v75]).toArray) rfl rfl rfl (S84.arr 0 rfl) rfl (by kernel_rfl) (ones_cons rfl (ones_cons rfl (ones_cons rfl (ones_cons rfl (ones_cons o76 (fun _ h => nomatch h)))))) ?_
      intro w85 A86 K87 z88
      have S89 := S84.wr0 (ds := [.int .i64 ((recV r.encB).coll), .int .i64 ((recV r.encB).epoch), .int .i64 ((recV r.encB).writer), .int .i64 ((recV r.encB).count), v75]) K87 A86
      refine EL_val (.int .i64 (recE r.encB)) w85 rfl (r_assign rfl) ?_
      refine EL_nil ?_
      refine thn_n ?_
      refine EC_seq ?_
      refine EC_any 17 (fun w' => Gh.le I68 (gh w')) (fun w' => Arr w' b31 42 [.int .i64 r.coll, .int .i64 r.epoch, .int .i64 r.writer, .int .i64 r.count, v15] ∧ Arr w' b78 27 [.int .i64 ((recV r.encB).coll), .int .i64 ((recV r.encB).epoch), .int .i64 ((recV r.encB).writer), .int .i64 ((recV r.encB).count), v75]) (by kernel_rfl) ?_
      intro w90 B91
      have S92 := S89.below B91
      refine EJ_take 0 rfl (by kernel_rfl) (by kernel_rfl) (by kernel_rfl) rfl (by kernel_rfl) (.int .i64 r.encE) rfl (fun _ hw ht => r_move rfl) ⟨S92.le, fun h => ⟨S92.arr 1 rfl, S92.arr 0 rfl⟩⟩ ?_
      refine EJ_take 1 rfl (by kernel_rfl) (by kernel_rfl) (by kernel_rfl) rfl (by kernel_rfl) (.bool true) rfl (fun _ hw ht => r_dec (show (decide (r.encE = 0)) = true from by rw [Record.encE, if_pos hrt, hrp.1]; rfl) (r_eql rfl rfl)) ⟨S92.le, fun h => ⟨S92.arr 1 rfl, S92.arr 0 rfl⟩⟩ ?_
      refine EJ_take 2 rfl (by kernel_rfl) (by kernel_rfl) (by kernel_rfl) rfl (by kernel_rfl) (.bool true) rfl (fun _ hw ht => r_move rfl) ⟨S92.le, fun h => ⟨S92.arr 1 rfl, S92.arr 0 rfl⟩⟩ ?_
      refine EJ_gtake 3 rfl (by kernel_rfl) (by kernel_rfl) (by kernel_rfl) rfl (by kernel_rfl) 42 rfl rfl rfl rfl v45 rfl (fun _ hw ht => r_move rfl) ⟨S92.le, fun h => ⟨S92.arr 1 rfl, S92.arr 0 rfl⟩⟩ ?_
      refine EJ_gtake 4 rfl (by kernel_rfl) (by kernel_rfl) (by kernel_rfl) rfl (by kernel_rfl) 42 rfl rfl rfl rfl (.string (str r.encB)) rfl (fun _ hw ht => r_str rfl (H64 _ (Gh.le_trans le69 hw)) Try.underlying22 Try.underlying5 Try.underlying9) ⟨S92.le, fun h => ⟨S92.arr 1 rfl, S92.arr 0 rfl⟩⟩ ?_
      refine EJ_gtake 5 rfl (by kernel_rfl) (by kernel_rfl) (by kernel_rfl) rfl (by kernel_rfl) 42 rfl rfl rfl rfl (.agg ([.int .i64 r.coll, .int .i64 r.epoch, .int .i64 r.writer, .int .i64 r.count, v15]).toArray) rfl (fun _ hw ht => r_loadAll rfl ht.1 Try.underlying42 rfl (by kernel_rfl)) ⟨S92.le, fun h => ⟨S92.arr 1 rfl, S92.arr 0 rfl⟩⟩ ?_
      refine EJ_one 6 (by kernel_rfl) ⟨_, rfl, ?_⟩
      refine EL_gret 42 rfl rfl rfl rfl _ rfl Try.func33 rfl nm33 rfl (Bytes15_c [.int .i64 r.coll, .int .i64 r.epoch, .int .i64 r.writer, .int .i64 r.count, v15] r I68 _ _ S92 ⟨v15, rfl, (by first | assumption | omega | (dsimp only; omega)), (by first | assumption | omega | (dsimp only; omega)), (by first | assumption | omega | (dsimp only; omega)), (by first | assumption | omega | (dsimp only; omega)), ⟨o16, (H17.up (Gh.le_trans (Gh.le_trans (Gh.le_trans le28 le47) le62) le69))⟩⟩ (right_nums hrt) (by omega)) ?_
      rintro _ w93 ⟨v95, rfl, S94⟩
      refine EL_nil ?_
      refine ⟨rfl, ⟨S94.le, fun h => ⟨S94.arr 2 rfl, S94.arr 1 rfl⟩⟩, ?_⟩
      obtain ⟨I96, le97, S98, H99⟩ := S94.fb0
      refine EJ_strong (fun w' => Gh.le I96 (gh w')) _ (fun w' hw => Gh.le_trans le97 hw) (fun w' _ ht => ht) ?_
      refine EJ_gtake 7 rfl (by kernel_rfl) (by kernel_rfl) (by kernel_rfl) rfl (by kernel_rfl) 42 rfl rfl rfl rfl (.string (str r.flat)) rfl (fun _ hw ht => r_str rfl (H99 _ hw) Try.underlying22 Try.underlying5 Try.underlying9) ⟨S98.le, fun h => ⟨S98.arr 1 rfl, S98.arr 0 rfl⟩⟩ ?_
      refine EJ_gtake 8 rfl (by kernel_rfl) (by kernel_rfl) (by kernel_rfl) rfl (by kernel_rfl) 42 rfl rfl rfl rfl (.bool true) rfl (fun _ hw ht => r_dec (show (decide (r.encB = r.flat)) = true from decide_eq_true hrp.2) (r_eqls rfl rfl)) ⟨S98.le, fun h => ⟨S98.arr 1 rfl, S98.arr 0 rfl⟩⟩ ?_
      refine EJ_take 9 rfl (by kernel_rfl) (by kernel_rfl) (by kernel_rfl) rfl (by kernel_rfl) (.bool true) rfl (fun _ hw ht => r_pickT rfl rfl) ⟨S98.le, fun h => ⟨S98.arr 1 rfl, S98.arr 0 rfl⟩⟩ ?_
      refine EJ_take 10 rfl (by kernel_rfl) (by kernel_rfl) (by kernel_rfl) rfl (by kernel_rfl) (.bool true) rfl (fun _ hw ht => r_move rfl) ⟨S98.le, fun h => ⟨S98.arr 1 rfl, S98.arr 0 rfl⟩⟩ ?_
      refine EJ_gtake 11 rfl (by kernel_rfl) (by kernel_rfl) (by kernel_rfl) rfl (by kernel_rfl) 50 rfl rfl rfl rfl (.int .i64 (recE r.encB)) rfl (fun _ hw ht => r_move rfl) ⟨S98.le, fun h => ⟨S98.arr 1 rfl, S98.arr 0 rfl⟩⟩ ?_
      refine EJ_gtake 12 rfl (by kernel_rfl) (by kernel_rfl) (by kernel_rfl) rfl (by kernel_rfl) 50 rfl rfl rfl rfl (.bool true) rfl (fun _ hw ht => r_dec (show (decide ((recE r.encB) = 0)) = true from by rw [hrp.2, recE, hrd.1]; rfl) (r_eql rfl rfl)) ⟨S98.le, fun h => ⟨S98.arr 1 rfl, S98.arr 0 rfl⟩⟩ ?_
      refine EJ_take 13 rfl (by kernel_rfl) (by kernel_rfl) (by kernel_rfl) rfl (by kernel_rfl) (.bool true) rfl (fun _ hw ht => r_pickT rfl rfl) ⟨S98.le, fun h => ⟨S98.arr 1 rfl, S98.arr 0 rfl⟩⟩ ?_
      refine EJ_take 14 rfl (by kernel_rfl) (by kernel_rfl) (by kernel_rfl) rfl (by kernel_rfl) (.bool true) rfl (fun _ hw ht => r_move rfl) ⟨S98.le, fun h => ⟨S98.arr 1 rfl, S98.arr 0 rfl⟩⟩ ?_
      refine EJ_gtake 15 rfl (by kernel_rfl) (by kernel_rfl) (by kernel_rfl) rfl (by kernel_rfl) 54 rfl rfl rfl rfl (.agg ([.int .i64 ((recV r.encB).coll), .int .i64 ((recV r.encB).epoch), .int .i64 ((recV r.encB).writer), .int .i64 ((recV r.encB).count), v75]).toArray) rfl (fun _ hw ht => r_loadAll rfl ht.2 Try.underlying27 rfl (by kernel_rfl)) ⟨S98.le, fun h => ⟨S98.arr 1 rfl, S98.arr 0 rfl⟩⟩ ?_
      refine EJ_gtake 16 rfl (by kernel_rfl) (by kernel_rfl) (by kernel_rfl) rfl (by kernel_rfl) 54 rfl rfl rfl rfl (.agg ([.int .i64 r.coll, .int .i64 r.epoch, .int .i64 r.writer, .int .i64 r.count, v15]).toArray) rfl (fun _ hw ht => r_loadAll rfl ht.1 Try.underlying42 rfl (by kernel_rfl)) ⟨S98.le, fun h => ⟨S98.arr 1 rfl, S98.arr 0 rfl⟩⟩ ?_
      refine EJ_one 17 (by kernel_rfl) ⟨_, rfl, ?_⟩
      refine EL_gret 54 rfl rfl rfl rfl _ rfl Try.func18 rfl nm18 rfl (Same15_c [.int .i64 ((recV r.encB).coll), .int .i64 ((recV r.encB).epoch), .int .i64 ((recV r.encB).writer), .int .i64 ((recV r.encB).count), v75] [.int .i64 r.coll, .int .i64 r.epoch, .int .i64 r.writer, .int .i64 r.count, v15] (recV r.encB) r I96 _ _ S98 ⟨v75, rfl, (by first | assumption | omega | (dsimp only; omega)), (by first | assumption | omega | (dsimp only; omega)), (by first | assumption | omega | (dsimp only; omega)), (by first | assumption | omega | (dsimp only; omega)), ⟨o76, (H77.up le97)⟩⟩ ⟨v15, rfl, (by first | assumption | omega | (dsimp only; omega)), (by first | assumption | omega | (dsimp only; omega)), (by first | assumption | omega | (dsimp only; omega)), (by first | assumption | omega | (dsimp only; omega)), ⟨o16, (H17.up (Gh.le_trans (Gh.le_trans (Gh.le_trans (Gh.le_trans le28 le47) le62) le69) le97))⟩⟩) ?_
      rintro _ w100 ⟨rfl, S101⟩
      refine EL_nil ?_
      refine ⟨rfl, ⟨S101.le, fun h => by cases h⟩, ?_⟩
      refine EJ_float 18 rfl (by kernel_rfl) (by kernel_rfl) (by kernel_rfl) rfl (.bool true) rfl (fun _ hw => r_pickT rfl (Eq.trans (show _ = Value.bool (decide ((recV r.encB) = r)) from rfl) (congrArg Value.bool (show (decide ((recV r.encB) = r)) = true from decide_eq_true (by rw [hrp.2, hrd.2]))))) ⟨S101.le, fun h => by cases h⟩ ?_
      refine EJ_float 19 rfl (by kernel_rfl) (by kernel_rfl) (by kernel_rfl) rfl (.bool true) rfl (fun _ hw => r_assign rfl) ⟨S101.le, fun h => by cases h⟩ ?_
      refine EJ_done (by kernel_rfl) ?_
      refine thn_n ?_
      refine EC_ret ?_
      refine fin1 Try.results6 (show _ = .bool true from rfl) ⟨_, rfl, ?_⟩
      have S102 := S101.dr0
      have S103 := S102.dr0
      have S104 := S103.dr0
      exact ⟨I96, (Gh.le_trans (Gh.le_trans (Gh.le_trans (Gh.le_trans le28 le47) le62) le69) le97), rfl, S104⟩
theorem SealedEncodes_c (c0 : List Value) (r : Record) (w : World) (H0 : recR.r (gh w) c0 r) : Ret Try.prog 6 [.agg c0.toArray] w fun v w' => v = .bool true ∧ Below w.heap.size w w' :=
  (SealedEncodes_w c0 r (gh w) [] w (Sat.start w) H0).mono fun v w' h => by obtain ⟨J, le, e, S⟩ := h; exact ⟨e.symm, S.fin le⟩
theorem own : ownKnob Try.prog.godebug = none := by kernel_rfl
theorem laidOut : laidOutB Try.prog = true := by kernel_rfl
set_option maxRecDepth 100000 in
theorem lifted (os : Os) (started : os.Started) (H : Type) (enc : TypeId × Value → H) :
    ReturnsInHanded {} Try.checked os 6 .any (Rows.sealedEncodesSpec.pre6 enc Try.prog Try.f6 Rows.sealedEncodesRow.domain false) (Rows.sealedEncodesSpec.post enc Try.prog Try.f6 false true false false) := by
  refine returnsInHanded_of_change (C := Try.checked) own started (by kernel_rfl) Try.func6
    (ChangeSpec.witness6 (enc := enc) (C := Try.checked) false ⟨#[], #[.agg #[.int .i64 0, .int .i64 0, .int .i64 0, .int .i64 0, .slice none 0 0]], []⟩ 8 (by kernel_rfl) (by kernel_rfl) (by kernel_rfl) (by kernel_rfl)) ?_
  intro W base args ds gs before hval0 hW hcnd _
  have hval : ∀ (j : Nat) t v, Try.f6.params[j]? = some t → args[j]? = some v → Value.okWide Try.prog W .any base t v := hval0
  have hW' := hW
  obtain ⟨p, q, hA0, hV, rfl, hfz, hnd⟩ := hW
  have hA : DataW.TrodAll enc Try.prog W 0 (fun _ => true) true Try.f6.params.toList args.toList ds p := hA0
  rw [Try.params6] at hA hval
  obtain ⟨v0, vs0, d0, ds0, p0, q0, hargs, rfl, rfl, h0, r0⟩ := trodAll_cons hA
  obtain ⟨rfl, rfl, rfl⟩ := trodAll_nil r0
  obtain rfl : args = #[v0] := by cases args; simp_all
  obtain ⟨rfl, rfl⟩ := trodVars_none hV
  have k0 := h0
  have lt0 : ∀ x ∈ p0, x.block < W.heap.size := by obtain ⟨m, hm⟩ := k0; exact DataW.trod_lt m _ _ _ hm
  obtain ⟨a0, rfl, _⟩ := okWide_struct Try.underlying27 (hval 0 27 v0 rfl rfl)
  obtain ⟨c0, rfl⟩ : ∃ c : List Value, a0 = c.toArray := ⟨a0.toList, by simp⟩
  obtain ⟨b0, H0⟩ : ∃ b, (recR).r (gh W) c0 b := by obtain ⟨fuel, hf⟩ := h0; exact opn_27 _ W _ _ _ _ _ hf
  clear hA0 hval0
  refine Calls.mono (SealedEncodes_c c0 b0 W H0) fun e W' ⟨v', he, hv, bel⟩ => ?_
  subst he
  subst hv
  exact ⟨_, rfl, _, _, _, [], _, [], hW', trodAll_mk1 (shut_bool Try.underlying4 _), (trodAll_cons_mk (Below.trod laidOut (by kernel_rfl) (of_decide_eq_true (by kernel_rfl)) k0 bel lt0) trodAll_mk0), rfl, bel.frame _, fun h => by cases h⟩
theorem over : Rows.sealedEncodesRow.holds Try.pinned (OpenSpec.ofChange Rows.sealedEncodesSpec) :=
  OpenClaim.holds_of_wide 6 Try.f6 rfl rfl rfl rfl rfl rfl rfl ⟨rfl, rfl, rfl, rfl, rfl⟩ rfl rfl rfl rfl rfl (by kernel_rfl) Try.func6 (by kernel_rfl)
    (of_decide_eq_true (by kernel_rfl)) (by unfold Func.isWrapper; first | (rw [if_pos (by decide +kernel)]; kernel_rfl) | (rw [if_neg (by decide +kernel)]; exact ⟨rfl, rfl⟩))
    (fun os started H enc _ => lifted os started H enc)
end Go.Proofs.Ytoajodjcmeijgaa.sealedEncodes
namespace Go.Proofs.Ytoajodjcmeijgaa
theorem SealedEncodes_holds : Rows.SealedEncodesSaid := sealedEncodes.over
end Go.Proofs.Ytoajodjcmeijgaa
