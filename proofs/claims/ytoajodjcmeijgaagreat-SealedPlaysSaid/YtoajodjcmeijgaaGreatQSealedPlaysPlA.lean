import Derived.Test.YtoajodjcmeijgaaGreatQSealedPlaysPlays15
import Derived.Test.YtoajodjcmeijgaaGreatQSealedPlaysR15C
import Derived.Test.YtoajodjcmeijgaaGreatQSealedPlaysAnc
import Derived.Test.YtoajodjcmeijgaaGreatQSealedPlaysMade
set_option linter.unusedVariables false
set_option linter.unusedSimpArgs false
namespace Go.Proofs.YtoajodjcmeijgaaGreat
open Go.RowKit Go.Ecal
def sopR : Rep SOp := ⟨20, fun I cs a => ∃ v4 v5 v10 v14 v15 v19, cs = [.int .i64 a.kind, .int .i64 a.ref, .int .i64 a.keyNo, .int .i64 a.turn, v4, v5, .int .i64 a.record.coll, .int .i64 a.record.epoch, .int .i64 a.record.writer, .int .i64 a.record.count, v10, .int .i64 a.entry.kind, .int .i64 a.entry.writer, .int .i64 a.entry.seq, v14, v15, .int .i64 a.entry.who, .int .i64 a.entry.rights, .int .i64 a.entry.epoch, v19] ∧ (-9223372036854775808 ≤ a.kind ∧ a.kind ≤ 9223372036854775807) ∧ (-9223372036854775808 ≤ a.ref ∧ a.ref ≤ 9223372036854775807) ∧ (-9223372036854775808 ≤ a.keyNo ∧ a.keyNo ≤ 9223372036854775807) ∧ (-9223372036854775808 ≤ a.turn ∧ a.turn ≤ 9223372036854775807) ∧ (v4.oneCell' = true ∧ RoB I v4 a.raw) ∧ (v5.oneCell' = true ∧ RoB I v5 a.text) ∧ (-9223372036854775808 ≤ a.record.coll ∧ a.record.coll ≤ 9223372036854775807) ∧ (-9223372036854775808 ≤ a.record.epoch ∧ a.record.epoch ≤ 9223372036854775807) ∧ (-9223372036854775808 ≤ a.record.writer ∧ a.record.writer ≤ 9223372036854775807) ∧ (-9223372036854775808 ≤ a.record.count ∧ a.record.count ≤ 9223372036854775807) ∧ (v10.oneCell' = true ∧ RoB I v10 a.record.box) ∧ (-9223372036854775808 ≤ a.entry.kind ∧ a.entry.kind ≤ 9223372036854775807) ∧ (-9223372036854775808 ≤ a.entry.writer ∧ a.entry.writer ≤ 9223372036854775807) ∧ (-9223372036854775808 ≤ a.entry.seq ∧ a.entry.seq ≤ 9223372036854775807) ∧ (v14.oneCell' = true ∧ RoB I v14 a.entry.name) ∧ (v15.oneCell' = true ∧ RoB I v15 a.entry.value) ∧ (-9223372036854775808 ≤ a.entry.who ∧ a.entry.who ≤ 9223372036854775807) ∧ (-9223372036854775808 ≤ a.entry.rights ∧ a.entry.rights ≤ 9223372036854775807) ∧ (-9223372036854775808 ≤ a.entry.epoch ∧ a.entry.epoch ≤ 9223372036854775807) ∧ (v19.oneCell' = true ∧ RoX I v19 wrapR a.entry.wraps), fun k h => by obtain ⟨v4, v5, v10, v14, v15, v19, rfl, h0, h1, h2, h3, ⟨o4, h4⟩, ⟨o5, h5⟩, h6, h7, h8, h9, ⟨o10, h10⟩, h11, h12, h13, ⟨o14, h14⟩, ⟨o15, h15⟩, h16, h17, h18, ⟨o19, h19⟩⟩ := h; exact ⟨v4, v5, v10, v14, v15, v19, rfl, h0, h1, h2, h3, ⟨o4, h4.up k⟩, ⟨o5, h5.up k⟩, h6, h7, h8, h9, ⟨o10, h10.up k⟩, h11, h12, h13, ⟨o14, h14.up k⟩, ⟨o15, h15.up k⟩, h16, h17, h18, ⟨o19, h19.up k⟩⟩,
  fun h => by obtain ⟨v4, v5, v10, v14, v15, v19, rfl, h0, h1, h2, h3, ⟨o4, h4⟩, ⟨o5, h5⟩, h6, h7, h8, h9, ⟨o10, h10⟩, h11, h12, h13, ⟨o14, h14⟩, ⟨o15, h15⟩, h16, h17, h18, ⟨o19, h19⟩⟩ := h; rfl, fun h u hu => by
    obtain ⟨v4, v5, v10, v14, v15, v19, rfl, h0, h1, h2, h3, ⟨o4, h4⟩, ⟨o5, h5⟩, h6, h7, h8, h9, ⟨o10, h10⟩, h11, h12, h13, ⟨o14, h14⟩, ⟨o15, h15⟩, h16, h17, h18, ⟨o19, h19⟩⟩ := h
    simp only [List.mem_cons, List.not_mem_nil, or_false] at hu
    rcases hu with rfl | rfl | rfl | rfl | rfl | rfl | rfl | rfl | rfl | rfl | rfl | rfl | rfl | rfl | rfl | rfl | rfl | rfl | rfl | rfl <;> first | rfl | assumption⟩
abbrev sopRC (a : SOp) (v4 v5 v10 v14 v15 v19 : Value) : List Value := [.int .i64 a.kind, .int .i64 a.ref, .int .i64 a.keyNo, .int .i64 a.turn, v4, v5, .int .i64 a.record.coll, .int .i64 a.record.epoch, .int .i64 a.record.writer, .int .i64 a.record.count, v10, .int .i64 a.entry.kind, .int .i64 a.entry.writer, .int .i64 a.entry.seq, v14, v15, .int .i64 a.entry.who, .int .i64 a.entry.rights, .int .i64 a.entry.epoch, v19]
abbrev sopR0 : List Value := [.int .i64 0, .int .i64 0, .int .i64 0, .int .i64 0, .slice none 0 0, .slice none 0 0, .int .i64 0, .int .i64 0, .int .i64 0, .int .i64 0, .slice none 0 0, .int .i64 0, .int .i64 0, .int .i64 0, .slice none 0 0, .slice none 0 0, .int .i64 0, .int .i64 0, .int .i64 0, .slice none 0 0]
set_option maxRecDepth 100000 in
set_option maxHeartbeats 4000000 in
theorem turned_c (cr : List Value) (r : Record) (t : Int) (I : Gh) (R : List HP) (w : World) (S : Sat w I (R)) (hr : recR.r I cr r) (hs1 : 0 ≤ r.coll ∧ r.coll ≤ 1099511627776) (hs2 : 0 ≤ r.epoch ∧ r.epoch ≤ 16) (hs3 : 0 ≤ r.writer ∧ r.writer ≤ 16) (hs4 : 0 ≤ r.count ∧ r.count ≤ 1099511627776) : Ret Tryz.prog 9 [.agg cr.toArray, .int .i64 t] w fun v w' => ∃ cq : List Value, .agg cq.toArray = v ∧ recR.r I cq (turnR r t) ∧ Sat w' I (R) := by
  obtain ⟨v15, rfl, r11, r12, r13, r14, ⟨o16, H17⟩⟩ := hr
  refine ret_E Tryz.func9 rfl Tryz.ntmps9 (by simp) ?_
  refine EC_seq (EC_reg ?_)
  refine EL_box (recRC r v15) rfl rfl rfl ?_
  intro b18 w19 k20 A21 B22 z23
  have S24 := S.newB B22 A21 k20
  refine EL_alloc (z := .agg #[.int .i64 0, .int .i64 0, .int .i64 0, .int .i64 0, .slice none 0 0]) recR0 rfl (by kernel_rfl) rfl ?_
  intro b25 w26 k27 A28 B29 z30
  have S31 := S24.newB B29 A28 k27
  refine EL_nil (thn_n (EC_seq (EC_seq ?_)))
  rcases (by omega : t = 1 ∨ t = 2 ∨ t = 3 ∨ t = 4 ∨ (¬ t = 1 ∧ ¬ t = 2 ∧ ¬ t = 3 ∧ ¬ t = 4)) with hk | hk | hk | hk | hk
  refine EC_reg (vM (.int .i64 t) rfl rfl (EL_nil (thn_n (EC_block (EC_seq ?_)))))
  refine EC_reg (vl (.bool true) rfl (r_dec (show (decide (t = 1)) = true from by rw [decide_eq_true_eq]; omega) (r_eql rfl rfl)) (vA (.bool true) rfl rfl (EL_nil (thn_n ?_))))
  refine EC_cond_true rfl ?_
  refine EC_reg (vl (ptr b18 0) rfl (fP 0 rfl U35 (by kernel_rfl)) (vL (.int .i64 r.coll) rfl rfl (S31.arr 1 rfl) rfl U3 rfl ?_))
  refine EL_int (r.coll + 1) rfl (r_addi rfl rfl (by omega)) ?_
  intro x32 hx32
  refine vl (ptr b18 0) rfl (fP 0 rfl U35 (by kernel_rfl)) ?_
  refine EL_storeA (j := 0) (u := .int .i64 x32) rfl rfl (S31.arr 1 rfl) (by first | decide | (simp; omega) | simp) rfl (by kernel_rfl) ?_
  intro w33 A34 K35 z36
  have S37 := S31.wr1 (ds := [.int .i64 x32, .int .i64 r.epoch, .int .i64 r.writer, .int .i64 r.count, v15]) K35 A34
  refine EL_nil (inB_n (thn_n (EC_seq (EC_reg (vl (.agg ([.int .i64 x32, .int .i64 r.epoch, .int .i64 r.writer, .int .i64 r.count, v15]).toArray) rfl (r_loadAll rfl (S37.arr 1 rfl) U35 rfl (by kernel_rfl)) ?_)))))
  refine sA [.int .i64 x32, .int .i64 r.epoch, .int .i64 r.writer, .int .i64 r.count, v15] rfl rfl (S37.arr 0 rfl) rfl (by kernel_rfl) (ones_cons rfl (ones_cons rfl (ones_cons rfl (ones_cons rfl (ones_cons o16 (fun _ h => nomatch h)))))) ?_
  intro w38 A39 K40 z41
  have S42 := S37.wr0 (ds := [.int .i64 x32, .int .i64 r.epoch, .int .i64 r.writer, .int .i64 r.count, v15]) K40 A39
  refine EL_nil (thn_n (EC_ret ?_))
  refine fin1c Tryz.results9 (show _ = ptr b25 from rfl) (S42.arr 0 rfl) U35 rfl (by kernel_rfl) ⟨_, rfl, ?_⟩
  have q43 : (turnR r t) = (⟨x32, r.epoch, r.writer, r.count, r.box⟩ : Record) := by rw [turnR, if_pos hk]; first | rfl | (congr 1 <;> omega)
  have S44 := S42.dr0
  have S45 := S44.dr0
  exact ⟨[.int .i64 x32, .int .i64 r.epoch, .int .i64 r.writer, .int .i64 r.count, v15], rfl, (by rw [q43]; exact ⟨v15, rfl, (by first | assumption | (dsimp only; omega)), (by first | assumption | (dsimp only; omega)), (by first | assumption | (dsimp only; omega)), (by first | assumption | (dsimp only; omega)), ⟨o16, H17⟩⟩), S45⟩
  refine EC_reg (vM (.int .i64 t) rfl rfl (EL_nil (thn_n (EC_block (EC_seq ?_)))))
  refine EC_reg (vl (.bool false) rfl (r_dec (show (decide (t = 1)) = false from by rw [decide_eq_false_iff_not]; omega) (r_eql rfl rfl)) (vA (.bool false) rfl rfl (EL_nil (thn_n ?_))))
  refine EC_cond_false rfl ?_
  refine EC_seq (EC_reg (vl (.bool true) rfl (r_dec (show (decide (t = 2)) = true from by rw [decide_eq_true_eq]; omega) (r_eql rfl rfl)) (vA (.bool true) rfl rfl (EL_nil (thn_n ?_)))))
  refine EC_cond_true rfl ?_
  refine EC_reg (vl (ptr b18 1) rfl (fP 0 rfl U35 (by kernel_rfl)) (vL (.int .i64 r.epoch) rfl rfl (S31.arr 1 rfl) rfl U3 rfl ?_))
  refine EL_int (r.epoch + 1) rfl (r_addi rfl rfl (by omega)) ?_
  intro x46 hx46
  refine EL_int (x46 % 17) rfl (r_remi rfl rfl (by omega) (by omega)) ?_
  intro x47 hx47
  refine vl (ptr b18 1) rfl (fP 0 rfl U35 (by kernel_rfl)) ?_
  refine EL_storeA (j := 1) (u := .int .i64 x47) rfl rfl (S31.arr 1 rfl) (by first | decide | (simp; omega) | simp) rfl (by kernel_rfl) ?_
  intro w48 A49 K50 z51
  have S52 := S31.wr1 (ds := [.int .i64 r.coll, .int .i64 x47, .int .i64 r.writer, .int .i64 r.count, v15]) K50 A49
  refine EL_nil (inB_n (thn_n (EC_seq (EC_reg (vl (.agg ([.int .i64 r.coll, .int .i64 x47, .int .i64 r.writer, .int .i64 r.count, v15]).toArray) rfl (r_loadAll rfl (S52.arr 1 rfl) U35 rfl (by kernel_rfl)) ?_)))))
  refine sA [.int .i64 r.coll, .int .i64 x47, .int .i64 r.writer, .int .i64 r.count, v15] rfl rfl (S52.arr 0 rfl) rfl (by kernel_rfl) (ones_cons rfl (ones_cons rfl (ones_cons rfl (ones_cons rfl (ones_cons o16 (fun _ h => nomatch h)))))) ?_
  intro w53 A54 K55 z56
  have S57 := S52.wr0 (ds := [.int .i64 r.coll, .int .i64 x47, .int .i64 r.writer, .int .i64 r.count, v15]) K55 A54
  refine EL_nil (thn_n (EC_ret ?_))
  refine fin1c Tryz.results9 (show _ = ptr b25 from rfl) (S57.arr 0 rfl) U35 rfl (by kernel_rfl) ⟨_, rfl, ?_⟩
  have q58 : (turnR r t) = (⟨r.coll, x47, r.writer, r.count, r.box⟩ : Record) := by rw [turnR, if_neg (by omega), if_pos hk]; first | rfl | (congr 1 <;> omega)
  have S59 := S57.dr0
  have S60 := S59.dr0
  exact ⟨[.int .i64 r.coll, .int .i64 x47, .int .i64 r.writer, .int .i64 r.count, v15], rfl, (by rw [q58]; exact ⟨v15, rfl, (by first | assumption | (dsimp only; omega)), (by first | assumption | (dsimp only; omega)), (by first | assumption | (dsimp only; omega)), (by first | assumption | (dsimp only; omega)), ⟨o16, H17⟩⟩), S60⟩
  refine EC_reg (vM (.int .i64 t) rfl rfl (EL_nil (thn_n (EC_block (EC_seq ?_)))))
  refine EC_reg (vl (.bool false) rfl (r_dec (show (decide (t = 1)) = false from by rw [decide_eq_false_iff_not]; omega) (r_eql rfl rfl)) (vA (.bool false) rfl rfl (EL_nil (thn_n ?_))))
  refine EC_cond_false rfl ?_
  refine EC_seq (EC_reg (vl (.bool false) rfl (r_dec (show (decide (t = 2)) = false from by rw [decide_eq_false_iff_not]; omega) (r_eql rfl rfl)) (vA (.bool false) rfl rfl (EL_nil (thn_n ?_)))))
  refine EC_cond_false rfl ?_
  refine EC_seq (EC_reg (vl (.bool true) rfl (r_dec (show (decide (t = 3)) = true from by rw [decide_eq_true_eq]; omega) (r_eql rfl rfl)) (vA (.bool true) rfl rfl (EL_nil (thn_n ?_)))))
  refine EC_cond_true rfl ?_
  refine EC_reg (vl (ptr b18 2) rfl (fP 0 rfl U35 (by kernel_rfl)) (vL (.int .i64 r.writer) rfl rfl (S31.arr 1 rfl) rfl U3 rfl ?_))
  refine EL_int (r.writer % 16) rfl (r_remi rfl rfl (by omega) (by omega)) ?_
  intro x61 hx61
  refine EL_int (x61 + 1) rfl (r_addi rfl rfl (by omega)) ?_
  intro x62 hx62
  refine vl (ptr b18 2) rfl (fP 0 rfl U35 (by kernel_rfl)) ?_
  refine EL_storeA (j := 2) (u := .int .i64 x62) rfl rfl (S31.arr 1 rfl) (by first | decide | (simp; omega) | simp) rfl (by kernel_rfl) ?_
  intro w63 A64 K65 z66
  have S67 := S31.wr1 (ds := [.int .i64 r.coll, .int .i64 r.epoch, .int .i64 x62, .int .i64 r.count, v15]) K65 A64
  refine EL_nil (inB_n (thn_n (EC_seq (EC_reg (vl (.agg ([.int .i64 r.coll, .int .i64 r.epoch, .int .i64 x62, .int .i64 r.count, v15]).toArray) rfl (r_loadAll rfl (S67.arr 1 rfl) U35 rfl (by kernel_rfl)) ?_)))))
  refine sA [.int .i64 r.coll, .int .i64 r.epoch, .int .i64 x62, .int .i64 r.count, v15] rfl rfl (S67.arr 0 rfl) rfl (by kernel_rfl) (ones_cons rfl (ones_cons rfl (ones_cons rfl (ones_cons rfl (ones_cons o16 (fun _ h => nomatch h)))))) ?_
  intro w68 A69 K70 z71
  have S72 := S67.wr0 (ds := [.int .i64 r.coll, .int .i64 r.epoch, .int .i64 x62, .int .i64 r.count, v15]) K70 A69
  refine EL_nil (thn_n (EC_ret ?_))
  refine fin1c Tryz.results9 (show _ = ptr b25 from rfl) (S72.arr 0 rfl) U35 rfl (by kernel_rfl) ⟨_, rfl, ?_⟩
  have q73 : (turnR r t) = (⟨r.coll, r.epoch, x62, r.count, r.box⟩ : Record) := by rw [turnR, if_neg (by omega), if_neg (by omega), if_pos hk]; first | rfl | (congr 1 <;> omega)
  have S74 := S72.dr0
  have S75 := S74.dr0
  exact ⟨[.int .i64 r.coll, .int .i64 r.epoch, .int .i64 x62, .int .i64 r.count, v15], rfl, (by rw [q73]; exact ⟨v15, rfl, (by first | assumption | (dsimp only; omega)), (by first | assumption | (dsimp only; omega)), (by first | assumption | (dsimp only; omega)), (by first | assumption | (dsimp only; omega)), ⟨o16, H17⟩⟩), S75⟩
  refine EC_reg (vM (.int .i64 t) rfl rfl (EL_nil (thn_n (EC_block (EC_seq ?_)))))
  refine EC_reg (vl (.bool false) rfl (r_dec (show (decide (t = 1)) = false from by rw [decide_eq_false_iff_not]; omega) (r_eql rfl rfl)) (vA (.bool false) rfl rfl (EL_nil (thn_n ?_))))
  refine EC_cond_false rfl ?_
  refine EC_seq (EC_reg (vl (.bool false) rfl (r_dec (show (decide (t = 2)) = false from by rw [decide_eq_false_iff_not]; omega) (r_eql rfl rfl)) (vA (.bool false) rfl rfl (EL_nil (thn_n ?_)))))
  refine EC_cond_false rfl ?_
  refine EC_seq (EC_reg (vl (.bool false) rfl (r_dec (show (decide (t = 3)) = false from by rw [decide_eq_false_iff_not]; omega) (r_eql rfl rfl)) (vA (.bool false) rfl rfl (EL_nil (thn_n ?_)))))
  refine EC_cond_false rfl ?_
  refine EC_seq (EC_reg (vl (.bool true) rfl (r_dec (show (decide (t = 4)) = true from by rw [decide_eq_true_eq]; omega) (r_eql rfl rfl)) (vA (.bool true) rfl rfl (EL_nil (thn_n ?_)))))
  refine EC_cond_true rfl ?_
  refine EC_reg (vl (ptr b18 3) rfl (fP 0 rfl U35 (by kernel_rfl)) (vL (.int .i64 r.count) rfl rfl (S31.arr 1 rfl) rfl U3 rfl ?_))
  refine EL_int (r.count + 1) rfl (r_addi rfl rfl (by omega)) ?_
  intro x76 hx76
  refine vl (ptr b18 3) rfl (fP 0 rfl U35 (by kernel_rfl)) ?_
  refine EL_storeA (j := 3) (u := .int .i64 x76) rfl rfl (S31.arr 1 rfl) (by first | decide | (simp; omega) | simp) rfl (by kernel_rfl) ?_
  intro w77 A78 K79 z80
  have S81 := S31.wr1 (ds := [.int .i64 r.coll, .int .i64 r.epoch, .int .i64 r.writer, .int .i64 x76, v15]) K79 A78
  refine EL_nil (inB_n (thn_n (EC_seq (EC_reg (vl (.agg ([.int .i64 r.coll, .int .i64 r.epoch, .int .i64 r.writer, .int .i64 x76, v15]).toArray) rfl (r_loadAll rfl (S81.arr 1 rfl) U35 rfl (by kernel_rfl)) ?_)))))
  refine sA [.int .i64 r.coll, .int .i64 r.epoch, .int .i64 r.writer, .int .i64 x76, v15] rfl rfl (S81.arr 0 rfl) rfl (by kernel_rfl) (ones_cons rfl (ones_cons rfl (ones_cons rfl (ones_cons rfl (ones_cons o16 (fun _ h => nomatch h)))))) ?_
  intro w82 A83 K84 z85
  have S86 := S81.wr0 (ds := [.int .i64 r.coll, .int .i64 r.epoch, .int .i64 r.writer, .int .i64 x76, v15]) K84 A83
  refine EL_nil (thn_n (EC_ret ?_))
  refine fin1c Tryz.results9 (show _ = ptr b25 from rfl) (S86.arr 0 rfl) U35 rfl (by kernel_rfl) ⟨_, rfl, ?_⟩
  have q87 : (turnR r t) = (⟨r.coll, r.epoch, r.writer, x76, r.box⟩ : Record) := by rw [turnR, if_neg (by omega), if_neg (by omega), if_neg (by omega), if_pos hk]; first | rfl | (congr 1 <;> omega)
  have S88 := S86.dr0
  have S89 := S88.dr0
  exact ⟨[.int .i64 r.coll, .int .i64 r.epoch, .int .i64 r.writer, .int .i64 x76, v15], rfl, (by rw [q87]; exact ⟨v15, rfl, (by first | assumption | (dsimp only; omega)), (by first | assumption | (dsimp only; omega)), (by first | assumption | (dsimp only; omega)), (by first | assumption | (dsimp only; omega)), ⟨o16, H17⟩⟩), S89⟩
  refine EC_reg (vM (.int .i64 t) rfl rfl (EL_nil (thn_n (EC_block (EC_seq ?_)))))
  refine EC_reg (vl (.bool false) rfl (r_dec (show (decide (t = 1)) = false from by rw [decide_eq_false_iff_not]; omega) (r_eql rfl rfl)) (vA (.bool false) rfl rfl (EL_nil (thn_n ?_))))
  refine EC_cond_false rfl ?_
  refine EC_seq (EC_reg (vl (.bool false) rfl (r_dec (show (decide (t = 2)) = false from by rw [decide_eq_false_iff_not]; omega) (r_eql rfl rfl)) (vA (.bool false) rfl rfl (EL_nil (thn_n ?_)))))
  refine EC_cond_false rfl ?_
  refine EC_seq (EC_reg (vl (.bool false) rfl (r_dec (show (decide (t = 3)) = false from by rw [decide_eq_false_iff_not]; omega) (r_eql rfl rfl)) (vA (.bool false) rfl rfl (EL_nil (thn_n ?_)))))
  refine EC_cond_false rfl ?_
  refine EC_seq (EC_reg (vl (.bool false) rfl (r_dec (show (decide (t = 4)) = false from by rw [decide_eq_false_iff_not]; omega) (r_eql rfl rfl)) (vA (.bool false) rfl rfl (EL_nil (thn_n ?_)))))
  refine EC_cond_false rfl ?_
  refine EC_skip (inB_n (thn_n (EC_seq (EC_reg (vl (.agg ((recRC r v15)).toArray) rfl (r_loadAll rfl (S31.arr 1 rfl) U35 rfl (by kernel_rfl)) ?_)))))
  refine sA (recRC r v15) rfl rfl (S31.arr 0 rfl) rfl (by kernel_rfl) (ones_cons rfl (ones_cons rfl (ones_cons rfl (ones_cons rfl (ones_cons o16 (fun _ h => nomatch h)))))) ?_
  intro w90 A91 K92 z93
  have S94 := S31.wr0 (ds := (recRC r v15)) K92 A91
  refine EL_nil (thn_n (EC_ret ?_))
  refine fin1c Tryz.results9 (show _ = ptr b25 from rfl) (S94.arr 0 rfl) U35 rfl (by kernel_rfl) ⟨_, rfl, ?_⟩
  have q95 : (turnR r t) = (⟨r.coll, r.epoch, r.writer, r.count, r.box⟩ : Record) := by rw [turnR, if_neg (by omega), if_neg (by omega), if_neg (by omega), if_neg (by omega)]
  have S96 := S94.dr0
  have S97 := S96.dr0
  exact ⟨(recRC r v15), rfl, (by rw [q95]; exact ⟨v15, rfl, (by first | assumption | (dsimp only; omega)), (by first | assumption | (dsimp only; omega)), (by first | assumption | (dsimp only; omega)), (by first | assumption | (dsimp only; omega)), ⟨o16, H17⟩⟩), S97⟩

end Go.Proofs.YtoajodjcmeijgaaGreat
