import Derived.Test.YtoajodjcmeijgaaGreatQSealedPlaysRef08
import Derived.Test.YtoajodjcmeijgaaGreatQSealedPlaysRdA
set_option linter.unusedVariables false
set_option linter.unusedSimpArgs false
namespace Go.Proofs.YtoajodjcmeijgaaGreat
open Go.RowKit Go.Ecal

set_option maxRecDepth 100000 in
set_option maxHeartbeats 4000000 in
theorem Num8_c (n : Int) (I : Gh) (R : List HP) (w : World) (S : Sat w I (R)) (hn : 0 ≤ n ∧ n ≤ 1099511627776) : Ret Tryz.prog 57 [.int .i64 n] w fun v w' => ∃ v1 : Value, v1 = v ∧ Sat w' I (OwnB v1 (be6 n) :: R) := by
  refine ret_E Tryz.func57 rfl Tryz.ntmps57 (by simp) ?_
  refine EC_seq (EC_reg (vA (.slice none 0 0) rfl rfl (EL_nil (thn_n (EC_seq ?_)))))
  refine EC_reg ?_
  refine EL_make w.heap.size elB rfl rfl rfl rfl (by omega) (by omega) (by omega) (by omega) (Nat.le_refl _) ?_
  intro v11 w12 O13 B14 k15 z16
  have S17 : Sat w12 I (OwnB v11 (List.replicate 6 (0 : UInt8)) :: R) := S.newO B14 (own_rep O13)
  refine vA v11 rfl rfl (EL_nil (thn_n (EC_seq (EC_seq (EC_reg ?_)))))
  refine vA (.int .i64 5) rfl rfl (EL_nil (thn_n (EC_block ?_)))
  have q19 : List.replicate 6 (0 : UInt8) = sixL n 0 := six_zero n
  have S18 := S17.ab0 q19
  refine EC_loop (fun m' E' w' => ∃ j : Nat, ∃ q : Int, m' = 7 - j ∧ E' 4 = .int .i64 (5 - (j : Int)) ∧ E' 0 = .int .i64 q ∧ E' 2 = .slice none 0 0 ∧ E' 3 = v11 ∧ (j ≤ 6) ∧ (q = n / 256 ^ j) ∧ (0 ≤ q ∧ q ≤ 1099511627776) ∧ Sat w' I (OwnB v11 (sixL n j) :: R)) _ ⟨0, n, rfl, (Eq.trans (show _ = Value.int .i64 5 from rfl) (congrArg _ (by omega))), rfl, rfl, rfl, by omega, by simp, by omega, S18⟩ ?_
  rintro _ E20 w21 ⟨j, q, rfl, e22, e23, e24, e25, hj, hq, hr, S26⟩
  refine EC_seq (EC_seq (EC_reg (vM (.int .i64 (5 - (j : Int))) rfl e22 (vl (.bool (decide (0 ≤ (5 - (j : Int))))) rfl (r_geq rfl rfl) (EL_nil ?_)))))
  refine thn_n ?_
  refine EC_if (p := 0 ≤ (5 - (j : Int))) rfl (fun h27 => ?_) (fun h27 => ?_)
  refine EC_skip (thn_n (EC_seq (EC_block (EC_seq (EC_reg ?_)))))
  refine vM v11 rfl e25 (vM (.int .i64 (5 - (j : Int))) rfl e22 (vM (.int .i64 q) rfl e23 ?_))
  refine EL_int (q % 256) rfl (r_remi rfl rfl (by omega) (by omega)) ?_
  intro x28 hx28
  refine vl (.int .u8 (x28 % 256)) rfl (r_convb 3 5 rfl U3 U5) ?_
  have hl6 := six_len (n := n) (j := j) (by omega)
  refine vl (.pointer (some (at_ v11 ((5 - (j : Int) : Int).toNat)))) rfl (r_index rfl (own_row (S26.own 0 rfl)) rfl (by omega) (by first | omega | (simp; omega) | simp) U22 (by kernel_rfl)) ?_
  refine EL_store (u := byt (bof x28)) rfl (Eq.trans (show _ = Value.int .u8 (x28 % 256) from rfl) (bof_val _)) (S26.own 0 rfl) (by first | omega | (simp; done) | (simp; omega)) rfl (by kernel_rfl) ?_
  intro w29 O30 G31 z32
  have S33 := S26.gb0 G31 (own_set O30) (.inl rfl)
  refine EL_nil (thn_n (EC_reg (vM (.int .i64 q) rfl e23 ?_)))
  refine EL_int (q / 256) rfl (r_quoi rfl rfl (by omega) (by omega)) ?_
  intro x34 hx34
  refine vA (.int .i64 x34) rfl rfl (EL_nil (inB_n (thn_n (EC_reg (vM (.int .i64 (5 - (j : Int))) rfl e22 ?_)))))
  refine EL_int ((5 - (j : Int)) - 1) rfl (r_subi rfl rfl (by omega)) ?_
  intro x35 hx35
  refine vA (.int .i64 x35) rfl rfl (EL_nil (thn_n ?_))
  have hx9 : bof x28 = bof (n / 256 ^ j) := by rw [hx28, bof_mod, hq]
  have q37 : (sixL n j).set ((5 - (j : Int) : Int).toNat) (bof x28) = sixL n (j + 1) := by rw [hx9]; exact six_set (by omega) (by omega)
  have S36 := S33.ab0 q37
  refine ⟨_, ?_, j + 1, x34, rfl, (Eq.trans (show _ = Value.int .i64 x35 from rfl) (congrArg _ (by omega))), rfl, (by exact e24), (by exact e25), by omega, by rw [hx34]; exact six_next n q j hq, by omega, S36⟩
  first | omega | (simp; omega)
  refine EC_exit (thn_x (thn_x (inB_hit (thn_n (EC_seq ?_)))))
  refine EC_reg (vM v11 rfl e25 (vA v11 rfl rfl (EL_nil (thn_n (EC_ret ?_)))))
  refine fin1 Tryz.results57 (show _ = v11 from rfl) ⟨_, rfl, ?_⟩
  have ej : j = 6 := by omega
  have q39 : sixL n j = be6 n := by rw [ej]; exact six_end n
  have S38 := S26.ab0 q39
  exact ⟨v11, rfl, S38⟩

set_option maxRecDepth 100000 in
set_option maxHeartbeats 4000000 in
theorem Text8_c (v0 : Value) (l : List UInt8) (I : Gh) (R : List HP) (w : World) (S : Sat w I (R)) (Q0 : RoB I v0 l) (hl : l.length ≤ 1000000000) : Ret Tryz.prog 40 [v0] w fun v w' => ∃ v1 : Value, v1 = v ∧ Sat w' I (OwnB v1 (be2 (l.length : Int) ++ l) :: R) := by
  have lq0 := RoB.le Q0 S.le
  refine ret_E Tryz.func40 rfl Tryz.ntmps40 (by simp) ?_
  refine EC_seq (EC_reg (vA (.slice none 0 0) rfl rfl (EL_nil (thn_n (EC_seq ?_)))))
  refine EC_reg (vM v0 rfl rfl (vl (.int .i64 (l.length : Int)) rfl (lenB (r_len rfl (Q0 _ S.le) U22)) ?_))
  refine EL_int ((l.length : Int) / 256) rfl (r_quoi rfl rfl (by omega) (by omega)) ?_
  intro x11 hx11
  refine vl (.int .u8 (x11 % 256)) rfl (r_convb 3 5 rfl U3 U5) (vM v0 rfl rfl (vl (.int .i64 (l.length : Int)) rfl (lenB (r_len rfl (Q0 _ S.le) U22)) ?_))
  refine EL_int ((l.length : Int) % 256) rfl (r_remi rfl rfl (by omega) (by omega)) ?_
  intro x12 hx12
  refine vl (.int .u8 (x12 % 256)) rfl (r_convb 3 5 rfl U3 U5) ?_
  refine EL_lit w.heap.size #[.int .u8 (x11 % 256), .int .u8 (x12 % 256)] elB rfl (by decide) rfl (Nat.le_refl _) (by kernel_rfl) ?_
  intro v13 w14 O15 B16 k17 z18
  have S19 : Sat w14 I (OwnB v13 [bof x11, bof x12] :: R) := S.newO B16 (own_eq (l := [bof x11, bof x12]) O15 (by simp [bof_val, byt]))
  refine vM v0 rfl rfl ?_
  refine EL_append (v := v13) (xs := [bof x11, bof x12].map byt) (ys := l.map byt) 0 elB rfl rfl rfl (own_len (S19.own 0 rfl)) (Q0 _ S19.le) (byt_one _) (by first | (simp only [List.length_map, List.length_nil, List.length_append]; omega) | (simp; done) | (simp; omega)) (by decide) (Nat.zero_le _) ?_
  intro v20 w21 O22 G23 A24
  have S25 := S19.gb0 G23 (own_app O22) A24
  refine vA v20 rfl rfl (EL_nil (thn_n (EC_ret ?_)))
  refine fin1 Tryz.results40 (show _ = v20 from rfl) ⟨_, rfl, ?_⟩
  have q27 : [bof x11, bof x12] ++ l = be2 (l.length : Int) ++ l := by simp [be2, bof_mod, hx11, hx12]
  have S26 := S25.ab0 q27
  exact ⟨v20, rfl, S26⟩

set_option maxRecDepth 100000 in
set_option maxHeartbeats 4000000 in
theorem get8_c (p : Value) (r : Rd) (n : Int) (I : Gh) (R : List HP) (w : World) (S : Sat w I (RdQ p r :: R)) (hn : 0 ≤ n ∧ n ≤ 6) : Ret Tryz.prog 86 [p, .int .i64 n] w fun v w' => .int .i64 (rdGet r n) = v ∧ Sat w' I (RdQ p (rdTakeS r n) :: R) := by
  obtain ⟨b, v, B, t, rfl, ov, hat, hB, hrl, H0, S0⟩ := RdQ.opn S
  refine ret_E Tryz.func86 rfl Tryz.ntmps86 (by simp) ?_
  refine EC_seq (EC_reg (vA (.int .i64 0) rfl rfl (EL_nil (thn_n (EC_seq ?_)))))
  refine EC_seq ?_
  refine EC_quietB (by kernel_rfl) (by kernel_rfl) ?_
  refine qM (ptr b) rfl rfl (EQ_val (ptr b) rfl (fun _ hw => r_nil rfl) (EQ_val (ptr b 2) rfl (fun _ hw => fP 0 rfl U100 (by kernel_rfl)) (EQ_val (.bool r.bad) rfl (fun _ hw => r_loadA rfl ((S0.arr 0 rfl).below hw) (u := (.bool r.bad)) rfl U4 rfl) (qM (.bool r.bad) rfl rfl (EQ_gite 11 rfl rfl rfl (ptr b) rfl (fun g11 _ hw => r_move rfl) ?_)))))
  refine EQ_gite 11 rfl rfl rfl (ptr b) rfl (fun g12 _ hw => r_nil (cond_of g12 rfl)) (EQ_gite 11 rfl rfl rfl (ptr b 0) rfl (fun g13 _ hw => fP 0 (cond_of g13 rfl) U100 (by kernel_rfl)) (EQ_gite 11 rfl rfl rfl v rfl (fun g14 _ hw => r_loadA (cond_of g14 rfl) ((S0.arr 0 rfl).below hw) (u := v) rfl U22 rfl) (EQ_gite 11 rfl rfl rfl (.int .i64 (B.length : Int)) rfl (fun g15 _ hw => lenB (r_len (cond_of g15 rfl) ((H0 _ S0.le).below hw) U22)) (EQ_gite 11 rfl rfl rfl (ptr b) rfl (fun g16 _ hw => r_move rfl) (EQ_gite 11 rfl rfl rfl (ptr b) rfl (fun g17 _ hw => r_nil (cond_of g17 rfl)) ?_)))))
  refine EQ_gite 11 rfl rfl rfl (ptr b 1) rfl (fun g18 _ hw => fP 0 (cond_of g18 rfl) U100 (by kernel_rfl)) (EQ_gite 11 rfl rfl rfl (.int .i64 (t : Int)) rfl (fun g19 _ hw => r_loadA (cond_of g19 rfl) ((S0.arr 0 rfl).below hw) (u := (.int .i64 (t : Int))) rfl U3 rfl) (EQ_gite 11 rfl rfl rfl (.int .i64 ((B.length : Int) - (t : Int))) rfl (fun g20 _ hw => r_subi (cond_of g20 rfl) (cond_of g20 rfl) (by first | omega | (simp at g20; omega))) (EQ_gite 11 rfl rfl rfl (.int .i64 n) rfl (fun g21 _ hw => r_move rfl) (EQ_gite 11 rfl rfl rfl (.bool (decide (((B.length : Int) - (t : Int)) < n))) rfl (fun g22 _ hw => r_lss (cond_of g22 rfl) (cond_of g22 rfl)) (EQ_val (.bool (r.bad || (decide (((B.length : Int) - (t : Int)) < n)))) rfl (fun _ hw => r_or rfl rfl rfl) ?_)))))
  refine EQ_nil ?_
  intro w23 B24
  have S25 := S0.below B24
  refine thn_n ?_
  refine EC_cond (t := r.bad || (decide (((B.length : Int) - (t : Int)) < n))) rfl (fun h26 => ?_) (fun h26 => ?_)
  have hs : rdShort r n = true := (q_short hrl hat).trans h26
  refine EC_seq (EC_reg (vM (ptr b) rfl rfl (vl (ptr b) rfl (r_nil rfl) (vl (ptr b 2) rfl (fP 0 rfl U100 (by kernel_rfl)) ?_))))
  refine EL_storeA (j := 2) (u := .bool true) rfl rfl (S25.arr 0 rfl) (by first | decide | (simp; omega) | simp) rfl (by kernel_rfl) ?_
  intro w27 A28 K29 z30
  have S31 := S25.wr0 (ds := [v, .int .i64 (t : Int), .bool true]) K29 A28
  refine EL_nil (thn_n (EC_seq (EC_reg (vA (.int .i64 0) rfl rfl (EL_nil ?_)))))
  refine thn_n (EC_ret (thn_r ?_))
  refine fin1 Tryz.results86 (show _ = .int .i64 0 from rfl) ⟨_, rfl, ?_⟩
  have S32 := RdQ.cls (r := rdTakeS r n) t ov H0 hB (by omega) (by omega) (q_takeB hrl hs) S31
  exact ⟨(by rw [rdGet_short hs]), S32⟩
  have hs : rdShort r n = false := (q_short hrl hat).trans h26
  have hfi := q_fits hrl hat (by omega) hs
  refine EC_skip (thn_n (EC_seq (EC_reg (vA (.int .i64 0) rfl rfl (EL_nil ?_)))))
  refine thn_n (EC_seq (EC_seq (EC_reg (vA (.int .i64 0) rfl rfl (EL_nil ?_)))))
  refine thn_n (EC_block ?_)
  refine EC_loop (fun m' E' w' => ∃ j : Nat, ∃ q : Nat, m' = n.toNat - j ∧ E' 6 = .int .i64 (j : Int) ∧ E' 5 = .int .i64 (q : Int) ∧ E' 0 = ptr b ∧ E' 1 = .int .i64 n ∧ E' 4 = .int .i64 0 ∧ (j ≤ n.toNat) ∧ (q + 1 ≤ 256 ^ j) ∧ ((q : Int) = beN ((rdTake r n).take j)) ∧ Sat w' I (Blk b 100 [v, .int .i64 (t : Int), .bool r.bad] :: R)) _ ⟨0, 0, rfl, rfl, rfl, rfl, rfl, rfl, Nat.zero_le _, (by simp), (by rw [List.take_zero]; rfl), S25⟩ ?_
  rintro _ E33 w34 ⟨j, q, rfl, e35, e36, e37, e38, e39, hj, hq, hb, S40⟩
  refine EC_seq (EC_seq (EC_reg (vM (.int .i64 (j : Int)) rfl e35 (vM (.int .i64 n) rfl e38 (vl (.bool (decide ((j : Int) < n))) rfl (r_lss rfl rfl) ?_)))))
  refine EL_nil (thn_n ?_)
  refine EC_if (p := (j : Int) < n) rfl (fun h41 => ?_) (fun h41 => ?_)
  refine EC_skip (thn_n (EC_seq (EC_block ?_)))
  have hq2 := Nat.le_trans hq (Nat.pow_le_pow_right (show 0 < 256 by decide) (show j ≤ 5 by omega))
  refine EC_quietB (by kernel_rfl) (by kernel_rfl) ?_
  refine EQ_val (.int .i64 (q : Int)) rfl (fun _ hw => r_move (by exact e36)) ?_
  refine EQ_int (256 * (q : Int)) rfl (fun _ hw => r_muli rfl rfl (by omega)) ?_
  intro x42 hx42
  refine EQ_val (ptr b) rfl (fun _ hw => r_move (by exact e37)) (EQ_val (ptr b) rfl (fun _ hw => r_nil rfl) (EQ_val (ptr b 0) rfl (fun _ hw => fP 0 rfl U100 (by kernel_rfl)) (EQ_val v rfl (fun _ hw => r_loadA rfl ((S40.arr 0 rfl).below hw) (u := v) rfl U22 rfl) (EQ_val (ptr b) rfl (fun _ hw => r_move (by exact e37)) (EQ_val (ptr b) rfl (fun _ hw => r_nil rfl) ?_)))))
  refine EQ_val (ptr b 1) rfl (fun _ hw => fP 0 rfl U100 (by kernel_rfl)) (EQ_val (.int .i64 (t : Int)) rfl (fun _ hw => r_loadA rfl ((S40.arr 0 rfl).below hw) (u := (.int .i64 (t : Int))) rfl U3 rfl) (EQ_val (.int .i64 (j : Int)) rfl (fun _ hw => r_move (by exact e35)) ?_))
  refine EQ_int ((t : Int) + (j : Int)) rfl (fun _ hw => r_addi rfl rfl (by omega)) ?_
  intro x43 hx43
  refine EQ_val (.pointer (some (at_ v ((x43 : Int).toNat)))) rfl (fun _ hw => r_index rfl ((H0 _ S40.le).below hw) rfl (by omega) (by first | omega | (simp; omega) | simp) U22 (by kernel_rfl)) ?_
  obtain ⟨b44, hb45⟩ := get_some (l := B) (j := (x43 : Int).toNat) (by first | omega | (simp; omega) | simp)
  have hb46 := b44.toNat_lt
  refine EQ_val (.int .u8 (b44.toNat : Int)) rfl (fun _ hw => r_load rfl (((H0 _ S40.le).below hw).cell (bs_get hb45)) U5 rfl) (EQ_val (.int .i64 (b44.toNat : Int)) rfl (fun _ hw => r_convi 5 3 rfl U5 U3 (by omega)) ?_)
  refine EQ_int (x42 + (b44.toNat : Int)) rfl (fun _ hw => r_addi rfl rfl (by omega)) ?_
  intro x47 hx47
  refine qA (.int .i64 x47) rfl rfl ?_
  refine EQ_nil ?_
  intro w48 B49
  have S50 := S40.below B49
  refine inB_n (thn_n (EC_reg (vM (.int .i64 (j : Int)) rfl e35 ?_)))
  refine EL_int ((j : Int) + 1) rfl (r_addi rfl rfl (by omega)) ?_
  intro x51 hx51
  refine vA (.int .i64 x51) rfl rfl (EL_nil (thn_n ?_))
  have hbe := beN_step hb (q_at hrl hs (show j < n.toNat by omega) (show B[t + j]? = some b44 from (congrArg (B[·]?) (show t + j = _ by omega)).trans hb45))
  refine ⟨_, ?_, j + 1, (q * 256 + b44.toNat), rfl, (Eq.trans (show _ = Value.int .i64 x51 from rfl) (congrArg _ (by omega))), (Eq.trans (show _ = Value.int .i64 x47 from rfl) (congrArg _ (by omega))), (by exact e37), (by exact e38), (by exact e39), by omega, (by have := b44.toNat_lt; rw [Nat.pow_succ]; omega), hbe, S50⟩
  first | omega | (simp; omega)
  refine EC_exit (thn_x (thn_x (inB_hit (thn_n (EC_seq ?_)))))
  refine EC_reg (vM (ptr b) rfl e37 (vl (ptr b) rfl (r_nil rfl) (vl (ptr b 1) rfl (fP 0 rfl U100 (by kernel_rfl)) (vL (.int .i64 (t : Int)) rfl rfl (S40.arr 0 rfl) rfl U3 rfl (vM (.int .i64 n) rfl e38 ?_)))))
  refine EL_int ((t : Int) + n) rfl (r_addi rfl rfl (by omega)) ?_
  intro x52 hx52
  refine vl (ptr b) rfl (r_nil rfl) (vl (ptr b 1) rfl (fP 0 rfl U100 (by kernel_rfl)) ?_)
  refine EL_storeA (j := 1) (u := .int .i64 x52) rfl rfl (S40.arr 0 rfl) (by first | decide | (simp; omega) | simp) rfl (by kernel_rfl) ?_
  intro w53 A54 K55 z56
  have S57 := S40.wr0 (ds := [v, .int .i64 x52, .bool r.bad]) K55 A54
  refine EL_nil (thn_n (EC_seq (EC_reg (vM (.int .i64 (q : Int)) rfl e36 (vA (.int .i64 (q : Int)) rfl rfl ?_)))))
  refine EL_nil (thn_n (EC_ret ?_))
  refine fin1 Tryz.results86 (show _ = .int .i64 (q : Int) from rfl) ⟨_, rfl, ?_⟩
  have S58 := RdQ.cls (r := rdTakeS r n) (t + n.toNat) ov H0 hB (by omega) (by omega) (q_takeS hrl hs) S57
  exact ⟨(by rw [rdGet, hb, List.take_of_length_le (by rw [q_len hrl hat (by omega) hs]; omega)]), S58⟩

set_option maxRecDepth 100000 in
set_option maxHeartbeats 4000000 in
theorem RNum8_c (p : Value) (r : Rd) (lo : Int) (hi : Int) (I : Gh) (R : List HP) (w : World) (S : Sat w I (RdQ p r :: R)) : Ret Tryz.prog 87 [p, .int .i64 lo, .int .i64 hi] w fun v w' => .int .i64 (rdNum r lo hi) = v ∧ Sat w' I (RdQ p (rdNumS r lo hi) :: R) := by
  obtain ⟨b, rfl⟩ := RdQ.ptr S
  refine ret_E Tryz.func87 rfl Tryz.ntmps87 (by simp) ?_
  refine EC_seq (EC_reg (vA (.int .i64 0) rfl rfl (EL_nil (thn_n (EC_seq ?_)))))
  refine EC_reg (vM (ptr b) rfl rfl ?_)
  refine eR rfl F86 rfl (get8_c (ptr b) r 6 I _ _ S (by first | assumption | omega | (simp; done) | (simp; omega))) ?_
  rintro _ w11 ⟨rfl, S12⟩
  obtain ⟨v, B, t, ov, hat, hB, hrl, H0, S21⟩ := RdQ.at S12
  have hg6 := rdGet6 r
  refine vA (.int .i64 (rdGet r 6)) rfl rfl (EL_nil (thn_n (EC_seq (EC_seq (EC_reg ?_)))))
  refine vM (ptr b) rfl rfl (vl (ptr b) rfl (r_nil rfl) (vl (ptr b 2) rfl (fP 0 rfl U100 (by kernel_rfl)) (vL (.bool ((rdTakeS r 6).bad)) rfl rfl (S21.arr 0 rfl) rfl U4 rfl (vM (.bool ((rdTakeS r 6).bad)) rfl rfl (EL_gite 14 rfl rfl rfl (.int .i64 (rdGet r 6)) rfl (fun g22 => r_move rfl) ?_)))))
  refine EL_gite 14 rfl rfl rfl (.int .i64 lo) rfl (fun g23 => r_move rfl) (EL_gite 14 rfl rfl rfl (.bool (decide ((rdGet r 6) < lo))) rfl (fun g24 => r_lss (cond_of g24 rfl) (cond_of g24 rfl)) (vl (.bool (((rdTakeS r 6).bad) || (decide ((rdGet r 6) < lo)))) rfl (r_or rfl rfl rfl) (vM (.bool (((rdTakeS r 6).bad) || (decide ((rdGet r 6) < lo)))) rfl rfl (EL_gite 19 rfl rfl rfl (.int .i64 (rdGet r 6)) rfl (fun g25 => r_move rfl) (EL_gite 19 rfl rfl rfl (.int .i64 hi) rfl (fun g26 => r_move rfl) ?_)))))
  refine EL_gite 19 rfl rfl rfl (.bool (decide (hi < (rdGet r 6)))) rfl (fun g27 => r_gtr (cond_of g27 rfl) (cond_of g27 rfl)) (vl (.bool ((((rdTakeS r 6).bad) || (decide ((rdGet r 6) < lo))) || (decide (hi < (rdGet r 6))))) rfl (r_or rfl rfl rfl) (EL_nil (thn_n ?_)))
  refine EC_cond (t := (((rdTakeS r 6).bad) || (decide ((rdGet r 6) < lo))) || (decide (hi < (rdGet r 6)))) rfl (fun h28 => ?_) (fun h28 => ?_)
  have hbad : (rdMid r 6 lo hi).bad = true := h28
  refine EC_seq (EC_reg (vM (ptr b) rfl rfl (vl (ptr b) rfl (r_nil rfl) (vl (ptr b 2) rfl (fP 0 rfl U100 (by kernel_rfl)) ?_))))
  refine EL_storeA (j := 2) (u := .bool true) rfl rfl (S21.arr 0 rfl) (by first | decide | (simp; omega) | simp) rfl (by kernel_rfl) ?_
  intro w29 A30 K31 z32
  have S33 := S21.wr0 (ds := [v, .int .i64 (t : Int), .bool true]) K31 A30
  refine EL_nil (thn_n (EC_seq (EC_reg (vA (.int .i64 0) rfl rfl (EL_nil ?_)))))
  refine thn_n (EC_ret (thn_r ?_))
  refine fin1 Tryz.results87 (show _ = .int .i64 0 from rfl) ⟨_, rfl, ?_⟩
  have S34 := RdQ.cls (r := rdNumS r lo hi) t ov H0 hB (by omega) (by omega) (rd_eq hrl hbad) S33
  exact ⟨(by rw [rdNum, if_pos hbad]), S34⟩
  have hbad : (rdMid r 6 lo hi).bad = false := h28
  refine EC_skip (thn_n (EC_seq (EC_reg (vM (.int .i64 (rdGet r 6)) rfl rfl (vA (.int .i64 (rdGet r 6)) rfl rfl ?_)))))
  refine EL_nil (thn_n (EC_ret ?_))
  refine fin1 Tryz.results87 (show _ = .int .i64 (rdGet r 6) from rfl) ⟨_, rfl, ?_⟩
  have S35 := RdQ.cls (r := rdNumS r lo hi) t ov H0 hB (by omega) (by omega) (rd_eq hrl (hbad.trans (mid_bad hbad).symm)) S21
  exact ⟨(by rw [rdNum, if_neg (by rw [hbad]; decide)]), S35⟩

set_option maxRecDepth 100000 in
set_option maxHeartbeats 4000000 in
theorem RText8_c (p : Value) (r : Rd) (lo : Int) (hi : Int) (I : Gh) (R : List HP) (w : World) (S : Sat w I (RdQ p r :: R)) : Ret Tryz.prog 54 [p, .int .i64 lo, .int .i64 hi] w fun v w' => ∃ u : Value, ∃ J : Gh, Gh.le I J ∧ u = v ∧ RoB J u (rdTxt r lo hi) ∧ Sat w' J (RdQ p (rdTxtS r lo hi) :: R) := by
  obtain ⟨b, rfl⟩ := RdQ.ptr S
  refine ret_E Tryz.func54 rfl Tryz.ntmps54 (by simp) ?_
  refine EC_seq (EC_reg (vA (.slice none 0 0) rfl rfl (EL_nil (thn_n (EC_seq ?_)))))
  refine EC_reg (vM (ptr b) rfl rfl ?_)
  refine eR rfl F86 rfl (get8_c (ptr b) r 2 I _ _ S (by first | assumption | omega | (simp; done) | (simp; omega))) ?_
  rintro _ w11 ⟨rfl, S12⟩
  obtain ⟨v, B, t, ov, hat, hB, hrl, H0, S21⟩ := RdQ.at S12
  have hg2 := rdGet2 r
  refine vA (.int .i64 (rdGet r 2)) rfl rfl (EL_nil (thn_n (EC_seq (EC_seq ?_))))
  refine EC_quietB (by kernel_rfl) (by kernel_rfl) ?_
  refine qM (ptr b) rfl rfl (EQ_val (ptr b) rfl (fun _ hw => r_nil rfl) (EQ_val (ptr b 2) rfl (fun _ hw => fP 0 rfl U100 (by kernel_rfl)) (EQ_val (.bool ((rdTakeS r 2).bad)) rfl (fun _ hw => r_loadA rfl ((S21.arr 0 rfl).below hw) (u := (.bool ((rdTakeS r 2).bad))) rfl U4 rfl) (qM (.bool ((rdTakeS r 2).bad)) rfl rfl (EQ_gite 14 rfl rfl rfl (.int .i64 (rdGet r 2)) rfl (fun g22 _ hw => r_move rfl) ?_)))))
  refine EQ_gite 14 rfl rfl rfl (.int .i64 lo) rfl (fun g23 _ hw => r_move rfl) (EQ_gite 14 rfl rfl rfl (.bool (decide ((rdGet r 2) < lo))) rfl (fun g24 _ hw => r_lss (cond_of g24 rfl) (cond_of g24 rfl)) (EQ_val (.bool (((rdTakeS r 2).bad) || (decide ((rdGet r 2) < lo)))) rfl (fun _ hw => r_or rfl rfl rfl) (qM (.bool (((rdTakeS r 2).bad) || (decide ((rdGet r 2) < lo)))) rfl rfl (EQ_gite 19 rfl rfl rfl (.int .i64 (rdGet r 2)) rfl (fun g25 _ hw => r_move rfl) (EQ_gite 19 rfl rfl rfl (.int .i64 hi) rfl (fun g26 _ hw => r_move rfl) ?_)))))
  refine EQ_gite 19 rfl rfl rfl (.bool (decide (hi < (rdGet r 2)))) rfl (fun g27 _ hw => r_gtr (cond_of g27 rfl) (cond_of g27 rfl)) (EQ_val (.bool ((((rdTakeS r 2).bad) || (decide ((rdGet r 2) < lo))) || (decide (hi < (rdGet r 2))))) rfl (fun _ hw => r_or rfl rfl rfl) (qM (.bool ((((rdTakeS r 2).bad) || (decide ((rdGet r 2) < lo))) || (decide (hi < (rdGet r 2))))) rfl rfl (EQ_gite 24 rfl rfl rfl (ptr b) rfl (fun g28 _ hw => r_move rfl) (EQ_gite 24 rfl rfl rfl (ptr b) rfl (fun g29 _ hw => r_nil (cond_of g29 rfl)) (EQ_gite 24 rfl rfl rfl (ptr b 0) rfl (fun g30 _ hw => fP 0 (cond_of g30 rfl) U100 (by kernel_rfl)) ?_)))))
  refine EQ_gite 24 rfl rfl rfl v rfl (fun g31 _ hw => r_loadA (cond_of g31 rfl) ((S21.arr 0 rfl).below hw) (u := v) rfl U22 rfl) (EQ_gite 24 rfl rfl rfl (.int .i64 (B.length : Int)) rfl (fun g32 _ hw => lenB (r_len (cond_of g32 rfl) ((H0 _ S21.le).below hw) U22)) (EQ_gite 24 rfl rfl rfl (ptr b) rfl (fun g33 _ hw => r_move rfl) (EQ_gite 24 rfl rfl rfl (ptr b) rfl (fun g34 _ hw => r_nil (cond_of g34 rfl)) (EQ_gite 24 rfl rfl rfl (ptr b 1) rfl (fun g35 _ hw => fP 0 (cond_of g35 rfl) U100 (by kernel_rfl)) (EQ_gite 24 rfl rfl rfl (.int .i64 (t : Int)) rfl (fun g36 _ hw => r_loadA (cond_of g36 rfl) ((S21.arr 0 rfl).below hw) (u := (.int .i64 (t : Int))) rfl U3 rfl) ?_)))))
  refine EQ_gite 24 rfl rfl rfl (.int .i64 ((B.length : Int) - (t : Int))) rfl (fun g37 _ hw => r_subi (cond_of g37 rfl) (cond_of g37 rfl) (by first | omega | (simp at g37; omega))) (EQ_gite 24 rfl rfl rfl (.int .i64 (rdGet r 2)) rfl (fun g38 _ hw => r_move rfl) (EQ_gite 24 rfl rfl rfl (.bool (decide (((B.length : Int) - (t : Int)) < (rdGet r 2)))) rfl (fun g39 _ hw => r_lss (cond_of g39 rfl) (cond_of g39 rfl)) (EQ_val (.bool (((((rdTakeS r 2).bad) || (decide ((rdGet r 2) < lo))) || (decide (hi < (rdGet r 2)))) || (decide (((B.length : Int) - (t : Int)) < (rdGet r 2))))) rfl (fun _ hw => r_or rfl rfl rfl) ?_)))
  refine EQ_nil ?_
  intro w40 B41
  have S42 := S21.below B41
  refine thn_n ?_
  refine EC_cond (t := ((((rdTakeS r 2).bad) || (decide ((rdGet r 2) < lo))) || (decide (hi < (rdGet r 2)))) || (decide (((B.length : Int) - (t : Int)) < (rdGet r 2)))) rfl (fun h43 => ?_) (fun h43 => ?_)
  have htx := q_txt_bad hrl hat h43
  refine EC_seq (EC_reg (vM (ptr b) rfl rfl (vl (ptr b) rfl (r_nil rfl) (vl (ptr b 2) rfl (fP 0 rfl U100 (by kernel_rfl)) ?_))))
  refine EL_storeA (j := 2) (u := .bool true) rfl rfl (S42.arr 0 rfl) (by first | decide | (simp; omega) | simp) rfl (by kernel_rfl) ?_
  intro w44 A45 K46 z47
  have S48 := S42.wr0 (ds := [v, .int .i64 (t : Int), .bool true]) K46 A45
  refine EL_nil (thn_n (EC_seq (EC_reg (vA (.slice none 0 0) rfl rfl (EL_nil ?_)))))
  refine thn_n (EC_ret (thn_r ?_))
  refine fin1 Tryz.results54 (show _ = .slice none 0 0 from rfl) ⟨_, rfl, ?_⟩
  have S49 := RdQ.cls (r := rdTxtS r lo hi) t ov H0 hB (by omega) (by omega) htx.2 S48
  exact ⟨(.slice none 0 0), I, (Gh.le_refl _), rfl, (rob_as Ro.nil (by rw [htx.1])), S49⟩
  have htx := q_txt_ok hrl hat h43
  have htx2 := htx.2.1
  refine EC_skip (thn_n (EC_seq (EC_reg (vM (ptr b) rfl rfl (vl (ptr b) rfl (r_nil rfl) ?_)))))
  refine vl (ptr b 1) rfl (fP 0 rfl U100 (by kernel_rfl)) (vL (.int .i64 (t : Int)) rfl rfl (S42.arr 0 rfl) rfl U3 rfl (vM (.int .i64 (rdGet r 2)) rfl rfl ?_))
  refine EL_int ((t : Int) + (rdGet r 2)) rfl (r_addi rfl rfl (by omega)) ?_
  intro x50 hx50
  refine vl (ptr b) rfl (r_nil rfl) (vl (ptr b 1) rfl (fP 0 rfl U100 (by kernel_rfl)) ?_)
  refine EL_storeA (j := 1) (u := .int .i64 x50) rfl rfl (S42.arr 0 rfl) (by first | decide | (simp; omega) | simp) rfl (by kernel_rfl) ?_
  intro w51 A52 K53 z54
  have S55 := S42.wr0 (ds := [v, .int .i64 x50, .bool ((rdTakeS r 2).bad)]) K53 A52
  refine EL_nil (thn_n (EC_seq ?_))
  refine EC_quietB (by kernel_rfl) (by kernel_rfl) ?_
  refine qM (ptr b) rfl rfl (EQ_val (ptr b) rfl (fun _ hw => r_nil rfl) (EQ_val (ptr b 0) rfl (fun _ hw => fP 0 rfl U100 (by kernel_rfl)) (EQ_val v rfl (fun _ hw => r_loadA rfl ((S55.arr 0 rfl).below hw) (u := v) rfl U22 rfl) (qM (ptr b) rfl rfl (EQ_val (ptr b) rfl (fun _ hw => r_nil rfl) ?_)))))
  refine EQ_val (ptr b 1) rfl (fun _ hw => fP 0 rfl U100 (by kernel_rfl)) (EQ_val (.int .i64 x50) rfl (fun _ hw => r_loadA rfl ((S55.arr 0 rfl).below hw) (u := (.int .i64 x50)) rfl U3 rfl) (qM (.int .i64 (rdGet r 2)) rfl rfl ?_))
  refine EQ_int (x50 - (rdGet r 2)) rfl (fun _ hw => r_subi rfl rfl (by omega)) ?_
  intro x56 hx56
  refine qM (ptr b) rfl rfl (EQ_val (ptr b) rfl (fun _ hw => r_nil rfl) (EQ_val (ptr b 1) rfl (fun _ hw => fP 0 rfl U100 (by kernel_rfl)) (EQ_val (.int .i64 x50) rfl (fun _ hw => r_loadA rfl ((S55.arr 0 rfl).below hw) (u := (.int .i64 x50)) rfl U3 rfl) (EQ_val (cutV v ((x56 : Int).toNat) ((x50 : Int).toNat)) rfl (fun _ hw => r_slice rfl ((H0 _ S55.le).below hw) U22 (by kernel_rfl) ((x56 : Int).toNat) ((x50 : Int).toNat) (by first | omega | (simp; omega) | simp) (by first | omega | (simp; omega) | simp) (.inr ⟨_, _, rfl, (show _ = Value.int .i64 ((x56 : Int).toNat : Int) from by rw [Int.toNat_of_nonneg (by omega)]; exact rfl)⟩) (.inr ⟨_, _, rfl, (show _ = Value.int .i64 ((x50 : Int).toNat : Int) from by rw [Int.toNat_of_nonneg (by omega)]; exact rfl)⟩)) ?_))))
  have H57 : RoB I (cutV v ((x56 : Int).toNat) ((x50 : Int).toNat)) ((B.take ((x50 : Int).toNat)).drop ((x56 : Int).toNat)) := rob_as (RoB.cut H0 ((x56 : Int).toNat) ((x50 : Int).toNat) (by first | omega | (simp; omega) | simp) (by first | omega | (simp; omega) | simp)) (by simp)
  have L58 : ((B.take ((x50 : Int).toNat)).drop ((x56 : Int).toNat)).length = ((x50 : Int).toNat) - ((x56 : Int).toNat) := by first | (simp; done) | (simp; omega)
  refine qA (cutV v ((x56 : Int).toNat) ((x50 : Int).toNat)) rfl rfl ?_
  refine EQ_nil ?_
  intro w59 B60
  have S61 := S55.below B60
  refine thn_n (EC_ret ?_)
  refine fin1 Tryz.results54 (show _ = (cutV v ((x56 : Int).toNat) ((x50 : Int).toNat)) from rfl) ⟨_, rfl, ?_⟩
  have S62 := RdQ.cls (r := rdTxtS r lo hi) (t + (rdGet r 2).toNat) ov H0 hB (by omega) (by omega) htx.2.2.2 S61
  exact ⟨(cutV v ((x56 : Int).toNat) ((x50 : Int).toNat)), I, (Gh.le_refl _), rfl, (rob_as H57 (by rw [htx.2.2.1]; congr 1 <;> (try congr 1) <;> omega)), S62⟩

set_option maxRecDepth 100000 in
set_option maxHeartbeats 4000000 in
theorem REnd8_c (p : Value) (r : Rd) (I : Gh) (R : List HP) (w : World) (S : Sat w I (RdQ p r :: R)) : Ret Tryz.prog 56 [p] w fun v w' => .bool (rdEnd r) = v ∧ Sat w' I (RdQ p r :: R) := by
  obtain ⟨b, v, B, t, rfl, ov, hat, hB, hrl, H0, S0⟩ := RdQ.opn S
  refine ret_E Tryz.func56 rfl Tryz.ntmps56 (by simp) ?_
  refine EC_seq (EC_reg (vA (.bool false) rfl rfl (EL_nil (thn_n (EC_seq ?_)))))
  refine EC_quietB (by kernel_rfl) (by kernel_rfl) ?_
  refine qM (ptr b) rfl rfl (EQ_val (ptr b) rfl (fun _ hw => r_nil rfl) (EQ_val (ptr b 2) rfl (fun _ hw => fP 0 rfl U100 (by kernel_rfl)) (EQ_val (.bool r.bad) rfl (fun _ hw => r_loadA rfl ((S0.arr 0 rfl).below hw) (u := (.bool r.bad)) rfl U4 rfl) (EQ_val (.bool !r.bad) rfl (fun _ hw => r_not rfl) (qM (.bool !r.bad) rfl rfl ?_)))))
  refine EQ_gite 8 rfl rfl rfl (ptr b) rfl (fun g11 _ hw => r_move rfl) (EQ_gite 8 rfl rfl rfl (ptr b) rfl (fun g12 _ hw => r_nil (cond_of g12 rfl)) (EQ_gite 8 rfl rfl rfl (ptr b 1) rfl (fun g13 _ hw => fP 0 (cond_of g13 rfl) U100 (by kernel_rfl)) (EQ_gite 8 rfl rfl rfl (.int .i64 (t : Int)) rfl (fun g14 _ hw => r_loadA (cond_of g14 rfl) ((S0.arr 0 rfl).below hw) (u := (.int .i64 (t : Int))) rfl U3 rfl) (EQ_gite 8 rfl rfl rfl (ptr b) rfl (fun g15 _ hw => r_move rfl) (EQ_gite 8 rfl rfl rfl (ptr b) rfl (fun g16 _ hw => r_nil (cond_of g16 rfl)) ?_)))))
  refine EQ_gite 8 rfl rfl rfl (ptr b 0) rfl (fun g17 _ hw => fP 0 (cond_of g17 rfl) U100 (by kernel_rfl)) (EQ_gite 8 rfl rfl rfl v rfl (fun g18 _ hw => r_loadA (cond_of g18 rfl) ((S0.arr 0 rfl).below hw) (u := v) rfl U22 rfl) (EQ_gite 8 rfl rfl rfl (.int .i64 (B.length : Int)) rfl (fun g19 _ hw => lenB (r_len (cond_of g19 rfl) ((H0 _ S0.le).below hw) U22)) (EQ_gite 8 rfl rfl rfl (.bool (decide ((t : Int) = (B.length : Int)))) rfl (fun g20 _ hw => r_eql (cond_of g20 rfl) (cond_of g20 rfl)) (EQ_val (.bool (!r.bad && (decide ((t : Int) = (B.length : Int))))) rfl (fun _ hw => r_and rfl rfl rfl) (qA (.bool (!r.bad && (decide ((t : Int) = (B.length : Int))))) rfl rfl ?_)))))
  refine EQ_nil ?_
  intro w21 B22
  have S23 := S0.below B22
  refine thn_n (EC_ret ?_)
  refine fin1 Tryz.results56 (show _ = .bool (!r.bad && (decide ((t : Int) = (B.length : Int)))) from rfl) ⟨_, rfl, ?_⟩
  have S24 := RdQ.cls (r := r) t ov H0 hB (by omega) (by omega) (rd_eq hrl rfl) S23
  exact ⟨(congrArg Value.bool (q_end hrl hat).symm), S24⟩

end Go.Proofs.YtoajodjcmeijgaaGreat
