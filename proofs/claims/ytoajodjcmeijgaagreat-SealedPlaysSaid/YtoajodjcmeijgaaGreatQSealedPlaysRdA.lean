import Derived.Test.YtoajodjcmeijgaaGreatQSealedPlaysReader
import Derived.Test.YtoajodjcmeijgaaGreatQSealedPlaysCod
set_option linter.unusedVariables false
set_option linter.unusedSimpArgs false
namespace Go.Proofs.YtoajodjcmeijgaaGreat
open Go.RowKit Go.Ecal

set_option maxRecDepth 100000 in
set_option maxHeartbeats 4000000 in
theorem take_c (p : Value) (r : Rd) (n : Int) (I : Gh) (R : List HP) (w : World) (S : Sat w I (RdP p r :: R)) (hn : 0 ≤ n ∧ n ≤ 9223372036854775807) : Ret Tryz.prog 82 [p, .int .i64 n] w fun v w' => ∃ u : Value, ∃ J : Gh, Gh.le I J ∧ u = v ∧ RoB J u (rdTake r n) ∧ Sat w' J (RdP p (rdTakeS r n) :: R) := by
  obtain ⟨b, v, rfl, ov, H0, S0⟩ := RdP.opn S
  refine ret_E Tryz.func82 rfl Tryz.ntmps82 (by simp) ?_
  refine EC_seq (EC_reg (vA (.slice none 0 0) rfl rfl (EL_nil (thn_n ?_))))
  refine EC_scope (fun l' m' E' w' => (l' = 0 ∧ m' = 0 ∧ E' 0 = ptr b ∧ E' 1 = .int .i64 n ∧ (rdShort r n = true) ∧ Sat w' I (Blk b 122 [v, .bool r.bad] :: R))) 1 ?_ ?_
  refine EC_seq (EC_seq (EC_reg (vM (ptr b) rfl rfl (vl (ptr b) rfl (r_nil rfl) (vl (ptr b 1) rfl (fP 0 rfl U122 (by kernel_rfl)) ?_)))))
  refine vL (.bool r.bad) rfl rfl (S0.arr 0 rfl) rfl U4 rfl (vM (.bool r.bad) rfl rfl (EL_gite 10 rfl rfl rfl (ptr b) rfl (fun g11 => r_move rfl) (EL_gite 10 rfl rfl rfl (ptr b) rfl (fun g12 => r_nil (cond_of g12 rfl)) (EL_gite 10 rfl rfl rfl (ptr b 0) rfl (fun g13 => fP 0 (cond_of g13 rfl) U122 (by kernel_rfl)) (EL_gite 10 rfl rfl rfl v rfl (fun g14 => r_loadA (cond_of g14 rfl) (S0.arr 0 rfl) (u := v) rfl U22 rfl) ?_)))))
  refine EL_gite 10 rfl rfl rfl (.int .i64 (r.l.length : Int)) rfl (fun g15 => lenB (r_len (cond_of g15 rfl) (H0 _ S0.le) U22)) (EL_gite 10 rfl rfl rfl (.int .i64 n) rfl (fun g16 => r_move rfl) (EL_gite 10 rfl rfl rfl (.bool (decide ((r.l.length : Int) < n))) rfl (fun g17 => r_lss (cond_of g17 rfl) (cond_of g17 rfl)) (vl (.bool (r.bad || (decide ((r.l.length : Int) < n)))) rfl (r_or rfl rfl rfl) (EL_nil (thn_n ?_)))))
  refine EC_cond (t := r.bad || (decide ((r.l.length : Int) < n))) rfl (fun h18 => ?_) (fun h18 => ?_)
  have hs : rdShort r n = true := h18
  refine EC_goto ?_
  refine thn_g ?_
  refine jmp_g _ ?_ ⟨rfl, rfl, rfl, rfl, hs, S0⟩
  first | omega | (simp; omega)
  have hs : rdShort r n = false := by rw [← Bool.not_eq_true]; intro hq; rw [rdShort] at hq; rw [hq] at h18; cases h18
  have hnl : r.bad = false ∧ n ≤ (r.l.length : Int) := by simp only [rdShort, Bool.or_eq_false_iff, decide_eq_false_iff_not] at hs; exact ⟨hs.1, by omega⟩
  refine EC_skip (thn_n (EC_seq (EC_seq (EC_reg (vM (ptr b) rfl rfl ?_)))))
  refine vl (ptr b) rfl (r_nil rfl) (vl (ptr b 0) rfl (fP 0 rfl U122 (by kernel_rfl)) (vL v rfl rfl (S0.arr 0 rfl) rfl U22 rfl (vM (.int .i64 n) rfl rfl (vM (.int .i64 n) rfl rfl (vl (cutM v 0 ((n : Int).toNat)) rfl (r_slice3 rfl (H0 _ S0.le) U22 (by kernel_rfl) 0 ((n : Int).toNat) (by first | omega | (simp; omega) | simp) (by first | omega | (simp; omega) | simp) (.inl ⟨rfl, rfl⟩) (⟨_, _, rfl, (show _ = Value.int .i64 ((n : Int).toNat : Int) from by rw [Int.toNat_of_nonneg (by omega)]; exact rfl)⟩) (⟨_, _, rfl, (show _ = Value.int .i64 ((n : Int).toNat : Int) from by rw [Int.toNat_of_nonneg (by omega)]; exact rfl)⟩)) ?_)))))
  have H19 : RoB I (cutM v 0 ((n : Int).toNat)) (r.l.take ((n : Int).toNat)) := rob_as (RoB.cutM H0 0 ((n : Int).toNat) (by first | omega | (simp; omega) | simp) (by first | omega | (simp; omega) | simp)) (by simp)
  have L20 : (r.l.take ((n : Int).toNat)).length = ((n : Int).toNat) - 0 := by first | (simp; done) | (simp; omega)
  refine vA (cutM v 0 ((n : Int).toNat)) rfl rfl (EL_nil (thn_n (EC_seq (EC_reg (vM (ptr b) rfl rfl ?_)))))
  refine vM (ptr b) rfl rfl (vl (ptr b) rfl (r_nil rfl) (vl (ptr b 0) rfl (fP 0 rfl U122 (by kernel_rfl)) (vL v rfl rfl (S0.arr 0 rfl) rfl U22 rfl (vM (.int .i64 n) rfl rfl (vl (cutV v ((n : Int).toNat) ((r.l.map byt).length)) rfl (r_slice rfl (H0 _ S0.le) U22 (by kernel_rfl) ((n : Int).toNat) ((r.l.map byt).length) (by first | omega | (simp; omega) | simp) (by first | omega | (simp; omega) | simp) (.inr ⟨_, _, rfl, (show _ = Value.int .i64 ((n : Int).toNat : Int) from by rw [Int.toNat_of_nonneg (by omega)]; exact rfl)⟩) (.inl ⟨rfl, rfl⟩)) ?_)))))
  have H21 : RoB I (cutV v ((n : Int).toNat) ((r.l.map byt).length)) (r.l.drop ((n : Int).toNat)) := rob_as (RoB.cut H0 ((n : Int).toNat) ((r.l.map byt).length) (by first | omega | (simp; omega) | simp) (by first | omega | (simp; omega) | simp)) (by simp)
  have L22 : (r.l.drop ((n : Int).toNat)).length = r.l.length - ((n : Int).toNat) := by first | (simp; done) | (simp; omega)
  refine vl (ptr b) rfl (r_nil rfl) (vl (ptr b 0) rfl (fP 0 rfl U122 (by kernel_rfl)) ?_)
  refine EL_storeA (j := 0) (u := (cutV v ((n : Int).toNat) ((r.l.map byt).length))) rfl rfl (S0.arr 0 rfl) (by first | decide | (simp; omega) | simp) (row_one (H21 _ S0.le)) (by kernel_rfl) ?_
  intro w23 A24 K25 z26
  have S27 := S0.wr0 (ds := [(cutV v ((n : Int).toNat) ((r.l.map byt).length)), .bool r.bad]) K25 A24
  refine EL_nil (thn_n (EC_seq (EC_reg (vM (cutM v 0 ((n : Int).toNat)) rfl rfl (vA (cutM v 0 ((n : Int).toNat)) rfl rfl ?_)))))
  refine EL_nil (thn_n (EC_ret (thn_r ?_)))
  refine jmp_r ?_
  refine fin1 Tryz.results82 (show _ = (cutM v 0 ((n : Int).toNat)) from rfl) ⟨_, rfl, ?_⟩
  have S28 : Sat w23 I (RdP (ptr b) (rdTakeS r n) :: R) := RdP.cls (row_one (H21 _ S27.le)) H21 (by rw [rdTakeS, if_neg (by rw [hs]; decide)]) S27
  exact ⟨(cutM v 0 ((n : Int).toNat)), I, (Gh.le_refl _), rfl, (rob_as H19 (by rw [rdTake, if_neg (by rw [hs]; decide)])), S28⟩
  rintro _ _ E32 w33 (⟨rfl, rfl, e29, e30, hs, S31⟩)
  refine ⟨_, rfl, ?_⟩
  refine EC_seq (EC_skip (thn_n (EC_seq (EC_reg (vM (ptr b) rfl e29 ?_)))))
  refine vl (ptr b) rfl (r_nil rfl) (vl (ptr b 1) rfl (fP 0 rfl U122 (by kernel_rfl)) ?_)
  refine EL_storeA (j := 1) (u := .bool true) rfl rfl (S31.arr 0 rfl) (by first | decide | (simp; omega) | simp) rfl (by kernel_rfl) ?_
  intro w34 A35 K36 z37
  have S38 := S31.wr0 (ds := [v, .bool true]) K36 A35
  refine EL_nil (thn_n (EC_seq (EC_reg (vA (.slice none 0 0) rfl rfl (EL_nil ?_)))))
  refine thn_n (EC_ret ?_)
  refine jmp_r ?_
  refine fin1 Tryz.results82 (show _ = .slice none 0 0 from rfl) ⟨_, rfl, ?_⟩
  have S39 : Sat w34 I (RdP (ptr b) (rdTakeS r n) :: R) := RdP.cls ov H0 (by rw [rdTakeS, if_pos hs]) S38
  exact ⟨(.slice none 0 0), I, (Gh.le_refl _), rfl, (rob_as Ro.nil (by rw [rdTake, if_pos hs])), S39⟩

set_option maxRecDepth 100000 in
set_option maxHeartbeats 4000000 in
theorem get_c (p : Value) (r : Rd) (n : Int) (I : Gh) (R : List HP) (w : World) (S : Sat w I (RdP p r :: R)) (hn : 0 ≤ n ∧ n ≤ 6) : Ret Tryz.prog 81 [p, .int .i64 n] w fun v w' => ∃ J : Gh, Gh.le I J ∧ .int .i64 (rdGet r n) = v ∧ Sat w' J (RdP p (rdTakeS r n) :: R) := by
  refine ret_E Tryz.func81 rfl Tryz.ntmps81 (by simp) ?_
  refine EC_seq (EC_reg (vA (.int .i64 0) rfl rfl (EL_nil (thn_n (EC_seq ?_)))))
  refine EC_reg (vA (.int .i64 0) rfl rfl (EL_nil (thn_n (EC_seq (EC_seq ?_)))))
  refine EC_reg (vM p rfl rfl (vM (.int .i64 n) rfl rfl ?_))
  refine eR rfl F82 rfl (take_c p r n I _ _ S (by first | assumption | omega | (simp; done) | (simp; omega))) ?_
  rintro _ w11 ⟨u13, I14, le15, rfl, H16, S12⟩
  have hml : (rdTake r n).length ≤ n.toNat := rdTake_len (by omega)
  refine vl (.int .i64 ((rdTake r n).length : Int)) rfl (lenB (r_len rfl (H16 _ S12.le) U22)) (vM (.int .i64 0) rfl rfl (EL_nil (thn_n (EC_block ?_))))
  refine EC_loop (fun m' E' w' => ∃ j : Nat, ∃ q : Nat, m' = (rdTake r n).length - j ∧ E' 12 = .int .i64 (j : Int) ∧ E' 5 = .int .i64 (q : Int) ∧ E' 4 = .int .i64 0 ∧ E' 10 = u13 ∧ E' 11 = .int .i64 ((rdTake r n).length : Int) ∧ (j ≤ (rdTake r n).length) ∧ (q + 1 ≤ 256 ^ j) ∧ ((q : Int) = beN ((rdTake r n).take j)) ∧ Sat w' I14 (RdP p (rdTakeS r n) :: R)) _ ⟨0, 0, rfl, rfl, rfl, rfl, rfl, rfl, Nat.zero_le _, (by simp), (by rw [List.take_zero]; rfl), S12⟩ ?_
  rintro _ E17 w18 ⟨j, q, rfl, e19, e20, e21, e22, e23, hj, hq, hb, S24⟩
  refine EC_seq (EC_reg (vl (.bool (decide ((j : Int) < ((rdTake r n).length : Int)))) rfl (r_lss (by exact e19) (by exact e23)) (EL_nil (thn_n (EC_seq ?_)))))
  refine EC_if (p := (j : Int) < ((rdTake r n).length : Int)) rfl (fun h25 => ?_) (fun h25 => ?_)
  refine EC_skip (thn_n (EC_seq (EC_block (EC_seq (EC_reg ?_)))))
  refine vl (.pointer (some (at_ u13 (((j : Int) : Int).toNat)))) rfl (r_index (by exact e22) (H16 _ S24.le) (by exact e19) (by omega) (by first | omega | (simp; omega) | simp) U22 (by kernel_rfl)) ?_
  obtain ⟨b26, hb27⟩ := get_some (l := rdTake r n) (j := ((j : Int) : Int).toNat) (by first | omega | (simp; omega) | simp)
  have hb28 := b26.toNat_lt
  refine vl (.int .u8 (b26.toNat : Int)) rfl (r_load rfl ((H16 _ S24.le).cell (bs_get hb27)) U5 rfl) (vA (.int .u8 (b26.toNat : Int)) rfl rfl (EL_nil (thn_n ?_)))
  have hq2 := Nat.le_trans hq (Nat.pow_le_pow_right (show 0 < 256 by decide) (show j ≤ 5 by omega))
  refine EC_reg (vM (.int .i64 (q : Int)) rfl e20 ?_)
  refine EL_int ((q : Int) * 256) rfl (r_shli (n := 8) rfl rfl rfl (by decide) (by decide) (by omega)) ?_
  intro x29 hx29
  refine vM (.int .u8 (b26.toNat : Int)) rfl rfl (vl (.int .i64 (b26.toNat : Int)) rfl (r_convi 5 3 rfl U5 U3 (by omega)) ?_)
  refine EL_int (x29 + (b26.toNat : Int)) rfl (r_ori q b26.toNat 8 rfl rfl (by omega) (by omega) (by omega) rfl (by omega)) ?_
  intro x30 hx30
  refine vA (.int .i64 x30) rfl rfl (EL_nil (inB_n (thn_n (EC_reg ?_))))
  refine EL_int ((j : Int) + 1) rfl (r_addi (by exact e19) rfl (by omega)) ?_
  intro x31 hx31
  refine vM (.int .i64 x31) rfl rfl (EL_nil (thn_n ?_))
  refine ⟨_, ?_, j + 1, (q * 256 + b26.toNat), rfl, (Eq.trans (show _ = Value.int .i64 x31 from rfl) (congrArg _ (by omega))), (Eq.trans (show _ = Value.int .i64 x30 from rfl) (congrArg _ (by omega))), (by exact e21), (by exact e22), (by exact e23), by omega, (by rw [Nat.pow_succ]; omega), (beN_step hb hb27), S24⟩
  first | omega | (simp; omega)
  refine EC_exit (thn_x (thn_x (inB_hit (thn_n (EC_seq ?_)))))
  refine EC_reg (vM (.int .i64 (q : Int)) rfl e20 (vA (.int .i64 (q : Int)) rfl rfl (EL_nil (thn_n (EC_ret ?_)))))
  refine fin1 Tryz.results81 (show _ = .int .i64 (q : Int) from rfl) ⟨_, rfl, ?_⟩
  exact ⟨I14, le15, (by rw [rdGet, hb, List.take_of_length_le (by omega)]), S24⟩

set_option maxRecDepth 100000 in
set_option maxHeartbeats 4000000 in
theorem Number_c (p : Value) (r : Rd) (lo : Int) (hi : Int) (I : Gh) (R : List HP) (w : World) (S : Sat w I (RdP p r :: R)) : Ret Tryz.prog 84 [p, .int .i64 lo, .int .i64 hi] w fun v w' => ∃ J : Gh, Gh.le I J ∧ .int .i64 (rdNum r lo hi) = v ∧ Sat w' J (RdP p (rdNumS r lo hi) :: R) := by
  obtain ⟨b, rfl⟩ := RdP.ptr S
  refine ret_E Tryz.func84 rfl Tryz.ntmps84 (by simp) ?_
  refine EC_seq (EC_reg (vA (.int .i64 0) rfl rfl (EL_nil (thn_n (EC_seq ?_)))))
  refine EC_reg (vM (ptr b) rfl rfl ?_)
  refine eR rfl F81 rfl (get_c (ptr b) r 6 I _ _ S (by first | assumption | omega | (simp; done) | (simp; omega))) ?_
  rintro _ w11 ⟨I13, le14, rfl, S12⟩
  obtain ⟨v15, o16, H17, S18⟩ := RdP.at S12
  refine vA (.int .i64 (rdGet r 6)) rfl rfl (EL_nil (thn_n (EC_seq (EC_seq (EC_reg ?_)))))
  refine vM (ptr b) rfl rfl (vM (ptr b) rfl rfl (vl (ptr b) rfl (r_nil rfl) (vl (ptr b 1) rfl (fP 0 rfl U122 (by kernel_rfl)) (vL (.bool ((rdTakeS r 6).bad)) rfl rfl (S18.arr 0 rfl) rfl U4 rfl (vM (.bool ((rdTakeS r 6).bad)) rfl rfl ?_)))))
  refine EL_gite 15 rfl rfl rfl (.int .i64 (rdGet r 6)) rfl (fun g19 => r_move rfl) (EL_gite 15 rfl rfl rfl (.int .i64 lo) rfl (fun g20 => r_move rfl) (EL_gite 15 rfl rfl rfl (.bool (decide ((rdGet r 6) < lo))) rfl (fun g21 => r_lss (cond_of g21 rfl) (cond_of g21 rfl)) (vl (.bool (((rdTakeS r 6).bad) || (decide ((rdGet r 6) < lo)))) rfl (r_or rfl rfl rfl) (vM (.bool (((rdTakeS r 6).bad) || (decide ((rdGet r 6) < lo)))) rfl rfl (EL_gite 20 rfl rfl rfl (.int .i64 (rdGet r 6)) rfl (fun g22 => r_move rfl) ?_)))))
  refine EL_gite 20 rfl rfl rfl (.int .i64 hi) rfl (fun g23 => r_move rfl) (EL_gite 20 rfl rfl rfl (.bool (decide (hi < (rdGet r 6)))) rfl (fun g24 => r_gtr (cond_of g24 rfl) (cond_of g24 rfl)) (vl (.bool ((((rdTakeS r 6).bad) || (decide ((rdGet r 6) < lo))) || (decide (hi < (rdGet r 6))))) rfl (r_or rfl rfl rfl) (vl (ptr b) rfl (r_nil rfl) (vl (ptr b 1) rfl (fP 0 rfl U122 (by kernel_rfl)) ?_))))
  refine EL_storeA (j := 1) (u := .bool ((((rdTakeS r 6).bad) || (decide ((rdGet r 6) < lo))) || (decide (hi < (rdGet r 6))))) rfl rfl (S18.arr 0 rfl) (by first | decide | (simp; omega) | simp) rfl (by kernel_rfl) ?_
  intro w25 A26 K27 z28
  have S29 := S18.wr0 (ds := [v15, .bool ((((rdTakeS r 6).bad) || (decide ((rdGet r 6) < lo))) || (decide (hi < (rdGet r 6))))]) K27 A26
  refine EL_nil (thn_n (EC_seq (EC_reg (vM (ptr b) rfl rfl (vl (ptr b) rfl (r_nil rfl) ?_)))))
  refine vl (ptr b 1) rfl (fP 0 rfl U122 (by kernel_rfl)) (vL (.bool ((((rdTakeS r 6).bad) || (decide ((rdGet r 6) < lo))) || (decide (hi < (rdGet r 6))))) rfl rfl (S29.arr 0 rfl) rfl U4 rfl (EL_nil (thn_n ?_)))
  refine EC_cond (t := (((rdTakeS r 6).bad) || (decide ((rdGet r 6) < lo))) || (decide (hi < (rdGet r 6)))) rfl (fun h30 => ?_) (fun h30 => ?_)
  have hbad : (rdMid r 6 lo hi).bad = true := h30
  refine EC_seq (EC_reg (vA (.int .i64 0) rfl rfl (EL_nil (thn_n (EC_ret ?_)))))
  refine thn_r ?_
  refine fin1 Tryz.results84 (show _ = .int .i64 0 from rfl) ⟨_, rfl, ?_⟩
  have S31 : Sat w25 I13 (RdP (ptr b) (rdNumS r lo hi) :: R) := RdP.cls o16 H17 rfl S29
  exact ⟨I13, le14, (by rw [rdNum, if_pos hbad]), S31⟩
  have hbad : (rdMid r 6 lo hi).bad = false := h30
  refine EC_skip (thn_n (EC_seq (EC_reg (vM (.int .i64 (rdGet r 6)) rfl rfl (vA (.int .i64 (rdGet r 6)) rfl rfl ?_)))))
  refine EL_nil (thn_n (EC_ret ?_))
  refine fin1 Tryz.results84 (show _ = .int .i64 (rdGet r 6) from rfl) ⟨_, rfl, ?_⟩
  have S32 : Sat w25 I13 (RdP (ptr b) (rdNumS r lo hi) :: R) := RdP.cls o16 H17 rfl S29
  exact ⟨I13, le14, (by rw [rdNum, if_neg (by rw [hbad]; decide)]), S32⟩

set_option maxRecDepth 100000 in
set_option maxHeartbeats 4000000 in
theorem Text_c (p : Value) (r : Rd) (lo : Int) (hi : Int) (I : Gh) (R : List HP) (w : World) (S : Sat w I (RdP p r :: R)) : Ret Tryz.prog 47 [p, .int .i64 lo, .int .i64 hi] w fun v w' => ∃ u : Value, ∃ J : Gh, Gh.le I J ∧ u = v ∧ RoB J u (rdTxt r lo hi) ∧ Sat w' J (RdP p (rdTxtS r lo hi) :: R) := by
  obtain ⟨b, rfl⟩ := RdP.ptr S
  refine ret_E Tryz.func47 rfl Tryz.ntmps47 (by simp) ?_
  refine EC_seq (EC_reg (vA (.slice none 0 0) rfl rfl (EL_nil (thn_n (EC_seq ?_)))))
  refine EC_reg (vM (ptr b) rfl rfl ?_)
  refine eR rfl F81 rfl (get_c (ptr b) r 2 I _ _ S (by first | assumption | omega | (simp; done) | (simp; omega))) ?_
  rintro _ w11 ⟨I13, le14, rfl, S12⟩
  obtain ⟨v15, o16, H17, S18⟩ := RdP.at S12
  refine vA (.int .i64 (rdGet r 2)) rfl rfl (EL_nil (thn_n (EC_seq (EC_seq (EC_reg ?_)))))
  refine vM (ptr b) rfl rfl (vM (ptr b) rfl rfl (vl (ptr b) rfl (r_nil rfl) (vl (ptr b 1) rfl (fP 0 rfl U122 (by kernel_rfl)) (vL (.bool ((rdTakeS r 2).bad)) rfl rfl (S18.arr 0 rfl) rfl U4 rfl (vM (.bool ((rdTakeS r 2).bad)) rfl rfl ?_)))))
  refine EL_gite 15 rfl rfl rfl (.int .i64 (rdGet r 2)) rfl (fun g19 => r_move rfl) (EL_gite 15 rfl rfl rfl (.int .i64 lo) rfl (fun g20 => r_move rfl) (EL_gite 15 rfl rfl rfl (.bool (decide ((rdGet r 2) < lo))) rfl (fun g21 => r_lss (cond_of g21 rfl) (cond_of g21 rfl)) (vl (.bool (((rdTakeS r 2).bad) || (decide ((rdGet r 2) < lo)))) rfl (r_or rfl rfl rfl) (vM (.bool (((rdTakeS r 2).bad) || (decide ((rdGet r 2) < lo)))) rfl rfl (EL_gite 20 rfl rfl rfl (.int .i64 (rdGet r 2)) rfl (fun g22 => r_move rfl) ?_)))))
  refine EL_gite 20 rfl rfl rfl (.int .i64 hi) rfl (fun g23 => r_move rfl) (EL_gite 20 rfl rfl rfl (.bool (decide (hi < (rdGet r 2)))) rfl (fun g24 => r_gtr (cond_of g24 rfl) (cond_of g24 rfl)) (vl (.bool ((((rdTakeS r 2).bad) || (decide ((rdGet r 2) < lo))) || (decide (hi < (rdGet r 2))))) rfl (r_or rfl rfl rfl) (vl (ptr b) rfl (r_nil rfl) (vl (ptr b 1) rfl (fP 0 rfl U122 (by kernel_rfl)) ?_))))
  refine EL_storeA (j := 1) (u := .bool ((((rdTakeS r 2).bad) || (decide ((rdGet r 2) < lo))) || (decide (hi < (rdGet r 2))))) rfl rfl (S18.arr 0 rfl) (by first | decide | (simp; omega) | simp) rfl (by kernel_rfl) ?_
  intro w25 A26 K27 z28
  have S29 := S18.wr0 (ds := [v15, .bool ((((rdTakeS r 2).bad) || (decide ((rdGet r 2) < lo))) || (decide (hi < (rdGet r 2))))]) K27 A26
  refine EL_nil (thn_n (EC_seq (EC_reg (vM (ptr b) rfl rfl (vl (ptr b) rfl (r_nil rfl) ?_)))))
  refine vl (ptr b 1) rfl (fP 0 rfl U122 (by kernel_rfl)) (vL (.bool ((((rdTakeS r 2).bad) || (decide ((rdGet r 2) < lo))) || (decide (hi < (rdGet r 2))))) rfl rfl (S29.arr 0 rfl) rfl U4 rfl (EL_nil (thn_n ?_)))
  refine EC_cond (t := (((rdTakeS r 2).bad) || (decide ((rdGet r 2) < lo))) || (decide (hi < (rdGet r 2)))) rfl (fun h30 => ?_) (fun h30 => ?_)
  have hbad : (rdMid r 2 lo hi).bad = true := h30
  refine EC_seq (EC_reg (vA (.slice none 0 0) rfl rfl (EL_nil (thn_n (EC_ret ?_)))))
  refine thn_r ?_
  refine fin1 Tryz.results47 (show _ = .slice none 0 0 from rfl) ⟨_, rfl, ?_⟩
  have S31 : Sat w25 I13 (RdP (ptr b) (rdTxtS r lo hi) :: R) := RdP.cls o16 H17 (by rw [rdTxtS, if_pos hbad]; rfl) S29
  exact ⟨(.slice none 0 0), I13, le14, rfl, (rob_as Ro.nil (by rw [rdTxt, if_pos hbad])), S31⟩
  have hbad : (rdMid r 2 lo hi).bad = false := h30
  refine EC_skip (thn_n (EC_seq ?_))
  have S32 : Sat w25 I13 (RdP (ptr b) (rdMid r 2 lo hi) :: R) := RdP.cls o16 H17 rfl S29
  have hg2 := rdGet2 r
  skip
  refine EC_reg (vM (ptr b) rfl rfl (vM (.int .i64 (rdGet r 2)) rfl rfl ?_))
  refine eR rfl F82 rfl (take_c (ptr b) (rdMid r 2 lo hi) (rdGet r 2) I13 _ _ S32 (by first | assumption | omega | (simp; done) | (simp; omega))) ?_
  rintro _ w33 ⟨u35, I36, le37, rfl, H38, S34⟩
  refine vA u35 rfl rfl (EL_nil (thn_n (EC_ret ?_)))
  refine fin1 Tryz.results47 (show _ = u35 from rfl) ⟨_, rfl, ?_⟩
  have q40 : rdTakeS (rdMid r 2 lo hi) (rdGet r 2) = rdTxtS r lo hi := by rw [rdTxtS, if_neg (by rw [hbad]; decide)]
  have S39 := Sat.ah0 (RdP (ptr b)) S34 q40
  exact ⟨u35, I36, (lT le14 le37), rfl, (rob_as H38 (by rw [rdTxt, if_neg (by rw [hbad]; decide)])), S39⟩

set_option maxRecDepth 100000 in
set_option maxHeartbeats 4000000 in
theorem Bad_c (p : Value) (r : Rd) (I : Gh) (R : List HP) (w : World) (S : Sat w I (RdP p r :: R)) : Ret Tryz.prog 85 [p] w fun v w' => .bool r.bad = v ∧ Sat w' I (RdP p r :: R) := by
  obtain ⟨b, v, rfl, ov, H0, S0⟩ := RdP.opn S
  refine ret_E Tryz.func85 rfl Tryz.ntmps85 (by simp) ?_
  refine EC_seq (EC_reg (vA (.bool false) rfl rfl (EL_nil (thn_n (EC_seq ?_)))))
  refine EC_reg (vM (ptr b) rfl rfl (vl (ptr b) rfl (r_nil rfl) (vl (ptr b 1) rfl (fP 0 rfl U122 (by kernel_rfl)) (vL (.bool r.bad) rfl rfl (S0.arr 0 rfl) rfl U4 rfl (vA (.bool r.bad) rfl rfl ?_)))))
  refine EL_nil (thn_n (EC_ret ?_))
  refine fin1 Tryz.results85 (show _ = .bool r.bad from rfl) ⟨_, rfl, ?_⟩
  have S11 : Sat w I (RdP (ptr b) r :: R) := RdP.cls ov H0 rfl S0
  exact ⟨rfl, S11⟩

set_option maxRecDepth 100000 in
set_option maxHeartbeats 4000000 in
theorem End_c (p : Value) (r : Rd) (I : Gh) (R : List HP) (w : World) (S : Sat w I (RdP p r :: R)) : Ret Tryz.prog 49 [p] w fun v w' => .bool (rdEnd r) = v ∧ Sat w' I (RdP p r :: R) := by
  obtain ⟨b, v, rfl, ov, H0, S0⟩ := RdP.opn S
  refine ret_E Tryz.func49 rfl Tryz.ntmps49 (by simp) ?_
  refine EC_seq (EC_reg (vA (.bool false) rfl rfl (EL_nil (thn_n (EC_seq ?_)))))
  refine EC_reg (vM (ptr b) rfl rfl (vl (ptr b) rfl (r_nil rfl) (vl (ptr b 1) rfl (fP 0 rfl U122 (by kernel_rfl)) (vL (.bool r.bad) rfl rfl (S0.arr 0 rfl) rfl U4 rfl (vl (.bool !r.bad) rfl (r_not rfl) ?_)))))
  refine vM (.bool !r.bad) rfl rfl (EL_gite 8 rfl rfl rfl (ptr b) rfl (fun g11 => r_move rfl) (EL_gite 8 rfl rfl rfl (ptr b) rfl (fun g12 => r_nil (cond_of g12 rfl)) (EL_gite 8 rfl rfl rfl (ptr b 0) rfl (fun g13 => fP 0 (cond_of g13 rfl) U122 (by kernel_rfl)) (EL_gite 8 rfl rfl rfl v rfl (fun g14 => r_loadA (cond_of g14 rfl) (S0.arr 0 rfl) (u := v) rfl U22 rfl) (EL_gite 8 rfl rfl rfl (.int .i64 (r.l.length : Int)) rfl (fun g15 => lenB (r_len (cond_of g15 rfl) (H0 _ S0.le) U22)) ?_)))))
  refine EL_gite 8 rfl rfl rfl (.bool (decide ((r.l.length : Int) = 0))) rfl (fun g16 => r_eql (cond_of g16 rfl) rfl) (vl (.bool (!r.bad && (decide ((r.l.length : Int) = 0)))) rfl (r_and rfl rfl rfl) (vA (.bool (!r.bad && (decide ((r.l.length : Int) = 0)))) rfl rfl (EL_nil (thn_n (EC_ret ?_)))))
  refine fin1 Tryz.results49 (show _ = .bool (!r.bad && (decide ((r.l.length : Int) = 0))) from rfl) ⟨_, rfl, ?_⟩
  have S17 : Sat w I (RdP (ptr b) r :: R) := RdP.cls ov H0 rfl S0
  exact ⟨rfl, S17⟩

set_option maxRecDepth 100000 in
set_option maxHeartbeats 4000000 in
theorem Read_c (v0 : Value) (l : List UInt8) (I : Gh) (R : List HP) (w : World) (S : Sat w I (R)) (Q0 : RoB I v0 l) (hl : l.length ≤ 1000000000) : Ret Tryz.prog 46 [v0] w fun v w' => ∃ p : Value, ∃ J : Gh, Gh.le I J ∧ p = v ∧ Sat w' J (RdP p (Rd.mk l false) :: R) := by
  have lq0 := RoB.le Q0 S.le
  refine ret_E Tryz.func46 rfl Tryz.ntmps46 (by simp) ?_
  refine EC_seq (EC_reg (vA (.pointer none) rfl rfl (EL_nil (thn_n (EC_seq ?_)))))
  refine EC_reg (vM v0 rfl rfl ?_)
  have S16 : Sat w I (OwnB (.slice none 0 0) ([] : List UInt8) :: R) := S.nil 5 1
  refine EL_append (v := .slice none 0 0) (xs := ([] : List UInt8).map byt) (ys := l.map byt) 0 elB rfl rfl rfl (own_len (S16.own 0 rfl)) (Q0 _ S16.le) (byt_one _) (by first | (simp only [List.length_map, List.length_nil, List.length_append]; omega) | (simp; done) | (simp; omega)) (by decide) (Nat.zero_le _) ?_
  intro v11 w12 O13 G14 A15
  have S17 := S16.gb0 G14 (own_app O13) A15
  refine vl (.agg ([v11, .bool false]).toArray) rfl (r_buildS (l := [(0, v11)]) st_122 (parts1 rfl) (Eq.trans (show Instr.fill _ _ [(0, v11)] = _ from (fill_one rfl (one_cells (own_one (S17.own 0 rfl))) rfl fill_end)) (by kernel_rfl))) ?_
  refine EL_box [v11, .bool false] rfl rfl rfl ?_
  intro b18 w19 k20 A21 B22 z23
  have S24 := S17.newB B22 A21 k20
  refine vA (ptr b18) rfl rfl (EL_nil (thn_n (EC_ret ?_)))
  refine fin1 Tryz.results46 (show _ = ptr b18 from rfl) ⟨_, rfl, ?_⟩
  obtain ⟨I25, le26, S27, H28⟩ := S24.fb1
  have S29 : Sat w19 I25 (RdP (ptr b18) (Rd.mk l false) :: R) := RdP.cls (row_one (H28 _ S27.le)) H28 (by simp) S27
  exact ⟨(ptr b18), I25, le26, rfl, S29⟩

end Go.Proofs.YtoajodjcmeijgaaGreat
