import Derived.Test.YtoajodjcmeijgaaGreatQSealedPlaysRef09
import Derived.Test.YtoajodjcmeijgaaGreatQSealedPlaysR15
set_option linter.unusedVariables false
set_option linter.unusedSimpArgs false
namespace Go.Proofs.YtoajodjcmeijgaaGreat
open Go.RowKit Go.Ecal

set_option maxRecDepth 100000 in
set_option maxHeartbeats 4000000 in
theorem who9_c (n : Int) (w : World) : Ret Tryz.prog 75 [.int .i64 n] w fun v w' => .bool (within n 1 16) = v ∧ Below w.heap.size w w' := by
  have S := Sat.start w
  refine ret_E Tryz.func75 rfl Tryz.ntmps75 (by simp) ?_
  refine EC_seq (EC_reg (vA (.bool false) rfl rfl (EL_nil (thn_n (EC_seq ?_)))))
  refine EC_reg (vM (.int .i64 n) rfl rfl (vl (.bool (decide (1 ≤ n))) rfl (r_geq rfl rfl) (vM (.bool (decide (1 ≤ n))) rfl rfl (EL_gite 5 rfl rfl rfl (.int .i64 n) rfl (fun g11 => r_move rfl) (EL_gite 5 rfl rfl rfl (.bool (decide (n ≤ 16))) rfl (fun g12 => r_leq (cond_of g12 rfl) rfl) ?_)))))
  refine vl (.bool ((decide (1 ≤ n)) && (decide (n ≤ 16)))) rfl (r_and rfl rfl rfl) (vA (.bool ((decide (1 ≤ n)) && (decide (n ≤ 16)))) rfl rfl (EL_nil (thn_n (EC_ret ?_))))
  refine fin1 Tryz.results75 (show _ = .bool ((decide (1 ≤ n)) && (decide (n ≤ 16))) from rfl) ⟨_, rfl, ?_⟩
  exact ⟨rfl, (Below.refl _ _)⟩

set_option maxRecDepth 100000 in
set_option maxHeartbeats 4000000 in
theorem wraps9_c (v0 : Value) (l : List WrapT) (I : Gh) (R : List HP) (w : World) (S : Sat w I (R)) (Q0 : RoX I v0 wrapR l) : Ret Tryz.prog 76 [v0] w fun v w' => .bool (wrapsOk l) = v ∧ Sat w' I (R) := by
  have lq0 := XRow.le (Q0.row S.le)
  refine ret_E Tryz.func76 rfl Tryz.ntmps76 (by simp) ?_
  refine EC_seq (EC_reg (vA (.bool false) rfl rfl (EL_nil (thn_n (EC_seq ?_)))))
  refine EC_seq (EC_reg (vA (.int .i64 0) rfl rfl (EL_nil (thn_n (EC_block ?_)))))
  refine EC_loop (fun m' E' w' => ∃ j : Nat, m' = l.length - j ∧ E' 3 = .int .i64 (j : Int) ∧ E' 0 = v0 ∧ (j ≤ l.length) ∧ (wrapsGo 0 l = wrapsGo (prevW l j) (l.drop j)) ∧ Sat w' I (R)) _ ⟨0, rfl, rfl, rfl, Nat.zero_le _, (by rw [List.drop_zero]; rfl), S⟩ ?_
  rintro _ E11 w12 ⟨j, rfl, e13, e14, hj, hW, S15⟩
  refine EC_seq (EC_seq (EC_reg (vM (.int .i64 (j : Int)) rfl e13 (vM v0 rfl e14 (vl (.int .i64 (l.length : Int)) rfl (r_lenX rfl (Q0.row S15.le) U49) ?_)))))
  refine vl (.bool (decide ((j : Int) < (l.length : Int)))) rfl (r_lss rfl rfl) (EL_nil (thn_n ?_))
  refine EC_if (p := (j : Int) < (l.length : Int)) rfl (fun h16 => ?_) (fun h16 => ?_)
  refine EC_skip (thn_n (EC_seq (EC_block (EC_seq ?_))))
  obtain ⟨a17, ha18⟩ := get_some (l := l) (j := ((j : Int) : Int).toNat) (by first | omega | (simp; omega) | simp)
  obtain ⟨cs19, hc20, he21⟩ := Q0.el ha18
  obtain ⟨v23, rfl, r22, ⟨o24, H25⟩⟩ := hc20
  rcases first4 (within a17.who 1 16 = true) (a17.box.length = 48) (j ≠ 0) (prevW l j < a17.who) with hc | hc | hc | hc | hc
  refine EC_quietB (by kernel_rfl) (by kernel_rfl) ?_
  refine EQ_val v0 rfl (fun _ hw => r_move (by exact e14)) (EQ_val (.int .i64 (j : Int)) rfl (fun _ hw => r_move (by exact e13)) (EQ_val (ptr (blkOf v0) (offOf v0 + ((j : Int) : Int).toNat * 2)) rfl (fun _ hw => r_indexX rfl (XRow.below (Q0.row S15.le) (hp_below hw)) rfl (by omega) (by first | omega | (simp; omega) | simp) U49 (by kernel_rfl)) (EQ_val (ptr (blkOf v0) (offOf v0 + ((j : Int) : Int).toNat * 2 + 0)) rfl (fun _ hw => r_fieldP (s := 1) rfl U91 rfl (by kernel_rfl) (by decide) rfl) ?_)))
  obtain ⟨cs26, hc27, he28⟩ := Q0.el ha18
  obtain ⟨v30, rfl, r29, ⟨o31, H32⟩⟩ := hc27
  refine EQ_val (.int .i64 a17.who) rfl (fun _ hw => r_loadF (k := 0) rfl (ElAt.below (he28 _ S15.le) (hp_below hw)) rfl U3 rfl) ?_
  refine EQ_call (.bool (within a17.who 1 16)) _ rfl Tryz.func75 rfl nm75 rfl (fun w2 hw => (who9_c a17.who _).mono ?_) ?_
  · rintro _ _ ⟨rfl, B33⟩
    exact ⟨rfl, below_full hw hw.size B33⟩
  refine EQ_val (.bool true) rfl (fun _ hw => r_dec (show (!false) = true from rfl) (r_not (Eq.trans (show _ = Value.bool (within a17.who 1 16) from rfl) (congrArg Value.bool (show (within a17.who 1 16) = false from by simpa using hc))))) (qM (.bool true) rfl rfl (EQ_pass 17 rfl rfl rfl rfl rfl (EQ_pass 17 rfl rfl rfl rfl rfl (EQ_pass 17 rfl rfl rfl rfl rfl (EQ_pass 17 rfl rfl rfl rfl rfl ?_)))))
  refine EQ_pass 17 rfl rfl rfl rfl rfl (EQ_pass 17 rfl rfl rfl rfl rfl (EQ_pass 17 rfl rfl rfl rfl rfl (EQ_val (.bool true) rfl (fun _ hw => r_pickT rfl rfl) (qM (.bool true) rfl rfl (EQ_pass 26 rfl rfl rfl rfl rfl ?_)))))
  refine EQ_pass 26 rfl rfl rfl rfl rfl (EQ_pass 26 rfl rfl rfl rfl rfl (EQ_passU 29 rfl rfl rfl rfl (EQ_passU 29 rfl rfl rfl rfl (EQ_passU 29 rfl rfl rfl rfl (EQ_passU 29 rfl rfl rfl rfl ?_)))))
  refine EQ_passU 29 rfl rfl rfl rfl (EQ_passU 29 rfl rfl rfl rfl (EQ_passU 29 rfl rfl rfl rfl (EQ_passU 29 rfl rfl rfl rfl (EQ_passU 29 rfl rfl rfl rfl (EQ_passU 29 rfl rfl rfl rfl ?_)))))
  refine EQ_passU 29 rfl rfl rfl rfl (EQ_passU 29 rfl rfl rfl rfl (EQ_pass 26 rfl rfl rfl rfl rfl (EQ_val (.bool true) rfl (fun _ hw => r_pickT rfl rfl) ?_)))
  refine EQ_nil ?_
  intro w35 B36
  have S37 := S15.below B36
  refine thn_n ?_
  refine EC_cond_true rfl ?_
  refine EC_seq (EC_reg (vA (.bool false) rfl rfl (EL_nil (thn_n (EC_ret ?_)))))
  refine inB_r (thn_r (thn_r (inB_r (thn_r ?_))))
  refine fin1 Tryz.results76 (show _ = .bool false from rfl) ⟨_, rfl, ?_⟩
  exact ⟨(congrArg Value.bool (wraps_stop (show l[j]? = _ from ha18) hW (.inl (by simpa using hc)))), S37⟩
  refine EC_quietB (by kernel_rfl) (by kernel_rfl) ?_
  refine EQ_val v0 rfl (fun _ hw => r_move (by exact e14)) (EQ_val (.int .i64 (j : Int)) rfl (fun _ hw => r_move (by exact e13)) (EQ_val (ptr (blkOf v0) (offOf v0 + ((j : Int) : Int).toNat * 2)) rfl (fun _ hw => r_indexX rfl (XRow.below (Q0.row S15.le) (hp_below hw)) rfl (by omega) (by first | omega | (simp; omega) | simp) U49 (by kernel_rfl)) (EQ_val (ptr (blkOf v0) (offOf v0 + ((j : Int) : Int).toNat * 2 + 0)) rfl (fun _ hw => r_fieldP (s := 1) rfl U91 rfl (by kernel_rfl) (by decide) rfl) ?_)))
  obtain ⟨cs38, hc39, he40⟩ := Q0.el ha18
  obtain ⟨v42, rfl, r41, ⟨o43, H44⟩⟩ := hc39
  refine EQ_val (.int .i64 a17.who) rfl (fun _ hw => r_loadF (k := 0) rfl (ElAt.below (he40 _ S15.le) (hp_below hw)) rfl U3 rfl) ?_
  refine EQ_call (.bool (within a17.who 1 16)) _ rfl Tryz.func75 rfl nm75 rfl (fun w2 hw => (who9_c a17.who _).mono ?_) ?_
  · rintro _ _ ⟨rfl, B45⟩
    exact ⟨rfl, below_full hw hw.size B45⟩
  refine EQ_val (.bool false) rfl (fun _ hw => r_dec (show (!true) = false from rfl) (r_not (Eq.trans (show _ = Value.bool (within a17.who 1 16) from rfl) (congrArg Value.bool (show (within a17.who 1 16) = true from hc.1))))) (qM (.bool false) rfl rfl (EQ_gval 17 rfl rfl rfl rfl v0 rfl (fun _ hw => r_move (by exact e14)) (EQ_gval 17 rfl rfl rfl rfl (.int .i64 (j : Int)) rfl (fun _ hw => r_move (by exact e13)) (EQ_gval 17 rfl rfl rfl rfl (ptr (blkOf v0) (offOf v0 + ((j : Int) : Int).toNat * 2)) rfl (fun _ hw => r_indexX rfl (XRow.below (Q0.row S15.le) (hp_below hw)) rfl (by omega) (by first | omega | (simp; omega) | simp) U49 (by kernel_rfl)) (EQ_gval 17 rfl rfl rfl rfl (ptr (blkOf v0) (offOf v0 + ((j : Int) : Int).toNat * 2 + 1)) rfl (fun _ hw => r_fieldP (s := 1) rfl U91 rfl (by kernel_rfl) (by decide) rfl) ?_)))))
  obtain ⟨cs47, hc48, he49⟩ := Q0.el ha18
  obtain ⟨v51, rfl, r50, ⟨o52, H53⟩⟩ := hc48
  refine EQ_gval 17 rfl rfl rfl rfl v51 rfl (fun _ hw => r_loadF (k := 1) rfl (ElAt.below (he49 _ S15.le) (hp_below hw)) rfl U22 rfl) (EQ_gval 17 rfl rfl rfl rfl (.int .i64 (a17.box.length : Int)) rfl (fun _ hw => lenB (r_len rfl ((H53 _ S15.le).below hw) U22)) (EQ_gval 17 rfl rfl rfl rfl (.bool true) rfl (fun _ hw => r_dec (show (decide ((a17.box.length : Int) ≠ 48)) = true from by have := hc.2; simp; omega) (r_neq rfl rfl)) (EQ_val (.bool true) rfl (fun _ hw => r_pickF rfl rfl) (qM (.bool true) rfl rfl (EQ_pass 26 rfl rfl rfl rfl rfl ?_)))))
  refine EQ_pass 26 rfl rfl rfl rfl rfl (EQ_pass 26 rfl rfl rfl rfl rfl (EQ_passU 29 rfl rfl rfl rfl (EQ_passU 29 rfl rfl rfl rfl (EQ_passU 29 rfl rfl rfl rfl (EQ_passU 29 rfl rfl rfl rfl ?_)))))
  refine EQ_passU 29 rfl rfl rfl rfl (EQ_passU 29 rfl rfl rfl rfl (EQ_passU 29 rfl rfl rfl rfl (EQ_passU 29 rfl rfl rfl rfl (EQ_passU 29 rfl rfl rfl rfl (EQ_passU 29 rfl rfl rfl rfl ?_)))))
  refine EQ_passU 29 rfl rfl rfl rfl (EQ_passU 29 rfl rfl rfl rfl (EQ_pass 26 rfl rfl rfl rfl rfl (EQ_val (.bool true) rfl (fun _ hw => r_pickT rfl rfl) ?_)))
  refine EQ_nil ?_
  intro w54 B55
  have S56 := S15.below B55
  refine thn_n ?_
  refine EC_cond_true rfl ?_
  refine EC_seq (EC_reg (vA (.bool false) rfl rfl (EL_nil (thn_n (EC_ret ?_)))))
  refine inB_r (thn_r (thn_r (inB_r (thn_r ?_))))
  refine fin1 Tryz.results76 (show _ = .bool false from rfl) ⟨_, rfl, ?_⟩
  exact ⟨(congrArg Value.bool (wraps_stop (show l[j]? = _ from ha18) hW (.inr (.inl hc.2)))), S56⟩
  have hpw : prevW l j < a17.who := by rw [prevW, if_pos (by omega)]; have := within_iff.1 hc.1; omega
  refine EC_quietB (by kernel_rfl) (by kernel_rfl) ?_
  refine EQ_val v0 rfl (fun _ hw => r_move (by exact e14)) (EQ_val (.int .i64 (j : Int)) rfl (fun _ hw => r_move (by exact e13)) (EQ_val (ptr (blkOf v0) (offOf v0 + ((j : Int) : Int).toNat * 2)) rfl (fun _ hw => r_indexX rfl (XRow.below (Q0.row S15.le) (hp_below hw)) rfl (by omega) (by first | omega | (simp; omega) | simp) U49 (by kernel_rfl)) (EQ_val (ptr (blkOf v0) (offOf v0 + ((j : Int) : Int).toNat * 2 + 0)) rfl (fun _ hw => r_fieldP (s := 1) rfl U91 rfl (by kernel_rfl) (by decide) rfl) ?_)))
  obtain ⟨cs57, hc58, he59⟩ := Q0.el ha18
  obtain ⟨v61, rfl, r60, ⟨o62, H63⟩⟩ := hc58
  refine EQ_val (.int .i64 a17.who) rfl (fun _ hw => r_loadF (k := 0) rfl (ElAt.below (he59 _ S15.le) (hp_below hw)) rfl U3 rfl) ?_
  refine EQ_call (.bool (within a17.who 1 16)) _ rfl Tryz.func75 rfl nm75 rfl (fun w2 hw => (who9_c a17.who _).mono ?_) ?_
  · rintro _ _ ⟨rfl, B64⟩
    exact ⟨rfl, below_full hw hw.size B64⟩
  refine EQ_val (.bool false) rfl (fun _ hw => r_dec (show (!true) = false from rfl) (r_not (Eq.trans (show _ = Value.bool (within a17.who 1 16) from rfl) (congrArg Value.bool (show (within a17.who 1 16) = true from hc.1))))) (qM (.bool false) rfl rfl (EQ_gval 17 rfl rfl rfl rfl v0 rfl (fun _ hw => r_move (by exact e14)) (EQ_gval 17 rfl rfl rfl rfl (.int .i64 (j : Int)) rfl (fun _ hw => r_move (by exact e13)) (EQ_gval 17 rfl rfl rfl rfl (ptr (blkOf v0) (offOf v0 + ((j : Int) : Int).toNat * 2)) rfl (fun _ hw => r_indexX rfl (XRow.below (Q0.row S15.le) (hp_below hw)) rfl (by omega) (by first | omega | (simp; omega) | simp) U49 (by kernel_rfl)) (EQ_gval 17 rfl rfl rfl rfl (ptr (blkOf v0) (offOf v0 + ((j : Int) : Int).toNat * 2 + 1)) rfl (fun _ hw => r_fieldP (s := 1) rfl U91 rfl (by kernel_rfl) (by decide) rfl) ?_)))))
  obtain ⟨cs66, hc67, he68⟩ := Q0.el ha18
  obtain ⟨v70, rfl, r69, ⟨o71, H72⟩⟩ := hc67
  refine EQ_gval 17 rfl rfl rfl rfl v70 rfl (fun _ hw => r_loadF (k := 1) rfl (ElAt.below (he68 _ S15.le) (hp_below hw)) rfl U22 rfl) (EQ_gval 17 rfl rfl rfl rfl (.int .i64 (a17.box.length : Int)) rfl (fun _ hw => lenB (r_len rfl ((H72 _ S15.le).below hw) U22)) (EQ_gval 17 rfl rfl rfl rfl (.bool false) rfl (fun _ hw => r_dec (show (decide ((a17.box.length : Int) ≠ 48)) = false from by have := hc.2.1; simp; omega) (r_neq rfl rfl)) (EQ_val (.bool false) rfl (fun _ hw => r_pickF rfl rfl) (qM (.bool false) rfl rfl (EQ_gval 26 rfl rfl rfl rfl (.int .i64 (j : Int)) rfl (fun _ hw => r_move (by exact e13)) ?_)))))
  refine EQ_gval 26 rfl rfl rfl rfl (.bool false) rfl (fun _ hw => r_dec (show (decide (0 < (j : Int))) = false from by simp; omega) (r_gtr rfl rfl)) (EQ_gval 26 rfl rfl rfl rfl (.bool false) rfl (fun _ hw => r_move rfl) (EQ_pass 29 rfl rfl rfl rfl rfl (EQ_pass 29 rfl rfl rfl rfl rfl (EQ_pass 29 rfl rfl rfl rfl rfl (EQ_pass 29 rfl rfl rfl rfl rfl ?_)))))
  refine EQ_pass 29 rfl rfl rfl rfl rfl (EQ_pass 29 rfl rfl rfl rfl rfl (EQ_pass 29 rfl rfl rfl rfl rfl (EQ_pass 29 rfl rfl rfl rfl rfl (EQ_pass 29 rfl rfl rfl rfl rfl (EQ_pass 29 rfl rfl rfl rfl rfl ?_)))))
  refine EQ_pass 29 rfl rfl rfl rfl rfl (EQ_pass 29 rfl rfl rfl rfl rfl (EQ_gval 26 rfl rfl rfl rfl (.bool false) rfl (fun _ hw => r_pickF rfl rfl) (EQ_val (.bool false) rfl (fun _ hw => r_pickF rfl rfl) ?_)))
  refine EQ_nil ?_
  intro w73 B74
  have S75 := S15.below B74
  refine thn_n ?_
  refine EC_cond_false rfl ?_
  refine EC_skip (inB_n (thn_n (EC_reg (vM (.int .i64 (j : Int)) rfl e13 ?_))))
  refine EL_int ((j : Int) + 1) rfl (r_addi rfl rfl (by omega)) ?_
  intro x76 hx76
  refine vA (.int .i64 x76) rfl rfl (EL_nil (thn_n ?_))
  refine ⟨_, ?_, j + 1, rfl, (Eq.trans (show _ = Value.int .i64 x76 from rfl) (congrArg _ (by omega))), (by exact e14), by omega, (wraps_step (show l[j]? = _ from ha18) hW hc.1 hc.2.1 hpw), S75⟩
  first | omega | (simp; omega)
  refine EC_quietB (by kernel_rfl) (by kernel_rfl) ?_
  refine EQ_val v0 rfl (fun _ hw => r_move (by exact e14)) (EQ_val (.int .i64 (j : Int)) rfl (fun _ hw => r_move (by exact e13)) (EQ_val (ptr (blkOf v0) (offOf v0 + ((j : Int) : Int).toNat * 2)) rfl (fun _ hw => r_indexX rfl (XRow.below (Q0.row S15.le) (hp_below hw)) rfl (by omega) (by first | omega | (simp; omega) | simp) U49 (by kernel_rfl)) (EQ_val (ptr (blkOf v0) (offOf v0 + ((j : Int) : Int).toNat * 2 + 0)) rfl (fun _ hw => r_fieldP (s := 1) rfl U91 rfl (by kernel_rfl) (by decide) rfl) ?_)))
  obtain ⟨cs77, hc78, he79⟩ := Q0.el ha18
  obtain ⟨v81, rfl, r80, ⟨o82, H83⟩⟩ := hc78
  refine EQ_val (.int .i64 a17.who) rfl (fun _ hw => r_loadF (k := 0) rfl (ElAt.below (he79 _ S15.le) (hp_below hw)) rfl U3 rfl) ?_
  refine EQ_call (.bool (within a17.who 1 16)) _ rfl Tryz.func75 rfl nm75 rfl (fun w2 hw => (who9_c a17.who _).mono ?_) ?_
  · rintro _ _ ⟨rfl, B84⟩
    exact ⟨rfl, below_full hw hw.size B84⟩
  refine EQ_val (.bool false) rfl (fun _ hw => r_dec (show (!true) = false from rfl) (r_not (Eq.trans (show _ = Value.bool (within a17.who 1 16) from rfl) (congrArg Value.bool (show (within a17.who 1 16) = true from hc.1))))) (qM (.bool false) rfl rfl (EQ_gval 17 rfl rfl rfl rfl v0 rfl (fun _ hw => r_move (by exact e14)) (EQ_gval 17 rfl rfl rfl rfl (.int .i64 (j : Int)) rfl (fun _ hw => r_move (by exact e13)) (EQ_gval 17 rfl rfl rfl rfl (ptr (blkOf v0) (offOf v0 + ((j : Int) : Int).toNat * 2)) rfl (fun _ hw => r_indexX rfl (XRow.below (Q0.row S15.le) (hp_below hw)) rfl (by omega) (by first | omega | (simp; omega) | simp) U49 (by kernel_rfl)) (EQ_gval 17 rfl rfl rfl rfl (ptr (blkOf v0) (offOf v0 + ((j : Int) : Int).toNat * 2 + 1)) rfl (fun _ hw => r_fieldP (s := 1) rfl U91 rfl (by kernel_rfl) (by decide) rfl) ?_)))))
  obtain ⟨cs86, hc87, he88⟩ := Q0.el ha18
  obtain ⟨v90, rfl, r89, ⟨o91, H92⟩⟩ := hc87
  refine EQ_gval 17 rfl rfl rfl rfl v90 rfl (fun _ hw => r_loadF (k := 1) rfl (ElAt.below (he88 _ S15.le) (hp_below hw)) rfl U22 rfl) (EQ_gval 17 rfl rfl rfl rfl (.int .i64 (a17.box.length : Int)) rfl (fun _ hw => lenB (r_len rfl ((H92 _ S15.le).below hw) U22)) (EQ_gval 17 rfl rfl rfl rfl (.bool false) rfl (fun _ hw => r_dec (show (decide ((a17.box.length : Int) ≠ 48)) = false from by have := hc.2.1; simp; omega) (r_neq rfl rfl)) (EQ_val (.bool false) rfl (fun _ hw => r_pickF rfl rfl) (qM (.bool false) rfl rfl (EQ_gval 26 rfl rfl rfl rfl (.int .i64 (j : Int)) rfl (fun _ hw => r_move (by exact e13)) ?_)))))
  refine EQ_gval 26 rfl rfl rfl rfl (.bool true) rfl (fun _ hw => r_dec (show (decide (0 < (j : Int))) = true from by simp; omega) (r_gtr rfl rfl)) (EQ_gval 26 rfl rfl rfl rfl (.bool true) rfl (fun _ hw => r_move rfl) (EQ_gval 29 rfl rfl rfl rfl v0 rfl (fun _ hw => r_move (by exact e14)) (EQ_gval 29 rfl rfl rfl rfl (.int .i64 (j : Int)) rfl (fun _ hw => r_move (by exact e13)) (EQ_gval 29 rfl rfl rfl rfl (ptr (blkOf v0) (offOf v0 + ((j : Int) : Int).toNat * 2)) rfl (fun _ hw => r_indexX rfl (XRow.below (Q0.row S15.le) (hp_below hw)) rfl (by omega) (by first | omega | (simp; omega) | simp) U49 (by kernel_rfl)) (EQ_gval 29 rfl rfl rfl rfl (ptr (blkOf v0) (offOf v0 + ((j : Int) : Int).toNat * 2 + 0)) rfl (fun _ hw => r_fieldP (s := 1) rfl U91 rfl (by kernel_rfl) (by decide) rfl) ?_)))))
  obtain ⟨cs93, hc94, he95⟩ := Q0.el ha18
  obtain ⟨v97, rfl, r96, ⟨o98, H99⟩⟩ := hc94
  refine EQ_gval 29 rfl rfl rfl rfl (.int .i64 a17.who) rfl (fun _ hw => r_loadF (k := 0) rfl (ElAt.below (he95 _ S15.le) (hp_below hw)) rfl U3 rfl) (EQ_gval 29 rfl rfl rfl rfl v0 rfl (fun _ hw => r_move (by exact e14)) (EQ_gval 29 rfl rfl rfl rfl (.int .i64 (j : Int)) rfl (fun _ hw => r_move (by exact e13)) (EQ_gval 29 rfl rfl rfl rfl (.int .i64 ((j : Int) - 1)) rfl (fun _ hw => r_subi rfl rfl (by omega)) (EQ_gval 29 rfl rfl rfl rfl (ptr (blkOf v0) (offOf v0 + ((j : Int) - 1 : Int).toNat * 2)) rfl (fun _ hw => r_indexX rfl (XRow.below (Q0.row S15.le) (hp_below hw)) rfl (by omega) (by first | omega | (simp; omega) | simp) U49 (by kernel_rfl)) (EQ_gval 29 rfl rfl rfl rfl (ptr (blkOf v0) (offOf v0 + ((j : Int) - 1 : Int).toNat * 2 + 0)) rfl (fun _ hw => r_fieldP (s := 1) rfl U91 rfl (by kernel_rfl) (by decide) rfl) ?_)))))
  obtain ⟨a101, ha102⟩ := get_some (l := l) (j := ((j : Int) - 1 : Int).toNat) (by first | omega | (simp; omega) | simp)
  obtain ⟨cs103, hc104, he105⟩ := Q0.el ha102
  obtain ⟨v107, rfl, r106, ⟨o108, H109⟩⟩ := hc104
  refine EQ_gval 29 rfl rfl rfl rfl (.int .i64 a101.who) rfl (fun _ hw => r_loadF (k := 0) rfl (ElAt.below (he105 _ S15.le) (hp_below hw)) rfl U3 rfl) (EQ_gval 29 rfl rfl rfl rfl (.bool true) rfl (fun _ hw => r_dec (show (decide (a17.who ≤ a101.who)) = true from by have hpe := prevW_eq (l := l) (j := j) ha102 hc.2.2.1 (by omega); have := hc.2.2.2; simp; omega) (r_leq rfl rfl)) (EQ_gval 26 rfl rfl rfl rfl (.bool true) rfl (fun _ hw => r_pickT rfl rfl) (EQ_val (.bool true) rfl (fun _ hw => r_pickF rfl rfl) ?_)))
  refine EQ_nil ?_
  intro w110 B111
  have S112 := S15.below B111
  refine thn_n ?_
  refine EC_cond_true rfl ?_
  refine EC_seq (EC_reg (vA (.bool false) rfl rfl (EL_nil (thn_n (EC_ret ?_)))))
  refine inB_r (thn_r (thn_r (inB_r (thn_r ?_))))
  refine fin1 Tryz.results76 (show _ = .bool false from rfl) ⟨_, rfl, ?_⟩
  exact ⟨(congrArg Value.bool (wraps_stop (show l[j]? = _ from ha18) hW (.inr (.inr hc.2.2.2)))), S112⟩
  refine EC_quietB (by kernel_rfl) (by kernel_rfl) ?_
  refine EQ_val v0 rfl (fun _ hw => r_move (by exact e14)) (EQ_val (.int .i64 (j : Int)) rfl (fun _ hw => r_move (by exact e13)) (EQ_val (ptr (blkOf v0) (offOf v0 + ((j : Int) : Int).toNat * 2)) rfl (fun _ hw => r_indexX rfl (XRow.below (Q0.row S15.le) (hp_below hw)) rfl (by omega) (by first | omega | (simp; omega) | simp) U49 (by kernel_rfl)) (EQ_val (ptr (blkOf v0) (offOf v0 + ((j : Int) : Int).toNat * 2 + 0)) rfl (fun _ hw => r_fieldP (s := 1) rfl U91 rfl (by kernel_rfl) (by decide) rfl) ?_)))
  obtain ⟨cs113, hc114, he115⟩ := Q0.el ha18
  obtain ⟨v117, rfl, r116, ⟨o118, H119⟩⟩ := hc114
  refine EQ_val (.int .i64 a17.who) rfl (fun _ hw => r_loadF (k := 0) rfl (ElAt.below (he115 _ S15.le) (hp_below hw)) rfl U3 rfl) ?_
  refine EQ_call (.bool (within a17.who 1 16)) _ rfl Tryz.func75 rfl nm75 rfl (fun w2 hw => (who9_c a17.who _).mono ?_) ?_
  · rintro _ _ ⟨rfl, B120⟩
    exact ⟨rfl, below_full hw hw.size B120⟩
  refine EQ_val (.bool false) rfl (fun _ hw => r_dec (show (!true) = false from rfl) (r_not (Eq.trans (show _ = Value.bool (within a17.who 1 16) from rfl) (congrArg Value.bool (show (within a17.who 1 16) = true from hc.1))))) (qM (.bool false) rfl rfl (EQ_gval 17 rfl rfl rfl rfl v0 rfl (fun _ hw => r_move (by exact e14)) (EQ_gval 17 rfl rfl rfl rfl (.int .i64 (j : Int)) rfl (fun _ hw => r_move (by exact e13)) (EQ_gval 17 rfl rfl rfl rfl (ptr (blkOf v0) (offOf v0 + ((j : Int) : Int).toNat * 2)) rfl (fun _ hw => r_indexX rfl (XRow.below (Q0.row S15.le) (hp_below hw)) rfl (by omega) (by first | omega | (simp; omega) | simp) U49 (by kernel_rfl)) (EQ_gval 17 rfl rfl rfl rfl (ptr (blkOf v0) (offOf v0 + ((j : Int) : Int).toNat * 2 + 1)) rfl (fun _ hw => r_fieldP (s := 1) rfl U91 rfl (by kernel_rfl) (by decide) rfl) ?_)))))
  obtain ⟨cs122, hc123, he124⟩ := Q0.el ha18
  obtain ⟨v126, rfl, r125, ⟨o127, H128⟩⟩ := hc123
  refine EQ_gval 17 rfl rfl rfl rfl v126 rfl (fun _ hw => r_loadF (k := 1) rfl (ElAt.below (he124 _ S15.le) (hp_below hw)) rfl U22 rfl) (EQ_gval 17 rfl rfl rfl rfl (.int .i64 (a17.box.length : Int)) rfl (fun _ hw => lenB (r_len rfl ((H128 _ S15.le).below hw) U22)) (EQ_gval 17 rfl rfl rfl rfl (.bool false) rfl (fun _ hw => r_dec (show (decide ((a17.box.length : Int) ≠ 48)) = false from by have := hc.2.1; simp; omega) (r_neq rfl rfl)) (EQ_val (.bool false) rfl (fun _ hw => r_pickF rfl rfl) (qM (.bool false) rfl rfl (EQ_gval 26 rfl rfl rfl rfl (.int .i64 (j : Int)) rfl (fun _ hw => r_move (by exact e13)) ?_)))))
  refine EQ_gval 26 rfl rfl rfl rfl (.bool true) rfl (fun _ hw => r_dec (show (decide (0 < (j : Int))) = true from by simp; omega) (r_gtr rfl rfl)) (EQ_gval 26 rfl rfl rfl rfl (.bool true) rfl (fun _ hw => r_move rfl) (EQ_gval 29 rfl rfl rfl rfl v0 rfl (fun _ hw => r_move (by exact e14)) (EQ_gval 29 rfl rfl rfl rfl (.int .i64 (j : Int)) rfl (fun _ hw => r_move (by exact e13)) (EQ_gval 29 rfl rfl rfl rfl (ptr (blkOf v0) (offOf v0 + ((j : Int) : Int).toNat * 2)) rfl (fun _ hw => r_indexX rfl (XRow.below (Q0.row S15.le) (hp_below hw)) rfl (by omega) (by first | omega | (simp; omega) | simp) U49 (by kernel_rfl)) (EQ_gval 29 rfl rfl rfl rfl (ptr (blkOf v0) (offOf v0 + ((j : Int) : Int).toNat * 2 + 0)) rfl (fun _ hw => r_fieldP (s := 1) rfl U91 rfl (by kernel_rfl) (by decide) rfl) ?_)))))
  obtain ⟨cs129, hc130, he131⟩ := Q0.el ha18
  obtain ⟨v133, rfl, r132, ⟨o134, H135⟩⟩ := hc130
  refine EQ_gval 29 rfl rfl rfl rfl (.int .i64 a17.who) rfl (fun _ hw => r_loadF (k := 0) rfl (ElAt.below (he131 _ S15.le) (hp_below hw)) rfl U3 rfl) (EQ_gval 29 rfl rfl rfl rfl v0 rfl (fun _ hw => r_move (by exact e14)) (EQ_gval 29 rfl rfl rfl rfl (.int .i64 (j : Int)) rfl (fun _ hw => r_move (by exact e13)) (EQ_gval 29 rfl rfl rfl rfl (.int .i64 ((j : Int) - 1)) rfl (fun _ hw => r_subi rfl rfl (by omega)) (EQ_gval 29 rfl rfl rfl rfl (ptr (blkOf v0) (offOf v0 + ((j : Int) - 1 : Int).toNat * 2)) rfl (fun _ hw => r_indexX rfl (XRow.below (Q0.row S15.le) (hp_below hw)) rfl (by omega) (by first | omega | (simp; omega) | simp) U49 (by kernel_rfl)) (EQ_gval 29 rfl rfl rfl rfl (ptr (blkOf v0) (offOf v0 + ((j : Int) - 1 : Int).toNat * 2 + 0)) rfl (fun _ hw => r_fieldP (s := 1) rfl U91 rfl (by kernel_rfl) (by decide) rfl) ?_)))))
  obtain ⟨a137, ha138⟩ := get_some (l := l) (j := ((j : Int) - 1 : Int).toNat) (by first | omega | (simp; omega) | simp)
  obtain ⟨cs139, hc140, he141⟩ := Q0.el ha138
  obtain ⟨v143, rfl, r142, ⟨o144, H145⟩⟩ := hc140
  refine EQ_gval 29 rfl rfl rfl rfl (.int .i64 a137.who) rfl (fun _ hw => r_loadF (k := 0) rfl (ElAt.below (he141 _ S15.le) (hp_below hw)) rfl U3 rfl) (EQ_gval 29 rfl rfl rfl rfl (.bool false) rfl (fun _ hw => r_dec (show (decide (a17.who ≤ a137.who)) = false from by have hpe := prevW_eq (l := l) (j := j) ha138 hc.2.2.1 (by omega); have := hc.2.2.2; simp; omega) (r_leq rfl rfl)) (EQ_gval 26 rfl rfl rfl rfl (.bool false) rfl (fun _ hw => r_pickT rfl rfl) (EQ_val (.bool false) rfl (fun _ hw => r_pickF rfl rfl) ?_)))
  refine EQ_nil ?_
  intro w146 B147
  have S148 := S15.below B147
  refine thn_n ?_
  refine EC_cond_false rfl ?_
  refine EC_skip (inB_n (thn_n (EC_reg (vM (.int .i64 (j : Int)) rfl e13 ?_))))
  refine EL_int ((j : Int) + 1) rfl (r_addi rfl rfl (by omega)) ?_
  intro x149 hx149
  refine vA (.int .i64 x149) rfl rfl (EL_nil (thn_n ?_))
  refine ⟨_, ?_, j + 1, rfl, (Eq.trans (show _ = Value.int .i64 x149 from rfl) (congrArg _ (by omega))), (by exact e14), by omega, (wraps_step (show l[j]? = _ from ha18) hW hc.1 hc.2.1 hc.2.2.2), S148⟩
  first | omega | (simp; omega)
  refine EC_exit (thn_x (thn_x (inB_hit (thn_n (EC_seq ?_)))))
  refine EC_reg (vM v0 rfl e14 (vl (.int .i64 (l.length : Int)) rfl (r_lenX rfl (Q0.row S15.le) U49) (vl (.bool (decide ((l.length : Int) ≤ 16))) rfl (r_leq rfl rfl) (vA (.bool (decide ((l.length : Int) ≤ 16))) rfl rfl (EL_nil ?_)))))
  refine thn_n (EC_ret ?_)
  refine fin1 Tryz.results76 (show _ = .bool (decide ((l.length : Int) ≤ 16)) from rfl) ⟨_, rfl, ?_⟩
  exact ⟨(congrArg Value.bool (by rw [wrapsOk, hW, List.drop_of_length_le (by omega), wrapsGo, Bool.true_and, decide_eq_decide]; omega)), S15⟩

set_option maxRecDepth 100000 in
set_option maxHeartbeats 4000000 in
theorem Right9_c (ce : List Value) (e : Entry) (I : Gh) (R : List HP) (w : World) (S : Sat w I (R)) (he : entR.r I ce e) : Ret Tryz.prog 37 [.agg ce.toArray] w fun v w' => .bool e.right = v ∧ Sat w' I (R) := by
  obtain ⟨v14, v17, v23, rfl, r11, r12, r13, ⟨o15, H16⟩, ⟨o18, H19⟩, r20, r21, r22, ⟨o24, H25⟩⟩ := he
  refine ret_E Tryz.func37 rfl Tryz.ntmps37 (by simp) ?_
  refine EC_seq (EC_reg ?_)
  refine EL_box (entRC e v14 v17 v23) rfl rfl rfl ?_
  intro b26 w27 k28 A29 B30 z31
  have S32 := S.newB B30 A29 k28
  refine vA (.bool false) rfl rfl (EL_nil (thn_n (EC_seq (EC_seq (EC_reg ?_)))))
  refine vl (ptr b26 1) rfl (fP 0 rfl U51 (by kernel_rfl)) (vL (.int .i64 e.writer) rfl rfl (S32.arr 0 rfl) rfl U3 rfl ?_)
  refine eR rfl F75 rfl (who9_c e.writer _) ?_
  rintro _ w34 ⟨rfl, B33⟩
  have S35 := S32.below B33
  refine vl (.bool (!(within e.writer 1 16))) rfl (r_not rfl) (vM (.bool (!(within e.writer 1 16))) rfl rfl (EL_gite 8 rfl rfl rfl (ptr b26 2) rfl (fun g36 => fP 0 rfl U51 (by kernel_rfl)) (EL_gite 8 rfl rfl rfl (.int .i64 e.seq) rfl (fun g37 => r_loadA (cond_of g37 rfl) (S35.arr 0 rfl) (u := (.int .i64 e.seq)) rfl U3 rfl) (EL_gite 8 rfl rfl rfl (.bool (decide (e.seq < 1))) rfl (fun g38 => r_lss (cond_of g38 rfl) rfl) (vl (.bool ((!(within e.writer 1 16)) || (decide (e.seq < 1)))) rfl (r_or rfl rfl rfl) ?_)))))
  refine vM (.bool ((!(within e.writer 1 16)) || (decide (e.seq < 1)))) rfl rfl (EL_gite 13 rfl rfl rfl (ptr b26 2) rfl (fun g39 => fP 0 rfl U51 (by kernel_rfl)) (EL_gite 13 rfl rfl rfl (.int .i64 e.seq) rfl (fun g40 => r_loadA (cond_of g40 rfl) (S35.arr 0 rfl) (u := (.int .i64 e.seq)) rfl U3 rfl) (EL_gite 13 rfl rfl rfl (.bool (decide (1099511627776 < e.seq))) rfl (fun g41 => r_gtr (cond_of g41 rfl) rfl) (vl (.bool (((!(within e.writer 1 16)) || (decide (e.seq < 1))) || (decide (1099511627776 < e.seq)))) rfl (r_or rfl rfl rfl) (EL_nil ?_)))))
  refine thn_n ?_
  refine EC_cond (t := ((!(within e.writer 1 16)) || (decide (e.seq < 1))) || (decide (1099511627776 < e.seq))) rfl (fun h42 => ?_) (fun h42 => ?_)
  have h37 : e.right = false := c37_no (show c37 e = true from h42)
  refine EC_seq (EC_reg (vA (.bool false) rfl rfl (EL_nil (thn_n (EC_ret ?_)))))
  refine thn_r ?_
  refine fin1 Tryz.results37 (show _ = .bool false from rfl) ⟨_, rfl, ?_⟩
  have S43 := S35.dr0
  exact ⟨(by rw [h37]), S43⟩
  have h37 : c37 e = false := (show c37 e = false from h42)
  refine EC_skip (thn_n (EC_seq (EC_reg (vl (ptr b26 0) rfl (fP 0 rfl U51 (by kernel_rfl)) (vL (.int .i64 e.kind) rfl rfl (S35.arr 0 rfl) rfl U3 rfl ?_)))))
  refine vA (.int .i64 e.kind) rfl rfl (EL_nil (thn_n (EC_seq (EC_seq (EC_reg ?_)))))
  refine vM (.int .i64 e.kind) rfl rfl (vl (.bool (decide (e.kind ≠ 1))) rfl (r_neq rfl rfl) (vM (.bool (decide (e.kind ≠ 1))) rfl rfl (EL_gite 22 rfl rfl rfl (.int .i64 e.kind) rfl (fun g44 => r_move rfl) (EL_gite 22 rfl rfl rfl (.bool (decide (e.kind ≠ 2))) rfl (fun g45 => r_neq (cond_of g45 rfl) rfl) (vl (.bool ((decide (e.kind ≠ 1)) && (decide (e.kind ≠ 2)))) rfl (r_and rfl rfl rfl) ?_)))))
  refine vM (.bool ((decide (e.kind ≠ 1)) && (decide (e.kind ≠ 2)))) rfl rfl (EL_gite 26 rfl rfl rfl (ptr b26 3) rfl (fun g46 => fP 0 rfl U51 (by kernel_rfl)) (EL_gite 26 rfl rfl rfl v14 rfl (fun g47 => r_loadA (cond_of g47 rfl) (S35.arr 0 rfl) (u := v14) rfl U22 rfl) (EL_gite 26 rfl rfl rfl (.int .i64 (e.name.length : Int)) rfl (fun g48 => lenB (r_len (cond_of g48 rfl) (H16 _ S35.le) U22)) (EL_gite 26 rfl rfl rfl (.bool (decide (0 < (e.name.length : Int)))) rfl (fun g49 => r_gtr (cond_of g49 rfl) rfl) (vl (.bool (((decide (e.kind ≠ 1)) && (decide (e.kind ≠ 2))) && (decide (0 < (e.name.length : Int))))) rfl (r_and rfl rfl rfl) ?_)))))
  refine vM (.bool (((decide (e.kind ≠ 1)) && (decide (e.kind ≠ 2))) && (decide (0 < (e.name.length : Int))))) rfl rfl (EL_gite 32 rfl rfl rfl (.int .i64 e.kind) rfl (fun g50 => r_move rfl) (EL_gite 32 rfl rfl rfl (.bool (decide (e.kind ≠ 1))) rfl (fun g51 => r_neq (cond_of g51 rfl) rfl) (EL_gite 32 rfl rfl rfl (.bool (decide (e.kind ≠ 1))) rfl (fun g52 => r_move (cond_of g52 rfl)) ?_)))
  refine EL_gite2 35 rfl rfl rfl (ptr b26 4) rfl (fun g53 => fP 0 rfl U51 (by kernel_rfl)) ?_
  refine EL_gite2 35 rfl rfl rfl v17 rfl (fun g54 => r_loadA (cond_of g54 rfl) (S35.arr 0 rfl) (u := v17) rfl U22 rfl) ?_
  refine EL_gite2 35 rfl rfl rfl (.int .i64 (e.value.length : Int)) rfl (fun g55 => lenB (r_len (cond_of g55 rfl) (H19 _ S35.le) U22)) ?_
  refine EL_gite2 35 rfl rfl rfl (.bool (decide (0 < (e.value.length : Int)))) rfl (fun g56 => r_gtr (cond_of g56 rfl) rfl) ?_
  refine EL_gite 32 rfl rfl rfl (.bool ((decide (e.kind ≠ 1)) && (decide (0 < (e.value.length : Int))))) rfl (fun g57 => r_and (cond_of g57 rfl) (cond_in g57 rfl) rfl) (vl (.bool ((((decide (e.kind ≠ 1)) && (decide (e.kind ≠ 2))) && (decide (0 < (e.name.length : Int)))) || ((decide (e.kind ≠ 1)) && (decide (0 < (e.value.length : Int)))))) rfl (r_or rfl rfl rfl) (vM (.bool ((((decide (e.kind ≠ 1)) && (decide (e.kind ≠ 2))) && (decide (0 < (e.name.length : Int)))) || ((decide (e.kind ≠ 1)) && (decide (0 < (e.value.length : Int)))))) rfl rfl (EL_gite 42 rfl rfl rfl (.int .i64 e.kind) rfl (fun g58 => r_move rfl) (EL_gite 42 rfl rfl rfl (.bool (decide (e.kind ≠ 3))) rfl (fun g59 => r_neq (cond_of g59 rfl) rfl) (EL_gite 42 rfl rfl rfl (.bool (decide (e.kind ≠ 3))) rfl (fun g60 => r_move (cond_of g60 rfl)) ?_)))))
  refine EL_gite2 45 rfl rfl rfl (.int .i64 e.kind) rfl (fun g61 => r_move rfl) ?_
  refine EL_gite2 45 rfl rfl rfl (.bool (decide (e.kind ≠ 4))) rfl (fun g62 => r_neq (cond_of g62 rfl) rfl) ?_
  refine EL_gite 42 rfl rfl rfl (.bool ((decide (e.kind ≠ 3)) && (decide (e.kind ≠ 4)))) rfl (fun g63 => r_and (cond_of g63 rfl) (cond_in g63 rfl) rfl) (EL_gite 42 rfl rfl rfl (.bool ((decide (e.kind ≠ 3)) && (decide (e.kind ≠ 4)))) rfl (fun g64 => r_move (cond_of g64 rfl)) ?_)
  refine EL_gite2 49 rfl rfl rfl (ptr b26 5) rfl (fun g65 => fP 0 rfl U51 (by kernel_rfl)) ?_
  refine EL_gite2 49 rfl rfl rfl (.int .i64 e.who) rfl (fun g66 => r_loadA (cond_of g66 rfl) (S35.arr 0 rfl) (u := (.int .i64 e.who)) rfl U3 rfl) ?_
  refine EL_gite2 49 rfl rfl rfl (.bool (decide (e.who ≠ 0))) rfl (fun g67 => r_neq (cond_of g67 rfl) rfl) ?_
  refine EL_gite 42 rfl rfl rfl (.bool (((decide (e.kind ≠ 3)) && (decide (e.kind ≠ 4))) && (decide (e.who ≠ 0)))) rfl (fun g68 => r_and (cond_of g68 rfl) (cond_in g68 rfl) rfl) (vl (.bool (((((decide (e.kind ≠ 1)) && (decide (e.kind ≠ 2))) && (decide (0 < (e.name.length : Int)))) || ((decide (e.kind ≠ 1)) && (decide (0 < (e.value.length : Int))))) || (((decide (e.kind ≠ 3)) && (decide (e.kind ≠ 4))) && (decide (e.who ≠ 0))))) rfl (r_or rfl rfl rfl) (vM (.bool (((((decide (e.kind ≠ 1)) && (decide (e.kind ≠ 2))) && (decide (0 < (e.name.length : Int)))) || ((decide (e.kind ≠ 1)) && (decide (0 < (e.value.length : Int))))) || (((decide (e.kind ≠ 3)) && (decide (e.kind ≠ 4))) && (decide (e.who ≠ 0))))) rfl rfl (EL_gite 55 rfl rfl rfl (.int .i64 e.kind) rfl (fun g69 => r_move rfl) (EL_gite 55 rfl rfl rfl (.bool (decide (e.kind ≠ 3))) rfl (fun g70 => r_neq (cond_of g70 rfl) rfl) (EL_gite 55 rfl rfl rfl (.bool (decide (e.kind ≠ 3))) rfl (fun g71 => r_move (cond_of g71 rfl)) ?_)))))
  refine EL_gite2 58 rfl rfl rfl (ptr b26 6) rfl (fun g72 => fP 0 rfl U51 (by kernel_rfl)) ?_
  refine EL_gite2 58 rfl rfl rfl (.int .i64 e.rights) rfl (fun g73 => r_loadA (cond_of g73 rfl) (S35.arr 0 rfl) (u := (.int .i64 e.rights)) rfl U3 rfl) ?_
  refine EL_gite2 58 rfl rfl rfl (.bool (decide (e.rights ≠ 0))) rfl (fun g74 => r_neq (cond_of g74 rfl) rfl) ?_
  refine EL_gite 55 rfl rfl rfl (.bool ((decide (e.kind ≠ 3)) && (decide (e.rights ≠ 0)))) rfl (fun g75 => r_and (cond_of g75 rfl) (cond_in g75 rfl) rfl) (vl (.bool ((((((decide (e.kind ≠ 1)) && (decide (e.kind ≠ 2))) && (decide (0 < (e.name.length : Int)))) || ((decide (e.kind ≠ 1)) && (decide (0 < (e.value.length : Int))))) || (((decide (e.kind ≠ 3)) && (decide (e.kind ≠ 4))) && (decide (e.who ≠ 0)))) || ((decide (e.kind ≠ 3)) && (decide (e.rights ≠ 0))))) rfl (r_or rfl rfl rfl) (vM (.bool ((((((decide (e.kind ≠ 1)) && (decide (e.kind ≠ 2))) && (decide (0 < (e.name.length : Int)))) || ((decide (e.kind ≠ 1)) && (decide (0 < (e.value.length : Int))))) || (((decide (e.kind ≠ 3)) && (decide (e.kind ≠ 4))) && (decide (e.who ≠ 0)))) || ((decide (e.kind ≠ 3)) && (decide (e.rights ≠ 0))))) rfl rfl (EL_gite 64 rfl rfl rfl (.int .i64 e.kind) rfl (fun g76 => r_move rfl) (EL_gite 64 rfl rfl rfl (.bool (decide (e.kind ≠ 5))) rfl (fun g77 => r_neq (cond_of g77 rfl) rfl) (EL_gite 64 rfl rfl rfl (.bool (decide (e.kind ≠ 5))) rfl (fun g78 => r_move (cond_of g78 rfl)) ?_)))))
  refine EL_gite2 67 rfl rfl rfl (ptr b26 7) rfl (fun g79 => fP 0 rfl U51 (by kernel_rfl)) ?_
  refine EL_gite2 67 rfl rfl rfl (.int .i64 e.epoch) rfl (fun g80 => r_loadA (cond_of g80 rfl) (S35.arr 0 rfl) (u := (.int .i64 e.epoch)) rfl U3 rfl) ?_
  refine EL_gite2 67 rfl rfl rfl (.bool (decide (e.epoch ≠ 0))) rfl (fun g81 => r_neq (cond_of g81 rfl) rfl) ?_
  refine EL_gite2 67 rfl rfl rfl (.bool (decide (e.epoch ≠ 0))) rfl (fun g82 => r_move (cond_of g82 rfl)) ?_
  refine EL_gite2 71 rfl rfl rfl (ptr b26 8) rfl (fun g83 => fP 0 rfl U51 (by kernel_rfl)) ?_
  refine EL_gite2 71 rfl rfl rfl v23 rfl (fun g84 => r_loadA (cond_of g84 rfl) (S35.arr 0 rfl) (u := v23) rfl U49 rfl) ?_
  refine EL_gite2 71 rfl rfl rfl (.int .i64 (e.wraps.length : Int)) rfl (fun g85 => r_lenX (cond_of g85 rfl) (H25.row S35.le) U49) ?_
  refine EL_gite2 71 rfl rfl rfl (.bool (decide (0 < (e.wraps.length : Int)))) rfl (fun g86 => r_gtr (cond_of g86 rfl) rfl) ?_
  refine EL_gite2 67 rfl rfl rfl (.bool ((decide (e.epoch ≠ 0)) || (decide (0 < (e.wraps.length : Int))))) rfl (fun g87 => r_or (cond_of g87 rfl) rfl (cond_in g87 rfl)) ?_
  refine EL_gite 64 rfl rfl rfl (.bool ((decide (e.kind ≠ 5)) && ((decide (e.epoch ≠ 0)) || (decide (0 < (e.wraps.length : Int)))))) rfl (fun g88 => r_and (cond_of g88 rfl) (cond_in g88 rfl) rfl) (vl (.bool (((((((decide (e.kind ≠ 1)) && (decide (e.kind ≠ 2))) && (decide (0 < (e.name.length : Int)))) || ((decide (e.kind ≠ 1)) && (decide (0 < (e.value.length : Int))))) || (((decide (e.kind ≠ 3)) && (decide (e.kind ≠ 4))) && (decide (e.who ≠ 0)))) || ((decide (e.kind ≠ 3)) && (decide (e.rights ≠ 0)))) || ((decide (e.kind ≠ 5)) && ((decide (e.epoch ≠ 0)) || (decide (0 < (e.wraps.length : Int))))))) rfl (r_or rfl rfl rfl) (EL_nil (thn_n ?_)))
  refine EC_cond (t := ((((((decide (e.kind ≠ 1)) && (decide (e.kind ≠ 2))) && (decide (0 < (e.name.length : Int)))) || ((decide (e.kind ≠ 1)) && (decide (0 < (e.value.length : Int))))) || (((decide (e.kind ≠ 3)) && (decide (e.kind ≠ 4))) && (decide (e.who ≠ 0)))) || ((decide (e.kind ≠ 3)) && (decide (e.rights ≠ 0)))) || ((decide (e.kind ≠ 5)) && ((decide (e.epoch ≠ 0)) || (decide (0 < (e.wraps.length : Int)))))) rfl (fun h89 => ?_) (fun h89 => ?_)
  have h41 : e.right = false := c41_no (show c41 e = true from h89)
  refine EC_seq (EC_reg (vA (.bool false) rfl rfl (EL_nil (thn_n (EC_ret ?_)))))
  refine thn_r ?_
  refine fin1 Tryz.results37 (show _ = .bool false from rfl) ⟨_, rfl, ?_⟩
  have S90 := S35.dr0
  exact ⟨(by rw [h41]), S90⟩
  have h41 : c41 e = false := (show c41 e = false from h89)
  refine EC_skip (thn_n (EC_seq (EC_seq ?_)))
  rcases (by omega : e.kind = 1 ∨ e.kind = 2 ∨ e.kind = 3 ∨ e.kind = 4 ∨ e.kind = 5 ∨ (¬ e.kind = 1 ∧ ¬ e.kind = 2 ∧ ¬ e.kind = 3 ∧ ¬ e.kind = 4 ∧ ¬ e.kind = 5)) with hk | hk | hk | hk | hk | hk
  refine EC_reg (vM (.int .i64 e.kind) rfl rfl (EL_nil (thn_n (EC_block (EC_seq ?_)))))
  refine EC_seq (EC_reg (vl (.bool true) rfl (r_dec (show (decide (e.kind = 1)) = true from by rw [decide_eq_true_eq]; omega) (r_eql rfl rfl)) (vA (.bool true) rfl rfl (EL_nil (thn_n ?_)))))
  refine EC_cond_true rfl ?_
  refine EC_skip (thn_n ?_)
  refine EC_cond_true rfl ?_
  refine EC_seq (EC_reg (vl (ptr b26 3) rfl (fP 0 rfl U51 (by kernel_rfl)) (vL v14 rfl rfl (S35.arr 0 rfl) rfl U22 rfl (vl (.int .i64 (e.name.length : Int)) rfl (lenB (r_len rfl (H16 _ S35.le) U22)) (vl (.bool (decide (1 ≤ (e.name.length : Int)))) rfl (r_geq rfl rfl) ?_)))))
  refine vM (.bool (decide (1 ≤ (e.name.length : Int)))) rfl rfl (EL_gite 87 rfl rfl rfl (ptr b26 3) rfl (fun g91 => fP 0 rfl U51 (by kernel_rfl)) (EL_gite 87 rfl rfl rfl v14 rfl (fun g92 => r_loadA (cond_of g92 rfl) (S35.arr 0 rfl) (u := v14) rfl U22 rfl) (EL_gite 87 rfl rfl rfl (.int .i64 (e.name.length : Int)) rfl (fun g93 => lenB (r_len (cond_of g93 rfl) (H16 _ S35.le) U22)) (EL_gite 87 rfl rfl rfl (.bool (decide ((e.name.length : Int) ≤ 64))) rfl (fun g94 => r_leq (cond_of g94 rfl) rfl) (vl (.bool ((decide (1 ≤ (e.name.length : Int))) && (decide ((e.name.length : Int) ≤ 64)))) rfl (r_and rfl rfl rfl) ?_)))))
  refine vM (.bool ((decide (1 ≤ (e.name.length : Int))) && (decide ((e.name.length : Int) ≤ 64)))) rfl rfl (EL_gite 93 rfl rfl rfl (ptr b26 4) rfl (fun g95 => fP 0 rfl U51 (by kernel_rfl)) (EL_gite 93 rfl rfl rfl v17 rfl (fun g96 => r_loadA (cond_of g96 rfl) (S35.arr 0 rfl) (u := v17) rfl U22 rfl) (EL_gite 93 rfl rfl rfl (.int .i64 (e.value.length : Int)) rfl (fun g97 => lenB (r_len (cond_of g97 rfl) (H19 _ S35.le) U22)) (EL_gite 93 rfl rfl rfl (.bool (decide ((e.value.length : Int) ≤ 512))) rfl (fun g98 => r_leq (cond_of g98 rfl) rfl) (vl (.bool (((decide (1 ≤ (e.name.length : Int))) && (decide ((e.name.length : Int) ≤ 64))) && (decide ((e.value.length : Int) ≤ 512)))) rfl (r_and rfl rfl rfl) ?_)))))
  refine vA (.bool (((decide (1 ≤ (e.name.length : Int))) && (decide ((e.name.length : Int) ≤ 64))) && (decide ((e.value.length : Int) ≤ 512)))) rfl rfl (EL_nil (thn_n (EC_ret (inB_r (thn_r ?_)))))
  refine fin1 Tryz.results37 (show _ = .bool (((decide (1 ≤ (e.name.length : Int))) && (decide ((e.name.length : Int) ≤ 64))) && (decide ((e.value.length : Int) ≤ 512))) from rfl) ⟨_, rfl, ?_⟩
  have S99 := S35.dr0
  exact ⟨(congrArg Value.bool (by rw [c37_yes h37 h41, show within e.kind 1 5 = true from by simp [within]; omega, Entry.body, if_pos (.inl hk)]; simp [within, Bool.and_assoc])), S99⟩
  refine EC_reg (vM (.int .i64 e.kind) rfl rfl (EL_nil (thn_n (EC_block (EC_seq ?_)))))
  refine EC_seq (EC_reg (vl (.bool false) rfl (r_dec (show (decide (e.kind = 1)) = false from by rw [decide_eq_false_iff_not]; omega) (r_eql rfl rfl)) (vA (.bool false) rfl rfl (EL_nil (thn_n ?_)))))
  refine EC_cond_false rfl ?_
  refine EC_reg (vl (.bool true) rfl (r_dec (show (decide (e.kind = 2)) = true from by rw [decide_eq_true_eq]; omega) (r_eql rfl rfl)) (vA (.bool true) rfl rfl (EL_nil (thn_n ?_))))
  refine EC_cond_true rfl ?_
  refine EC_seq (EC_reg (vl (ptr b26 3) rfl (fP 0 rfl U51 (by kernel_rfl)) (vL v14 rfl rfl (S35.arr 0 rfl) rfl U22 rfl (vl (.int .i64 (e.name.length : Int)) rfl (lenB (r_len rfl (H16 _ S35.le) U22)) (vl (.bool (decide (1 ≤ (e.name.length : Int)))) rfl (r_geq rfl rfl) ?_)))))
  refine vM (.bool (decide (1 ≤ (e.name.length : Int)))) rfl rfl (EL_gite 87 rfl rfl rfl (ptr b26 3) rfl (fun g100 => fP 0 rfl U51 (by kernel_rfl)) (EL_gite 87 rfl rfl rfl v14 rfl (fun g101 => r_loadA (cond_of g101 rfl) (S35.arr 0 rfl) (u := v14) rfl U22 rfl) (EL_gite 87 rfl rfl rfl (.int .i64 (e.name.length : Int)) rfl (fun g102 => lenB (r_len (cond_of g102 rfl) (H16 _ S35.le) U22)) (EL_gite 87 rfl rfl rfl (.bool (decide ((e.name.length : Int) ≤ 64))) rfl (fun g103 => r_leq (cond_of g103 rfl) rfl) (vl (.bool ((decide (1 ≤ (e.name.length : Int))) && (decide ((e.name.length : Int) ≤ 64)))) rfl (r_and rfl rfl rfl) ?_)))))
  refine vM (.bool ((decide (1 ≤ (e.name.length : Int))) && (decide ((e.name.length : Int) ≤ 64)))) rfl rfl (EL_gite 93 rfl rfl rfl (ptr b26 4) rfl (fun g104 => fP 0 rfl U51 (by kernel_rfl)) (EL_gite 93 rfl rfl rfl v17 rfl (fun g105 => r_loadA (cond_of g105 rfl) (S35.arr 0 rfl) (u := v17) rfl U22 rfl) (EL_gite 93 rfl rfl rfl (.int .i64 (e.value.length : Int)) rfl (fun g106 => lenB (r_len (cond_of g106 rfl) (H19 _ S35.le) U22)) (EL_gite 93 rfl rfl rfl (.bool (decide ((e.value.length : Int) ≤ 512))) rfl (fun g107 => r_leq (cond_of g107 rfl) rfl) (vl (.bool (((decide (1 ≤ (e.name.length : Int))) && (decide ((e.name.length : Int) ≤ 64))) && (decide ((e.value.length : Int) ≤ 512)))) rfl (r_and rfl rfl rfl) ?_)))))
  refine vA (.bool (((decide (1 ≤ (e.name.length : Int))) && (decide ((e.name.length : Int) ≤ 64))) && (decide ((e.value.length : Int) ≤ 512)))) rfl rfl (EL_nil (thn_n (EC_ret (inB_r (thn_r ?_)))))
  refine fin1 Tryz.results37 (show _ = .bool (((decide (1 ≤ (e.name.length : Int))) && (decide ((e.name.length : Int) ≤ 64))) && (decide ((e.value.length : Int) ≤ 512))) from rfl) ⟨_, rfl, ?_⟩
  have S108 := S35.dr0
  exact ⟨(congrArg Value.bool (by rw [c37_yes h37 h41, show within e.kind 1 5 = true from by simp [within]; omega, Entry.body, if_pos (.inr hk)]; simp [within, Bool.and_assoc])), S108⟩
  refine EC_reg (vM (.int .i64 e.kind) rfl rfl (EL_nil (thn_n (EC_block (EC_seq ?_)))))
  refine EC_seq (EC_reg (vl (.bool false) rfl (r_dec (show (decide (e.kind = 1)) = false from by rw [decide_eq_false_iff_not]; omega) (r_eql rfl rfl)) (vA (.bool false) rfl rfl (EL_nil (thn_n ?_)))))
  refine EC_cond_false rfl ?_
  refine EC_reg (vl (.bool false) rfl (r_dec (show (decide (e.kind = 2)) = false from by rw [decide_eq_false_iff_not]; omega) (r_eql rfl rfl)) (vA (.bool false) rfl rfl (EL_nil (thn_n ?_))))
  refine EC_cond_false rfl ?_
  refine EC_seq (EC_reg (vl (.bool true) rfl (r_dec (show (decide (e.kind = 3)) = true from by rw [decide_eq_true_eq]; omega) (r_eql rfl rfl)) (vA (.bool true) rfl rfl (EL_nil (thn_n ?_)))))
  refine EC_cond_true rfl ?_
  refine EC_seq (EC_reg (vl (ptr b26 5) rfl (fP 0 rfl U51 (by kernel_rfl)) (vL (.int .i64 e.who) rfl rfl (S35.arr 0 rfl) rfl U3 rfl ?_)))
  refine eR rfl F75 rfl (who9_c e.who _) ?_
  rintro _ w110 ⟨rfl, B109⟩
  have S111 := S35.below B109
  refine vM (.bool (within e.who 1 16)) rfl rfl (EL_gite 104 rfl rfl rfl (ptr b26 6) rfl (fun g112 => fP 0 rfl U51 (by kernel_rfl)) (EL_gite 104 rfl rfl rfl (.int .i64 e.rights) rfl (fun g113 => r_loadA (cond_of g113 rfl) (S111.arr 0 rfl) (u := (.int .i64 e.rights)) rfl U3 rfl) (EL_gite 104 rfl rfl rfl (.bool (decide (1 ≤ e.rights))) rfl (fun g114 => r_geq (cond_of g114 rfl) rfl) (vl (.bool ((within e.who 1 16) && (decide (1 ≤ e.rights)))) rfl (r_and rfl rfl rfl) (vM (.bool ((within e.who 1 16) && (decide (1 ≤ e.rights)))) rfl rfl ?_)))))
  refine EL_gite 109 rfl rfl rfl (ptr b26 6) rfl (fun g115 => fP 0 rfl U51 (by kernel_rfl)) (EL_gite 109 rfl rfl rfl (.int .i64 e.rights) rfl (fun g116 => r_loadA (cond_of g116 rfl) (S111.arr 0 rfl) (u := (.int .i64 e.rights)) rfl U3 rfl) (EL_gite 109 rfl rfl rfl (.bool (decide (e.rights ≤ 7))) rfl (fun g117 => r_leq (cond_of g117 rfl) rfl) (vl (.bool (((within e.who 1 16) && (decide (1 ≤ e.rights))) && (decide (e.rights ≤ 7)))) rfl (r_and rfl rfl rfl) (vA (.bool (((within e.who 1 16) && (decide (1 ≤ e.rights))) && (decide (e.rights ≤ 7)))) rfl rfl (EL_nil ?_)))))
  refine thn_n (EC_ret (inB_r (thn_r ?_)))
  refine fin1 Tryz.results37 (show _ = .bool (((within e.who 1 16) && (decide (1 ≤ e.rights))) && (decide (e.rights ≤ 7))) from rfl) ⟨_, rfl, ?_⟩
  have S118 := S111.dr0
  exact ⟨(congrArg Value.bool (by rw [c37_yes h37 h41, show within e.kind 1 5 = true from by simp [within]; omega, Entry.body, if_neg (by omega), if_pos hk]; simp [within, Bool.and_assoc])), S118⟩
  refine EC_reg (vM (.int .i64 e.kind) rfl rfl (EL_nil (thn_n (EC_block (EC_seq ?_)))))
  refine EC_seq (EC_reg (vl (.bool false) rfl (r_dec (show (decide (e.kind = 1)) = false from by rw [decide_eq_false_iff_not]; omega) (r_eql rfl rfl)) (vA (.bool false) rfl rfl (EL_nil (thn_n ?_)))))
  refine EC_cond_false rfl ?_
  refine EC_reg (vl (.bool false) rfl (r_dec (show (decide (e.kind = 2)) = false from by rw [decide_eq_false_iff_not]; omega) (r_eql rfl rfl)) (vA (.bool false) rfl rfl (EL_nil (thn_n ?_))))
  refine EC_cond_false rfl ?_
  refine EC_seq (EC_reg (vl (.bool false) rfl (r_dec (show (decide (e.kind = 3)) = false from by rw [decide_eq_false_iff_not]; omega) (r_eql rfl rfl)) (vA (.bool false) rfl rfl (EL_nil (thn_n ?_)))))
  refine EC_cond_false rfl ?_
  refine EC_seq (EC_reg (vl (.bool true) rfl (r_dec (show (decide (e.kind = 4)) = true from by rw [decide_eq_true_eq]; omega) (r_eql rfl rfl)) (vA (.bool true) rfl rfl (EL_nil (thn_n ?_)))))
  refine EC_cond_true rfl ?_
  refine EC_seq (EC_reg (vl (ptr b26 5) rfl (fP 0 rfl U51 (by kernel_rfl)) (vL (.int .i64 e.who) rfl rfl (S35.arr 0 rfl) rfl U3 rfl ?_)))
  refine eR rfl F75 rfl (who9_c e.who _) ?_
  rintro _ w120 ⟨rfl, B119⟩
  have S121 := S35.below B119
  refine vA (.bool (within e.who 1 16)) rfl rfl (EL_nil (thn_n (EC_ret (inB_r (thn_r ?_)))))
  refine fin1 Tryz.results37 (show _ = .bool (within e.who 1 16) from rfl) ⟨_, rfl, ?_⟩
  have S122 := S121.dr0
  exact ⟨(congrArg Value.bool (by rw [c37_yes h37 h41, show within e.kind 1 5 = true from by simp [within]; omega, Entry.body, if_neg (by omega), if_neg (by omega), if_pos hk]; simp [within, Bool.and_assoc])), S122⟩
  refine EC_reg (vM (.int .i64 e.kind) rfl rfl (EL_nil (thn_n (EC_block (EC_seq ?_)))))
  refine EC_seq (EC_reg (vl (.bool false) rfl (r_dec (show (decide (e.kind = 1)) = false from by rw [decide_eq_false_iff_not]; omega) (r_eql rfl rfl)) (vA (.bool false) rfl rfl (EL_nil (thn_n ?_)))))
  refine EC_cond_false rfl ?_
  refine EC_reg (vl (.bool false) rfl (r_dec (show (decide (e.kind = 2)) = false from by rw [decide_eq_false_iff_not]; omega) (r_eql rfl rfl)) (vA (.bool false) rfl rfl (EL_nil (thn_n ?_))))
  refine EC_cond_false rfl ?_
  refine EC_seq (EC_reg (vl (.bool false) rfl (r_dec (show (decide (e.kind = 3)) = false from by rw [decide_eq_false_iff_not]; omega) (r_eql rfl rfl)) (vA (.bool false) rfl rfl (EL_nil (thn_n ?_)))))
  refine EC_cond_false rfl ?_
  refine EC_seq (EC_reg (vl (.bool false) rfl (r_dec (show (decide (e.kind = 4)) = false from by rw [decide_eq_false_iff_not]; omega) (r_eql rfl rfl)) (vA (.bool false) rfl rfl (EL_nil (thn_n ?_)))))
  refine EC_cond_false rfl ?_
  refine EC_seq (EC_reg (vl (.bool true) rfl (r_dec (show (decide (e.kind = 5)) = true from by rw [decide_eq_true_eq]; omega) (r_eql rfl rfl)) (vA (.bool true) rfl rfl (EL_nil (thn_n ?_)))))
  refine EC_cond_true rfl ?_
  refine EC_seq ?_
  rcases (by cases (decide (1 ≤ e.epoch) && decide (e.epoch ≤ 16)) <;> simp : (decide (1 ≤ e.epoch) && decide (e.epoch ≤ 16)) = true ∨ (decide (1 ≤ e.epoch) && decide (e.epoch ≤ 16)) = false) with hd | hd
  refine EC_reg (vl (ptr b26 7) rfl (fP 0 rfl U51 (by kernel_rfl)) (vL (.int .i64 e.epoch) rfl rfl (S35.arr 0 rfl) rfl U3 rfl (vl (.bool (decide (1 ≤ e.epoch))) rfl (r_geq rfl rfl) (vM (.bool (decide (1 ≤ e.epoch))) rfl rfl (EL_gite 124 rfl rfl rfl (ptr b26 7) rfl (fun g123 => fP 0 rfl U51 (by kernel_rfl)) ?_)))))
  refine EL_gite 124 rfl rfl rfl (.int .i64 e.epoch) rfl (fun g124 => r_loadA (cond_of g124 rfl) (S35.arr 0 rfl) (u := (.int .i64 e.epoch)) rfl U3 rfl) (EL_gite 124 rfl rfl rfl (.bool (decide (e.epoch ≤ 16))) rfl (fun g125 => r_leq (cond_of g125 rfl) rfl) (vl (.bool true) rfl (r_dec (show ((decide (1 ≤ e.epoch)) && (decide (e.epoch ≤ 16))) = true from hd) (r_and rfl rfl rfl)) (vM (.bool true) rfl rfl (gl  129 rfl rfl rfl rfl (ptr b26 8) rfl (fP 0 rfl U51 (by kernel_rfl)) ?_))))
  refine gL  129 rfl rfl rfl rfl v23 rfl rfl (S35.arr 0 rfl) rfl U49 rfl ?_
  refine eG 129 rfl rfl rfl rfl rfl F76 rfl (wraps9_c v23 e.wraps I _ _ S35 H25) ?_
  rintro _ w126 ⟨rfl, S127⟩
  refine vT (.bool (wrapsOk e.wraps)) rfl rfl rfl (vA (.bool (wrapsOk e.wraps)) rfl rfl (EL_nil (thn_n (EC_ret (inB_r ?_)))))
  refine thn_r ?_
  refine fin1 Tryz.results37 (show _ = .bool (wrapsOk e.wraps) from rfl) ⟨_, rfl, ?_⟩
  have S128 := S127.dr0
  exact ⟨(congrArg Value.bool (by rw [c37_yes h37 h41, show within e.kind 1 5 = true from by simp [within]; omega, Entry.body, if_neg (by omega), if_neg (by omega), if_neg (by omega), show within e.epoch 1 16 = true from hd]; simp [within, Bool.and_assoc])), S128⟩
  refine EC_reg (vl (ptr b26 7) rfl (fP 0 rfl U51 (by kernel_rfl)) (vL (.int .i64 e.epoch) rfl rfl (S35.arr 0 rfl) rfl U3 rfl (vl (.bool (decide (1 ≤ e.epoch))) rfl (r_geq rfl rfl) (vM (.bool (decide (1 ≤ e.epoch))) rfl rfl (EL_gite 124 rfl rfl rfl (ptr b26 7) rfl (fun g129 => fP 0 rfl U51 (by kernel_rfl)) ?_)))))
  refine EL_gite 124 rfl rfl rfl (.int .i64 e.epoch) rfl (fun g130 => r_loadA (cond_of g130 rfl) (S35.arr 0 rfl) (u := (.int .i64 e.epoch)) rfl U3 rfl) (EL_gite 124 rfl rfl rfl (.bool (decide (e.epoch ≤ 16))) rfl (fun g131 => r_leq (cond_of g131 rfl) rfl) (vl (.bool false) rfl (r_dec (show ((decide (1 ≤ e.epoch)) && (decide (e.epoch ≤ 16))) = false from hd) (r_and rfl rfl rfl)) (vM (.bool false) rfl rfl (EL_pass 129 rfl rfl rfl rfl rfl (EL_pass 129 rfl rfl rfl rfl rfl ?_)))))
  refine EL_pass 129 rfl rfl rfl rfl rfl (vF (.bool false) rfl rfl rfl (vA (.bool false) rfl rfl (EL_nil (thn_n (EC_ret ?_)))))
  refine inB_r (thn_r ?_)
  refine fin1 Tryz.results37 (show _ = .bool false from rfl) ⟨_, rfl, ?_⟩
  have S132 := S35.dr0
  exact ⟨(congrArg Value.bool (by rw [c37_yes h37 h41, show within e.kind 1 5 = true from by simp [within]; omega, Entry.body, if_neg (by omega), if_neg (by omega), if_neg (by omega), show within e.epoch 1 16 = false from hd]; simp [within, Bool.and_assoc])), S132⟩
  refine EC_reg (vM (.int .i64 e.kind) rfl rfl (EL_nil (thn_n (EC_block (EC_seq ?_)))))
  refine EC_seq (EC_reg (vl (.bool false) rfl (r_dec (show (decide (e.kind = 1)) = false from by rw [decide_eq_false_iff_not]; omega) (r_eql rfl rfl)) (vA (.bool false) rfl rfl (EL_nil (thn_n ?_)))))
  refine EC_cond_false rfl ?_
  refine EC_reg (vl (.bool false) rfl (r_dec (show (decide (e.kind = 2)) = false from by rw [decide_eq_false_iff_not]; omega) (r_eql rfl rfl)) (vA (.bool false) rfl rfl (EL_nil (thn_n ?_))))
  refine EC_cond_false rfl ?_
  refine EC_seq (EC_reg (vl (.bool false) rfl (r_dec (show (decide (e.kind = 3)) = false from by rw [decide_eq_false_iff_not]; omega) (r_eql rfl rfl)) (vA (.bool false) rfl rfl (EL_nil (thn_n ?_)))))
  refine EC_cond_false rfl ?_
  refine EC_seq (EC_reg (vl (.bool false) rfl (r_dec (show (decide (e.kind = 4)) = false from by rw [decide_eq_false_iff_not]; omega) (r_eql rfl rfl)) (vA (.bool false) rfl rfl (EL_nil (thn_n ?_)))))
  refine EC_cond_false rfl ?_
  refine EC_seq (EC_reg (vl (.bool false) rfl (r_dec (show (decide (e.kind = 5)) = false from by rw [decide_eq_false_iff_not]; omega) (r_eql rfl rfl)) (vA (.bool false) rfl rfl (EL_nil (thn_n ?_)))))
  refine EC_cond_false rfl ?_
  refine EC_skip (inB_n (thn_n (EC_seq (EC_reg (vA (.bool false) rfl rfl ?_)))))
  refine EL_nil (thn_n (EC_ret ?_))
  refine fin1 Tryz.results37 (show _ = .bool false from rfl) ⟨_, rfl, ?_⟩
  have S133 := S35.dr0
  exact ⟨(congrArg Value.bool (by rw [c37_yes h37 h41, show within e.kind 1 5 = false from by simp [within]; omega]; rfl)), S133⟩

end Go.Proofs.YtoajodjcmeijgaaGreat
