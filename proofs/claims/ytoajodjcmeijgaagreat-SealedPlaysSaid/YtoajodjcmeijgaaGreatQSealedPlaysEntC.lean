import Derived.Test.YtoajodjcmeijgaaGreatQSealedPlaysEntB
set_option linter.unusedVariables false
set_option linter.unusedSimpArgs false
namespace Go.Proofs.YtoajodjcmeijgaaGreat
open Go.RowKit Go.Ecal

set_option maxRecDepth 100000 in
set_option maxHeartbeats 4000000 in
theorem wraps_c (v0 : Value) (l : List WrapT) (I : Gh) (R : List HP) (w : World) (S : Sat w I (R)) (Q0 : RoX I v0 wrapR l) : Ret Tryz.prog 94 [v0] w fun v w' => .bool (wrapsOk l) = v ∧ Sat w' I (R) := by
  have lq0 := XRow.le (Q0.row S.le)
  refine ret_E Tryz.func94 rfl Tryz.ntmps94 (by simp) ?_
  refine EC_seq (EC_reg (vA (.bool false) rfl rfl (EL_nil (thn_n (EC_seq ?_)))))
  refine EC_seq (EC_reg (vM v0 rfl rfl (vl (.int .i64 (l.length : Int)) rfl (r_lenX rfl (Q0.row S.le) U36) (vM (.int .i64 0) rfl rfl (EL_nil ?_)))))
  refine thn_n (EC_block ?_)
  refine EC_loop (fun m' E' w' => ∃ j : Nat, m' = l.length - j ∧ E' 7 = .int .i64 (j : Int) ∧ E' 0 = v0 ∧ E' 5 = v0 ∧ E' 6 = .int .i64 (l.length : Int) ∧ (j ≤ l.length) ∧ (wrapsGo 0 l = wrapsGo (prevW l j) (l.drop j)) ∧ Sat w' I (R)) _ ⟨0, rfl, rfl, rfl, rfl, rfl, Nat.zero_le _, (by rw [List.drop_zero]; rfl), S⟩ ?_
  rintro _ E11 w12 ⟨j, rfl, e13, e14, e15, e16, hj, hW, S17⟩
  refine EC_seq (EC_reg (vl (.bool (decide ((j : Int) < (l.length : Int)))) rfl (r_lss (by exact e13) (by exact e16)) (EL_nil (thn_n (EC_seq ?_)))))
  refine EC_if (p := (j : Int) < (l.length : Int)) rfl (fun h18 => ?_) (fun h18 => ?_)
  refine EC_skip (thn_n (EC_seq (EC_block (EC_seq (EC_reg ?_)))))
  refine vM (.int .i64 (j : Int)) rfl e13 (vl (ptr (blkOf v0) (offOf v0 + ((j : Int) : Int).toNat * 2)) rfl (r_indexX (by exact e15) (Q0.row S17.le) (by exact e13) (by omega) (by first | omega | (simp; omega) | simp) U36 (by kernel_rfl)) ?_)
  obtain ⟨a19, ha20⟩ := get_some (l := l) (j := ((j : Int) : Int).toNat) (by first | omega | (simp; omega) | simp)
  obtain ⟨cs21, hc22, he23⟩ := Q0.el ha20
  obtain ⟨v25, rfl, r24, ⟨o26, H27⟩⟩ := hc22
  refine vl (.agg ([.int .i64 a19.who, v25]).toArray) rfl (r_loadR (cs := [.int .i64 a19.who, v25]) rfl (he23 _ S17.le) U80 rfl (by kernel_rfl)) ?_
  refine EL_alloc (z := .agg #[.int .i64 0, .slice none 0 0]) [.int .i64 0, .slice none 0 0] rfl (by kernel_rfl) rfl ?_
  intro b28 w29 k30 A31 B32 z33
  have S34 := S17.newB B32 A31 k30
  refine vA (.int .i64 (j : Int)) rfl rfl ?_
  refine sA [.int .i64 a19.who, v25] rfl rfl (S34.arr 0 rfl) rfl (by kernel_rfl) (ones_cons rfl (ones_cons o26 (fun _ h => nomatch h))) ?_
  intro w35 A36 K37 z38
  have S39 := S34.wr0 (ds := [.int .i64 a19.who, v25]) K37 A36
  refine EL_nil (thn_n (EC_seq ?_))
  rcases first4 (within a19.who 1 16 = true) (a19.box.length = 48) (j ≠ 0) (prevW l j < a19.who) with hc | hc | hc | hc | hc
  refine EC_quietB (by kernel_rfl) (by kernel_rfl) ?_
  refine EQ_val (ptr b28 0) rfl (fun _ hw => fP 0 rfl U80 (by kernel_rfl)) (EQ_val (.int .i64 a19.who) rfl (fun _ hw => r_loadA rfl ((S39.arr 0 rfl).below hw) (u := (.int .i64 a19.who)) rfl U3 rfl) ?_)
  refine EQ_call (.bool (within a19.who 1 16)) _ rfl Tryz.func92 rfl nm92 rfl (fun w2 hw => (within_c a19.who 1 16 _).mono ?_) ?_
  · rintro _ _ ⟨rfl, B40⟩
    exact ⟨rfl, below_full hw hw.size B40⟩
  refine EQ_val (.bool true) rfl (fun _ hw => r_dec (show (!false) = true from rfl) (r_not (Eq.trans (show _ = Value.bool (within a19.who 1 16) from rfl) (congrArg Value.bool (show (within a19.who 1 16) = false from by simpa using hc))))) (qM (.bool true) rfl rfl (EQ_pass 16 rfl rfl rfl rfl rfl (EQ_pass 16 rfl rfl rfl rfl rfl (EQ_pass 16 rfl rfl rfl rfl rfl (EQ_pass 16 rfl rfl rfl rfl rfl ?_)))))
  refine EQ_val (.bool true) rfl (fun _ hw => r_pickT rfl rfl) (qM (.bool true) rfl rfl (EQ_pass 22 rfl rfl rfl rfl rfl (EQ_pass 22 rfl rfl rfl rfl rfl (EQ_pass 22 rfl rfl rfl rfl rfl (EQ_passU 25 rfl rfl rfl rfl ?_)))))
  refine EQ_passU 25 rfl rfl rfl rfl (EQ_passU 25 rfl rfl rfl rfl (EQ_passU 25 rfl rfl rfl rfl (EQ_passU 25 rfl rfl rfl rfl (EQ_passU 25 rfl rfl rfl rfl (EQ_passU 25 rfl rfl rfl rfl ?_)))))
  refine EQ_passU 25 rfl rfl rfl rfl (EQ_passU 25 rfl rfl rfl rfl (EQ_pass 22 rfl rfl rfl rfl rfl (EQ_val (.bool true) rfl (fun _ hw => r_pickT rfl rfl) ?_)))
  refine EQ_nil ?_
  intro w42 B43
  have S44 := S39.below B43
  refine thn_n ?_
  refine EC_cond_true rfl ?_
  refine EC_seq (EC_reg (vA (.bool false) rfl rfl (EL_nil (thn_n (EC_ret ?_)))))
  refine inB_r (thn_r (thn_r (inB_r (thn_r ?_))))
  refine fin1 Tryz.results94 (show _ = .bool false from rfl) ⟨_, rfl, ?_⟩
  have S45 := S44.dr0
  exact ⟨(congrArg Value.bool (wraps_stop (show l[j]? = _ from ha20) hW (.inl (by simpa using hc)))), S45⟩
  refine EC_quietB (by kernel_rfl) (by kernel_rfl) ?_
  refine EQ_val (ptr b28 0) rfl (fun _ hw => fP 0 rfl U80 (by kernel_rfl)) (EQ_val (.int .i64 a19.who) rfl (fun _ hw => r_loadA rfl ((S39.arr 0 rfl).below hw) (u := (.int .i64 a19.who)) rfl U3 rfl) ?_)
  refine EQ_call (.bool (within a19.who 1 16)) _ rfl Tryz.func92 rfl nm92 rfl (fun w2 hw => (within_c a19.who 1 16 _).mono ?_) ?_
  · rintro _ _ ⟨rfl, B46⟩
    exact ⟨rfl, below_full hw hw.size B46⟩
  refine EQ_val (.bool false) rfl (fun _ hw => r_dec (show (!true) = false from rfl) (r_not (Eq.trans (show _ = Value.bool (within a19.who 1 16) from rfl) (congrArg Value.bool (show (within a19.who 1 16) = true from hc.1))))) (qM (.bool false) rfl rfl (EQ_gval 16 rfl rfl rfl rfl (ptr b28 1) rfl (fun _ hw => fP 0 rfl U80 (by kernel_rfl)) (EQ_gval 16 rfl rfl rfl rfl v25 rfl (fun _ hw => r_loadA rfl ((S39.arr 0 rfl).below hw) (u := v25) rfl U22 rfl) (EQ_gval 16 rfl rfl rfl rfl (.int .i64 (a19.box.length : Int)) rfl (fun _ hw => lenB (r_len rfl ((H27 _ S39.le).below hw) U22)) (EQ_gval 16 rfl rfl rfl rfl (.bool true) rfl (fun _ hw => r_dec (show (decide ((a19.box.length : Int) ≠ 48)) = true from by have := hc.2; simp; omega) (r_neq rfl rfl)) ?_)))))
  refine EQ_val (.bool true) rfl (fun _ hw => r_pickF rfl rfl) (qM (.bool true) rfl rfl (EQ_pass 22 rfl rfl rfl rfl rfl (EQ_pass 22 rfl rfl rfl rfl rfl (EQ_pass 22 rfl rfl rfl rfl rfl (EQ_passU 25 rfl rfl rfl rfl ?_)))))
  refine EQ_passU 25 rfl rfl rfl rfl (EQ_passU 25 rfl rfl rfl rfl (EQ_passU 25 rfl rfl rfl rfl (EQ_passU 25 rfl rfl rfl rfl (EQ_passU 25 rfl rfl rfl rfl (EQ_passU 25 rfl rfl rfl rfl ?_)))))
  refine EQ_passU 25 rfl rfl rfl rfl (EQ_passU 25 rfl rfl rfl rfl (EQ_pass 22 rfl rfl rfl rfl rfl (EQ_val (.bool true) rfl (fun _ hw => r_pickT rfl rfl) ?_)))
  refine EQ_nil ?_
  intro w48 B49
  have S50 := S39.below B49
  refine thn_n ?_
  refine EC_cond_true rfl ?_
  refine EC_seq (EC_reg (vA (.bool false) rfl rfl (EL_nil (thn_n (EC_ret ?_)))))
  refine inB_r (thn_r (thn_r (inB_r (thn_r ?_))))
  refine fin1 Tryz.results94 (show _ = .bool false from rfl) ⟨_, rfl, ?_⟩
  have S51 := S50.dr0
  exact ⟨(congrArg Value.bool (wraps_stop (show l[j]? = _ from ha20) hW (.inr (.inl hc.2)))), S51⟩
  have hpw : prevW l j < a19.who := by rw [prevW, if_pos (by omega)]; have := within_iff.1 hc.1; omega
  refine EC_quietB (by kernel_rfl) (by kernel_rfl) ?_
  refine EQ_val (ptr b28 0) rfl (fun _ hw => fP 0 rfl U80 (by kernel_rfl)) (EQ_val (.int .i64 a19.who) rfl (fun _ hw => r_loadA rfl ((S39.arr 0 rfl).below hw) (u := (.int .i64 a19.who)) rfl U3 rfl) ?_)
  refine EQ_call (.bool (within a19.who 1 16)) _ rfl Tryz.func92 rfl nm92 rfl (fun w2 hw => (within_c a19.who 1 16 _).mono ?_) ?_
  · rintro _ _ ⟨rfl, B52⟩
    exact ⟨rfl, below_full hw hw.size B52⟩
  refine EQ_val (.bool false) rfl (fun _ hw => r_dec (show (!true) = false from rfl) (r_not (Eq.trans (show _ = Value.bool (within a19.who 1 16) from rfl) (congrArg Value.bool (show (within a19.who 1 16) = true from hc.1))))) (qM (.bool false) rfl rfl (EQ_gval 16 rfl rfl rfl rfl (ptr b28 1) rfl (fun _ hw => fP 0 rfl U80 (by kernel_rfl)) (EQ_gval 16 rfl rfl rfl rfl v25 rfl (fun _ hw => r_loadA rfl ((S39.arr 0 rfl).below hw) (u := v25) rfl U22 rfl) (EQ_gval 16 rfl rfl rfl rfl (.int .i64 (a19.box.length : Int)) rfl (fun _ hw => lenB (r_len rfl ((H27 _ S39.le).below hw) U22)) (EQ_gval 16 rfl rfl rfl rfl (.bool false) rfl (fun _ hw => r_dec (show (decide ((a19.box.length : Int) ≠ 48)) = false from by have := hc.2.1; simp; omega) (r_neq rfl rfl)) ?_)))))
  refine EQ_val (.bool false) rfl (fun _ hw => r_pickF rfl rfl) (qM (.bool false) rfl rfl (EQ_gval 22 rfl rfl rfl rfl (.int .i64 (j : Int)) rfl (fun _ hw => r_move rfl) (EQ_gval 22 rfl rfl rfl rfl (.bool false) rfl (fun _ hw => r_dec (show (decide (0 < (j : Int))) = false from by simp; omega) (r_gtr rfl rfl)) (EQ_gval 22 rfl rfl rfl rfl (.bool false) rfl (fun _ hw => r_move rfl) (EQ_pass 25 rfl rfl rfl rfl rfl ?_)))))
  refine EQ_pass 25 rfl rfl rfl rfl rfl (EQ_pass 25 rfl rfl rfl rfl rfl (EQ_pass 25 rfl rfl rfl rfl rfl (EQ_pass 25 rfl rfl rfl rfl rfl (EQ_pass 25 rfl rfl rfl rfl rfl (EQ_pass 25 rfl rfl rfl rfl rfl ?_)))))
  refine EQ_pass 25 rfl rfl rfl rfl rfl (EQ_pass 25 rfl rfl rfl rfl rfl (EQ_gval 22 rfl rfl rfl rfl (.bool false) rfl (fun _ hw => r_pickF rfl rfl) (EQ_val (.bool false) rfl (fun _ hw => r_pickF rfl rfl) ?_)))
  refine EQ_nil ?_
  intro w54 B55
  have S56 := S39.below B55
  refine thn_n ?_
  refine EC_cond_false rfl ?_
  refine EC_skip (inB_n (thn_n (EC_reg ?_)))
  refine EL_int ((j : Int) + 1) rfl (r_addi (by exact e13) rfl (by omega)) ?_
  intro x57 hx57
  refine vM (.int .i64 x57) rfl rfl (EL_nil (thn_n ?_))
  have S58 := S56.dr0
  refine ⟨_, ?_, j + 1, rfl, (Eq.trans (show _ = Value.int .i64 x57 from rfl) (congrArg _ (by omega))), (by exact e14), (by exact e15), (by exact e16), by omega, (wraps_step (show l[j]? = _ from ha20) hW hc.1 hc.2.1 hpw), S58⟩
  first | omega | (simp; omega)
  refine EC_quietB (by kernel_rfl) (by kernel_rfl) ?_
  refine EQ_val (ptr b28 0) rfl (fun _ hw => fP 0 rfl U80 (by kernel_rfl)) (EQ_val (.int .i64 a19.who) rfl (fun _ hw => r_loadA rfl ((S39.arr 0 rfl).below hw) (u := (.int .i64 a19.who)) rfl U3 rfl) ?_)
  refine EQ_call (.bool (within a19.who 1 16)) _ rfl Tryz.func92 rfl nm92 rfl (fun w2 hw => (within_c a19.who 1 16 _).mono ?_) ?_
  · rintro _ _ ⟨rfl, B59⟩
    exact ⟨rfl, below_full hw hw.size B59⟩
  refine EQ_val (.bool false) rfl (fun _ hw => r_dec (show (!true) = false from rfl) (r_not (Eq.trans (show _ = Value.bool (within a19.who 1 16) from rfl) (congrArg Value.bool (show (within a19.who 1 16) = true from hc.1))))) (qM (.bool false) rfl rfl (EQ_gval 16 rfl rfl rfl rfl (ptr b28 1) rfl (fun _ hw => fP 0 rfl U80 (by kernel_rfl)) (EQ_gval 16 rfl rfl rfl rfl v25 rfl (fun _ hw => r_loadA rfl ((S39.arr 0 rfl).below hw) (u := v25) rfl U22 rfl) (EQ_gval 16 rfl rfl rfl rfl (.int .i64 (a19.box.length : Int)) rfl (fun _ hw => lenB (r_len rfl ((H27 _ S39.le).below hw) U22)) (EQ_gval 16 rfl rfl rfl rfl (.bool false) rfl (fun _ hw => r_dec (show (decide ((a19.box.length : Int) ≠ 48)) = false from by have := hc.2.1; simp; omega) (r_neq rfl rfl)) ?_)))))
  refine EQ_val (.bool false) rfl (fun _ hw => r_pickF rfl rfl) (qM (.bool false) rfl rfl (EQ_gval 22 rfl rfl rfl rfl (.int .i64 (j : Int)) rfl (fun _ hw => r_move rfl) (EQ_gval 22 rfl rfl rfl rfl (.bool true) rfl (fun _ hw => r_dec (show (decide (0 < (j : Int))) = true from by simp; omega) (r_gtr rfl rfl)) (EQ_gval 22 rfl rfl rfl rfl (.bool true) rfl (fun _ hw => r_move rfl) (EQ_gval 25 rfl rfl rfl rfl (ptr b28 0) rfl (fun _ hw => fP 0 rfl U80 (by kernel_rfl)) ?_)))))
  refine EQ_gval 25 rfl rfl rfl rfl (.int .i64 a19.who) rfl (fun _ hw => r_loadA rfl ((S39.arr 0 rfl).below hw) (u := (.int .i64 a19.who)) rfl U3 rfl) (EQ_gval 25 rfl rfl rfl rfl v0 rfl (fun _ hw => r_move (by exact e14)) (EQ_gval 25 rfl rfl rfl rfl (.int .i64 (j : Int)) rfl (fun _ hw => r_move rfl) (EQ_gval 25 rfl rfl rfl rfl (.int .i64 ((j : Int) - 1)) rfl (fun _ hw => r_subi rfl rfl (by omega)) (EQ_gval 25 rfl rfl rfl rfl (ptr (blkOf v0) (offOf v0 + ((j : Int) - 1 : Int).toNat * 2)) rfl (fun _ hw => r_indexX rfl (XRow.below (Q0.row S39.le) (hp_below hw)) rfl (by omega) (by first | omega | (simp; omega) | simp) U36 (by kernel_rfl)) (EQ_gval 25 rfl rfl rfl rfl (ptr (blkOf v0) (offOf v0 + ((j : Int) - 1 : Int).toNat * 2 + 0)) rfl (fun _ hw => r_fieldP (s := 1) rfl U80 rfl (by kernel_rfl) (by decide) rfl) ?_)))))
  obtain ⟨a62, ha63⟩ := get_some (l := l) (j := ((j : Int) - 1 : Int).toNat) (by first | omega | (simp; omega) | simp)
  obtain ⟨cs64, hc65, he66⟩ := Q0.el ha63
  obtain ⟨v68, rfl, r67, ⟨o69, H70⟩⟩ := hc65
  refine EQ_gval 25 rfl rfl rfl rfl (.int .i64 a62.who) rfl (fun _ hw => r_loadF (k := 0) rfl (ElAt.below (he66 _ S39.le) (hp_below hw)) rfl U3 rfl) (EQ_gval 25 rfl rfl rfl rfl (.bool true) rfl (fun _ hw => r_dec (show (decide (a19.who ≤ a62.who)) = true from by have hpe := prevW_eq (l := l) (j := j) ha63 hc.2.2.1 (by omega); have := hc.2.2.2; simp; omega) (r_leq rfl rfl)) (EQ_gval 22 rfl rfl rfl rfl (.bool true) rfl (fun _ hw => r_pickT rfl rfl) (EQ_val (.bool true) rfl (fun _ hw => r_pickF rfl rfl) ?_)))
  refine EQ_nil ?_
  intro w71 B72
  have S73 := S39.below B72
  refine thn_n ?_
  refine EC_cond_true rfl ?_
  refine EC_seq (EC_reg (vA (.bool false) rfl rfl (EL_nil (thn_n (EC_ret ?_)))))
  refine inB_r (thn_r (thn_r (inB_r (thn_r ?_))))
  refine fin1 Tryz.results94 (show _ = .bool false from rfl) ⟨_, rfl, ?_⟩
  have S74 := S73.dr0
  exact ⟨(congrArg Value.bool (wraps_stop (show l[j]? = _ from ha20) hW (.inr (.inr hc.2.2.2)))), S74⟩
  refine EC_quietB (by kernel_rfl) (by kernel_rfl) ?_
  refine EQ_val (ptr b28 0) rfl (fun _ hw => fP 0 rfl U80 (by kernel_rfl)) (EQ_val (.int .i64 a19.who) rfl (fun _ hw => r_loadA rfl ((S39.arr 0 rfl).below hw) (u := (.int .i64 a19.who)) rfl U3 rfl) ?_)
  refine EQ_call (.bool (within a19.who 1 16)) _ rfl Tryz.func92 rfl nm92 rfl (fun w2 hw => (within_c a19.who 1 16 _).mono ?_) ?_
  · rintro _ _ ⟨rfl, B75⟩
    exact ⟨rfl, below_full hw hw.size B75⟩
  refine EQ_val (.bool false) rfl (fun _ hw => r_dec (show (!true) = false from rfl) (r_not (Eq.trans (show _ = Value.bool (within a19.who 1 16) from rfl) (congrArg Value.bool (show (within a19.who 1 16) = true from hc.1))))) (qM (.bool false) rfl rfl (EQ_gval 16 rfl rfl rfl rfl (ptr b28 1) rfl (fun _ hw => fP 0 rfl U80 (by kernel_rfl)) (EQ_gval 16 rfl rfl rfl rfl v25 rfl (fun _ hw => r_loadA rfl ((S39.arr 0 rfl).below hw) (u := v25) rfl U22 rfl) (EQ_gval 16 rfl rfl rfl rfl (.int .i64 (a19.box.length : Int)) rfl (fun _ hw => lenB (r_len rfl ((H27 _ S39.le).below hw) U22)) (EQ_gval 16 rfl rfl rfl rfl (.bool false) rfl (fun _ hw => r_dec (show (decide ((a19.box.length : Int) ≠ 48)) = false from by have := hc.2.1; simp; omega) (r_neq rfl rfl)) ?_)))))
  refine EQ_val (.bool false) rfl (fun _ hw => r_pickF rfl rfl) (qM (.bool false) rfl rfl (EQ_gval 22 rfl rfl rfl rfl (.int .i64 (j : Int)) rfl (fun _ hw => r_move rfl) (EQ_gval 22 rfl rfl rfl rfl (.bool true) rfl (fun _ hw => r_dec (show (decide (0 < (j : Int))) = true from by simp; omega) (r_gtr rfl rfl)) (EQ_gval 22 rfl rfl rfl rfl (.bool true) rfl (fun _ hw => r_move rfl) (EQ_gval 25 rfl rfl rfl rfl (ptr b28 0) rfl (fun _ hw => fP 0 rfl U80 (by kernel_rfl)) ?_)))))
  refine EQ_gval 25 rfl rfl rfl rfl (.int .i64 a19.who) rfl (fun _ hw => r_loadA rfl ((S39.arr 0 rfl).below hw) (u := (.int .i64 a19.who)) rfl U3 rfl) (EQ_gval 25 rfl rfl rfl rfl v0 rfl (fun _ hw => r_move (by exact e14)) (EQ_gval 25 rfl rfl rfl rfl (.int .i64 (j : Int)) rfl (fun _ hw => r_move rfl) (EQ_gval 25 rfl rfl rfl rfl (.int .i64 ((j : Int) - 1)) rfl (fun _ hw => r_subi rfl rfl (by omega)) (EQ_gval 25 rfl rfl rfl rfl (ptr (blkOf v0) (offOf v0 + ((j : Int) - 1 : Int).toNat * 2)) rfl (fun _ hw => r_indexX rfl (XRow.below (Q0.row S39.le) (hp_below hw)) rfl (by omega) (by first | omega | (simp; omega) | simp) U36 (by kernel_rfl)) (EQ_gval 25 rfl rfl rfl rfl (ptr (blkOf v0) (offOf v0 + ((j : Int) - 1 : Int).toNat * 2 + 0)) rfl (fun _ hw => r_fieldP (s := 1) rfl U80 rfl (by kernel_rfl) (by decide) rfl) ?_)))))
  obtain ⟨a78, ha79⟩ := get_some (l := l) (j := ((j : Int) - 1 : Int).toNat) (by first | omega | (simp; omega) | simp)
  obtain ⟨cs80, hc81, he82⟩ := Q0.el ha79
  obtain ⟨v84, rfl, r83, ⟨o85, H86⟩⟩ := hc81
  refine EQ_gval 25 rfl rfl rfl rfl (.int .i64 a78.who) rfl (fun _ hw => r_loadF (k := 0) rfl (ElAt.below (he82 _ S39.le) (hp_below hw)) rfl U3 rfl) (EQ_gval 25 rfl rfl rfl rfl (.bool false) rfl (fun _ hw => r_dec (show (decide (a19.who ≤ a78.who)) = false from by have hpe := prevW_eq (l := l) (j := j) ha79 hc.2.2.1 (by omega); have := hc.2.2.2; simp; omega) (r_leq rfl rfl)) (EQ_gval 22 rfl rfl rfl rfl (.bool false) rfl (fun _ hw => r_pickT rfl rfl) (EQ_val (.bool false) rfl (fun _ hw => r_pickF rfl rfl) ?_)))
  refine EQ_nil ?_
  intro w87 B88
  have S89 := S39.below B88
  refine thn_n ?_
  refine EC_cond_false rfl ?_
  refine EC_skip (inB_n (thn_n (EC_reg ?_)))
  refine EL_int ((j : Int) + 1) rfl (r_addi (by exact e13) rfl (by omega)) ?_
  intro x90 hx90
  refine vM (.int .i64 x90) rfl rfl (EL_nil (thn_n ?_))
  have S91 := S89.dr0
  refine ⟨_, ?_, j + 1, rfl, (Eq.trans (show _ = Value.int .i64 x90 from rfl) (congrArg _ (by omega))), (by exact e14), (by exact e15), (by exact e16), by omega, (wraps_step (show l[j]? = _ from ha20) hW hc.1 hc.2.1 hc.2.2.2), S91⟩
  first | omega | (simp; omega)
  refine EC_exit (thn_x (thn_x (inB_hit (thn_n (EC_seq ?_)))))
  refine EC_reg (vM v0 rfl e14 (vl (.int .i64 (l.length : Int)) rfl (r_lenX rfl (Q0.row S17.le) U36) (vl (.bool (decide ((l.length : Int) ≤ 16))) rfl (r_leq rfl rfl) (vA (.bool (decide ((l.length : Int) ≤ 16))) rfl rfl (EL_nil ?_)))))
  refine thn_n (EC_ret ?_)
  refine fin1 Tryz.results94 (show _ = .bool (decide ((l.length : Int) ≤ 16)) from rfl) ⟨_, rfl, ?_⟩
  exact ⟨(congrArg Value.bool (by rw [wrapsOk, hW, List.drop_of_length_le (by omega), wrapsGo, Bool.true_and, decide_eq_decide]; omega)), S17⟩

set_option maxRecDepth 100000 in
set_option maxHeartbeats 4000000 in
theorem bare_c (ce : List Value) (e : Entry) (I : Gh) (R : List HP) (w : World) (S : Sat w I (R)) (he : entR.r I ce e) : Ret Tryz.prog 93 [.agg ce.toArray] w fun v w' => ∃ cr : List Value, .agg cr.toArray = v ∧ entR.r I cr e.bare ∧ Sat w' I (R) := by
  obtain ⟨v14, v17, v23, rfl, r11, r12, r13, ⟨o15, H16⟩, ⟨o18, H19⟩, r20, r21, r22, ⟨o24, H25⟩⟩ := he
  refine ret_E Tryz.func93 rfl Tryz.ntmps93 (by simp) ?_
  refine EC_seq (EC_reg ?_)
  refine EL_box (entRC e v14 v17 v23) rfl rfl rfl ?_
  intro b26 w27 k28 A29 B30 z31
  have S32 := S.newB B30 A29 k28
  refine EL_alloc (z := .agg #[.int .i64 0, .int .i64 0, .int .i64 0, .slice none 0 0, .slice none 0 0, .int .i64 0, .int .i64 0, .int .i64 0, .slice none 0 0]) entR0 rfl (by kernel_rfl) rfl ?_
  intro b33 w34 k35 A36 B37 z38
  have S39 := S32.newB B37 A36 k35
  refine EL_nil (thn_n (EC_seq (EC_reg (vl (ptr b26 0) rfl (fP 0 rfl U38 (by kernel_rfl)) (vL (.int .i64 e.kind) rfl rfl (S39.arr 1 rfl) rfl U3 rfl ?_)))))
  refine vl (ptr b26 1) rfl (fP 0 rfl U38 (by kernel_rfl)) (vL (.int .i64 e.writer) rfl rfl (S39.arr 1 rfl) rfl U3 rfl (vl (ptr b26 2) rfl (fP 0 rfl U38 (by kernel_rfl)) (vL (.int .i64 e.seq) rfl rfl (S39.arr 1 rfl) rfl U3 rfl (vl (.agg ([.int .i64 e.kind, .int .i64 e.writer, .int .i64 e.seq, .slice none 0 0, .slice none 0 0, .int .i64 0, .int .i64 0, .int .i64 0, .slice none 0 0]).toArray) rfl (r_buildS (l := [(0, .int .i64 e.kind), (1, .int .i64 e.writer), (2, .int .i64 e.seq)]) st_38 (parts3 rfl rfl rfl) (Eq.trans (show Instr.fill _ _ [(0, .int .i64 e.kind), (1, .int .i64 e.writer), (2, .int .i64 e.seq)] = _ from (fill_one rfl rfl rfl (fill_one rfl rfl rfl (fill_one rfl rfl rfl fill_end)))) (by kernel_rfl))) ?_))))
  refine EL_alloc (z := .agg #[.int .i64 0, .int .i64 0, .int .i64 0, .slice none 0 0, .slice none 0 0, .int .i64 0, .int .i64 0, .int .i64 0, .slice none 0 0]) entR0 rfl (by kernel_rfl) rfl ?_
  intro b40 w41 k42 A43 B44 z45
  have S46 := S39.newB B44 A43 k42
  refine sA [.int .i64 e.kind, .int .i64 e.writer, .int .i64 e.seq, .slice none 0 0, .slice none 0 0, .int .i64 0, .int .i64 0, .int .i64 0, .slice none 0 0] rfl rfl (S46.arr 0 rfl) rfl (by kernel_rfl) (by simp [Value.oneCell']) ?_
  intro w47 A48 K49 z50
  have S51 := S46.wr0 (ds := [.int .i64 e.kind, .int .i64 e.writer, .int .i64 e.seq, .slice none 0 0, .slice none 0 0, .int .i64 0, .int .i64 0, .int .i64 0, .slice none 0 0]) K49 A48
  refine EL_nil (thn_n (EC_seq (EC_seq (EC_reg (vl (ptr b26 0) rfl (fP 0 rfl U38 (by kernel_rfl)) ?_)))))
  refine vL (.int .i64 e.kind) rfl rfl (S51.arr 2 rfl) rfl U3 rfl (EL_nil (thn_n (EC_block (EC_seq (EC_reg ?_)))))
  refine vl (.bool (decide (e.kind = 1))) rfl (r_eql rfl rfl) (vA (.bool (decide (e.kind = 1))) rfl rfl (EL_nil (thn_n ?_)))
  refine EC_if (p := e.kind = 1) rfl (fun h52 => ?_) (fun h52 => ?_)
  have hk : e.kind = 1 := h52
  refine EC_any 7 (fun w' => Gh.le I (gh w')) (fun w' => Arr w' b26 38 (entRC e v14 v17 v23)) (by kernel_rfl) ?_
  intro w53 B54
  have S55 := S51.below B54
  refine jT 0 rfl (by kernel_rfl) (ptr b26 3) rfl (fun _ hw ht => fP 0 rfl U38 (by kernel_rfl)) ⟨S55.le, fun h => S55.arr 2 rfl⟩ ?_
  refine jT 1 rfl (by kernel_rfl) v14 rfl (fun _ hw ht => r_loadA rfl ht (u := v14) rfl U22 rfl) ⟨S55.le, fun h => S55.arr 2 rfl⟩ ?_
  refine jT 2 rfl (by kernel_rfl) (ptr b26 4) rfl (fun _ hw ht => fP 0 rfl U38 (by kernel_rfl)) ⟨S55.le, fun h => S55.arr 2 rfl⟩ ?_
  refine jT 3 rfl (by kernel_rfl) v17 rfl (fun _ hw ht => r_loadA rfl ht (u := v17) rfl U22 rfl) ⟨S55.le, fun h => S55.arr 2 rfl⟩ ?_
  refine jT 4 rfl (by kernel_rfl) (ptr b40 3) rfl (fun _ hw ht => fP 0 rfl U38 (by kernel_rfl)) ⟨S55.le, fun h => S55.arr 2 rfl⟩ ?_
  refine EJ_one 5 (by kernel_rfl) ⟨_, rfl, ?_⟩
  refine EL_storeA (j := 3) (u := v14) rfl rfl (S55.arr 0 rfl) (by first | decide | (simp; omega) | simp) o15 (by kernel_rfl) ?_
  intro w56 A57 K58 z59
  have S60 := S55.wr0 (ds := [.int .i64 e.kind, .int .i64 e.writer, .int .i64 e.seq, v14, .slice none 0 0, .int .i64 0, .int .i64 0, .int .i64 0, .slice none 0 0]) K58 A57
  refine EL_nil ?_
  refine ⟨rfl, ⟨S60.le, fun h => S60.arr 2 rfl⟩, ?_⟩
  refine jT 6 rfl (by kernel_rfl) (ptr b40 4) rfl (fun _ hw ht => fP 0 rfl U38 (by kernel_rfl)) ⟨S60.le, fun h => S60.arr 2 rfl⟩ ?_
  refine EJ_one 7 (by kernel_rfl) ⟨_, rfl, ?_⟩
  refine EL_storeA (j := 4) (u := v17) rfl rfl (S60.arr 0 rfl) (by first | decide | (simp; omega) | simp) o18 (by kernel_rfl) ?_
  intro w61 A62 K63 z64
  have S65 := S60.wr0 (ds := [.int .i64 e.kind, .int .i64 e.writer, .int .i64 e.seq, v14, v17, .int .i64 0, .int .i64 0, .int .i64 0, .slice none 0 0]) K63 A62
  refine EL_nil ?_
  refine ⟨rfl, ⟨S65.le, fun h => by cases h⟩, ?_⟩
  refine EJ_done (by kernel_rfl) ?_
  refine inB_n (thn_n (EC_seq (EC_reg (vl (.agg ([.int .i64 e.kind, .int .i64 e.writer, .int .i64 e.seq, v14, v17, .int .i64 0, .int .i64 0, .int .i64 0, .slice none 0 0]).toArray) rfl (r_loadAll rfl (S65.arr 0 rfl) U38 rfl (by kernel_rfl)) ?_))))
  refine sA [.int .i64 e.kind, .int .i64 e.writer, .int .i64 e.seq, v14, v17, .int .i64 0, .int .i64 0, .int .i64 0, .slice none 0 0] rfl rfl (S65.arr 1 rfl) rfl (by kernel_rfl) (ones_cons rfl (ones_cons rfl (ones_cons rfl (ones_cons o15 (ones_cons o18 (ones_cons rfl (ones_cons rfl (ones_cons rfl (ones_cons rfl (fun _ h => nomatch h)))))))))) ?_
  intro w66 A67 K68 z69
  have S70 := S65.wr1 (ds := [.int .i64 e.kind, .int .i64 e.writer, .int .i64 e.seq, v14, v17, .int .i64 0, .int .i64 0, .int .i64 0, .slice none 0 0]) K68 A67
  refine EL_nil (thn_n (EC_ret ?_))
  refine fin1c Tryz.results93 (show _ = ptr b33 from rfl) (S70.arr 1 rfl) U38 rfl (by kernel_rfl) ⟨_, rfl, ?_⟩
  have q71 : e.bare = (⟨e.kind, e.writer, e.seq, e.name, e.value, 0, 0, 0, []⟩ : Entry) := by simp [Entry.bare, hk]
  have S72 := S70.dr0
  have S73 := S72.dr0
  have S74 := S73.dr0
  exact ⟨[.int .i64 e.kind, .int .i64 e.writer, .int .i64 e.seq, v14, v17, .int .i64 0, .int .i64 0, .int .i64 0, .slice none 0 0], rfl, (by rw [q71]; exact ⟨v14, v17, (.slice none 0 0), rfl, (by first | assumption | (dsimp only; omega)), (by first | assumption | (dsimp only; omega)), (by first | assumption | (dsimp only; omega)), ⟨o15, H16⟩, ⟨o18, H19⟩, (by dsimp only; omega), (by dsimp only; omega), (by dsimp only; omega), ⟨rfl, RoX.nil⟩⟩), S74⟩
  have hn1 : ¬ e.kind = 1 := h52
  refine EC_seq (EC_reg (vl (.bool (decide (e.kind = 2))) rfl (r_eql rfl rfl) (vA (.bool (decide (e.kind = 2))) rfl rfl (EL_nil (thn_n ?_)))))
  refine EC_if (p := e.kind = 2) rfl (fun h75 => ?_) (fun h75 => ?_)
  have hk : e.kind = 2 := h75
  refine EC_reg (vl (ptr b26 3) rfl (fP 0 rfl U38 (by kernel_rfl)) (vL v14 rfl rfl (S51.arr 2 rfl) rfl U22 rfl (vl (ptr b40 3) rfl (fP 0 rfl U38 (by kernel_rfl)) ?_)))
  refine EL_storeA (j := 3) (u := v14) rfl rfl (S51.arr 0 rfl) (by first | decide | (simp; omega) | simp) o15 (by kernel_rfl) ?_
  intro w76 A77 K78 z79
  have S80 := S51.wr0 (ds := [.int .i64 e.kind, .int .i64 e.writer, .int .i64 e.seq, v14, .slice none 0 0, .int .i64 0, .int .i64 0, .int .i64 0, .slice none 0 0]) K78 A77
  refine EL_nil (inB_n (thn_n (EC_seq (EC_reg (vl (.agg ([.int .i64 e.kind, .int .i64 e.writer, .int .i64 e.seq, v14, .slice none 0 0, .int .i64 0, .int .i64 0, .int .i64 0, .slice none 0 0]).toArray) rfl (r_loadAll rfl (S80.arr 0 rfl) U38 rfl (by kernel_rfl)) ?_)))))
  refine sA [.int .i64 e.kind, .int .i64 e.writer, .int .i64 e.seq, v14, .slice none 0 0, .int .i64 0, .int .i64 0, .int .i64 0, .slice none 0 0] rfl rfl (S80.arr 1 rfl) rfl (by kernel_rfl) (ones_cons rfl (ones_cons rfl (ones_cons rfl (ones_cons o15 (ones_cons rfl (ones_cons rfl (ones_cons rfl (ones_cons rfl (ones_cons rfl (fun _ h => nomatch h)))))))))) ?_
  intro w81 A82 K83 z84
  have S85 := S80.wr1 (ds := [.int .i64 e.kind, .int .i64 e.writer, .int .i64 e.seq, v14, .slice none 0 0, .int .i64 0, .int .i64 0, .int .i64 0, .slice none 0 0]) K83 A82
  refine EL_nil (thn_n (EC_ret ?_))
  refine fin1c Tryz.results93 (show _ = ptr b33 from rfl) (S85.arr 1 rfl) U38 rfl (by kernel_rfl) ⟨_, rfl, ?_⟩
  have q86 : e.bare = (⟨e.kind, e.writer, e.seq, e.name, [], 0, 0, 0, []⟩ : Entry) := by simp [Entry.bare, hk]
  have S87 := S85.dr0
  have S88 := S87.dr0
  have S89 := S88.dr0
  exact ⟨[.int .i64 e.kind, .int .i64 e.writer, .int .i64 e.seq, v14, .slice none 0 0, .int .i64 0, .int .i64 0, .int .i64 0, .slice none 0 0], rfl, (by rw [q86]; exact ⟨v14, (.slice none 0 0), (.slice none 0 0), rfl, (by first | assumption | (dsimp only; omega)), (by first | assumption | (dsimp only; omega)), (by first | assumption | (dsimp only; omega)), ⟨o15, H16⟩, ⟨rfl, Ro.nil⟩, (by dsimp only; omega), (by dsimp only; omega), (by dsimp only; omega), ⟨rfl, RoX.nil⟩⟩), S89⟩
  have hn2 : ¬ e.kind = 2 := h75
  refine EC_seq (EC_reg (vl (.bool (decide (e.kind = 3))) rfl (r_eql rfl rfl) (vA (.bool (decide (e.kind = 3))) rfl rfl (EL_nil (thn_n ?_)))))
  refine EC_if (p := e.kind = 3) rfl (fun h90 => ?_) (fun h90 => ?_)
  have hk : e.kind = 3 := h90
  refine EC_any 7 (fun w' => Gh.le I (gh w')) (fun w' => Arr w' b26 38 (entRC e v14 v17 v23)) (by kernel_rfl) ?_
  intro w91 B92
  have S93 := S51.below B92
  refine jT 0 rfl (by kernel_rfl) (ptr b26 5) rfl (fun _ hw ht => fP 0 rfl U38 (by kernel_rfl)) ⟨S93.le, fun h => S93.arr 2 rfl⟩ ?_
  refine jT 1 rfl (by kernel_rfl) (.int .i64 e.who) rfl (fun _ hw ht => r_loadA rfl ht (u := (.int .i64 e.who)) rfl U3 rfl) ⟨S93.le, fun h => S93.arr 2 rfl⟩ ?_
  refine jT 2 rfl (by kernel_rfl) (ptr b26 6) rfl (fun _ hw ht => fP 0 rfl U38 (by kernel_rfl)) ⟨S93.le, fun h => S93.arr 2 rfl⟩ ?_
  refine jT 3 rfl (by kernel_rfl) (.int .i64 e.rights) rfl (fun _ hw ht => r_loadA rfl ht (u := (.int .i64 e.rights)) rfl U3 rfl) ⟨S93.le, fun h => S93.arr 2 rfl⟩ ?_
  refine jT 4 rfl (by kernel_rfl) (ptr b40 5) rfl (fun _ hw ht => fP 0 rfl U38 (by kernel_rfl)) ⟨S93.le, fun h => S93.arr 2 rfl⟩ ?_
  refine EJ_one 5 (by kernel_rfl) ⟨_, rfl, ?_⟩
  refine EL_storeA (j := 5) (u := .int .i64 e.who) rfl rfl (S93.arr 0 rfl) (by first | decide | (simp; omega) | simp) rfl (by kernel_rfl) ?_
  intro w94 A95 K96 z97
  have S98 := S93.wr0 (ds := [.int .i64 e.kind, .int .i64 e.writer, .int .i64 e.seq, .slice none 0 0, .slice none 0 0, .int .i64 e.who, .int .i64 0, .int .i64 0, .slice none 0 0]) K96 A95
  refine EL_nil ?_
  refine ⟨rfl, ⟨S98.le, fun h => S98.arr 2 rfl⟩, ?_⟩
  refine jT 6 rfl (by kernel_rfl) (ptr b40 6) rfl (fun _ hw ht => fP 0 rfl U38 (by kernel_rfl)) ⟨S98.le, fun h => S98.arr 2 rfl⟩ ?_
  refine EJ_one 7 (by kernel_rfl) ⟨_, rfl, ?_⟩
  refine EL_storeA (j := 6) (u := .int .i64 e.rights) rfl rfl (S98.arr 0 rfl) (by first | decide | (simp; omega) | simp) rfl (by kernel_rfl) ?_
  intro w99 A100 K101 z102
  have S103 := S98.wr0 (ds := [.int .i64 e.kind, .int .i64 e.writer, .int .i64 e.seq, .slice none 0 0, .slice none 0 0, .int .i64 e.who, .int .i64 e.rights, .int .i64 0, .slice none 0 0]) K101 A100
  refine EL_nil ?_
  refine ⟨rfl, ⟨S103.le, fun h => by cases h⟩, ?_⟩
  refine EJ_done (by kernel_rfl) ?_
  refine inB_n (thn_n (EC_seq (EC_reg (vl (.agg ([.int .i64 e.kind, .int .i64 e.writer, .int .i64 e.seq, .slice none 0 0, .slice none 0 0, .int .i64 e.who, .int .i64 e.rights, .int .i64 0, .slice none 0 0]).toArray) rfl (r_loadAll rfl (S103.arr 0 rfl) U38 rfl (by kernel_rfl)) ?_))))
  refine sA [.int .i64 e.kind, .int .i64 e.writer, .int .i64 e.seq, .slice none 0 0, .slice none 0 0, .int .i64 e.who, .int .i64 e.rights, .int .i64 0, .slice none 0 0] rfl rfl (S103.arr 1 rfl) rfl (by kernel_rfl) (by simp [Value.oneCell']) ?_
  intro w104 A105 K106 z107
  have S108 := S103.wr1 (ds := [.int .i64 e.kind, .int .i64 e.writer, .int .i64 e.seq, .slice none 0 0, .slice none 0 0, .int .i64 e.who, .int .i64 e.rights, .int .i64 0, .slice none 0 0]) K106 A105
  refine EL_nil (thn_n (EC_ret ?_))
  refine fin1c Tryz.results93 (show _ = ptr b33 from rfl) (S108.arr 1 rfl) U38 rfl (by kernel_rfl) ⟨_, rfl, ?_⟩
  have q109 : e.bare = (⟨e.kind, e.writer, e.seq, [], [], e.who, e.rights, 0, []⟩ : Entry) := by simp [Entry.bare, hk]
  have S110 := S108.dr0
  have S111 := S110.dr0
  have S112 := S111.dr0
  exact ⟨[.int .i64 e.kind, .int .i64 e.writer, .int .i64 e.seq, .slice none 0 0, .slice none 0 0, .int .i64 e.who, .int .i64 e.rights, .int .i64 0, .slice none 0 0], rfl, (by rw [q109]; exact ⟨(.slice none 0 0), (.slice none 0 0), (.slice none 0 0), rfl, (by first | assumption | (dsimp only; omega)), (by first | assumption | (dsimp only; omega)), (by first | assumption | (dsimp only; omega)), ⟨rfl, Ro.nil⟩, ⟨rfl, Ro.nil⟩, (by first | assumption | (dsimp only; omega)), (by first | assumption | (dsimp only; omega)), (by dsimp only; omega), ⟨rfl, RoX.nil⟩⟩), S112⟩
  have hn3 : ¬ e.kind = 3 := h90
  refine EC_seq (EC_reg (vl (.bool (decide (e.kind = 4))) rfl (r_eql rfl rfl) (vA (.bool (decide (e.kind = 4))) rfl rfl (EL_nil (thn_n ?_)))))
  refine EC_if (p := e.kind = 4) rfl (fun h113 => ?_) (fun h113 => ?_)
  have hk : e.kind = 4 := h113
  refine EC_reg (vl (ptr b26 5) rfl (fP 0 rfl U38 (by kernel_rfl)) (vL (.int .i64 e.who) rfl rfl (S51.arr 2 rfl) rfl U3 rfl (vl (ptr b40 5) rfl (fP 0 rfl U38 (by kernel_rfl)) ?_)))
  refine EL_storeA (j := 5) (u := .int .i64 e.who) rfl rfl (S51.arr 0 rfl) (by first | decide | (simp; omega) | simp) rfl (by kernel_rfl) ?_
  intro w114 A115 K116 z117
  have S118 := S51.wr0 (ds := [.int .i64 e.kind, .int .i64 e.writer, .int .i64 e.seq, .slice none 0 0, .slice none 0 0, .int .i64 e.who, .int .i64 0, .int .i64 0, .slice none 0 0]) K116 A115
  refine EL_nil (inB_n (thn_n (EC_seq (EC_reg (vl (.agg ([.int .i64 e.kind, .int .i64 e.writer, .int .i64 e.seq, .slice none 0 0, .slice none 0 0, .int .i64 e.who, .int .i64 0, .int .i64 0, .slice none 0 0]).toArray) rfl (r_loadAll rfl (S118.arr 0 rfl) U38 rfl (by kernel_rfl)) ?_)))))
  refine sA [.int .i64 e.kind, .int .i64 e.writer, .int .i64 e.seq, .slice none 0 0, .slice none 0 0, .int .i64 e.who, .int .i64 0, .int .i64 0, .slice none 0 0] rfl rfl (S118.arr 1 rfl) rfl (by kernel_rfl) (by simp [Value.oneCell']) ?_
  intro w119 A120 K121 z122
  have S123 := S118.wr1 (ds := [.int .i64 e.kind, .int .i64 e.writer, .int .i64 e.seq, .slice none 0 0, .slice none 0 0, .int .i64 e.who, .int .i64 0, .int .i64 0, .slice none 0 0]) K121 A120
  refine EL_nil (thn_n (EC_ret ?_))
  refine fin1c Tryz.results93 (show _ = ptr b33 from rfl) (S123.arr 1 rfl) U38 rfl (by kernel_rfl) ⟨_, rfl, ?_⟩
  have q124 : e.bare = (⟨e.kind, e.writer, e.seq, [], [], e.who, 0, 0, []⟩ : Entry) := by simp [Entry.bare, hk]
  have S125 := S123.dr0
  have S126 := S125.dr0
  have S127 := S126.dr0
  exact ⟨[.int .i64 e.kind, .int .i64 e.writer, .int .i64 e.seq, .slice none 0 0, .slice none 0 0, .int .i64 e.who, .int .i64 0, .int .i64 0, .slice none 0 0], rfl, (by rw [q124]; exact ⟨(.slice none 0 0), (.slice none 0 0), (.slice none 0 0), rfl, (by first | assumption | (dsimp only; omega)), (by first | assumption | (dsimp only; omega)), (by first | assumption | (dsimp only; omega)), ⟨rfl, Ro.nil⟩, ⟨rfl, Ro.nil⟩, (by first | assumption | (dsimp only; omega)), (by dsimp only; omega), (by dsimp only; omega), ⟨rfl, RoX.nil⟩⟩), S127⟩
  have hn4 : ¬ e.kind = 4 := h113
  refine EC_seq (EC_reg (vl (.bool (decide (e.kind = 5))) rfl (r_eql rfl rfl) (vA (.bool (decide (e.kind = 5))) rfl rfl (EL_nil (thn_n ?_)))))
  refine EC_if (p := e.kind = 5) rfl (fun h128 => ?_) (fun h128 => ?_)
  have hk : e.kind = 5 := h128
  refine EC_any 7 (fun w' => Gh.le I (gh w')) (fun w' => Arr w' b26 38 (entRC e v14 v17 v23)) (by kernel_rfl) ?_
  intro w129 B130
  have S131 := S51.below B130
  refine jT 0 rfl (by kernel_rfl) (ptr b26 7) rfl (fun _ hw ht => fP 0 rfl U38 (by kernel_rfl)) ⟨S131.le, fun h => S131.arr 2 rfl⟩ ?_
  refine jT 1 rfl (by kernel_rfl) (.int .i64 e.epoch) rfl (fun _ hw ht => r_loadA rfl ht (u := (.int .i64 e.epoch)) rfl U3 rfl) ⟨S131.le, fun h => S131.arr 2 rfl⟩ ?_
  refine jT 2 rfl (by kernel_rfl) (ptr b26 8) rfl (fun _ hw ht => fP 0 rfl U38 (by kernel_rfl)) ⟨S131.le, fun h => S131.arr 2 rfl⟩ ?_
  refine jT 3 rfl (by kernel_rfl) v23 rfl (fun _ hw ht => r_loadA rfl ht (u := v23) rfl U36 rfl) ⟨S131.le, fun h => S131.arr 2 rfl⟩ ?_
  refine jT 4 rfl (by kernel_rfl) (ptr b40 7) rfl (fun _ hw ht => fP 0 rfl U38 (by kernel_rfl)) ⟨S131.le, fun h => S131.arr 2 rfl⟩ ?_
  refine EJ_one 5 (by kernel_rfl) ⟨_, rfl, ?_⟩
  refine EL_storeA (j := 7) (u := .int .i64 e.epoch) rfl rfl (S131.arr 0 rfl) (by first | decide | (simp; omega) | simp) rfl (by kernel_rfl) ?_
  intro w132 A133 K134 z135
  have S136 := S131.wr0 (ds := [.int .i64 e.kind, .int .i64 e.writer, .int .i64 e.seq, .slice none 0 0, .slice none 0 0, .int .i64 0, .int .i64 0, .int .i64 e.epoch, .slice none 0 0]) K134 A133
  refine EL_nil ?_
  refine ⟨rfl, ⟨S136.le, fun h => S136.arr 2 rfl⟩, ?_⟩
  refine jT 6 rfl (by kernel_rfl) (ptr b40 8) rfl (fun _ hw ht => fP 0 rfl U38 (by kernel_rfl)) ⟨S136.le, fun h => S136.arr 2 rfl⟩ ?_
  refine EJ_one 7 (by kernel_rfl) ⟨_, rfl, ?_⟩
  refine EL_storeA (j := 8) (u := v23) rfl rfl (S136.arr 0 rfl) (by first | decide | (simp; omega) | simp) o24 (by kernel_rfl) ?_
  intro w137 A138 K139 z140
  have S141 := S136.wr0 (ds := [.int .i64 e.kind, .int .i64 e.writer, .int .i64 e.seq, .slice none 0 0, .slice none 0 0, .int .i64 0, .int .i64 0, .int .i64 e.epoch, v23]) K139 A138
  refine EL_nil ?_
  refine ⟨rfl, ⟨S141.le, fun h => by cases h⟩, ?_⟩
  refine EJ_done (by kernel_rfl) ?_
  refine inB_n (thn_n (EC_seq (EC_reg (vl (.agg ([.int .i64 e.kind, .int .i64 e.writer, .int .i64 e.seq, .slice none 0 0, .slice none 0 0, .int .i64 0, .int .i64 0, .int .i64 e.epoch, v23]).toArray) rfl (r_loadAll rfl (S141.arr 0 rfl) U38 rfl (by kernel_rfl)) ?_))))
  refine sA [.int .i64 e.kind, .int .i64 e.writer, .int .i64 e.seq, .slice none 0 0, .slice none 0 0, .int .i64 0, .int .i64 0, .int .i64 e.epoch, v23] rfl rfl (S141.arr 1 rfl) rfl (by kernel_rfl) (ones_cons rfl (ones_cons rfl (ones_cons rfl (ones_cons rfl (ones_cons rfl (ones_cons rfl (ones_cons rfl (ones_cons rfl (ones_cons o24 (fun _ h => nomatch h)))))))))) ?_
  intro w142 A143 K144 z145
  have S146 := S141.wr1 (ds := [.int .i64 e.kind, .int .i64 e.writer, .int .i64 e.seq, .slice none 0 0, .slice none 0 0, .int .i64 0, .int .i64 0, .int .i64 e.epoch, v23]) K144 A143
  refine EL_nil (thn_n (EC_ret ?_))
  refine fin1c Tryz.results93 (show _ = ptr b33 from rfl) (S146.arr 1 rfl) U38 rfl (by kernel_rfl) ⟨_, rfl, ?_⟩
  have q147 : e.bare = (⟨e.kind, e.writer, e.seq, [], [], 0, 0, e.epoch, e.wraps⟩ : Entry) := by simp [Entry.bare, hk]
  have S148 := S146.dr0
  have S149 := S148.dr0
  have S150 := S149.dr0
  exact ⟨[.int .i64 e.kind, .int .i64 e.writer, .int .i64 e.seq, .slice none 0 0, .slice none 0 0, .int .i64 0, .int .i64 0, .int .i64 e.epoch, v23], rfl, (by rw [q147]; exact ⟨(.slice none 0 0), (.slice none 0 0), v23, rfl, (by first | assumption | (dsimp only; omega)), (by first | assumption | (dsimp only; omega)), (by first | assumption | (dsimp only; omega)), ⟨rfl, Ro.nil⟩, ⟨rfl, Ro.nil⟩, (by dsimp only; omega), (by dsimp only; omega), (by first | assumption | (dsimp only; omega)), ⟨o24, H25⟩⟩), S150⟩
  have hn5 : ¬ e.kind = 5 := h128
  refine EC_skip (inB_n (thn_n (EC_seq (EC_reg (vl (.agg ([.int .i64 e.kind, .int .i64 e.writer, .int .i64 e.seq, .slice none 0 0, .slice none 0 0, .int .i64 0, .int .i64 0, .int .i64 0, .slice none 0 0]).toArray) rfl (r_loadAll rfl (S51.arr 0 rfl) U38 rfl (by kernel_rfl)) ?_)))))
  refine sA [.int .i64 e.kind, .int .i64 e.writer, .int .i64 e.seq, .slice none 0 0, .slice none 0 0, .int .i64 0, .int .i64 0, .int .i64 0, .slice none 0 0] rfl rfl (S51.arr 1 rfl) rfl (by kernel_rfl) (by simp [Value.oneCell']) ?_
  intro w151 A152 K153 z154
  have S155 := S51.wr1 (ds := [.int .i64 e.kind, .int .i64 e.writer, .int .i64 e.seq, .slice none 0 0, .slice none 0 0, .int .i64 0, .int .i64 0, .int .i64 0, .slice none 0 0]) K153 A152
  refine EL_nil (thn_n (EC_ret ?_))
  refine fin1c Tryz.results93 (show _ = ptr b33 from rfl) (S155.arr 1 rfl) U38 rfl (by kernel_rfl) ⟨_, rfl, ?_⟩
  have q156 : e.bare = (⟨e.kind, e.writer, e.seq, [], [], 0, 0, 0, []⟩ : Entry) := by simp [Entry.bare, hn1, hn2, hn3, hn4, hn5]
  have S157 := S155.dr0
  have S158 := S157.dr0
  have S159 := S158.dr0
  exact ⟨[.int .i64 e.kind, .int .i64 e.writer, .int .i64 e.seq, .slice none 0 0, .slice none 0 0, .int .i64 0, .int .i64 0, .int .i64 0, .slice none 0 0], rfl, (by rw [q156]; exact ⟨(.slice none 0 0), (.slice none 0 0), (.slice none 0 0), rfl, (by first | assumption | (dsimp only; omega)), (by first | assumption | (dsimp only; omega)), (by first | assumption | (dsimp only; omega)), ⟨rfl, Ro.nil⟩, ⟨rfl, Ro.nil⟩, (by dsimp only; omega), (by dsimp only; omega), (by dsimp only; omega), ⟨rfl, RoX.nil⟩⟩), S159⟩

end Go.Proofs.YtoajodjcmeijgaaGreat
