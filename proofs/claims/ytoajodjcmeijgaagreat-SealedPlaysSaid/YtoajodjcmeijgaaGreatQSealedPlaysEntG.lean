import Derived.Test.YtoajodjcmeijgaaGreatQSealedPlaysEntF
set_option linter.unusedVariables false
set_option linter.unusedSimpArgs false
namespace Go.Proofs.YtoajodjcmeijgaaGreat
open Go.RowKit Go.Ecal
theorem dl3 (n : Nat) (b : Bool) : n = 0 ∨ (0 < n ∧ b = true) ∨ (0 < n ∧ b = false) := (Nat.eq_zero_or_pos n).elim .inl fun h => by cases b; exact .inr (.inr ⟨h, rfl⟩); exact .inr (.inl ⟨h, rfl⟩)
set_option maxRecDepth 100000 in
set_option maxHeartbeats 4000000 in
theorem who_c (b : Nat) (q : Nat) (r : Rd) (I : Gh) (R : List HP) (w : World) (S : Sat w I (Blk b 92 [ptr q] :: RdP (ptr q) r :: R)) : Ret Tryz.prog 83 [ptr b] w fun v w' => ∃ J : Gh, Gh.le I J ∧ .int .i64 (rdNum r 1 16) = v ∧ Sat w' J (Blk b 92 [ptr q] :: RdP (ptr q) (rdNumS r 1 16) :: R) := by
  refine ret_E Tryz.func83 rfl Tryz.ntmps83 (by simp) ?_
  refine EC_seq (EC_reg (vA (.int .i64 0) rfl rfl (EL_nil (thn_n (EC_seq ?_)))))
  refine EC_reg (vL (ptr q) rfl rfl (S.arr 0 rfl) rfl U92 rfl ?_)
  have S11 := S.fr1
  refine eR rfl F84 rfl (Number_c (ptr q) r 1 16 I _ _ S11) ?_
  rintro _ w12 ⟨I14, le15, rfl, S13⟩
  refine vA (.int .i64 (rdNum r 1 16)) rfl rfl (EL_nil (thn_n (EC_ret ?_)))
  refine fin1 Tryz.results83 (show _ = .int .i64 (rdNum r 1 16) from rfl) ⟨_, rfl, ?_⟩
  have S16 := S13.fr1
  exact ⟨I14, le15, rfl, S16⟩

set_option maxRecDepth 100000 in
set_option maxHeartbeats 4000000 in
theorem Decode_c (v0 : Value) (l : List UInt8) (I : Gh) (R : List HP) (w : World) (S : Sat w I (R)) (Q0 : RoB I v0 l) (hl : l.length ≤ 1000000000) : Ret Tryz.prog 48 [v0] w fun v w' => ∃ cr : List Value, ∃ J : Gh, Gh.le I J ∧ .tuple #[.agg cr.toArray, .int .i64 (decE l)] = v ∧ entR.r J cr (decV l) ∧ Sat w' J (R) := by
  have lq0 := RoB.le Q0 S.le
  refine ret_E Tryz.func48 rfl Tryz.ntmps48 (by simp) ?_
  refine EC_seq (EC_reg ?_)
  refine EL_alloc (z := .agg #[.int .i64 0, .int .i64 0, .int .i64 0, .slice none 0 0, .slice none 0 0, .int .i64 0, .int .i64 0, .int .i64 0, .slice none 0 0]) entR0 rfl (by kernel_rfl) rfl ?_
  intro b11 w12 k13 A14 B15 z16
  have S17 := S.newB B15 A14 k13
  refine vA (.int .i64 0) rfl rfl (EL_nil (thn_n (EC_seq (EC_reg (vM v0 rfl rfl ?_)))))
  refine eR rfl F46 rfl (Read_c v0 l I _ _ S17 Q0 (by first | assumption | omega | (simp; done) | (simp; omega))) ?_
  rintro _ w18 ⟨p20, I21, le22, rfl, S19⟩
  obtain ⟨q23, rfl⟩ := RdP.ptr S19
  refine EL_alloc (z := .pointer none) [.pointer none] rfl (by kernel_rfl) rfl ?_
  intro b24 w25 k26 A27 B28 z29
  have S30 := S19.newB B28 A27 k26
  refine EL_storeA (j := 0) (u := ptr q23) rfl rfl (S30.arr 0 rfl) (by first | decide | (simp; omega) | simp) rfl (by kernel_rfl) ?_
  intro w31 A32 K33 z34
  have S35 := S30.wr0 (ds := [ptr q23]) K33 A32
  refine EL_nil (thn_n (EC_seq (EC_reg (vl (.func (.func 83) #[] [ptr b24].toArray) rfl (r_mkfun rfl rfl) (vA (.func (.func 83) #[] [ptr b24].toArray) rfl rfl ?_)))))
  refine EL_nil (thn_n (EC_seq (EC_reg (vL (ptr q23) rfl rfl (S35.arr 0 rfl) rfl U92 rfl ?_))))
  have S36 := S35.fr1
  refine eR rfl F84 rfl (Number_c (ptr q23) (Rd.mk l false) 1 5 I21 _ _ S36) ?_
  rintro _ w37 ⟨I39, le40, rfl, S38⟩
  have hn41 := rdNum_rng (Rd.mk l false) 1 (hi := 5) (by omega)
  refine vl (.agg ([.int .i64 (rdNum (Rd.mk l false) 1 5), .int .i64 0, .int .i64 0, .slice none 0 0, .slice none 0 0, .int .i64 0, .int .i64 0, .int .i64 0, .slice none 0 0]).toArray) rfl (r_buildS (l := [(0, .int .i64 (rdNum (Rd.mk l false) 1 5))]) st_38 (parts1 rfl) (Eq.trans (show Instr.fill _ _ [(0, .int .i64 (rdNum (Rd.mk l false) 1 5))] = _ from (fill_one rfl rfl rfl fill_end)) (by kernel_rfl))) ?_
  refine EL_alloc (z := .agg #[.int .i64 0, .int .i64 0, .int .i64 0, .slice none 0 0, .slice none 0 0, .int .i64 0, .int .i64 0, .int .i64 0, .slice none 0 0]) entR0 rfl (by kernel_rfl) rfl ?_
  intro b42 w43 k44 A45 B46 z47
  have S48 := S38.newB B46 A45 k44
  refine sA [.int .i64 (rdNum (Rd.mk l false) 1 5), .int .i64 0, .int .i64 0, .slice none 0 0, .slice none 0 0, .int .i64 0, .int .i64 0, .int .i64 0, .slice none 0 0] rfl rfl (S48.arr 0 rfl) rfl (by kernel_rfl) (by simp [Value.oneCell']) ?_
  intro w49 A50 K51 z52
  have S53 := S48.wr0 (ds := [.int .i64 (rdNum (Rd.mk l false) 1 5), .int .i64 0, .int .i64 0, .slice none 0 0, .slice none 0 0, .int .i64 0, .int .i64 0, .int .i64 0, .slice none 0 0]) K51 A50
  refine EL_nil (thn_n (EC_seq (EC_reg (vM (.func (.func 83) #[] [ptr b24].toArray) rfl rfl ?_))))
  have S54 := S53.fr1
  have S55 := S54.fr2
  refine EL_retw _ rfl rfl Tryz.func83 rfl nm83 rfl (who_c b24 q23 (rdNumS (Rd.mk l false) 1 5) I39 _ _ S55) ?_
  rintro _ w56 ⟨I58, le59, rfl, S57⟩
  have hn60 := rdNum_rng (rdNumS (Rd.mk l false) 1 5) 1 (hi := 16) (by omega)
  refine vl (ptr b42 1) rfl (fP 0 rfl U38 (by kernel_rfl)) ?_
  refine EL_storeA (j := 1) (u := .int .i64 (rdNum (rdNumS (Rd.mk l false) 1 5) 1 16)) rfl rfl (S57.arr 2 rfl) (by first | decide | (simp; omega) | simp) rfl (by kernel_rfl) ?_
  intro w61 A62 K63 z64
  have S65 := S57.wr2 (ds := [.int .i64 (rdNum (Rd.mk l false) 1 5), .int .i64 (rdNum (rdNumS (Rd.mk l false) 1 5) 1 16), .int .i64 0, .slice none 0 0, .slice none 0 0, .int .i64 0, .int .i64 0, .int .i64 0, .slice none 0 0]) K63 A62
  refine EL_nil (thn_n (EC_seq (EC_reg (vL (ptr q23) rfl rfl (S65.arr 0 rfl) rfl U92 rfl ?_))))
  have S66 := S65.fr1
  refine eR rfl F84 rfl (Number_c (ptr q23) (rdNumS (rdNumS (Rd.mk l false) 1 5) 1 16) 1 1099511627776 I58 _ _ S66) ?_
  rintro _ w67 ⟨I69, le70, rfl, S68⟩
  have hn71 := rdNum_rng (rdNumS (rdNumS (Rd.mk l false) 1 5) 1 16) 1 (hi := 1099511627776) (by omega)
  refine vl (ptr b42 2) rfl (fP 0 rfl U38 (by kernel_rfl)) ?_
  refine EL_storeA (j := 2) (u := .int .i64 (rdNum (rdNumS (rdNumS (Rd.mk l false) 1 5) 1 16) 1 1099511627776)) rfl rfl (S68.arr 2 rfl) (by first | decide | (simp; omega) | simp) rfl (by kernel_rfl) ?_
  intro w72 A73 K74 z75
  have S76 := S68.wr2 (ds := [.int .i64 (rdNum (Rd.mk l false) 1 5), .int .i64 (rdNum (rdNumS (Rd.mk l false) 1 5) 1 16), .int .i64 (rdNum (rdNumS (rdNumS (Rd.mk l false) 1 5) 1 16) 1 1099511627776), .slice none 0 0, .slice none 0 0, .int .i64 0, .int .i64 0, .int .i64 0, .slice none 0 0]) K74 A73
  refine EL_nil (thn_n (EC_seq (EC_seq ?_)))
  rcases (by omega : rdNum (Rd.mk l false) 1 5 = 1 ∨ rdNum (Rd.mk l false) 1 5 = 2 ∨ rdNum (Rd.mk l false) 1 5 = 3 ∨ rdNum (Rd.mk l false) 1 5 = 4 ∨ rdNum (Rd.mk l false) 1 5 = 5 ∨ (¬ rdNum (Rd.mk l false) 1 5 = 1 ∧ ¬ rdNum (Rd.mk l false) 1 5 = 2 ∧ ¬ rdNum (Rd.mk l false) 1 5 = 3 ∧ ¬ rdNum (Rd.mk l false) 1 5 = 4 ∧ ¬ rdNum (Rd.mk l false) 1 5 = 5)) with hk | hk | hk | hk | hk | hk
  refine EC_reg (vl (ptr b42 0) rfl (fP 0 rfl U38 (by kernel_rfl)) (vL (.int .i64 (rdNum (Rd.mk l false) 1 5)) rfl rfl (S76.arr 2 rfl) rfl U3 rfl (EL_nil (thn_n (EC_block ?_)))))
  refine EC_seq (EC_reg (vl (.bool true) rfl (r_dec (show (decide ((rdNum (Rd.mk l false) 1 5) = 1)) = true from by rw [decide_eq_true_eq]; omega) (r_eql rfl rfl)) (vA (.bool true) rfl rfl (EL_nil (thn_n ?_)))))
  refine EC_cond_true rfl ?_
  refine EC_seq (EC_reg (vL (ptr q23) rfl rfl (S76.arr 1 rfl) rfl U92 rfl ?_))
  refine eR rfl F47 rfl (Text_c (ptr q23) (rdNumS (rdNumS (rdNumS (Rd.mk l false) 1 5) 1 16) 1 1099511627776) 1 64 I69 _ _ S76) ?_
  rintro _ w77 ⟨u79, I80, le81, rfl, H82, S78⟩
  refine vl (ptr b42 3) rfl (fP 0 rfl U38 (by kernel_rfl)) ?_
  refine EL_storeA (j := 3) (u := u79) rfl rfl (S78.arr 2 rfl) (by first | decide | (simp; omega) | simp) (row_one (H82 _ S78.le)) (by kernel_rfl) ?_
  intro w83 A84 K85 z86
  have S87 := S78.wr2 (ds := [.int .i64 (rdNum (Rd.mk l false) 1 5), .int .i64 (rdNum (rdNumS (Rd.mk l false) 1 5) 1 16), .int .i64 (rdNum (rdNumS (rdNumS (Rd.mk l false) 1 5) 1 16) 1 1099511627776), u79, .slice none 0 0, .int .i64 0, .int .i64 0, .int .i64 0, .slice none 0 0]) K85 A84
  refine EL_nil (thn_n (EC_reg (vL (ptr q23) rfl rfl (S87.arr 1 rfl) rfl U92 rfl ?_)))
  refine eR rfl F47 rfl (Text_c (ptr q23) (rdTxtS (rdNumS (rdNumS (rdNumS (Rd.mk l false) 1 5) 1 16) 1 1099511627776) 1 64) 0 512 I80 _ _ S87) ?_
  rintro _ w88 ⟨u90, I91, le92, rfl, H93, S89⟩
  refine vl (ptr b42 4) rfl (fP 0 rfl U38 (by kernel_rfl)) ?_
  refine EL_storeA (j := 4) (u := u90) rfl rfl (S89.arr 2 rfl) (by first | decide | (simp; omega) | simp) (row_one (H93 _ S89.le)) (by kernel_rfl) ?_
  intro w94 A95 K96 z97
  have S98 := S89.wr2 (ds := [.int .i64 (rdNum (Rd.mk l false) 1 5), .int .i64 (rdNum (rdNumS (Rd.mk l false) 1 5) 1 16), .int .i64 (rdNum (rdNumS (rdNumS (Rd.mk l false) 1 5) 1 16) 1 1099511627776), u79, u90, .int .i64 0, .int .i64 0, .int .i64 0, .slice none 0 0]) K96 A95
  refine EL_nil (inB_n (thn_n (EC_seq (EC_seq ?_))))
  have hde : rdEntry ⟨l, false⟩ = ((⟨rdNum (Rd.mk l false) 1 5, rdNum (rdNumS (Rd.mk l false) 1 5) 1 16, rdNum (rdNumS (rdNumS (Rd.mk l false) 1 5) 1 16) 1 1099511627776, rdTxt (rdNumS (rdNumS (rdNumS (Rd.mk l false) 1 5) 1 16) 1 1099511627776) 1 64, rdTxt (rdTxtS (rdNumS (rdNumS (rdNumS (Rd.mk l false) 1 5) 1 16) 1 1099511627776) 1 64) 0 512, 0, 0, 0, []⟩ : Entry), rdTxtS (rdTxtS (rdNumS (rdNumS (rdNumS (Rd.mk l false) 1 5) 1 16) 1 1099511627776) 1 64) 0 512) := by rw [rdEntry, rdBody, if_pos hk]
  rcases (by cases rdEnd (rdTxtS (rdTxtS (rdNumS (rdNumS (rdNumS (Rd.mk l false) 1 5) 1 16) 1 1099511627776) 1 64) 0 512) <;> simp : rdEnd (rdTxtS (rdTxtS (rdNumS (rdNumS (rdNumS (Rd.mk l false) 1 5) 1 16) 1 1099511627776) 1 64) 0 512) = true ∨ rdEnd (rdTxtS (rdTxtS (rdNumS (rdNumS (rdNumS (Rd.mk l false) 1 5) 1 16) 1 1099511627776) 1 64) 0 512) = false) with hen | hen
  refine EC_reg (vL (ptr q23) rfl rfl (S98.arr 1 rfl) rfl U92 rfl ?_)
  refine eR rfl F49 rfl (End_c (ptr q23) (rdTxtS (rdTxtS (rdNumS (rdNumS (rdNumS (Rd.mk l false) 1 5) 1 16) 1 1099511627776) 1 64) 0 512) I91 _ _ S98) ?_
  rintro _ w99 ⟨rfl, S100⟩
  refine vl (.bool false) rfl (r_dec (show (!true) = false from rfl) (r_not (Eq.trans (show _ = Value.bool (rdEnd (rdTxtS (rdTxtS (rdNumS (rdNumS (rdNumS (Rd.mk l false) 1 5) 1 16) 1 1099511627776) 1 64) 0 512)) from rfl) (congrArg Value.bool (show (rdEnd (rdTxtS (rdTxtS (rdNumS (rdNumS (rdNumS (Rd.mk l false) 1 5) 1 16) 1 1099511627776) 1 64) 0 512)) = true from hen))))) (vM (.bool false) rfl rfl (gl  80 rfl rfl rfl rfl (.agg ([.int .i64 (rdNum (Rd.mk l false) 1 5), .int .i64 (rdNum (rdNumS (Rd.mk l false) 1 5) 1 16), .int .i64 (rdNum (rdNumS (rdNumS (Rd.mk l false) 1 5) 1 16) 1 1099511627776), u79, u90, .int .i64 0, .int .i64 0, .int .i64 0, .slice none 0 0]).toArray) rfl (r_loadAll rfl (S100.arr 2 rfl) U38 rfl (by kernel_rfl)) ?_))
  refine eG 80 rfl rfl rfl rfl rfl F71 rfl (Right_c [.int .i64 (rdNum (Rd.mk l false) 1 5), .int .i64 (rdNum (rdNumS (Rd.mk l false) 1 5) 1 16), .int .i64 (rdNum (rdNumS (rdNumS (Rd.mk l false) 1 5) 1 16) 1 1099511627776), u79, u90, .int .i64 0, .int .i64 0, .int .i64 0, .slice none 0 0] (⟨rdNum (Rd.mk l false) 1 5, rdNum (rdNumS (Rd.mk l false) 1 5) 1 16, rdNum (rdNumS (rdNumS (Rd.mk l false) 1 5) 1 16) 1 1099511627776, rdTxt (rdNumS (rdNumS (rdNumS (Rd.mk l false) 1 5) 1 16) 1 1099511627776) 1 64, rdTxt (rdTxtS (rdNumS (rdNumS (rdNumS (Rd.mk l false) 1 5) 1 16) 1 1099511627776) 1 64) 0 512, 0, 0, 0, []⟩ : Entry) I91 _ _ S100 ⟨u79, u90, (.slice none 0 0), rfl, (by first | assumption | (dsimp only; omega)), (by first | assumption | (dsimp only; omega)), (by first | assumption | (dsimp only; omega)), ⟨(row_one (H82 _ (lT le92 S100.le))), (H82.up le92)⟩, ⟨(row_one (H93 _ S100.le)), H93⟩, (by dsimp only; omega), (by dsimp only; omega), (by dsimp only; omega), ⟨rfl, RoX.nil⟩⟩) ?_
  rintro _ w101 ⟨I103, le104, rfl, S102⟩
  refine gl  80 rfl rfl rfl rfl (.bool (!((⟨rdNum (Rd.mk l false) 1 5, rdNum (rdNumS (Rd.mk l false) 1 5) 1 16, rdNum (rdNumS (rdNumS (Rd.mk l false) 1 5) 1 16) 1 1099511627776, rdTxt (rdNumS (rdNumS (rdNumS (Rd.mk l false) 1 5) 1 16) 1 1099511627776) 1 64, rdTxt (rdTxtS (rdNumS (rdNumS (rdNumS (Rd.mk l false) 1 5) 1 16) 1 1099511627776) 1 64) 0 512, 0, 0, 0, []⟩ : Entry).right))) rfl (r_not rfl) (vF (.bool (!((⟨rdNum (Rd.mk l false) 1 5, rdNum (rdNumS (Rd.mk l false) 1 5) 1 16, rdNum (rdNumS (rdNumS (Rd.mk l false) 1 5) 1 16) 1 1099511627776, rdTxt (rdNumS (rdNumS (rdNumS (Rd.mk l false) 1 5) 1 16) 1 1099511627776) 1 64, rdTxt (rdTxtS (rdNumS (rdNumS (rdNumS (Rd.mk l false) 1 5) 1 16) 1 1099511627776) 1 64) 0 512, 0, 0, 0, []⟩ : Entry).right))) rfl rfl rfl (EL_nil (thn_n ?_)))
  refine EC_cond (t := !((⟨rdNum (Rd.mk l false) 1 5, rdNum (rdNumS (Rd.mk l false) 1 5) 1 16, rdNum (rdNumS (rdNumS (Rd.mk l false) 1 5) 1 16) 1 1099511627776, rdTxt (rdNumS (rdNumS (rdNumS (Rd.mk l false) 1 5) 1 16) 1 1099511627776) 1 64, rdTxt (rdTxtS (rdNumS (rdNumS (rdNumS (Rd.mk l false) 1 5) 1 16) 1 1099511627776) 1 64) 0 512, 0, 0, 0, []⟩ : Entry).right)) rfl (fun h105 => ?_) (fun h105 => ?_)
  have hrt : ((⟨rdNum (Rd.mk l false) 1 5, rdNum (rdNumS (Rd.mk l false) 1 5) 1 16, rdNum (rdNumS (rdNumS (Rd.mk l false) 1 5) 1 16) 1 1099511627776, rdTxt (rdNumS (rdNumS (rdNumS (Rd.mk l false) 1 5) 1 16) 1 1099511627776) 1 64, rdTxt (rdTxtS (rdNumS (rdNumS (rdNumS (Rd.mk l false) 1 5) 1 16) 1 1099511627776) 1 64) 0 512, 0, 0, 0, []⟩ : Entry)).right = false := (Bool.not_eq_true' _).mp h105
  refine EC_seq (EC_reg (vl (.agg (entR0).toArray) rfl (r_buildS (l := []) st_38 rfl (Eq.trans (show Instr.fill _ _ [] = _ from fill_end) (by kernel_rfl))) ?_))
  refine sA entR0 rfl rfl (S102.arr 3 rfl) rfl (by kernel_rfl) (by simp [Value.oneCell']) ?_
  intro w106 A107 K108 z109
  have S110 := S102.wr3 (ds := entR0) K108 A107
  refine vA (.int .i64 10) rfl rfl (EL_nil (thn_n (EC_ret (thn_r ?_))))
  refine fin2c Tryz.results48 (show _ = ptr b11 from rfl) (show _ = .int .i64 10 from rfl) (S110.arr 3 rfl) U38 rfl (by kernel_rfl) ⟨_, rfl, ?_⟩
  have hok : decOk l = false := by rw [decOk, hde]; dsimp only; rw [hen, hrt]; rfl
  have q111 : (decV l) = (⟨0, 0, 0, [], [], 0, 0, 0, []⟩ : Entry) := by rw [decV, hok]; rfl
  have S112 := S110.dr0
  have S113 := S112.dr0
  have S114 := S113.dr0
  have S115 := S114.dr0
  exact ⟨entR0, I103, (lT (lT (lT (lT (lT (lT le22 le40) le59) le70) le81) le92) le104), (by rw [decE, hok]; rfl), (by rw [q111]; exact (entRz _)), S115⟩
  have hrt : ((⟨rdNum (Rd.mk l false) 1 5, rdNum (rdNumS (Rd.mk l false) 1 5) 1 16, rdNum (rdNumS (rdNumS (Rd.mk l false) 1 5) 1 16) 1 1099511627776, rdTxt (rdNumS (rdNumS (rdNumS (Rd.mk l false) 1 5) 1 16) 1 1099511627776) 1 64, rdTxt (rdTxtS (rdNumS (rdNumS (rdNumS (Rd.mk l false) 1 5) 1 16) 1 1099511627776) 1 64) 0 512, 0, 0, 0, []⟩ : Entry)).right = true := (Bool.not_eq_false' _).mp h105
  refine EC_skip (thn_n (EC_seq (EC_reg (vl (.agg ([.int .i64 (rdNum (Rd.mk l false) 1 5), .int .i64 (rdNum (rdNumS (Rd.mk l false) 1 5) 1 16), .int .i64 (rdNum (rdNumS (rdNumS (Rd.mk l false) 1 5) 1 16) 1 1099511627776), u79, u90, .int .i64 0, .int .i64 0, .int .i64 0, .slice none 0 0]).toArray) rfl (r_loadAll rfl (S102.arr 2 rfl) U38 rfl (by kernel_rfl)) ?_))))
  refine sA [.int .i64 (rdNum (Rd.mk l false) 1 5), .int .i64 (rdNum (rdNumS (Rd.mk l false) 1 5) 1 16), .int .i64 (rdNum (rdNumS (rdNumS (Rd.mk l false) 1 5) 1 16) 1 1099511627776), u79, u90, .int .i64 0, .int .i64 0, .int .i64 0, .slice none 0 0] rfl rfl (S102.arr 3 rfl) rfl (by kernel_rfl) (ones_cons rfl (ones_cons rfl (ones_cons rfl (ones_cons (row_one (H82 _ (lT (lT le92 le104) S102.le))) (ones_cons (row_one (H93 _ (lT le104 S102.le))) (ones_cons rfl (ones_cons rfl (ones_cons rfl (ones_cons rfl (fun _ h => nomatch h)))))))))) ?_
  intro w116 A117 K118 z119
  have S120 := S102.wr3 (ds := [.int .i64 (rdNum (Rd.mk l false) 1 5), .int .i64 (rdNum (rdNumS (Rd.mk l false) 1 5) 1 16), .int .i64 (rdNum (rdNumS (rdNumS (Rd.mk l false) 1 5) 1 16) 1 1099511627776), u79, u90, .int .i64 0, .int .i64 0, .int .i64 0, .slice none 0 0]) K118 A117
  refine vA (.int .i64 0) rfl rfl (EL_nil (thn_n (EC_ret ?_)))
  refine fin2c Tryz.results48 (show _ = ptr b11 from rfl) (show _ = .int .i64 0 from rfl) (S120.arr 3 rfl) U38 rfl (by kernel_rfl) ⟨_, rfl, ?_⟩
  have hok : decOk l = true := by rw [decOk, hde]; dsimp only; rw [hen, hrt]; rfl
  have q121 : (decV l) = (⟨rdNum (Rd.mk l false) 1 5, rdNum (rdNumS (Rd.mk l false) 1 5) 1 16, rdNum (rdNumS (rdNumS (Rd.mk l false) 1 5) 1 16) 1 1099511627776, rdTxt (rdNumS (rdNumS (rdNumS (Rd.mk l false) 1 5) 1 16) 1 1099511627776) 1 64, rdTxt (rdTxtS (rdNumS (rdNumS (rdNumS (Rd.mk l false) 1 5) 1 16) 1 1099511627776) 1 64) 0 512, 0, 0, 0, []⟩ : Entry) := by rw [decV, if_pos hok, hde]
  have S122 := S120.dr0
  have S123 := S122.dr0
  have S124 := S123.dr0
  have S125 := S124.dr0
  exact ⟨[.int .i64 (rdNum (Rd.mk l false) 1 5), .int .i64 (rdNum (rdNumS (Rd.mk l false) 1 5) 1 16), .int .i64 (rdNum (rdNumS (rdNumS (Rd.mk l false) 1 5) 1 16) 1 1099511627776), u79, u90, .int .i64 0, .int .i64 0, .int .i64 0, .slice none 0 0], I103, (lT (lT (lT (lT (lT (lT le22 le40) le59) le70) le81) le92) le104), (by rw [decE, if_pos hok]), (by rw [q121]; exact ⟨u79, u90, (.slice none 0 0), rfl, (by first | assumption | (dsimp only; omega)), (by first | assumption | (dsimp only; omega)), (by first | assumption | (dsimp only; omega)), ⟨(row_one (H82 _ (lT (lT le92 le104) S125.le))), (H82.up (lT le92 le104))⟩, ⟨(row_one (H93 _ (lT le104 S125.le))), (H93.up le104)⟩, (by dsimp only; omega), (by dsimp only; omega), (by dsimp only; omega), ⟨rfl, RoX.nil⟩⟩), S125⟩
  refine EC_reg (vL (ptr q23) rfl rfl (S98.arr 1 rfl) rfl U92 rfl ?_)
  refine eR rfl F49 rfl (End_c (ptr q23) (rdTxtS (rdTxtS (rdNumS (rdNumS (rdNumS (Rd.mk l false) 1 5) 1 16) 1 1099511627776) 1 64) 0 512) I91 _ _ S98) ?_
  rintro _ w126 ⟨rfl, S127⟩
  refine vl (.bool true) rfl (r_dec (show (!false) = true from rfl) (r_not (Eq.trans (show _ = Value.bool (rdEnd (rdTxtS (rdTxtS (rdNumS (rdNumS (rdNumS (Rd.mk l false) 1 5) 1 16) 1 1099511627776) 1 64) 0 512)) from rfl) (congrArg Value.bool (show (rdEnd (rdTxtS (rdTxtS (rdNumS (rdNumS (rdNumS (Rd.mk l false) 1 5) 1 16) 1 1099511627776) 1 64) 0 512)) = false from hen))))) (vM (.bool true) rfl rfl (EL_pass 80 rfl rfl rfl rfl rfl (EL_pass 80 rfl rfl rfl rfl rfl (EL_pass 80 rfl rfl rfl rfl rfl (vT (.bool true) rfl rfl rfl ?_)))))
  refine EL_nil (thn_n ?_)
  refine EC_cond_true rfl ?_
  refine EC_seq (EC_reg (vl (.agg (entR0).toArray) rfl (r_buildS (l := []) st_38 rfl (Eq.trans (show Instr.fill _ _ [] = _ from fill_end) (by kernel_rfl))) ?_))
  refine sA entR0 rfl rfl (S127.arr 3 rfl) rfl (by kernel_rfl) (by simp [Value.oneCell']) ?_
  intro w128 A129 K130 z131
  have S132 := S127.wr3 (ds := entR0) K130 A129
  refine vA (.int .i64 10) rfl rfl (EL_nil (thn_n (EC_ret (thn_r ?_))))
  refine fin2c Tryz.results48 (show _ = ptr b11 from rfl) (show _ = .int .i64 10 from rfl) (S132.arr 3 rfl) U38 rfl (by kernel_rfl) ⟨_, rfl, ?_⟩
  have hok : decOk l = false := by rw [decOk, hde]; dsimp only; rw [hen, Bool.false_and]
  have q133 : (decV l) = (⟨0, 0, 0, [], [], 0, 0, 0, []⟩ : Entry) := by rw [decV, hok]; rfl
  have S134 := S132.dr0
  have S135 := S134.dr0
  have S136 := S135.dr0
  have S137 := S136.dr0
  exact ⟨entR0, I91, (lT (lT (lT (lT (lT le22 le40) le59) le70) le81) le92), (by rw [decE, hok]; rfl), (by rw [q133]; exact (entRz _)), S137⟩
  refine EC_reg (vl (ptr b42 0) rfl (fP 0 rfl U38 (by kernel_rfl)) (vL (.int .i64 (rdNum (Rd.mk l false) 1 5)) rfl rfl (S76.arr 2 rfl) rfl U3 rfl (EL_nil (thn_n (EC_block ?_)))))
  refine EC_seq (EC_reg (vl (.bool false) rfl (r_dec (show (decide ((rdNum (Rd.mk l false) 1 5) = 1)) = false from by rw [decide_eq_false_iff_not]; omega) (r_eql rfl rfl)) (vA (.bool false) rfl rfl (EL_nil (thn_n ?_)))))
  refine EC_cond_false rfl ?_
  refine EC_seq (EC_reg (vl (.bool true) rfl (r_dec (show (decide ((rdNum (Rd.mk l false) 1 5) = 2)) = true from by rw [decide_eq_true_eq]; omega) (r_eql rfl rfl)) (vA (.bool true) rfl rfl (EL_nil (thn_n ?_)))))
  refine EC_cond_true rfl ?_
  refine EC_reg (vL (ptr q23) rfl rfl (S76.arr 1 rfl) rfl U92 rfl ?_)
  refine eR rfl F47 rfl (Text_c (ptr q23) (rdNumS (rdNumS (rdNumS (Rd.mk l false) 1 5) 1 16) 1 1099511627776) 1 64 I69 _ _ S76) ?_
  rintro _ w138 ⟨u140, I141, le142, rfl, H143, S139⟩
  refine vl (ptr b42 3) rfl (fP 0 rfl U38 (by kernel_rfl)) ?_
  refine EL_storeA (j := 3) (u := u140) rfl rfl (S139.arr 2 rfl) (by first | decide | (simp; omega) | simp) (row_one (H143 _ S139.le)) (by kernel_rfl) ?_
  intro w144 A145 K146 z147
  have S148 := S139.wr2 (ds := [.int .i64 (rdNum (Rd.mk l false) 1 5), .int .i64 (rdNum (rdNumS (Rd.mk l false) 1 5) 1 16), .int .i64 (rdNum (rdNumS (rdNumS (Rd.mk l false) 1 5) 1 16) 1 1099511627776), u140, .slice none 0 0, .int .i64 0, .int .i64 0, .int .i64 0, .slice none 0 0]) K146 A145
  refine EL_nil (inB_n (thn_n (EC_seq (EC_seq ?_))))
  have hde : rdEntry ⟨l, false⟩ = ((⟨rdNum (Rd.mk l false) 1 5, rdNum (rdNumS (Rd.mk l false) 1 5) 1 16, rdNum (rdNumS (rdNumS (Rd.mk l false) 1 5) 1 16) 1 1099511627776, rdTxt (rdNumS (rdNumS (rdNumS (Rd.mk l false) 1 5) 1 16) 1 1099511627776) 1 64, [], 0, 0, 0, []⟩ : Entry), rdTxtS (rdNumS (rdNumS (rdNumS (Rd.mk l false) 1 5) 1 16) 1 1099511627776) 1 64) := by rw [rdEntry, rdBody, if_neg (by omega), if_pos hk]
  rcases (by cases rdEnd (rdTxtS (rdNumS (rdNumS (rdNumS (Rd.mk l false) 1 5) 1 16) 1 1099511627776) 1 64) <;> simp : rdEnd (rdTxtS (rdNumS (rdNumS (rdNumS (Rd.mk l false) 1 5) 1 16) 1 1099511627776) 1 64) = true ∨ rdEnd (rdTxtS (rdNumS (rdNumS (rdNumS (Rd.mk l false) 1 5) 1 16) 1 1099511627776) 1 64) = false) with hen | hen
  refine EC_reg (vL (ptr q23) rfl rfl (S148.arr 1 rfl) rfl U92 rfl ?_)
  refine eR rfl F49 rfl (End_c (ptr q23) (rdTxtS (rdNumS (rdNumS (rdNumS (Rd.mk l false) 1 5) 1 16) 1 1099511627776) 1 64) I141 _ _ S148) ?_
  rintro _ w149 ⟨rfl, S150⟩
  refine vl (.bool false) rfl (r_dec (show (!true) = false from rfl) (r_not (Eq.trans (show _ = Value.bool (rdEnd (rdTxtS (rdNumS (rdNumS (rdNumS (Rd.mk l false) 1 5) 1 16) 1 1099511627776) 1 64)) from rfl) (congrArg Value.bool (show (rdEnd (rdTxtS (rdNumS (rdNumS (rdNumS (Rd.mk l false) 1 5) 1 16) 1 1099511627776) 1 64)) = true from hen))))) (vM (.bool false) rfl rfl (gl  80 rfl rfl rfl rfl (.agg ([.int .i64 (rdNum (Rd.mk l false) 1 5), .int .i64 (rdNum (rdNumS (Rd.mk l false) 1 5) 1 16), .int .i64 (rdNum (rdNumS (rdNumS (Rd.mk l false) 1 5) 1 16) 1 1099511627776), u140, .slice none 0 0, .int .i64 0, .int .i64 0, .int .i64 0, .slice none 0 0]).toArray) rfl (r_loadAll rfl (S150.arr 2 rfl) U38 rfl (by kernel_rfl)) ?_))
  refine eG 80 rfl rfl rfl rfl rfl F71 rfl (Right_c [.int .i64 (rdNum (Rd.mk l false) 1 5), .int .i64 (rdNum (rdNumS (Rd.mk l false) 1 5) 1 16), .int .i64 (rdNum (rdNumS (rdNumS (Rd.mk l false) 1 5) 1 16) 1 1099511627776), u140, .slice none 0 0, .int .i64 0, .int .i64 0, .int .i64 0, .slice none 0 0] (⟨rdNum (Rd.mk l false) 1 5, rdNum (rdNumS (Rd.mk l false) 1 5) 1 16, rdNum (rdNumS (rdNumS (Rd.mk l false) 1 5) 1 16) 1 1099511627776, rdTxt (rdNumS (rdNumS (rdNumS (Rd.mk l false) 1 5) 1 16) 1 1099511627776) 1 64, [], 0, 0, 0, []⟩ : Entry) I141 _ _ S150 ⟨u140, (.slice none 0 0), (.slice none 0 0), rfl, (by first | assumption | (dsimp only; omega)), (by first | assumption | (dsimp only; omega)), (by first | assumption | (dsimp only; omega)), ⟨(row_one (H143 _ S150.le)), H143⟩, ⟨rfl, Ro.nil⟩, (by dsimp only; omega), (by dsimp only; omega), (by dsimp only; omega), ⟨rfl, RoX.nil⟩⟩) ?_
  rintro _ w151 ⟨I153, le154, rfl, S152⟩
  refine gl  80 rfl rfl rfl rfl (.bool (!((⟨rdNum (Rd.mk l false) 1 5, rdNum (rdNumS (Rd.mk l false) 1 5) 1 16, rdNum (rdNumS (rdNumS (Rd.mk l false) 1 5) 1 16) 1 1099511627776, rdTxt (rdNumS (rdNumS (rdNumS (Rd.mk l false) 1 5) 1 16) 1 1099511627776) 1 64, [], 0, 0, 0, []⟩ : Entry).right))) rfl (r_not rfl) (vF (.bool (!((⟨rdNum (Rd.mk l false) 1 5, rdNum (rdNumS (Rd.mk l false) 1 5) 1 16, rdNum (rdNumS (rdNumS (Rd.mk l false) 1 5) 1 16) 1 1099511627776, rdTxt (rdNumS (rdNumS (rdNumS (Rd.mk l false) 1 5) 1 16) 1 1099511627776) 1 64, [], 0, 0, 0, []⟩ : Entry).right))) rfl rfl rfl (EL_nil (thn_n ?_)))
  refine EC_cond (t := !((⟨rdNum (Rd.mk l false) 1 5, rdNum (rdNumS (Rd.mk l false) 1 5) 1 16, rdNum (rdNumS (rdNumS (Rd.mk l false) 1 5) 1 16) 1 1099511627776, rdTxt (rdNumS (rdNumS (rdNumS (Rd.mk l false) 1 5) 1 16) 1 1099511627776) 1 64, [], 0, 0, 0, []⟩ : Entry).right)) rfl (fun h155 => ?_) (fun h155 => ?_)
  have hrt : ((⟨rdNum (Rd.mk l false) 1 5, rdNum (rdNumS (Rd.mk l false) 1 5) 1 16, rdNum (rdNumS (rdNumS (Rd.mk l false) 1 5) 1 16) 1 1099511627776, rdTxt (rdNumS (rdNumS (rdNumS (Rd.mk l false) 1 5) 1 16) 1 1099511627776) 1 64, [], 0, 0, 0, []⟩ : Entry)).right = false := (Bool.not_eq_true' _).mp h155
  refine EC_seq (EC_reg (vl (.agg (entR0).toArray) rfl (r_buildS (l := []) st_38 rfl (Eq.trans (show Instr.fill _ _ [] = _ from fill_end) (by kernel_rfl))) ?_))
  refine sA entR0 rfl rfl (S152.arr 3 rfl) rfl (by kernel_rfl) (by simp [Value.oneCell']) ?_
  intro w156 A157 K158 z159
  have S160 := S152.wr3 (ds := entR0) K158 A157
  refine vA (.int .i64 10) rfl rfl (EL_nil (thn_n (EC_ret (thn_r ?_))))
  refine fin2c Tryz.results48 (show _ = ptr b11 from rfl) (show _ = .int .i64 10 from rfl) (S160.arr 3 rfl) U38 rfl (by kernel_rfl) ⟨_, rfl, ?_⟩
  have hok : decOk l = false := by rw [decOk, hde]; dsimp only; rw [hen, hrt]; rfl
  have q161 : (decV l) = (⟨0, 0, 0, [], [], 0, 0, 0, []⟩ : Entry) := by rw [decV, hok]; rfl
  have S162 := S160.dr0
  have S163 := S162.dr0
  have S164 := S163.dr0
  have S165 := S164.dr0
  exact ⟨entR0, I153, (lT (lT (lT (lT (lT le22 le40) le59) le70) le142) le154), (by rw [decE, hok]; rfl), (by rw [q161]; exact (entRz _)), S165⟩
  have hrt : ((⟨rdNum (Rd.mk l false) 1 5, rdNum (rdNumS (Rd.mk l false) 1 5) 1 16, rdNum (rdNumS (rdNumS (Rd.mk l false) 1 5) 1 16) 1 1099511627776, rdTxt (rdNumS (rdNumS (rdNumS (Rd.mk l false) 1 5) 1 16) 1 1099511627776) 1 64, [], 0, 0, 0, []⟩ : Entry)).right = true := (Bool.not_eq_false' _).mp h155
  refine EC_skip (thn_n (EC_seq (EC_reg (vl (.agg ([.int .i64 (rdNum (Rd.mk l false) 1 5), .int .i64 (rdNum (rdNumS (Rd.mk l false) 1 5) 1 16), .int .i64 (rdNum (rdNumS (rdNumS (Rd.mk l false) 1 5) 1 16) 1 1099511627776), u140, .slice none 0 0, .int .i64 0, .int .i64 0, .int .i64 0, .slice none 0 0]).toArray) rfl (r_loadAll rfl (S152.arr 2 rfl) U38 rfl (by kernel_rfl)) ?_))))
  refine sA [.int .i64 (rdNum (Rd.mk l false) 1 5), .int .i64 (rdNum (rdNumS (Rd.mk l false) 1 5) 1 16), .int .i64 (rdNum (rdNumS (rdNumS (Rd.mk l false) 1 5) 1 16) 1 1099511627776), u140, .slice none 0 0, .int .i64 0, .int .i64 0, .int .i64 0, .slice none 0 0] rfl rfl (S152.arr 3 rfl) rfl (by kernel_rfl) (ones_cons rfl (ones_cons rfl (ones_cons rfl (ones_cons (row_one (H143 _ (lT le154 S152.le))) (ones_cons rfl (ones_cons rfl (ones_cons rfl (ones_cons rfl (ones_cons rfl (fun _ h => nomatch h)))))))))) ?_
  intro w166 A167 K168 z169
  have S170 := S152.wr3 (ds := [.int .i64 (rdNum (Rd.mk l false) 1 5), .int .i64 (rdNum (rdNumS (Rd.mk l false) 1 5) 1 16), .int .i64 (rdNum (rdNumS (rdNumS (Rd.mk l false) 1 5) 1 16) 1 1099511627776), u140, .slice none 0 0, .int .i64 0, .int .i64 0, .int .i64 0, .slice none 0 0]) K168 A167
  refine vA (.int .i64 0) rfl rfl (EL_nil (thn_n (EC_ret ?_)))
  refine fin2c Tryz.results48 (show _ = ptr b11 from rfl) (show _ = .int .i64 0 from rfl) (S170.arr 3 rfl) U38 rfl (by kernel_rfl) ⟨_, rfl, ?_⟩
  have hok : decOk l = true := by rw [decOk, hde]; dsimp only; rw [hen, hrt]; rfl
  have q171 : (decV l) = (⟨rdNum (Rd.mk l false) 1 5, rdNum (rdNumS (Rd.mk l false) 1 5) 1 16, rdNum (rdNumS (rdNumS (Rd.mk l false) 1 5) 1 16) 1 1099511627776, rdTxt (rdNumS (rdNumS (rdNumS (Rd.mk l false) 1 5) 1 16) 1 1099511627776) 1 64, [], 0, 0, 0, []⟩ : Entry) := by rw [decV, if_pos hok, hde]
  have S172 := S170.dr0
  have S173 := S172.dr0
  have S174 := S173.dr0
  have S175 := S174.dr0
  exact ⟨[.int .i64 (rdNum (Rd.mk l false) 1 5), .int .i64 (rdNum (rdNumS (Rd.mk l false) 1 5) 1 16), .int .i64 (rdNum (rdNumS (rdNumS (Rd.mk l false) 1 5) 1 16) 1 1099511627776), u140, .slice none 0 0, .int .i64 0, .int .i64 0, .int .i64 0, .slice none 0 0], I153, (lT (lT (lT (lT (lT le22 le40) le59) le70) le142) le154), (by rw [decE, if_pos hok]), (by rw [q171]; exact ⟨u140, (.slice none 0 0), (.slice none 0 0), rfl, (by first | assumption | (dsimp only; omega)), (by first | assumption | (dsimp only; omega)), (by first | assumption | (dsimp only; omega)), ⟨(row_one (H143 _ (lT le154 S175.le))), (H143.up le154)⟩, ⟨rfl, Ro.nil⟩, (by dsimp only; omega), (by dsimp only; omega), (by dsimp only; omega), ⟨rfl, RoX.nil⟩⟩), S175⟩
  refine EC_reg (vL (ptr q23) rfl rfl (S148.arr 1 rfl) rfl U92 rfl ?_)
  refine eR rfl F49 rfl (End_c (ptr q23) (rdTxtS (rdNumS (rdNumS (rdNumS (Rd.mk l false) 1 5) 1 16) 1 1099511627776) 1 64) I141 _ _ S148) ?_
  rintro _ w176 ⟨rfl, S177⟩
  refine vl (.bool true) rfl (r_dec (show (!false) = true from rfl) (r_not (Eq.trans (show _ = Value.bool (rdEnd (rdTxtS (rdNumS (rdNumS (rdNumS (Rd.mk l false) 1 5) 1 16) 1 1099511627776) 1 64)) from rfl) (congrArg Value.bool (show (rdEnd (rdTxtS (rdNumS (rdNumS (rdNumS (Rd.mk l false) 1 5) 1 16) 1 1099511627776) 1 64)) = false from hen))))) (vM (.bool true) rfl rfl (EL_pass 80 rfl rfl rfl rfl rfl (EL_pass 80 rfl rfl rfl rfl rfl (EL_pass 80 rfl rfl rfl rfl rfl (vT (.bool true) rfl rfl rfl ?_)))))
  refine EL_nil (thn_n ?_)
  refine EC_cond_true rfl ?_
  refine EC_seq (EC_reg (vl (.agg (entR0).toArray) rfl (r_buildS (l := []) st_38 rfl (Eq.trans (show Instr.fill _ _ [] = _ from fill_end) (by kernel_rfl))) ?_))
  refine sA entR0 rfl rfl (S177.arr 3 rfl) rfl (by kernel_rfl) (by simp [Value.oneCell']) ?_
  intro w178 A179 K180 z181
  have S182 := S177.wr3 (ds := entR0) K180 A179
  refine vA (.int .i64 10) rfl rfl (EL_nil (thn_n (EC_ret (thn_r ?_))))
  refine fin2c Tryz.results48 (show _ = ptr b11 from rfl) (show _ = .int .i64 10 from rfl) (S182.arr 3 rfl) U38 rfl (by kernel_rfl) ⟨_, rfl, ?_⟩
  have hok : decOk l = false := by rw [decOk, hde]; dsimp only; rw [hen, Bool.false_and]
  have q183 : (decV l) = (⟨0, 0, 0, [], [], 0, 0, 0, []⟩ : Entry) := by rw [decV, hok]; rfl
  have S184 := S182.dr0
  have S185 := S184.dr0
  have S186 := S185.dr0
  have S187 := S186.dr0
  exact ⟨entR0, I141, (lT (lT (lT (lT le22 le40) le59) le70) le142), (by rw [decE, hok]; rfl), (by rw [q183]; exact (entRz _)), S187⟩
  refine EC_reg (vl (ptr b42 0) rfl (fP 0 rfl U38 (by kernel_rfl)) (vL (.int .i64 (rdNum (Rd.mk l false) 1 5)) rfl rfl (S76.arr 2 rfl) rfl U3 rfl (EL_nil (thn_n (EC_block ?_)))))
  refine EC_seq (EC_reg (vl (.bool false) rfl (r_dec (show (decide ((rdNum (Rd.mk l false) 1 5) = 1)) = false from by rw [decide_eq_false_iff_not]; omega) (r_eql rfl rfl)) (vA (.bool false) rfl rfl (EL_nil (thn_n ?_)))))
  refine EC_cond_false rfl ?_
  refine EC_seq (EC_reg (vl (.bool false) rfl (r_dec (show (decide ((rdNum (Rd.mk l false) 1 5) = 2)) = false from by rw [decide_eq_false_iff_not]; omega) (r_eql rfl rfl)) (vA (.bool false) rfl rfl (EL_nil (thn_n ?_)))))
  refine EC_cond_false rfl ?_
  refine EC_seq (EC_reg (vl (.bool true) rfl (r_dec (show (decide ((rdNum (Rd.mk l false) 1 5) = 3)) = true from by rw [decide_eq_true_eq]; omega) (r_eql rfl rfl)) (vA (.bool true) rfl rfl (EL_nil (thn_n ?_)))))
  refine EC_cond_true rfl ?_
  refine EC_seq (EC_reg (vM (.func (.func 83) #[] [ptr b24].toArray) rfl rfl ?_))
  have S188 := S76.fr1
  refine EL_retw _ rfl rfl Tryz.func83 rfl nm83 rfl (who_c b24 q23 (rdNumS (rdNumS (rdNumS (Rd.mk l false) 1 5) 1 16) 1 1099511627776) I69 _ _ S188) ?_
  rintro _ w189 ⟨I191, le192, rfl, S190⟩
  have hn193 := rdNum_rng (rdNumS (rdNumS (rdNumS (Rd.mk l false) 1 5) 1 16) 1 1099511627776) 1 (hi := 16) (by omega)
  refine vl (ptr b42 5) rfl (fP 0 rfl U38 (by kernel_rfl)) ?_
  refine EL_storeA (j := 5) (u := .int .i64 (rdNum (rdNumS (rdNumS (rdNumS (Rd.mk l false) 1 5) 1 16) 1 1099511627776) 1 16)) rfl rfl (S190.arr 2 rfl) (by first | decide | (simp; omega) | simp) rfl (by kernel_rfl) ?_
  intro w194 A195 K196 z197
  have S198 := S190.wr2 (ds := [.int .i64 (rdNum (Rd.mk l false) 1 5), .int .i64 (rdNum (rdNumS (Rd.mk l false) 1 5) 1 16), .int .i64 (rdNum (rdNumS (rdNumS (Rd.mk l false) 1 5) 1 16) 1 1099511627776), .slice none 0 0, .slice none 0 0, .int .i64 (rdNum (rdNumS (rdNumS (rdNumS (Rd.mk l false) 1 5) 1 16) 1 1099511627776) 1 16), .int .i64 0, .int .i64 0, .slice none 0 0]) K196 A195
  refine EL_nil (thn_n (EC_reg (vL (ptr q23) rfl rfl (S198.arr 0 rfl) rfl U92 rfl ?_)))
  have S199 := S198.fr1
  refine eR rfl F84 rfl (Number_c (ptr q23) (rdNumS (rdNumS (rdNumS (rdNumS (Rd.mk l false) 1 5) 1 16) 1 1099511627776) 1 16) 1 7 I191 _ _ S199) ?_
  rintro _ w200 ⟨I202, le203, rfl, S201⟩
  have hn204 := rdNum_rng (rdNumS (rdNumS (rdNumS (rdNumS (Rd.mk l false) 1 5) 1 16) 1 1099511627776) 1 16) 1 (hi := 7) (by omega)
  refine vl (ptr b42 6) rfl (fP 0 rfl U38 (by kernel_rfl)) ?_
  refine EL_storeA (j := 6) (u := .int .i64 (rdNum (rdNumS (rdNumS (rdNumS (rdNumS (Rd.mk l false) 1 5) 1 16) 1 1099511627776) 1 16) 1 7)) rfl rfl (S201.arr 2 rfl) (by first | decide | (simp; omega) | simp) rfl (by kernel_rfl) ?_
  intro w205 A206 K207 z208
  have S209 := S201.wr2 (ds := [.int .i64 (rdNum (Rd.mk l false) 1 5), .int .i64 (rdNum (rdNumS (Rd.mk l false) 1 5) 1 16), .int .i64 (rdNum (rdNumS (rdNumS (Rd.mk l false) 1 5) 1 16) 1 1099511627776), .slice none 0 0, .slice none 0 0, .int .i64 (rdNum (rdNumS (rdNumS (rdNumS (Rd.mk l false) 1 5) 1 16) 1 1099511627776) 1 16), .int .i64 (rdNum (rdNumS (rdNumS (rdNumS (rdNumS (Rd.mk l false) 1 5) 1 16) 1 1099511627776) 1 16) 1 7), .int .i64 0, .slice none 0 0]) K207 A206
  refine EL_nil (inB_n (thn_n (EC_seq (EC_seq ?_))))
  have hde : rdEntry ⟨l, false⟩ = ((⟨rdNum (Rd.mk l false) 1 5, rdNum (rdNumS (Rd.mk l false) 1 5) 1 16, rdNum (rdNumS (rdNumS (Rd.mk l false) 1 5) 1 16) 1 1099511627776, [], [], rdNum (rdNumS (rdNumS (rdNumS (Rd.mk l false) 1 5) 1 16) 1 1099511627776) 1 16, rdNum (rdNumS (rdNumS (rdNumS (rdNumS (Rd.mk l false) 1 5) 1 16) 1 1099511627776) 1 16) 1 7, 0, []⟩ : Entry), rdNumS (rdNumS (rdNumS (rdNumS (rdNumS (Rd.mk l false) 1 5) 1 16) 1 1099511627776) 1 16) 1 7) := by rw [rdEntry, rdBody, if_neg (by omega), if_neg (by omega), if_pos hk]
  rcases (by cases rdEnd (rdNumS (rdNumS (rdNumS (rdNumS (rdNumS (Rd.mk l false) 1 5) 1 16) 1 1099511627776) 1 16) 1 7) <;> simp : rdEnd (rdNumS (rdNumS (rdNumS (rdNumS (rdNumS (Rd.mk l false) 1 5) 1 16) 1 1099511627776) 1 16) 1 7) = true ∨ rdEnd (rdNumS (rdNumS (rdNumS (rdNumS (rdNumS (Rd.mk l false) 1 5) 1 16) 1 1099511627776) 1 16) 1 7) = false) with hen | hen
  refine EC_reg (vL (ptr q23) rfl rfl (S209.arr 1 rfl) rfl U92 rfl ?_)
  refine eR rfl F49 rfl (End_c (ptr q23) (rdNumS (rdNumS (rdNumS (rdNumS (rdNumS (Rd.mk l false) 1 5) 1 16) 1 1099511627776) 1 16) 1 7) I202 _ _ S209) ?_
  rintro _ w210 ⟨rfl, S211⟩
  refine vl (.bool false) rfl (r_dec (show (!true) = false from rfl) (r_not (Eq.trans (show _ = Value.bool (rdEnd (rdNumS (rdNumS (rdNumS (rdNumS (rdNumS (Rd.mk l false) 1 5) 1 16) 1 1099511627776) 1 16) 1 7)) from rfl) (congrArg Value.bool (show (rdEnd (rdNumS (rdNumS (rdNumS (rdNumS (rdNumS (Rd.mk l false) 1 5) 1 16) 1 1099511627776) 1 16) 1 7)) = true from hen))))) (vM (.bool false) rfl rfl (gl  80 rfl rfl rfl rfl (.agg ([.int .i64 (rdNum (Rd.mk l false) 1 5), .int .i64 (rdNum (rdNumS (Rd.mk l false) 1 5) 1 16), .int .i64 (rdNum (rdNumS (rdNumS (Rd.mk l false) 1 5) 1 16) 1 1099511627776), .slice none 0 0, .slice none 0 0, .int .i64 (rdNum (rdNumS (rdNumS (rdNumS (Rd.mk l false) 1 5) 1 16) 1 1099511627776) 1 16), .int .i64 (rdNum (rdNumS (rdNumS (rdNumS (rdNumS (Rd.mk l false) 1 5) 1 16) 1 1099511627776) 1 16) 1 7), .int .i64 0, .slice none 0 0]).toArray) rfl (r_loadAll rfl (S211.arr 2 rfl) U38 rfl (by kernel_rfl)) ?_))
  refine eG 80 rfl rfl rfl rfl rfl F71 rfl (Right_c [.int .i64 (rdNum (Rd.mk l false) 1 5), .int .i64 (rdNum (rdNumS (Rd.mk l false) 1 5) 1 16), .int .i64 (rdNum (rdNumS (rdNumS (Rd.mk l false) 1 5) 1 16) 1 1099511627776), .slice none 0 0, .slice none 0 0, .int .i64 (rdNum (rdNumS (rdNumS (rdNumS (Rd.mk l false) 1 5) 1 16) 1 1099511627776) 1 16), .int .i64 (rdNum (rdNumS (rdNumS (rdNumS (rdNumS (Rd.mk l false) 1 5) 1 16) 1 1099511627776) 1 16) 1 7), .int .i64 0, .slice none 0 0] (⟨rdNum (Rd.mk l false) 1 5, rdNum (rdNumS (Rd.mk l false) 1 5) 1 16, rdNum (rdNumS (rdNumS (Rd.mk l false) 1 5) 1 16) 1 1099511627776, [], [], rdNum (rdNumS (rdNumS (rdNumS (Rd.mk l false) 1 5) 1 16) 1 1099511627776) 1 16, rdNum (rdNumS (rdNumS (rdNumS (rdNumS (Rd.mk l false) 1 5) 1 16) 1 1099511627776) 1 16) 1 7, 0, []⟩ : Entry) I202 _ _ S211 ⟨(.slice none 0 0), (.slice none 0 0), (.slice none 0 0), rfl, (by first | assumption | (dsimp only; omega)), (by first | assumption | (dsimp only; omega)), (by first | assumption | (dsimp only; omega)), ⟨rfl, Ro.nil⟩, ⟨rfl, Ro.nil⟩, (by first | assumption | (dsimp only; omega)), (by first | assumption | (dsimp only; omega)), (by dsimp only; omega), ⟨rfl, RoX.nil⟩⟩) ?_
  rintro _ w212 ⟨I214, le215, rfl, S213⟩
  refine gl  80 rfl rfl rfl rfl (.bool (!((⟨rdNum (Rd.mk l false) 1 5, rdNum (rdNumS (Rd.mk l false) 1 5) 1 16, rdNum (rdNumS (rdNumS (Rd.mk l false) 1 5) 1 16) 1 1099511627776, [], [], rdNum (rdNumS (rdNumS (rdNumS (Rd.mk l false) 1 5) 1 16) 1 1099511627776) 1 16, rdNum (rdNumS (rdNumS (rdNumS (rdNumS (Rd.mk l false) 1 5) 1 16) 1 1099511627776) 1 16) 1 7, 0, []⟩ : Entry).right))) rfl (r_not rfl) (vF (.bool (!((⟨rdNum (Rd.mk l false) 1 5, rdNum (rdNumS (Rd.mk l false) 1 5) 1 16, rdNum (rdNumS (rdNumS (Rd.mk l false) 1 5) 1 16) 1 1099511627776, [], [], rdNum (rdNumS (rdNumS (rdNumS (Rd.mk l false) 1 5) 1 16) 1 1099511627776) 1 16, rdNum (rdNumS (rdNumS (rdNumS (rdNumS (Rd.mk l false) 1 5) 1 16) 1 1099511627776) 1 16) 1 7, 0, []⟩ : Entry).right))) rfl rfl rfl (EL_nil (thn_n ?_)))
  refine EC_cond (t := !((⟨rdNum (Rd.mk l false) 1 5, rdNum (rdNumS (Rd.mk l false) 1 5) 1 16, rdNum (rdNumS (rdNumS (Rd.mk l false) 1 5) 1 16) 1 1099511627776, [], [], rdNum (rdNumS (rdNumS (rdNumS (Rd.mk l false) 1 5) 1 16) 1 1099511627776) 1 16, rdNum (rdNumS (rdNumS (rdNumS (rdNumS (Rd.mk l false) 1 5) 1 16) 1 1099511627776) 1 16) 1 7, 0, []⟩ : Entry).right)) rfl (fun h216 => ?_) (fun h216 => ?_)
  have hrt : ((⟨rdNum (Rd.mk l false) 1 5, rdNum (rdNumS (Rd.mk l false) 1 5) 1 16, rdNum (rdNumS (rdNumS (Rd.mk l false) 1 5) 1 16) 1 1099511627776, [], [], rdNum (rdNumS (rdNumS (rdNumS (Rd.mk l false) 1 5) 1 16) 1 1099511627776) 1 16, rdNum (rdNumS (rdNumS (rdNumS (rdNumS (Rd.mk l false) 1 5) 1 16) 1 1099511627776) 1 16) 1 7, 0, []⟩ : Entry)).right = false := (Bool.not_eq_true' _).mp h216
  refine EC_seq (EC_reg (vl (.agg (entR0).toArray) rfl (r_buildS (l := []) st_38 rfl (Eq.trans (show Instr.fill _ _ [] = _ from fill_end) (by kernel_rfl))) ?_))
  refine sA entR0 rfl rfl (S213.arr 3 rfl) rfl (by kernel_rfl) (by simp [Value.oneCell']) ?_
  intro w217 A218 K219 z220
  have S221 := S213.wr3 (ds := entR0) K219 A218
  refine vA (.int .i64 10) rfl rfl (EL_nil (thn_n (EC_ret (thn_r ?_))))
  refine fin2c Tryz.results48 (show _ = ptr b11 from rfl) (show _ = .int .i64 10 from rfl) (S221.arr 3 rfl) U38 rfl (by kernel_rfl) ⟨_, rfl, ?_⟩
  have hok : decOk l = false := by rw [decOk, hde]; dsimp only; rw [hen, hrt]; rfl
  have q222 : (decV l) = (⟨0, 0, 0, [], [], 0, 0, 0, []⟩ : Entry) := by rw [decV, hok]; rfl
  have S223 := S221.dr0
  have S224 := S223.dr0
  have S225 := S224.dr0
  have S226 := S225.dr0
  exact ⟨entR0, I214, (lT (lT (lT (lT (lT (lT le22 le40) le59) le70) le192) le203) le215), (by rw [decE, hok]; rfl), (by rw [q222]; exact (entRz _)), S226⟩
  have hrt : ((⟨rdNum (Rd.mk l false) 1 5, rdNum (rdNumS (Rd.mk l false) 1 5) 1 16, rdNum (rdNumS (rdNumS (Rd.mk l false) 1 5) 1 16) 1 1099511627776, [], [], rdNum (rdNumS (rdNumS (rdNumS (Rd.mk l false) 1 5) 1 16) 1 1099511627776) 1 16, rdNum (rdNumS (rdNumS (rdNumS (rdNumS (Rd.mk l false) 1 5) 1 16) 1 1099511627776) 1 16) 1 7, 0, []⟩ : Entry)).right = true := (Bool.not_eq_false' _).mp h216
  refine EC_skip (thn_n (EC_seq (EC_reg (vl (.agg ([.int .i64 (rdNum (Rd.mk l false) 1 5), .int .i64 (rdNum (rdNumS (Rd.mk l false) 1 5) 1 16), .int .i64 (rdNum (rdNumS (rdNumS (Rd.mk l false) 1 5) 1 16) 1 1099511627776), .slice none 0 0, .slice none 0 0, .int .i64 (rdNum (rdNumS (rdNumS (rdNumS (Rd.mk l false) 1 5) 1 16) 1 1099511627776) 1 16), .int .i64 (rdNum (rdNumS (rdNumS (rdNumS (rdNumS (Rd.mk l false) 1 5) 1 16) 1 1099511627776) 1 16) 1 7), .int .i64 0, .slice none 0 0]).toArray) rfl (r_loadAll rfl (S213.arr 2 rfl) U38 rfl (by kernel_rfl)) ?_))))
  refine sA [.int .i64 (rdNum (Rd.mk l false) 1 5), .int .i64 (rdNum (rdNumS (Rd.mk l false) 1 5) 1 16), .int .i64 (rdNum (rdNumS (rdNumS (Rd.mk l false) 1 5) 1 16) 1 1099511627776), .slice none 0 0, .slice none 0 0, .int .i64 (rdNum (rdNumS (rdNumS (rdNumS (Rd.mk l false) 1 5) 1 16) 1 1099511627776) 1 16), .int .i64 (rdNum (rdNumS (rdNumS (rdNumS (rdNumS (Rd.mk l false) 1 5) 1 16) 1 1099511627776) 1 16) 1 7), .int .i64 0, .slice none 0 0] rfl rfl (S213.arr 3 rfl) rfl (by kernel_rfl) (by simp [Value.oneCell']) ?_
  intro w227 A228 K229 z230
  have S231 := S213.wr3 (ds := [.int .i64 (rdNum (Rd.mk l false) 1 5), .int .i64 (rdNum (rdNumS (Rd.mk l false) 1 5) 1 16), .int .i64 (rdNum (rdNumS (rdNumS (Rd.mk l false) 1 5) 1 16) 1 1099511627776), .slice none 0 0, .slice none 0 0, .int .i64 (rdNum (rdNumS (rdNumS (rdNumS (Rd.mk l false) 1 5) 1 16) 1 1099511627776) 1 16), .int .i64 (rdNum (rdNumS (rdNumS (rdNumS (rdNumS (Rd.mk l false) 1 5) 1 16) 1 1099511627776) 1 16) 1 7), .int .i64 0, .slice none 0 0]) K229 A228
  refine vA (.int .i64 0) rfl rfl (EL_nil (thn_n (EC_ret ?_)))
  refine fin2c Tryz.results48 (show _ = ptr b11 from rfl) (show _ = .int .i64 0 from rfl) (S231.arr 3 rfl) U38 rfl (by kernel_rfl) ⟨_, rfl, ?_⟩
  have hok : decOk l = true := by rw [decOk, hde]; dsimp only; rw [hen, hrt]; rfl
  have q232 : (decV l) = (⟨rdNum (Rd.mk l false) 1 5, rdNum (rdNumS (Rd.mk l false) 1 5) 1 16, rdNum (rdNumS (rdNumS (Rd.mk l false) 1 5) 1 16) 1 1099511627776, [], [], rdNum (rdNumS (rdNumS (rdNumS (Rd.mk l false) 1 5) 1 16) 1 1099511627776) 1 16, rdNum (rdNumS (rdNumS (rdNumS (rdNumS (Rd.mk l false) 1 5) 1 16) 1 1099511627776) 1 16) 1 7, 0, []⟩ : Entry) := by rw [decV, if_pos hok, hde]
  have S233 := S231.dr0
  have S234 := S233.dr0
  have S235 := S234.dr0
  have S236 := S235.dr0
  exact ⟨[.int .i64 (rdNum (Rd.mk l false) 1 5), .int .i64 (rdNum (rdNumS (Rd.mk l false) 1 5) 1 16), .int .i64 (rdNum (rdNumS (rdNumS (Rd.mk l false) 1 5) 1 16) 1 1099511627776), .slice none 0 0, .slice none 0 0, .int .i64 (rdNum (rdNumS (rdNumS (rdNumS (Rd.mk l false) 1 5) 1 16) 1 1099511627776) 1 16), .int .i64 (rdNum (rdNumS (rdNumS (rdNumS (rdNumS (Rd.mk l false) 1 5) 1 16) 1 1099511627776) 1 16) 1 7), .int .i64 0, .slice none 0 0], I214, (lT (lT (lT (lT (lT (lT le22 le40) le59) le70) le192) le203) le215), (by rw [decE, if_pos hok]), (by rw [q232]; exact ⟨(.slice none 0 0), (.slice none 0 0), (.slice none 0 0), rfl, (by first | assumption | (dsimp only; omega)), (by first | assumption | (dsimp only; omega)), (by first | assumption | (dsimp only; omega)), ⟨rfl, Ro.nil⟩, ⟨rfl, Ro.nil⟩, (by first | assumption | (dsimp only; omega)), (by first | assumption | (dsimp only; omega)), (by dsimp only; omega), ⟨rfl, RoX.nil⟩⟩), S236⟩
  refine EC_reg (vL (ptr q23) rfl rfl (S209.arr 1 rfl) rfl U92 rfl ?_)
  refine eR rfl F49 rfl (End_c (ptr q23) (rdNumS (rdNumS (rdNumS (rdNumS (rdNumS (Rd.mk l false) 1 5) 1 16) 1 1099511627776) 1 16) 1 7) I202 _ _ S209) ?_
  rintro _ w237 ⟨rfl, S238⟩
  refine vl (.bool true) rfl (r_dec (show (!false) = true from rfl) (r_not (Eq.trans (show _ = Value.bool (rdEnd (rdNumS (rdNumS (rdNumS (rdNumS (rdNumS (Rd.mk l false) 1 5) 1 16) 1 1099511627776) 1 16) 1 7)) from rfl) (congrArg Value.bool (show (rdEnd (rdNumS (rdNumS (rdNumS (rdNumS (rdNumS (Rd.mk l false) 1 5) 1 16) 1 1099511627776) 1 16) 1 7)) = false from hen))))) (vM (.bool true) rfl rfl (EL_pass 80 rfl rfl rfl rfl rfl (EL_pass 80 rfl rfl rfl rfl rfl (EL_pass 80 rfl rfl rfl rfl rfl (vT (.bool true) rfl rfl rfl ?_)))))
  refine EL_nil (thn_n ?_)
  refine EC_cond_true rfl ?_
  refine EC_seq (EC_reg (vl (.agg (entR0).toArray) rfl (r_buildS (l := []) st_38 rfl (Eq.trans (show Instr.fill _ _ [] = _ from fill_end) (by kernel_rfl))) ?_))
  refine sA entR0 rfl rfl (S238.arr 3 rfl) rfl (by kernel_rfl) (by simp [Value.oneCell']) ?_
  intro w239 A240 K241 z242
  have S243 := S238.wr3 (ds := entR0) K241 A240
  refine vA (.int .i64 10) rfl rfl (EL_nil (thn_n (EC_ret (thn_r ?_))))
  refine fin2c Tryz.results48 (show _ = ptr b11 from rfl) (show _ = .int .i64 10 from rfl) (S243.arr 3 rfl) U38 rfl (by kernel_rfl) ⟨_, rfl, ?_⟩
  have hok : decOk l = false := by rw [decOk, hde]; dsimp only; rw [hen, Bool.false_and]
  have q244 : (decV l) = (⟨0, 0, 0, [], [], 0, 0, 0, []⟩ : Entry) := by rw [decV, hok]; rfl
  have S245 := S243.dr0
  have S246 := S245.dr0
  have S247 := S246.dr0
  have S248 := S247.dr0
  exact ⟨entR0, I202, (lT (lT (lT (lT (lT le22 le40) le59) le70) le192) le203), (by rw [decE, hok]; rfl), (by rw [q244]; exact (entRz _)), S248⟩
  refine EC_reg (vl (ptr b42 0) rfl (fP 0 rfl U38 (by kernel_rfl)) (vL (.int .i64 (rdNum (Rd.mk l false) 1 5)) rfl rfl (S76.arr 2 rfl) rfl U3 rfl (EL_nil (thn_n (EC_block ?_)))))
  refine EC_seq (EC_reg (vl (.bool false) rfl (r_dec (show (decide ((rdNum (Rd.mk l false) 1 5) = 1)) = false from by rw [decide_eq_false_iff_not]; omega) (r_eql rfl rfl)) (vA (.bool false) rfl rfl (EL_nil (thn_n ?_)))))
  refine EC_cond_false rfl ?_
  refine EC_seq (EC_reg (vl (.bool false) rfl (r_dec (show (decide ((rdNum (Rd.mk l false) 1 5) = 2)) = false from by rw [decide_eq_false_iff_not]; omega) (r_eql rfl rfl)) (vA (.bool false) rfl rfl (EL_nil (thn_n ?_)))))
  refine EC_cond_false rfl ?_
  refine EC_seq (EC_reg (vl (.bool false) rfl (r_dec (show (decide ((rdNum (Rd.mk l false) 1 5) = 3)) = false from by rw [decide_eq_false_iff_not]; omega) (r_eql rfl rfl)) (vA (.bool false) rfl rfl (EL_nil (thn_n ?_)))))
  refine EC_cond_false rfl ?_
  refine EC_seq (EC_reg (vl (.bool true) rfl (r_dec (show (decide ((rdNum (Rd.mk l false) 1 5) = 4)) = true from by rw [decide_eq_true_eq]; omega) (r_eql rfl rfl)) (vA (.bool true) rfl rfl (EL_nil (thn_n ?_)))))
  refine EC_cond_true rfl ?_
  refine EC_reg (vM (.func (.func 83) #[] [ptr b24].toArray) rfl rfl ?_)
  have S249 := S76.fr1
  refine EL_retw _ rfl rfl Tryz.func83 rfl nm83 rfl (who_c b24 q23 (rdNumS (rdNumS (rdNumS (Rd.mk l false) 1 5) 1 16) 1 1099511627776) I69 _ _ S249) ?_
  rintro _ w250 ⟨I252, le253, rfl, S251⟩
  have hn254 := rdNum_rng (rdNumS (rdNumS (rdNumS (Rd.mk l false) 1 5) 1 16) 1 1099511627776) 1 (hi := 16) (by omega)
  refine vl (ptr b42 5) rfl (fP 0 rfl U38 (by kernel_rfl)) ?_
  refine EL_storeA (j := 5) (u := .int .i64 (rdNum (rdNumS (rdNumS (rdNumS (Rd.mk l false) 1 5) 1 16) 1 1099511627776) 1 16)) rfl rfl (S251.arr 2 rfl) (by first | decide | (simp; omega) | simp) rfl (by kernel_rfl) ?_
  intro w255 A256 K257 z258
  have S259 := S251.wr2 (ds := [.int .i64 (rdNum (Rd.mk l false) 1 5), .int .i64 (rdNum (rdNumS (Rd.mk l false) 1 5) 1 16), .int .i64 (rdNum (rdNumS (rdNumS (Rd.mk l false) 1 5) 1 16) 1 1099511627776), .slice none 0 0, .slice none 0 0, .int .i64 (rdNum (rdNumS (rdNumS (rdNumS (Rd.mk l false) 1 5) 1 16) 1 1099511627776) 1 16), .int .i64 0, .int .i64 0, .slice none 0 0]) K257 A256
  refine EL_nil (inB_n (thn_n (EC_seq (EC_seq ?_))))
  have hde : rdEntry ⟨l, false⟩ = ((⟨rdNum (Rd.mk l false) 1 5, rdNum (rdNumS (Rd.mk l false) 1 5) 1 16, rdNum (rdNumS (rdNumS (Rd.mk l false) 1 5) 1 16) 1 1099511627776, [], [], rdNum (rdNumS (rdNumS (rdNumS (Rd.mk l false) 1 5) 1 16) 1 1099511627776) 1 16, 0, 0, []⟩ : Entry), rdNumS (rdNumS (rdNumS (rdNumS (Rd.mk l false) 1 5) 1 16) 1 1099511627776) 1 16) := by rw [rdEntry, rdBody, if_neg (by omega), if_neg (by omega), if_neg (by omega), if_pos hk]
  rcases (by cases rdEnd (rdNumS (rdNumS (rdNumS (rdNumS (Rd.mk l false) 1 5) 1 16) 1 1099511627776) 1 16) <;> simp : rdEnd (rdNumS (rdNumS (rdNumS (rdNumS (Rd.mk l false) 1 5) 1 16) 1 1099511627776) 1 16) = true ∨ rdEnd (rdNumS (rdNumS (rdNumS (rdNumS (Rd.mk l false) 1 5) 1 16) 1 1099511627776) 1 16) = false) with hen | hen
  refine EC_reg (vL (ptr q23) rfl rfl (S259.arr 0 rfl) rfl U92 rfl ?_)
  have S260 := S259.fr1
  refine eR rfl F49 rfl (End_c (ptr q23) (rdNumS (rdNumS (rdNumS (rdNumS (Rd.mk l false) 1 5) 1 16) 1 1099511627776) 1 16) I252 _ _ S260) ?_
  rintro _ w261 ⟨rfl, S262⟩
  refine vl (.bool false) rfl (r_dec (show (!true) = false from rfl) (r_not (Eq.trans (show _ = Value.bool (rdEnd (rdNumS (rdNumS (rdNumS (rdNumS (Rd.mk l false) 1 5) 1 16) 1 1099511627776) 1 16)) from rfl) (congrArg Value.bool (show (rdEnd (rdNumS (rdNumS (rdNumS (rdNumS (Rd.mk l false) 1 5) 1 16) 1 1099511627776) 1 16)) = true from hen))))) (vM (.bool false) rfl rfl (gl  80 rfl rfl rfl rfl (.agg ([.int .i64 (rdNum (Rd.mk l false) 1 5), .int .i64 (rdNum (rdNumS (Rd.mk l false) 1 5) 1 16), .int .i64 (rdNum (rdNumS (rdNumS (Rd.mk l false) 1 5) 1 16) 1 1099511627776), .slice none 0 0, .slice none 0 0, .int .i64 (rdNum (rdNumS (rdNumS (rdNumS (Rd.mk l false) 1 5) 1 16) 1 1099511627776) 1 16), .int .i64 0, .int .i64 0, .slice none 0 0]).toArray) rfl (r_loadAll rfl (S262.arr 2 rfl) U38 rfl (by kernel_rfl)) ?_))
  refine eG 80 rfl rfl rfl rfl rfl F71 rfl (Right_c [.int .i64 (rdNum (Rd.mk l false) 1 5), .int .i64 (rdNum (rdNumS (Rd.mk l false) 1 5) 1 16), .int .i64 (rdNum (rdNumS (rdNumS (Rd.mk l false) 1 5) 1 16) 1 1099511627776), .slice none 0 0, .slice none 0 0, .int .i64 (rdNum (rdNumS (rdNumS (rdNumS (Rd.mk l false) 1 5) 1 16) 1 1099511627776) 1 16), .int .i64 0, .int .i64 0, .slice none 0 0] (⟨rdNum (Rd.mk l false) 1 5, rdNum (rdNumS (Rd.mk l false) 1 5) 1 16, rdNum (rdNumS (rdNumS (Rd.mk l false) 1 5) 1 16) 1 1099511627776, [], [], rdNum (rdNumS (rdNumS (rdNumS (Rd.mk l false) 1 5) 1 16) 1 1099511627776) 1 16, 0, 0, []⟩ : Entry) I252 _ _ S262 ⟨(.slice none 0 0), (.slice none 0 0), (.slice none 0 0), rfl, (by first | assumption | (dsimp only; omega)), (by first | assumption | (dsimp only; omega)), (by first | assumption | (dsimp only; omega)), ⟨rfl, Ro.nil⟩, ⟨rfl, Ro.nil⟩, (by first | assumption | (dsimp only; omega)), (by dsimp only; omega), (by dsimp only; omega), ⟨rfl, RoX.nil⟩⟩) ?_
  rintro _ w263 ⟨I265, le266, rfl, S264⟩
  refine gl  80 rfl rfl rfl rfl (.bool (!((⟨rdNum (Rd.mk l false) 1 5, rdNum (rdNumS (Rd.mk l false) 1 5) 1 16, rdNum (rdNumS (rdNumS (Rd.mk l false) 1 5) 1 16) 1 1099511627776, [], [], rdNum (rdNumS (rdNumS (rdNumS (Rd.mk l false) 1 5) 1 16) 1 1099511627776) 1 16, 0, 0, []⟩ : Entry).right))) rfl (r_not rfl) (vF (.bool (!((⟨rdNum (Rd.mk l false) 1 5, rdNum (rdNumS (Rd.mk l false) 1 5) 1 16, rdNum (rdNumS (rdNumS (Rd.mk l false) 1 5) 1 16) 1 1099511627776, [], [], rdNum (rdNumS (rdNumS (rdNumS (Rd.mk l false) 1 5) 1 16) 1 1099511627776) 1 16, 0, 0, []⟩ : Entry).right))) rfl rfl rfl (EL_nil (thn_n ?_)))
  refine EC_cond (t := !((⟨rdNum (Rd.mk l false) 1 5, rdNum (rdNumS (Rd.mk l false) 1 5) 1 16, rdNum (rdNumS (rdNumS (Rd.mk l false) 1 5) 1 16) 1 1099511627776, [], [], rdNum (rdNumS (rdNumS (rdNumS (Rd.mk l false) 1 5) 1 16) 1 1099511627776) 1 16, 0, 0, []⟩ : Entry).right)) rfl (fun h267 => ?_) (fun h267 => ?_)
  have hrt : ((⟨rdNum (Rd.mk l false) 1 5, rdNum (rdNumS (Rd.mk l false) 1 5) 1 16, rdNum (rdNumS (rdNumS (Rd.mk l false) 1 5) 1 16) 1 1099511627776, [], [], rdNum (rdNumS (rdNumS (rdNumS (Rd.mk l false) 1 5) 1 16) 1 1099511627776) 1 16, 0, 0, []⟩ : Entry)).right = false := (Bool.not_eq_true' _).mp h267
  refine EC_seq (EC_reg (vl (.agg (entR0).toArray) rfl (r_buildS (l := []) st_38 rfl (Eq.trans (show Instr.fill _ _ [] = _ from fill_end) (by kernel_rfl))) ?_))
  refine sA entR0 rfl rfl (S264.arr 3 rfl) rfl (by kernel_rfl) (by simp [Value.oneCell']) ?_
  intro w268 A269 K270 z271
  have S272 := S264.wr3 (ds := entR0) K270 A269
  refine vA (.int .i64 10) rfl rfl (EL_nil (thn_n (EC_ret (thn_r ?_))))
  refine fin2c Tryz.results48 (show _ = ptr b11 from rfl) (show _ = .int .i64 10 from rfl) (S272.arr 3 rfl) U38 rfl (by kernel_rfl) ⟨_, rfl, ?_⟩
  have hok : decOk l = false := by rw [decOk, hde]; dsimp only; rw [hen, hrt]; rfl
  have q273 : (decV l) = (⟨0, 0, 0, [], [], 0, 0, 0, []⟩ : Entry) := by rw [decV, hok]; rfl
  have S274 := S272.dr0
  have S275 := S274.dr0
  have S276 := S275.dr0
  have S277 := S276.dr0
  exact ⟨entR0, I265, (lT (lT (lT (lT (lT le22 le40) le59) le70) le253) le266), (by rw [decE, hok]; rfl), (by rw [q273]; exact (entRz _)), S277⟩
  have hrt : ((⟨rdNum (Rd.mk l false) 1 5, rdNum (rdNumS (Rd.mk l false) 1 5) 1 16, rdNum (rdNumS (rdNumS (Rd.mk l false) 1 5) 1 16) 1 1099511627776, [], [], rdNum (rdNumS (rdNumS (rdNumS (Rd.mk l false) 1 5) 1 16) 1 1099511627776) 1 16, 0, 0, []⟩ : Entry)).right = true := (Bool.not_eq_false' _).mp h267
  refine EC_skip (thn_n (EC_seq (EC_reg (vl (.agg ([.int .i64 (rdNum (Rd.mk l false) 1 5), .int .i64 (rdNum (rdNumS (Rd.mk l false) 1 5) 1 16), .int .i64 (rdNum (rdNumS (rdNumS (Rd.mk l false) 1 5) 1 16) 1 1099511627776), .slice none 0 0, .slice none 0 0, .int .i64 (rdNum (rdNumS (rdNumS (rdNumS (Rd.mk l false) 1 5) 1 16) 1 1099511627776) 1 16), .int .i64 0, .int .i64 0, .slice none 0 0]).toArray) rfl (r_loadAll rfl (S264.arr 2 rfl) U38 rfl (by kernel_rfl)) ?_))))
  refine sA [.int .i64 (rdNum (Rd.mk l false) 1 5), .int .i64 (rdNum (rdNumS (Rd.mk l false) 1 5) 1 16), .int .i64 (rdNum (rdNumS (rdNumS (Rd.mk l false) 1 5) 1 16) 1 1099511627776), .slice none 0 0, .slice none 0 0, .int .i64 (rdNum (rdNumS (rdNumS (rdNumS (Rd.mk l false) 1 5) 1 16) 1 1099511627776) 1 16), .int .i64 0, .int .i64 0, .slice none 0 0] rfl rfl (S264.arr 3 rfl) rfl (by kernel_rfl) (by simp [Value.oneCell']) ?_
  intro w278 A279 K280 z281
  have S282 := S264.wr3 (ds := [.int .i64 (rdNum (Rd.mk l false) 1 5), .int .i64 (rdNum (rdNumS (Rd.mk l false) 1 5) 1 16), .int .i64 (rdNum (rdNumS (rdNumS (Rd.mk l false) 1 5) 1 16) 1 1099511627776), .slice none 0 0, .slice none 0 0, .int .i64 (rdNum (rdNumS (rdNumS (rdNumS (Rd.mk l false) 1 5) 1 16) 1 1099511627776) 1 16), .int .i64 0, .int .i64 0, .slice none 0 0]) K280 A279
  refine vA (.int .i64 0) rfl rfl (EL_nil (thn_n (EC_ret ?_)))
  refine fin2c Tryz.results48 (show _ = ptr b11 from rfl) (show _ = .int .i64 0 from rfl) (S282.arr 3 rfl) U38 rfl (by kernel_rfl) ⟨_, rfl, ?_⟩
  have hok : decOk l = true := by rw [decOk, hde]; dsimp only; rw [hen, hrt]; rfl
  have q283 : (decV l) = (⟨rdNum (Rd.mk l false) 1 5, rdNum (rdNumS (Rd.mk l false) 1 5) 1 16, rdNum (rdNumS (rdNumS (Rd.mk l false) 1 5) 1 16) 1 1099511627776, [], [], rdNum (rdNumS (rdNumS (rdNumS (Rd.mk l false) 1 5) 1 16) 1 1099511627776) 1 16, 0, 0, []⟩ : Entry) := by rw [decV, if_pos hok, hde]
  have S284 := S282.dr0
  have S285 := S284.dr0
  have S286 := S285.dr0
  have S287 := S286.dr0
  exact ⟨[.int .i64 (rdNum (Rd.mk l false) 1 5), .int .i64 (rdNum (rdNumS (Rd.mk l false) 1 5) 1 16), .int .i64 (rdNum (rdNumS (rdNumS (Rd.mk l false) 1 5) 1 16) 1 1099511627776), .slice none 0 0, .slice none 0 0, .int .i64 (rdNum (rdNumS (rdNumS (rdNumS (Rd.mk l false) 1 5) 1 16) 1 1099511627776) 1 16), .int .i64 0, .int .i64 0, .slice none 0 0], I265, (lT (lT (lT (lT (lT le22 le40) le59) le70) le253) le266), (by rw [decE, if_pos hok]), (by rw [q283]; exact ⟨(.slice none 0 0), (.slice none 0 0), (.slice none 0 0), rfl, (by first | assumption | (dsimp only; omega)), (by first | assumption | (dsimp only; omega)), (by first | assumption | (dsimp only; omega)), ⟨rfl, Ro.nil⟩, ⟨rfl, Ro.nil⟩, (by first | assumption | (dsimp only; omega)), (by dsimp only; omega), (by dsimp only; omega), ⟨rfl, RoX.nil⟩⟩), S287⟩
  refine EC_reg (vL (ptr q23) rfl rfl (S259.arr 0 rfl) rfl U92 rfl ?_)
  have S288 := S259.fr1
  refine eR rfl F49 rfl (End_c (ptr q23) (rdNumS (rdNumS (rdNumS (rdNumS (Rd.mk l false) 1 5) 1 16) 1 1099511627776) 1 16) I252 _ _ S288) ?_
  rintro _ w289 ⟨rfl, S290⟩
  refine vl (.bool true) rfl (r_dec (show (!false) = true from rfl) (r_not (Eq.trans (show _ = Value.bool (rdEnd (rdNumS (rdNumS (rdNumS (rdNumS (Rd.mk l false) 1 5) 1 16) 1 1099511627776) 1 16)) from rfl) (congrArg Value.bool (show (rdEnd (rdNumS (rdNumS (rdNumS (rdNumS (Rd.mk l false) 1 5) 1 16) 1 1099511627776) 1 16)) = false from hen))))) (vM (.bool true) rfl rfl (EL_pass 80 rfl rfl rfl rfl rfl (EL_pass 80 rfl rfl rfl rfl rfl (EL_pass 80 rfl rfl rfl rfl rfl (vT (.bool true) rfl rfl rfl ?_)))))
  refine EL_nil (thn_n ?_)
  refine EC_cond_true rfl ?_
  refine EC_seq (EC_reg (vl (.agg (entR0).toArray) rfl (r_buildS (l := []) st_38 rfl (Eq.trans (show Instr.fill _ _ [] = _ from fill_end) (by kernel_rfl))) ?_))
  refine sA entR0 rfl rfl (S290.arr 3 rfl) rfl (by kernel_rfl) (by simp [Value.oneCell']) ?_
  intro w291 A292 K293 z294
  have S295 := S290.wr3 (ds := entR0) K293 A292
  refine vA (.int .i64 10) rfl rfl (EL_nil (thn_n (EC_ret (thn_r ?_))))
  refine fin2c Tryz.results48 (show _ = ptr b11 from rfl) (show _ = .int .i64 10 from rfl) (S295.arr 3 rfl) U38 rfl (by kernel_rfl) ⟨_, rfl, ?_⟩
  have hok : decOk l = false := by rw [decOk, hde]; dsimp only; rw [hen, Bool.false_and]
  have q296 : (decV l) = (⟨0, 0, 0, [], [], 0, 0, 0, []⟩ : Entry) := by rw [decV, hok]; rfl
  have S297 := S295.dr0
  have S298 := S297.dr0
  have S299 := S298.dr0
  have S300 := S299.dr0
  exact ⟨entR0, I252, (lT (lT (lT (lT le22 le40) le59) le70) le253), (by rw [decE, hok]; rfl), (by rw [q296]; exact (entRz _)), S300⟩
  refine EC_reg (vl (ptr b42 0) rfl (fP 0 rfl U38 (by kernel_rfl)) (vL (.int .i64 (rdNum (Rd.mk l false) 1 5)) rfl rfl (S76.arr 2 rfl) rfl U3 rfl (EL_nil (thn_n (EC_block ?_)))))
  refine EC_seq (EC_reg (vl (.bool false) rfl (r_dec (show (decide ((rdNum (Rd.mk l false) 1 5) = 1)) = false from by rw [decide_eq_false_iff_not]; omega) (r_eql rfl rfl)) (vA (.bool false) rfl rfl (EL_nil (thn_n ?_)))))
  refine EC_cond_false rfl ?_
  refine EC_seq (EC_reg (vl (.bool false) rfl (r_dec (show (decide ((rdNum (Rd.mk l false) 1 5) = 2)) = false from by rw [decide_eq_false_iff_not]; omega) (r_eql rfl rfl)) (vA (.bool false) rfl rfl (EL_nil (thn_n ?_)))))
  refine EC_cond_false rfl ?_
  refine EC_seq (EC_reg (vl (.bool false) rfl (r_dec (show (decide ((rdNum (Rd.mk l false) 1 5) = 3)) = false from by rw [decide_eq_false_iff_not]; omega) (r_eql rfl rfl)) (vA (.bool false) rfl rfl (EL_nil (thn_n ?_)))))
  refine EC_cond_false rfl ?_
  refine EC_seq (EC_reg (vl (.bool false) rfl (r_dec (show (decide ((rdNum (Rd.mk l false) 1 5) = 4)) = false from by rw [decide_eq_false_iff_not]; omega) (r_eql rfl rfl)) (vA (.bool false) rfl rfl (EL_nil (thn_n ?_)))))
  refine EC_cond_false rfl ?_
  refine EC_seq (EC_reg (vl (.bool true) rfl (r_dec (show (decide ((rdNum (Rd.mk l false) 1 5) = 5)) = true from by rw [decide_eq_true_eq]; omega) (r_eql rfl rfl)) (vA (.bool true) rfl rfl (EL_nil (thn_n ?_)))))
  refine EC_cond_true rfl ?_
  refine EC_seq (EC_reg (vL (ptr q23) rfl rfl (S76.arr 1 rfl) rfl U92 rfl ?_))
  refine eR rfl F84 rfl (Number_c (ptr q23) (rdNumS (rdNumS (rdNumS (Rd.mk l false) 1 5) 1 16) 1 1099511627776) 1 16 I69 _ _ S76) ?_
  rintro _ w301 ⟨I303, le304, rfl, S302⟩
  have hn305 := rdNum_rng (rdNumS (rdNumS (rdNumS (Rd.mk l false) 1 5) 1 16) 1 1099511627776) 1 (hi := 16) (by omega)
  refine vl (ptr b42 7) rfl (fP 0 rfl U38 (by kernel_rfl)) ?_
  refine EL_storeA (j := 7) (u := .int .i64 (rdNum (rdNumS (rdNumS (rdNumS (Rd.mk l false) 1 5) 1 16) 1 1099511627776) 1 16)) rfl rfl (S302.arr 2 rfl) (by first | decide | (simp; omega) | simp) rfl (by kernel_rfl) ?_
  intro w306 A307 K308 z309
  have S310 := S302.wr2 (ds := [.int .i64 (rdNum (Rd.mk l false) 1 5), .int .i64 (rdNum (rdNumS (Rd.mk l false) 1 5) 1 16), .int .i64 (rdNum (rdNumS (rdNumS (Rd.mk l false) 1 5) 1 16) 1 1099511627776), .slice none 0 0, .slice none 0 0, .int .i64 0, .int .i64 0, .int .i64 (rdNum (rdNumS (rdNumS (rdNumS (Rd.mk l false) 1 5) 1 16) 1 1099511627776) 1 16), .slice none 0 0]) K308 A307
  refine EL_nil (thn_n (EC_seq (EC_reg (vL (ptr q23) rfl rfl (S310.arr 1 rfl) rfl U92 rfl ?_))))
  refine eR rfl F84 rfl (Number_c (ptr q23) (rdNumS (rdNumS (rdNumS (rdNumS (Rd.mk l false) 1 5) 1 16) 1 1099511627776) 1 16) 0 16 I303 _ _ S310) ?_
  rintro _ w311 ⟨I313, le314, rfl, S312⟩
  have hn315 := rdNum_rng (rdNumS (rdNumS (rdNumS (rdNumS (Rd.mk l false) 1 5) 1 16) 1 1099511627776) 1 16) 0 (hi := 16) (by omega)
  refine vA (.int .i64 (rdNum (rdNumS (rdNumS (rdNumS (rdNumS (Rd.mk l false) 1 5) 1 16) 1 1099511627776) 1 16) 0 16)) rfl rfl (EL_nil (thn_n (EC_block ?_)))
  have S316 : Sat w311 I313 (OwnX 80 wrapR (.slice none 0 0) [] :: RdP (ptr q23) (rdNumS (rdNumS (rdNumS (rdNumS (rdNumS (Rd.mk l false) 1 5) 1 16) 1 1099511627776) 1 16) 0 16) :: Blk b24 92 [ptr q23] :: Blk b42 38 [.int .i64 (rdNum (Rd.mk l false) 1 5), .int .i64 (rdNum (rdNumS (Rd.mk l false) 1 5) 1 16), .int .i64 (rdNum (rdNumS (rdNumS (Rd.mk l false) 1 5) 1 16) 1 1099511627776), .slice none 0 0, .slice none 0 0, .int .i64 0, .int .i64 0, .int .i64 (rdNum (rdNumS (rdNumS (rdNumS (Rd.mk l false) 1 5) 1 16) 1 1099511627776) 1 16), .slice none 0 0] :: Blk b11 38 entR0 :: R) := OwnX.nil S312 80 wrapR
  have S317 := S316.fr4
  have S318 := S317.fr3
  have S319 := S318.fr3
  have S320 := S319.fr3
  have S321 := S320.fr4
  refine EC_loop (fun m' E' w' => ∃ n : Nat, ∃ r : Rd, ∃ wv : Value, ∃ ws : List WrapT, ∃ J : Gh, m' = 0 + n ∧ E' 7 = .int .i64 (n : Int) ∧ E' 2 = ptr b11 ∧ E' 3 = .int .i64 0 ∧ E' 4 = ptr b24 ∧ E' 5 = .func (.func 83) #[] [ptr b24].toArray ∧ E' 6 = ptr b42 ∧ (rdWraps n r ws = rdWraps (rdNum (rdNumS (rdNumS (rdNumS (rdNumS (Rd.mk l false) 1 5) 1 16) 1 1099511627776) 1 16) 0 16).toNat (rdNumS (rdNumS (rdNumS (rdNumS (rdNumS (Rd.mk l false) 1 5) 1 16) 1 1099511627776) 1 16) 0 16) []) ∧ (n + ws.length ≤ 16) ∧ Gh.le I313 J ∧ Sat w' J (Blk b42 38 [.int .i64 (rdNum (Rd.mk l false) 1 5), .int .i64 (rdNum (rdNumS (Rd.mk l false) 1 5) 1 16), .int .i64 (rdNum (rdNumS (rdNumS (Rd.mk l false) 1 5) 1 16) 1 1099511627776), .slice none 0 0, .slice none 0 0, .int .i64 0, .int .i64 0, .int .i64 (rdNum (rdNumS (rdNumS (rdNumS (Rd.mk l false) 1 5) 1 16) 1 1099511627776) 1 16), wv] :: OwnX 80 wrapR wv ws :: RdP (ptr q23) r :: Blk b24 92 [ptr q23] :: Blk b11 38 entR0 :: R)) _ ⟨(rdNum (rdNumS (rdNumS (rdNumS (rdNumS (Rd.mk l false) 1 5) 1 16) 1 1099511627776) 1 16) 0 16).toNat, rdNumS (rdNumS (rdNumS (rdNumS (rdNumS (Rd.mk l false) 1 5) 1 16) 1 1099511627776) 1 16) 0 16, .slice none 0 0, [], I313, rfl, (Eq.trans (show _ = Value.int .i64 (rdNum (rdNumS (rdNumS (rdNumS (rdNumS (Rd.mk l false) 1 5) 1 16) 1 1099511627776) 1 16) 0 16) from rfl) (congrArg _ (Int.toNat_of_nonneg (by omega)).symm)), rfl, rfl, rfl, rfl, rfl, rfl, (by simp; omega), (Gh.le_refl _), S321⟩ ?_
  rintro _ E322 w323 ⟨n, r, wv, ws, I324, rfl, e325, e326, e327, e328, e329, e330, hr, hn16, le331, S332⟩
  refine EC_seq (EC_seq ?_)
  rcases dl3 n r.bad with hq | hq | hq
  have hx : rdWraps (rdNum (rdNumS (rdNumS (rdNumS (rdNumS (Rd.mk l false) 1 5) 1 16) 1 1099511627776) 1 16) 0 16).toNat (rdNumS (rdNumS (rdNumS (rdNumS (rdNumS (Rd.mk l false) 1 5) 1 16) 1 1099511627776) 1 16) 0 16) [] = (ws, r) := by rw [← hr, hq]; rfl
  refine EC_reg (vM (.int .i64 (n : Int)) rfl e325 (vl (.bool false) rfl (r_dec (show (decide (0 < (n : Int))) = false from by simp; omega) (r_gtr rfl rfl)) (vM (.bool false) rfl rfl (EL_pass 58 rfl rfl rfl rfl rfl (EL_pass 58 rfl rfl rfl rfl rfl ?_)))))
  refine EL_pass 58 rfl rfl rfl rfl rfl (vF (.bool false) rfl rfl rfl (EL_nil (thn_n ?_)))
  refine EC_cond_false rfl ?_
  refine EC_exit (thn_x (thn_x (inB_hit (inB_n (thn_n ?_)))))
  refine EC_seq (EC_seq ?_)
  have oH336 := (OwnX.one S332 1 rfl (by decide))
  obtain ⟨I333, le334, S335, H336⟩ := S332.fx1 (by decide)
  have hde : rdEntry ⟨l, false⟩ = ((⟨rdNum (Rd.mk l false) 1 5, rdNum (rdNumS (Rd.mk l false) 1 5) 1 16, rdNum (rdNumS (rdNumS (Rd.mk l false) 1 5) 1 16) 1 1099511627776, [], [], 0, 0, rdNum (rdNumS (rdNumS (rdNumS (Rd.mk l false) 1 5) 1 16) 1 1099511627776) 1 16, ws⟩ : Entry), r) := by rw [rdEntry, rdBody, if_neg (by omega), if_neg (by omega), if_neg (by omega), if_neg (by omega), if_pos hk]; dsimp only; rw [hx]
  rcases (by cases rdEnd r <;> simp : rdEnd r = true ∨ rdEnd r = false) with hen | hen
  refine EC_reg (vL (ptr q23) rfl (by exact e328) (S335.arr 2 rfl) rfl U92 rfl ?_)
  have S337 := S335.fr1
  refine eR rfl F49 rfl (End_c (ptr q23) r I333 _ _ S337) ?_
  rintro _ w338 ⟨rfl, S339⟩
  refine vl (.bool false) rfl (r_dec (show (!true) = false from rfl) (r_not (Eq.trans (show _ = Value.bool (rdEnd r) from rfl) (congrArg Value.bool (show (rdEnd r) = true from hen))))) (vM (.bool false) rfl rfl (gl  80 rfl rfl rfl rfl (.agg ([.int .i64 (rdNum (Rd.mk l false) 1 5), .int .i64 (rdNum (rdNumS (Rd.mk l false) 1 5) 1 16), .int .i64 (rdNum (rdNumS (rdNumS (Rd.mk l false) 1 5) 1 16) 1 1099511627776), .slice none 0 0, .slice none 0 0, .int .i64 0, .int .i64 0, .int .i64 (rdNum (rdNumS (rdNumS (rdNumS (Rd.mk l false) 1 5) 1 16) 1 1099511627776) 1 16), wv]).toArray) rfl (r_loadAll (by exact e330) (S339.arr 1 rfl) U38 rfl (by kernel_rfl)) ?_))
  refine eG 80 rfl rfl rfl rfl rfl F71 rfl (Right_c [.int .i64 (rdNum (Rd.mk l false) 1 5), .int .i64 (rdNum (rdNumS (Rd.mk l false) 1 5) 1 16), .int .i64 (rdNum (rdNumS (rdNumS (Rd.mk l false) 1 5) 1 16) 1 1099511627776), .slice none 0 0, .slice none 0 0, .int .i64 0, .int .i64 0, .int .i64 (rdNum (rdNumS (rdNumS (rdNumS (Rd.mk l false) 1 5) 1 16) 1 1099511627776) 1 16), wv] (⟨rdNum (Rd.mk l false) 1 5, rdNum (rdNumS (Rd.mk l false) 1 5) 1 16, rdNum (rdNumS (rdNumS (Rd.mk l false) 1 5) 1 16) 1 1099511627776, [], [], 0, 0, rdNum (rdNumS (rdNumS (rdNumS (Rd.mk l false) 1 5) 1 16) 1 1099511627776) 1 16, ws⟩ : Entry) I333 _ _ S339 ⟨(.slice none 0 0), (.slice none 0 0), wv, rfl, (by first | assumption | (dsimp only; omega)), (by first | assumption | (dsimp only; omega)), (by first | assumption | (dsimp only; omega)), ⟨rfl, Ro.nil⟩, ⟨rfl, Ro.nil⟩, (by dsimp only; omega), (by dsimp only; omega), (by first | assumption | (dsimp only; omega)), ⟨oH336, H336⟩⟩) ?_
  rintro _ w340 ⟨I342, le343, rfl, S341⟩
  refine gl  80 rfl rfl rfl rfl (.bool (!((⟨rdNum (Rd.mk l false) 1 5, rdNum (rdNumS (Rd.mk l false) 1 5) 1 16, rdNum (rdNumS (rdNumS (Rd.mk l false) 1 5) 1 16) 1 1099511627776, [], [], 0, 0, rdNum (rdNumS (rdNumS (rdNumS (Rd.mk l false) 1 5) 1 16) 1 1099511627776) 1 16, ws⟩ : Entry).right))) rfl (r_not rfl) (vF (.bool (!((⟨rdNum (Rd.mk l false) 1 5, rdNum (rdNumS (Rd.mk l false) 1 5) 1 16, rdNum (rdNumS (rdNumS (Rd.mk l false) 1 5) 1 16) 1 1099511627776, [], [], 0, 0, rdNum (rdNumS (rdNumS (rdNumS (Rd.mk l false) 1 5) 1 16) 1 1099511627776) 1 16, ws⟩ : Entry).right))) rfl rfl rfl (EL_nil (thn_n ?_)))
  refine EC_cond (t := !((⟨rdNum (Rd.mk l false) 1 5, rdNum (rdNumS (Rd.mk l false) 1 5) 1 16, rdNum (rdNumS (rdNumS (Rd.mk l false) 1 5) 1 16) 1 1099511627776, [], [], 0, 0, rdNum (rdNumS (rdNumS (rdNumS (Rd.mk l false) 1 5) 1 16) 1 1099511627776) 1 16, ws⟩ : Entry).right)) rfl (fun h344 => ?_) (fun h344 => ?_)
  have hrt : ((⟨rdNum (Rd.mk l false) 1 5, rdNum (rdNumS (Rd.mk l false) 1 5) 1 16, rdNum (rdNumS (rdNumS (Rd.mk l false) 1 5) 1 16) 1 1099511627776, [], [], 0, 0, rdNum (rdNumS (rdNumS (rdNumS (Rd.mk l false) 1 5) 1 16) 1 1099511627776) 1 16, ws⟩ : Entry)).right = false := (Bool.not_eq_true' _).mp h344
  refine EC_seq (EC_reg (vl (.agg (entR0).toArray) rfl (r_buildS (l := []) st_38 rfl (Eq.trans (show Instr.fill _ _ [] = _ from fill_end) (by kernel_rfl))) ?_))
  refine sA entR0 (by exact e326) rfl (S341.arr 3 rfl) rfl (by kernel_rfl) (by simp [Value.oneCell']) ?_
  intro w345 A346 K347 z348
  have S349 := S341.wr3 (ds := entR0) K347 A346
  refine vA (.int .i64 10) rfl rfl (EL_nil (thn_n (EC_ret (thn_r ?_))))
  refine fin2c Tryz.results48 (show _ = ptr b11 from (by exact e326)) (show _ = .int .i64 10 from rfl) (S349.arr 3 rfl) U38 rfl (by kernel_rfl) ⟨_, rfl, ?_⟩
  have hok : decOk l = false := by rw [decOk, hde]; dsimp only; rw [hen, hrt]; rfl
  have q350 : (decV l) = (⟨0, 0, 0, [], [], 0, 0, 0, []⟩ : Entry) := by rw [decV, hok]; rfl
  have S351 := S349.dr0
  have S352 := S351.dr0
  have S353 := S352.dr0
  have S354 := S353.dr0
  exact ⟨entR0, I342, (lT (lT (lT (lT (lT (lT (lT (lT le22 le40) le59) le70) le304) le314) le331) le334) le343), (by rw [decE, hok]; rfl), (by rw [q350]; exact (entRz _)), S354⟩
  have hrt : ((⟨rdNum (Rd.mk l false) 1 5, rdNum (rdNumS (Rd.mk l false) 1 5) 1 16, rdNum (rdNumS (rdNumS (Rd.mk l false) 1 5) 1 16) 1 1099511627776, [], [], 0, 0, rdNum (rdNumS (rdNumS (rdNumS (Rd.mk l false) 1 5) 1 16) 1 1099511627776) 1 16, ws⟩ : Entry)).right = true := (Bool.not_eq_false' _).mp h344
  refine EC_skip (thn_n (EC_seq (EC_reg (vl (.agg ([.int .i64 (rdNum (Rd.mk l false) 1 5), .int .i64 (rdNum (rdNumS (Rd.mk l false) 1 5) 1 16), .int .i64 (rdNum (rdNumS (rdNumS (Rd.mk l false) 1 5) 1 16) 1 1099511627776), .slice none 0 0, .slice none 0 0, .int .i64 0, .int .i64 0, .int .i64 (rdNum (rdNumS (rdNumS (rdNumS (Rd.mk l false) 1 5) 1 16) 1 1099511627776) 1 16), wv]).toArray) rfl (r_loadAll (by exact e330) (S341.arr 1 rfl) U38 rfl (by kernel_rfl)) ?_))))
  refine sA [.int .i64 (rdNum (Rd.mk l false) 1 5), .int .i64 (rdNum (rdNumS (Rd.mk l false) 1 5) 1 16), .int .i64 (rdNum (rdNumS (rdNumS (Rd.mk l false) 1 5) 1 16) 1 1099511627776), .slice none 0 0, .slice none 0 0, .int .i64 0, .int .i64 0, .int .i64 (rdNum (rdNumS (rdNumS (rdNumS (Rd.mk l false) 1 5) 1 16) 1 1099511627776) 1 16), wv] (by exact e326) rfl (S341.arr 3 rfl) rfl (by kernel_rfl) (ones_cons rfl (ones_cons rfl (ones_cons rfl (ones_cons rfl (ones_cons rfl (ones_cons rfl (ones_cons rfl (ones_cons rfl (ones_cons oH336 (fun _ h => nomatch h)))))))))) ?_
  intro w355 A356 K357 z358
  have S359 := S341.wr3 (ds := [.int .i64 (rdNum (Rd.mk l false) 1 5), .int .i64 (rdNum (rdNumS (Rd.mk l false) 1 5) 1 16), .int .i64 (rdNum (rdNumS (rdNumS (Rd.mk l false) 1 5) 1 16) 1 1099511627776), .slice none 0 0, .slice none 0 0, .int .i64 0, .int .i64 0, .int .i64 (rdNum (rdNumS (rdNumS (rdNumS (Rd.mk l false) 1 5) 1 16) 1 1099511627776) 1 16), wv]) K357 A356
  refine vA (.int .i64 0) rfl rfl (EL_nil (thn_n (EC_ret ?_)))
  refine fin2c Tryz.results48 (show _ = ptr b11 from (by exact e326)) (show _ = .int .i64 0 from rfl) (S359.arr 3 rfl) U38 rfl (by kernel_rfl) ⟨_, rfl, ?_⟩
  have hok : decOk l = true := by rw [decOk, hde]; dsimp only; rw [hen, hrt]; rfl
  have q360 : (decV l) = (⟨rdNum (Rd.mk l false) 1 5, rdNum (rdNumS (Rd.mk l false) 1 5) 1 16, rdNum (rdNumS (rdNumS (Rd.mk l false) 1 5) 1 16) 1 1099511627776, [], [], 0, 0, rdNum (rdNumS (rdNumS (rdNumS (Rd.mk l false) 1 5) 1 16) 1 1099511627776) 1 16, ws⟩ : Entry) := by rw [decV, if_pos hok, hde]
  have S361 := S359.dr0
  have S362 := S361.dr0
  have S363 := S362.dr0
  have S364 := S363.dr0
  exact ⟨[.int .i64 (rdNum (Rd.mk l false) 1 5), .int .i64 (rdNum (rdNumS (Rd.mk l false) 1 5) 1 16), .int .i64 (rdNum (rdNumS (rdNumS (Rd.mk l false) 1 5) 1 16) 1 1099511627776), .slice none 0 0, .slice none 0 0, .int .i64 0, .int .i64 0, .int .i64 (rdNum (rdNumS (rdNumS (rdNumS (Rd.mk l false) 1 5) 1 16) 1 1099511627776) 1 16), wv], I342, (lT (lT (lT (lT (lT (lT (lT (lT le22 le40) le59) le70) le304) le314) le331) le334) le343), (by rw [decE, if_pos hok]), (by rw [q360]; exact ⟨(.slice none 0 0), (.slice none 0 0), wv, rfl, (by first | assumption | (dsimp only; omega)), (by first | assumption | (dsimp only; omega)), (by first | assumption | (dsimp only; omega)), ⟨rfl, Ro.nil⟩, ⟨rfl, Ro.nil⟩, (by dsimp only; omega), (by dsimp only; omega), (by first | assumption | (dsimp only; omega)), ⟨oH336, (H336.up le343)⟩⟩), S364⟩
  refine EC_reg (vL (ptr q23) rfl (by exact e328) (S335.arr 2 rfl) rfl U92 rfl ?_)
  have S365 := S335.fr1
  refine eR rfl F49 rfl (End_c (ptr q23) r I333 _ _ S365) ?_
  rintro _ w366 ⟨rfl, S367⟩
  refine vl (.bool true) rfl (r_dec (show (!false) = true from rfl) (r_not (Eq.trans (show _ = Value.bool (rdEnd r) from rfl) (congrArg Value.bool (show (rdEnd r) = false from hen))))) (vM (.bool true) rfl rfl (EL_pass 80 rfl rfl rfl rfl rfl (EL_pass 80 rfl rfl rfl rfl rfl (EL_pass 80 rfl rfl rfl rfl rfl (vT (.bool true) rfl rfl rfl ?_)))))
  refine EL_nil (thn_n ?_)
  refine EC_cond_true rfl ?_
  refine EC_seq (EC_reg (vl (.agg (entR0).toArray) rfl (r_buildS (l := []) st_38 rfl (Eq.trans (show Instr.fill _ _ [] = _ from fill_end) (by kernel_rfl))) ?_))
  refine sA entR0 (by exact e326) rfl (S367.arr 3 rfl) rfl (by kernel_rfl) (by simp [Value.oneCell']) ?_
  intro w368 A369 K370 z371
  have S372 := S367.wr3 (ds := entR0) K370 A369
  refine vA (.int .i64 10) rfl rfl (EL_nil (thn_n (EC_ret (thn_r ?_))))
  refine fin2c Tryz.results48 (show _ = ptr b11 from (by exact e326)) (show _ = .int .i64 10 from rfl) (S372.arr 3 rfl) U38 rfl (by kernel_rfl) ⟨_, rfl, ?_⟩
  have hok : decOk l = false := by rw [decOk, hde]; dsimp only; rw [hen, Bool.false_and]
  have q373 : (decV l) = (⟨0, 0, 0, [], [], 0, 0, 0, []⟩ : Entry) := by rw [decV, hok]; rfl
  have S374 := S372.dr0
  have S375 := S374.dr0
  have S376 := S375.dr0
  have S377 := S376.dr0
  exact ⟨entR0, I333, (lT (lT (lT (lT (lT (lT (lT le22 le40) le59) le70) le304) le314) le331) le334), (by rw [decE, hok]; rfl), (by rw [q373]; exact (entRz _)), S377⟩
  have hx : rdWraps (rdNum (rdNumS (rdNumS (rdNumS (rdNumS (Rd.mk l false) 1 5) 1 16) 1 1099511627776) 1 16) 0 16).toNat (rdNumS (rdNumS (rdNumS (rdNumS (rdNumS (Rd.mk l false) 1 5) 1 16) 1 1099511627776) 1 16) 0 16) [] = (ws, r) := by rw [← hr]; exact rdw_bad hq.2
  refine EC_reg (vM (.int .i64 (n : Int)) rfl e325 (vl (.bool true) rfl (r_dec (show (decide (0 < (n : Int))) = true from by simp; omega) (r_gtr rfl rfl)) (vM (.bool true) rfl rfl ?_)))
  refine gL  58 rfl rfl rfl rfl (ptr q23) rfl (by exact e328) (S332.arr 3 rfl) rfl U92 rfl ?_
  have S378 := S332.fr2
  refine eG 58 rfl rfl rfl rfl rfl F85 rfl (Bad_c (ptr q23) r I324 _ _ S378) ?_
  rintro _ w379 ⟨rfl, S380⟩
  refine gl  58 rfl rfl rfl rfl (.bool false) rfl (r_dec (show (!true) = false from rfl) (r_not (Eq.trans (show _ = Value.bool (r.bad) from rfl) (congrArg Value.bool (show (r.bad) = true from hq.2))))) (vT (.bool false) rfl rfl rfl (EL_nil (thn_n ?_)))
  refine EC_cond_false rfl ?_
  refine EC_exit (thn_x (thn_x (inB_hit (inB_n (thn_n ?_)))))
  refine EC_seq (EC_seq ?_)
  have oH384 := (OwnX.one S380 2 rfl (by decide))
  obtain ⟨I381, le382, S383, H384⟩ := S380.fx2 (by decide)
  have hde : rdEntry ⟨l, false⟩ = ((⟨rdNum (Rd.mk l false) 1 5, rdNum (rdNumS (Rd.mk l false) 1 5) 1 16, rdNum (rdNumS (rdNumS (Rd.mk l false) 1 5) 1 16) 1 1099511627776, [], [], 0, 0, rdNum (rdNumS (rdNumS (rdNumS (Rd.mk l false) 1 5) 1 16) 1 1099511627776) 1 16, ws⟩ : Entry), r) := by rw [rdEntry, rdBody, if_neg (by omega), if_neg (by omega), if_neg (by omega), if_neg (by omega), if_pos hk]; dsimp only; rw [hx]
  rcases (by cases rdEnd r <;> simp : rdEnd r = true ∨ rdEnd r = false) with hen | hen
  refine EC_reg (vL (ptr q23) rfl (by exact e328) (S383.arr 2 rfl) rfl U92 rfl ?_)
  refine eR rfl F49 rfl (End_c (ptr q23) r I381 _ _ S383) ?_
  rintro _ w385 ⟨rfl, S386⟩
  refine vl (.bool false) rfl (r_dec (show (!true) = false from rfl) (r_not (Eq.trans (show _ = Value.bool (rdEnd r) from rfl) (congrArg Value.bool (show (rdEnd r) = true from hen))))) (vM (.bool false) rfl rfl (gl  80 rfl rfl rfl rfl (.agg ([.int .i64 (rdNum (Rd.mk l false) 1 5), .int .i64 (rdNum (rdNumS (Rd.mk l false) 1 5) 1 16), .int .i64 (rdNum (rdNumS (rdNumS (Rd.mk l false) 1 5) 1 16) 1 1099511627776), .slice none 0 0, .slice none 0 0, .int .i64 0, .int .i64 0, .int .i64 (rdNum (rdNumS (rdNumS (rdNumS (Rd.mk l false) 1 5) 1 16) 1 1099511627776) 1 16), wv]).toArray) rfl (r_loadAll (by exact e330) (S386.arr 1 rfl) U38 rfl (by kernel_rfl)) ?_))
  refine eG 80 rfl rfl rfl rfl rfl F71 rfl (Right_c [.int .i64 (rdNum (Rd.mk l false) 1 5), .int .i64 (rdNum (rdNumS (Rd.mk l false) 1 5) 1 16), .int .i64 (rdNum (rdNumS (rdNumS (Rd.mk l false) 1 5) 1 16) 1 1099511627776), .slice none 0 0, .slice none 0 0, .int .i64 0, .int .i64 0, .int .i64 (rdNum (rdNumS (rdNumS (rdNumS (Rd.mk l false) 1 5) 1 16) 1 1099511627776) 1 16), wv] (⟨rdNum (Rd.mk l false) 1 5, rdNum (rdNumS (Rd.mk l false) 1 5) 1 16, rdNum (rdNumS (rdNumS (Rd.mk l false) 1 5) 1 16) 1 1099511627776, [], [], 0, 0, rdNum (rdNumS (rdNumS (rdNumS (Rd.mk l false) 1 5) 1 16) 1 1099511627776) 1 16, ws⟩ : Entry) I381 _ _ S386 ⟨(.slice none 0 0), (.slice none 0 0), wv, rfl, (by first | assumption | (dsimp only; omega)), (by first | assumption | (dsimp only; omega)), (by first | assumption | (dsimp only; omega)), ⟨rfl, Ro.nil⟩, ⟨rfl, Ro.nil⟩, (by dsimp only; omega), (by dsimp only; omega), (by first | assumption | (dsimp only; omega)), ⟨oH384, H384⟩⟩) ?_
  rintro _ w387 ⟨I389, le390, rfl, S388⟩
  refine gl  80 rfl rfl rfl rfl (.bool (!((⟨rdNum (Rd.mk l false) 1 5, rdNum (rdNumS (Rd.mk l false) 1 5) 1 16, rdNum (rdNumS (rdNumS (Rd.mk l false) 1 5) 1 16) 1 1099511627776, [], [], 0, 0, rdNum (rdNumS (rdNumS (rdNumS (Rd.mk l false) 1 5) 1 16) 1 1099511627776) 1 16, ws⟩ : Entry).right))) rfl (r_not rfl) (vF (.bool (!((⟨rdNum (Rd.mk l false) 1 5, rdNum (rdNumS (Rd.mk l false) 1 5) 1 16, rdNum (rdNumS (rdNumS (Rd.mk l false) 1 5) 1 16) 1 1099511627776, [], [], 0, 0, rdNum (rdNumS (rdNumS (rdNumS (Rd.mk l false) 1 5) 1 16) 1 1099511627776) 1 16, ws⟩ : Entry).right))) rfl rfl rfl (EL_nil (thn_n ?_)))
  refine EC_cond (t := !((⟨rdNum (Rd.mk l false) 1 5, rdNum (rdNumS (Rd.mk l false) 1 5) 1 16, rdNum (rdNumS (rdNumS (Rd.mk l false) 1 5) 1 16) 1 1099511627776, [], [], 0, 0, rdNum (rdNumS (rdNumS (rdNumS (Rd.mk l false) 1 5) 1 16) 1 1099511627776) 1 16, ws⟩ : Entry).right)) rfl (fun h391 => ?_) (fun h391 => ?_)
  have hrt : ((⟨rdNum (Rd.mk l false) 1 5, rdNum (rdNumS (Rd.mk l false) 1 5) 1 16, rdNum (rdNumS (rdNumS (Rd.mk l false) 1 5) 1 16) 1 1099511627776, [], [], 0, 0, rdNum (rdNumS (rdNumS (rdNumS (Rd.mk l false) 1 5) 1 16) 1 1099511627776) 1 16, ws⟩ : Entry)).right = false := (Bool.not_eq_true' _).mp h391
  refine EC_seq (EC_reg (vl (.agg (entR0).toArray) rfl (r_buildS (l := []) st_38 rfl (Eq.trans (show Instr.fill _ _ [] = _ from fill_end) (by kernel_rfl))) ?_))
  refine sA entR0 (by exact e326) rfl (S388.arr 3 rfl) rfl (by kernel_rfl) (by simp [Value.oneCell']) ?_
  intro w392 A393 K394 z395
  have S396 := S388.wr3 (ds := entR0) K394 A393
  refine vA (.int .i64 10) rfl rfl (EL_nil (thn_n (EC_ret (thn_r ?_))))
  refine fin2c Tryz.results48 (show _ = ptr b11 from (by exact e326)) (show _ = .int .i64 10 from rfl) (S396.arr 3 rfl) U38 rfl (by kernel_rfl) ⟨_, rfl, ?_⟩
  have hok : decOk l = false := by rw [decOk, hde]; dsimp only; rw [hen, hrt]; rfl
  have q397 : (decV l) = (⟨0, 0, 0, [], [], 0, 0, 0, []⟩ : Entry) := by rw [decV, hok]; rfl
  have S398 := S396.dr0
  have S399 := S398.dr0
  have S400 := S399.dr0
  have S401 := S400.dr0
  exact ⟨entR0, I389, (lT (lT (lT (lT (lT (lT (lT (lT le22 le40) le59) le70) le304) le314) le331) le382) le390), (by rw [decE, hok]; rfl), (by rw [q397]; exact (entRz _)), S401⟩
  have hrt : ((⟨rdNum (Rd.mk l false) 1 5, rdNum (rdNumS (Rd.mk l false) 1 5) 1 16, rdNum (rdNumS (rdNumS (Rd.mk l false) 1 5) 1 16) 1 1099511627776, [], [], 0, 0, rdNum (rdNumS (rdNumS (rdNumS (Rd.mk l false) 1 5) 1 16) 1 1099511627776) 1 16, ws⟩ : Entry)).right = true := (Bool.not_eq_false' _).mp h391
  refine EC_skip (thn_n (EC_seq (EC_reg (vl (.agg ([.int .i64 (rdNum (Rd.mk l false) 1 5), .int .i64 (rdNum (rdNumS (Rd.mk l false) 1 5) 1 16), .int .i64 (rdNum (rdNumS (rdNumS (Rd.mk l false) 1 5) 1 16) 1 1099511627776), .slice none 0 0, .slice none 0 0, .int .i64 0, .int .i64 0, .int .i64 (rdNum (rdNumS (rdNumS (rdNumS (Rd.mk l false) 1 5) 1 16) 1 1099511627776) 1 16), wv]).toArray) rfl (r_loadAll (by exact e330) (S388.arr 1 rfl) U38 rfl (by kernel_rfl)) ?_))))
  refine sA [.int .i64 (rdNum (Rd.mk l false) 1 5), .int .i64 (rdNum (rdNumS (Rd.mk l false) 1 5) 1 16), .int .i64 (rdNum (rdNumS (rdNumS (Rd.mk l false) 1 5) 1 16) 1 1099511627776), .slice none 0 0, .slice none 0 0, .int .i64 0, .int .i64 0, .int .i64 (rdNum (rdNumS (rdNumS (rdNumS (Rd.mk l false) 1 5) 1 16) 1 1099511627776) 1 16), wv] (by exact e326) rfl (S388.arr 3 rfl) rfl (by kernel_rfl) (ones_cons rfl (ones_cons rfl (ones_cons rfl (ones_cons rfl (ones_cons rfl (ones_cons rfl (ones_cons rfl (ones_cons rfl (ones_cons oH384 (fun _ h => nomatch h)))))))))) ?_
  intro w402 A403 K404 z405
  have S406 := S388.wr3 (ds := [.int .i64 (rdNum (Rd.mk l false) 1 5), .int .i64 (rdNum (rdNumS (Rd.mk l false) 1 5) 1 16), .int .i64 (rdNum (rdNumS (rdNumS (Rd.mk l false) 1 5) 1 16) 1 1099511627776), .slice none 0 0, .slice none 0 0, .int .i64 0, .int .i64 0, .int .i64 (rdNum (rdNumS (rdNumS (rdNumS (Rd.mk l false) 1 5) 1 16) 1 1099511627776) 1 16), wv]) K404 A403
  refine vA (.int .i64 0) rfl rfl (EL_nil (thn_n (EC_ret ?_)))
  refine fin2c Tryz.results48 (show _ = ptr b11 from (by exact e326)) (show _ = .int .i64 0 from rfl) (S406.arr 3 rfl) U38 rfl (by kernel_rfl) ⟨_, rfl, ?_⟩
  have hok : decOk l = true := by rw [decOk, hde]; dsimp only; rw [hen, hrt]; rfl
  have q407 : (decV l) = (⟨rdNum (Rd.mk l false) 1 5, rdNum (rdNumS (Rd.mk l false) 1 5) 1 16, rdNum (rdNumS (rdNumS (Rd.mk l false) 1 5) 1 16) 1 1099511627776, [], [], 0, 0, rdNum (rdNumS (rdNumS (rdNumS (Rd.mk l false) 1 5) 1 16) 1 1099511627776) 1 16, ws⟩ : Entry) := by rw [decV, if_pos hok, hde]
  have S408 := S406.dr0
  have S409 := S408.dr0
  have S410 := S409.dr0
  have S411 := S410.dr0
  exact ⟨[.int .i64 (rdNum (Rd.mk l false) 1 5), .int .i64 (rdNum (rdNumS (Rd.mk l false) 1 5) 1 16), .int .i64 (rdNum (rdNumS (rdNumS (Rd.mk l false) 1 5) 1 16) 1 1099511627776), .slice none 0 0, .slice none 0 0, .int .i64 0, .int .i64 0, .int .i64 (rdNum (rdNumS (rdNumS (rdNumS (Rd.mk l false) 1 5) 1 16) 1 1099511627776) 1 16), wv], I389, (lT (lT (lT (lT (lT (lT (lT (lT le22 le40) le59) le70) le304) le314) le331) le382) le390), (by rw [decE, if_pos hok]), (by rw [q407]; exact ⟨(.slice none 0 0), (.slice none 0 0), wv, rfl, (by first | assumption | (dsimp only; omega)), (by first | assumption | (dsimp only; omega)), (by first | assumption | (dsimp only; omega)), ⟨rfl, Ro.nil⟩, ⟨rfl, Ro.nil⟩, (by dsimp only; omega), (by dsimp only; omega), (by first | assumption | (dsimp only; omega)), ⟨oH384, (H384.up le390)⟩⟩), S411⟩
  refine EC_reg (vL (ptr q23) rfl (by exact e328) (S383.arr 2 rfl) rfl U92 rfl ?_)
  refine eR rfl F49 rfl (End_c (ptr q23) r I381 _ _ S383) ?_
  rintro _ w412 ⟨rfl, S413⟩
  refine vl (.bool true) rfl (r_dec (show (!false) = true from rfl) (r_not (Eq.trans (show _ = Value.bool (rdEnd r) from rfl) (congrArg Value.bool (show (rdEnd r) = false from hen))))) (vM (.bool true) rfl rfl (EL_pass 80 rfl rfl rfl rfl rfl (EL_pass 80 rfl rfl rfl rfl rfl (EL_pass 80 rfl rfl rfl rfl rfl (vT (.bool true) rfl rfl rfl ?_)))))
  refine EL_nil (thn_n ?_)
  refine EC_cond_true rfl ?_
  refine EC_seq (EC_reg (vl (.agg (entR0).toArray) rfl (r_buildS (l := []) st_38 rfl (Eq.trans (show Instr.fill _ _ [] = _ from fill_end) (by kernel_rfl))) ?_))
  refine sA entR0 (by exact e326) rfl (S413.arr 3 rfl) rfl (by kernel_rfl) (by simp [Value.oneCell']) ?_
  intro w414 A415 K416 z417
  have S418 := S413.wr3 (ds := entR0) K416 A415
  refine vA (.int .i64 10) rfl rfl (EL_nil (thn_n (EC_ret (thn_r ?_))))
  refine fin2c Tryz.results48 (show _ = ptr b11 from (by exact e326)) (show _ = .int .i64 10 from rfl) (S418.arr 3 rfl) U38 rfl (by kernel_rfl) ⟨_, rfl, ?_⟩
  have hok : decOk l = false := by rw [decOk, hde]; dsimp only; rw [hen, Bool.false_and]
  have q419 : (decV l) = (⟨0, 0, 0, [], [], 0, 0, 0, []⟩ : Entry) := by rw [decV, hok]; rfl
  have S420 := S418.dr0
  have S421 := S420.dr0
  have S422 := S421.dr0
  have S423 := S422.dr0
  exact ⟨entR0, I381, (lT (lT (lT (lT (lT (lT (lT le22 le40) le59) le70) le304) le314) le331) le382), (by rw [decE, hok]; rfl), (by rw [q419]; exact (entRz _)), S423⟩
  refine EC_reg (vM (.int .i64 (n : Int)) rfl e325 (vl (.bool true) rfl (r_dec (show (decide (0 < (n : Int))) = true from by simp; omega) (r_gtr rfl rfl)) (vM (.bool true) rfl rfl ?_)))
  refine gL  58 rfl rfl rfl rfl (ptr q23) rfl (by exact e328) (S332.arr 3 rfl) rfl U92 rfl ?_
  have S424 := S332.fr2
  refine eG 58 rfl rfl rfl rfl rfl F85 rfl (Bad_c (ptr q23) r I324 _ _ S424) ?_
  rintro _ w425 ⟨rfl, S426⟩
  refine gl  58 rfl rfl rfl rfl (.bool true) rfl (r_dec (show (!false) = true from rfl) (r_not (Eq.trans (show _ = Value.bool (r.bad) from rfl) (congrArg Value.bool (show (r.bad) = false from hq.2))))) (vT (.bool true) rfl rfl rfl (EL_nil (thn_n ?_)))
  refine EC_cond_true rfl ?_
  refine EC_skip (thn_n (EC_seq (EC_block (EC_seq (EC_reg ?_)))))
  refine vM (.func (.func 83) #[] [ptr b24].toArray) rfl e329 ?_
  have S427 := S426.fr3
  refine EL_retw _ rfl rfl Tryz.func83 rfl nm83 rfl (who_c b24 q23 r I324 _ _ S427) ?_
  rintro _ w428 ⟨I430, le431, rfl, S429⟩
  have hn432 := rdNum_rng r 1 (hi := 16) (by omega)
  refine vl (.agg ([.int .i64 (rdNum r 1 16), .slice none 0 0]).toArray) rfl (r_buildS (l := [(0, .int .i64 (rdNum r 1 16))]) st_80 (parts1 rfl) (Eq.trans (show Instr.fill _ _ [(0, .int .i64 (rdNum r 1 16))] = _ from (fill_one rfl rfl rfl fill_end)) (by kernel_rfl))) ?_
  refine EL_alloc (z := .agg #[.int .i64 0, .slice none 0 0]) [.int .i64 0, .slice none 0 0] rfl (by kernel_rfl) rfl ?_
  intro b433 w434 k435 A436 B437 z438
  have S439 := S429.newB B437 A436 k435
  refine sA [.int .i64 (rdNum r 1 16), .slice none 0 0] rfl rfl (S439.arr 0 rfl) rfl (by kernel_rfl) (by simp [Value.oneCell']) ?_
  intro w440 A441 K442 z443
  have S444 := S439.wr0 (ds := [.int .i64 (rdNum r 1 16), .slice none 0 0]) K442 A441
  refine EL_nil (thn_n (EC_seq (EC_reg (vL (ptr q23) rfl (by exact e328) (S444.arr 1 rfl) rfl U92 rfl ?_))))
  have S445 := S444.fr2
  refine eR rfl F47 rfl (Text_c (ptr q23) (rdNumS r 1 16) 48 48 I430 _ _ S445) ?_
  rintro _ w446 ⟨u448, I449, le450, rfl, H451, S447⟩
  refine vl (ptr b433 1) rfl (fP 0 rfl U80 (by kernel_rfl)) ?_
  refine EL_storeA (j := 1) (u := u448) rfl rfl (S447.arr 1 rfl) (by first | decide | (simp; omega) | simp) (row_one (H451 _ S447.le)) (by kernel_rfl) ?_
  intro w452 A453 K454 z455
  have S456 := S447.wr1 (ds := [.int .i64 (rdNum r 1 16), u448]) K454 A453
  refine EL_nil (thn_n (EC_reg (vl (ptr b42 8) rfl (fP 0 (by exact e330) U38 (by kernel_rfl)) (vL wv rfl rfl (S456.arr 3 rfl) rfl U36 rfl (vl (.agg ([.int .i64 (rdNum r 1 16), u448]).toArray) rfl (r_loadAll rfl (S456.arr 1 rfl) U80 rfl (by kernel_rfl)) ?_)))))
  refine EL_litW (z := #[.int .i64 0, .slice none 0 0]) (cs := ([.int .i64 (rdNum r 1 16), u448]).toArray) (sz := 2) (l := [(0, .agg ([.int .i64 (rdNum r 1 16), u448]).toArray)]) rfl U36 (by kernel_rfl) (parts1 rfl) (by kernel_rfl) rfl (by decide) ?_
  intro v457 w458 O459 B460 k461
  have S462 : Sat w458 I449 (OwnX 80 wrapR v457 [(⟨rdNum r 1 16, rdTxt (rdNumS r 1 16) 48 48⟩ : WrapT)] :: RdP (ptr q23) (rdTxtS (rdNumS r 1 16) 48 48) :: Blk b433 80 [.int .i64 (rdNum r 1 16), u448] :: Blk b24 92 [ptr q23] :: Blk b42 38 [.int .i64 (rdNum (Rd.mk l false) 1 5), .int .i64 (rdNum (rdNumS (Rd.mk l false) 1 5) 1 16), .int .i64 (rdNum (rdNumS (rdNumS (Rd.mk l false) 1 5) 1 16) 1 1099511627776), .slice none 0 0, .slice none 0 0, .int .i64 0, .int .i64 0, .int .i64 (rdNum (rdNumS (rdNumS (rdNumS (Rd.mk l false) 1 5) 1 16) 1 1099511627776) 1 16), wv] :: OwnX 80 wrapR wv ws :: Blk b11 38 entR0 :: R) := OwnX.cls (xss := [[.int .i64 (rdNum r 1 16), u448]]) (.cons ⟨u448, rfl, (by first | assumption | (dsimp only; omega)), ⟨(row_one (H451 _ S456.le)), H451⟩⟩ .nil) (S456.newO B460 O459)
  have oH469 := (OwnX.one S462 0 rfl (by decide))
  obtain ⟨I466, le467, S468, H469⟩ := S462.fx0 (by decide)
  have S470 := S468.fr4
  refine EL_appX (z := (.agg #[.int .i64 0, .slice none 0 0])) (bytes := 32) rfl U36 (by kernel_rfl) rfl (by decide) rfl rfl S470 H469 (by first | omega | (simp; done) | (simp only [List.length_cons, List.length_nil]; omega) | (rw [List.length_append]; simp only [List.length_cons, List.length_nil]; omega) | (simp; omega)) (by first | omega | (simp; done) | (simp only [List.length_cons, List.length_nil]; omega) | (rw [List.length_append]; simp only [List.length_cons, List.length_nil]; omega) | (simp; omega)) ?_
  intro v463 w464 S465
  refine vl (ptr b42 8) rfl (fP 0 (by exact e330) U38 (by kernel_rfl)) ?_
  refine EL_storeA (j := 8) (u := v463) rfl rfl (S465.arr 4 rfl) (by first | decide | (simp; omega) | simp) (OwnX.one S465 0 rfl (by decide)) (by kernel_rfl) ?_
  intro w471 A472 K473 z474
  have S475 := S465.wr4 (ds := [.int .i64 (rdNum (Rd.mk l false) 1 5), .int .i64 (rdNum (rdNumS (Rd.mk l false) 1 5) 1 16), .int .i64 (rdNum (rdNumS (rdNumS (Rd.mk l false) 1 5) 1 16) 1 1099511627776), .slice none 0 0, .slice none 0 0, .int .i64 0, .int .i64 0, .int .i64 (rdNum (rdNumS (rdNumS (rdNumS (Rd.mk l false) 1 5) 1 16) 1 1099511627776) 1 16), v463]) K473 A472
  refine EL_nil (inB_n (thn_n (EC_reg (vM (.int .i64 (n : Int)) rfl e325 ?_))))
  refine EL_int ((n : Int) - 1) rfl (r_subi rfl rfl (by omega)) ?_
  intro x476 hx476
  refine vA (.int .i64 x476) rfl rfl (EL_nil (thn_n ?_))
  have S477 := S475.dr2
  have S478 := S477.fr4
  have S479 := S478.fr3
  have S480 := S479.fr3
  have S481 := S480.fr3
  have S482 := S481.fr4
  refine ⟨_, ?_, n - 1, rdTxtS (rdNumS r 1 16) 48 48, v463, ws ++ [(⟨rdNum r 1 16, rdTxt (rdNumS r 1 16) 48 48⟩ : WrapT)], I466, rfl, (Eq.trans (show _ = Value.int .i64 x476 from rfl) (congrArg _ (by omega))), (by exact e326), (by exact e327), (by exact e328), (by exact e329), (by exact e330), ((rdw_step hq.1 hq.2).symm.trans hr), (by simp; omega), (lT (lT (lT le331 le431) le450) le467), S482⟩
  first | omega | (simp; omega)
  refine EC_reg (vl (ptr b42 0) rfl (fP 0 rfl U38 (by kernel_rfl)) (vL (.int .i64 (rdNum (Rd.mk l false) 1 5)) rfl rfl (S76.arr 2 rfl) rfl U3 rfl (EL_nil (thn_n (EC_block ?_)))))
  refine EC_seq (EC_reg (vl (.bool false) rfl (r_dec (show (decide ((rdNum (Rd.mk l false) 1 5) = 1)) = false from by rw [decide_eq_false_iff_not]; omega) (r_eql rfl rfl)) (vA (.bool false) rfl rfl (EL_nil (thn_n ?_)))))
  refine EC_cond_false rfl ?_
  refine EC_seq (EC_reg (vl (.bool false) rfl (r_dec (show (decide ((rdNum (Rd.mk l false) 1 5) = 2)) = false from by rw [decide_eq_false_iff_not]; omega) (r_eql rfl rfl)) (vA (.bool false) rfl rfl (EL_nil (thn_n ?_)))))
  refine EC_cond_false rfl ?_
  refine EC_seq (EC_reg (vl (.bool false) rfl (r_dec (show (decide ((rdNum (Rd.mk l false) 1 5) = 3)) = false from by rw [decide_eq_false_iff_not]; omega) (r_eql rfl rfl)) (vA (.bool false) rfl rfl (EL_nil (thn_n ?_)))))
  refine EC_cond_false rfl ?_
  refine EC_seq (EC_reg (vl (.bool false) rfl (r_dec (show (decide ((rdNum (Rd.mk l false) 1 5) = 4)) = false from by rw [decide_eq_false_iff_not]; omega) (r_eql rfl rfl)) (vA (.bool false) rfl rfl (EL_nil (thn_n ?_)))))
  refine EC_cond_false rfl ?_
  refine EC_seq (EC_reg (vl (.bool false) rfl (r_dec (show (decide ((rdNum (Rd.mk l false) 1 5) = 5)) = false from by rw [decide_eq_false_iff_not]; omega) (r_eql rfl rfl)) (vA (.bool false) rfl rfl (EL_nil (thn_n ?_)))))
  refine EC_cond_false rfl ?_
  refine EC_skip (inB_n (thn_n (EC_seq (EC_seq ?_))))
  have hde : rdEntry ⟨l, false⟩ = ((⟨rdNum (Rd.mk l false) 1 5, rdNum (rdNumS (Rd.mk l false) 1 5) 1 16, rdNum (rdNumS (rdNumS (Rd.mk l false) 1 5) 1 16) 1 1099511627776, [], [], 0, 0, 0, []⟩ : Entry), rdNumS (rdNumS (rdNumS (Rd.mk l false) 1 5) 1 16) 1 1099511627776) := by rw [rdEntry, rdBody, if_neg (by omega), if_neg (by omega), if_neg (by omega), if_neg (by omega), if_neg (by omega)]
  rcases (by cases rdEnd (rdNumS (rdNumS (rdNumS (Rd.mk l false) 1 5) 1 16) 1 1099511627776) <;> simp : rdEnd (rdNumS (rdNumS (rdNumS (Rd.mk l false) 1 5) 1 16) 1 1099511627776) = true ∨ rdEnd (rdNumS (rdNumS (rdNumS (Rd.mk l false) 1 5) 1 16) 1 1099511627776) = false) with hen | hen
  refine EC_reg (vL (ptr q23) rfl rfl (S76.arr 1 rfl) rfl U92 rfl ?_)
  refine eR rfl F49 rfl (End_c (ptr q23) (rdNumS (rdNumS (rdNumS (Rd.mk l false) 1 5) 1 16) 1 1099511627776) I69 _ _ S76) ?_
  rintro _ w483 ⟨rfl, S484⟩
  refine vl (.bool false) rfl (r_dec (show (!true) = false from rfl) (r_not (Eq.trans (show _ = Value.bool (rdEnd (rdNumS (rdNumS (rdNumS (Rd.mk l false) 1 5) 1 16) 1 1099511627776)) from rfl) (congrArg Value.bool (show (rdEnd (rdNumS (rdNumS (rdNumS (Rd.mk l false) 1 5) 1 16) 1 1099511627776)) = true from hen))))) (vM (.bool false) rfl rfl (gl  80 rfl rfl rfl rfl (.agg ([.int .i64 (rdNum (Rd.mk l false) 1 5), .int .i64 (rdNum (rdNumS (Rd.mk l false) 1 5) 1 16), .int .i64 (rdNum (rdNumS (rdNumS (Rd.mk l false) 1 5) 1 16) 1 1099511627776), .slice none 0 0, .slice none 0 0, .int .i64 0, .int .i64 0, .int .i64 0, .slice none 0 0]).toArray) rfl (r_loadAll rfl (S484.arr 2 rfl) U38 rfl (by kernel_rfl)) ?_))
  refine eG 80 rfl rfl rfl rfl rfl F71 rfl (Right_c [.int .i64 (rdNum (Rd.mk l false) 1 5), .int .i64 (rdNum (rdNumS (Rd.mk l false) 1 5) 1 16), .int .i64 (rdNum (rdNumS (rdNumS (Rd.mk l false) 1 5) 1 16) 1 1099511627776), .slice none 0 0, .slice none 0 0, .int .i64 0, .int .i64 0, .int .i64 0, .slice none 0 0] (⟨rdNum (Rd.mk l false) 1 5, rdNum (rdNumS (Rd.mk l false) 1 5) 1 16, rdNum (rdNumS (rdNumS (Rd.mk l false) 1 5) 1 16) 1 1099511627776, [], [], 0, 0, 0, []⟩ : Entry) I69 _ _ S484 ⟨(.slice none 0 0), (.slice none 0 0), (.slice none 0 0), rfl, (by first | assumption | (dsimp only; omega)), (by first | assumption | (dsimp only; omega)), (by first | assumption | (dsimp only; omega)), ⟨rfl, Ro.nil⟩, ⟨rfl, Ro.nil⟩, (by dsimp only; omega), (by dsimp only; omega), (by dsimp only; omega), ⟨rfl, RoX.nil⟩⟩) ?_
  rintro _ w485 ⟨I487, le488, rfl, S486⟩
  refine gl  80 rfl rfl rfl rfl (.bool (!((⟨rdNum (Rd.mk l false) 1 5, rdNum (rdNumS (Rd.mk l false) 1 5) 1 16, rdNum (rdNumS (rdNumS (Rd.mk l false) 1 5) 1 16) 1 1099511627776, [], [], 0, 0, 0, []⟩ : Entry).right))) rfl (r_not rfl) (vF (.bool (!((⟨rdNum (Rd.mk l false) 1 5, rdNum (rdNumS (Rd.mk l false) 1 5) 1 16, rdNum (rdNumS (rdNumS (Rd.mk l false) 1 5) 1 16) 1 1099511627776, [], [], 0, 0, 0, []⟩ : Entry).right))) rfl rfl rfl (EL_nil (thn_n ?_)))
  refine EC_cond (t := !((⟨rdNum (Rd.mk l false) 1 5, rdNum (rdNumS (Rd.mk l false) 1 5) 1 16, rdNum (rdNumS (rdNumS (Rd.mk l false) 1 5) 1 16) 1 1099511627776, [], [], 0, 0, 0, []⟩ : Entry).right)) rfl (fun h489 => ?_) (fun h489 => ?_)
  have hrt : ((⟨rdNum (Rd.mk l false) 1 5, rdNum (rdNumS (Rd.mk l false) 1 5) 1 16, rdNum (rdNumS (rdNumS (Rd.mk l false) 1 5) 1 16) 1 1099511627776, [], [], 0, 0, 0, []⟩ : Entry)).right = false := (Bool.not_eq_true' _).mp h489
  refine EC_seq (EC_reg (vl (.agg (entR0).toArray) rfl (r_buildS (l := []) st_38 rfl (Eq.trans (show Instr.fill _ _ [] = _ from fill_end) (by kernel_rfl))) ?_))
  refine sA entR0 rfl rfl (S486.arr 3 rfl) rfl (by kernel_rfl) (by simp [Value.oneCell']) ?_
  intro w490 A491 K492 z493
  have S494 := S486.wr3 (ds := entR0) K492 A491
  refine vA (.int .i64 10) rfl rfl (EL_nil (thn_n (EC_ret (thn_r ?_))))
  refine fin2c Tryz.results48 (show _ = ptr b11 from rfl) (show _ = .int .i64 10 from rfl) (S494.arr 3 rfl) U38 rfl (by kernel_rfl) ⟨_, rfl, ?_⟩
  have hok : decOk l = false := by rw [decOk, hde]; dsimp only; rw [hen, hrt]; rfl
  have q495 : (decV l) = (⟨0, 0, 0, [], [], 0, 0, 0, []⟩ : Entry) := by rw [decV, hok]; rfl
  have S496 := S494.dr0
  have S497 := S496.dr0
  have S498 := S497.dr0
  have S499 := S498.dr0
  exact ⟨entR0, I487, (lT (lT (lT (lT le22 le40) le59) le70) le488), (by rw [decE, hok]; rfl), (by rw [q495]; exact (entRz _)), S499⟩
  have hrt : ((⟨rdNum (Rd.mk l false) 1 5, rdNum (rdNumS (Rd.mk l false) 1 5) 1 16, rdNum (rdNumS (rdNumS (Rd.mk l false) 1 5) 1 16) 1 1099511627776, [], [], 0, 0, 0, []⟩ : Entry)).right = true := (Bool.not_eq_false' _).mp h489
  refine EC_skip (thn_n (EC_seq (EC_reg (vl (.agg ([.int .i64 (rdNum (Rd.mk l false) 1 5), .int .i64 (rdNum (rdNumS (Rd.mk l false) 1 5) 1 16), .int .i64 (rdNum (rdNumS (rdNumS (Rd.mk l false) 1 5) 1 16) 1 1099511627776), .slice none 0 0, .slice none 0 0, .int .i64 0, .int .i64 0, .int .i64 0, .slice none 0 0]).toArray) rfl (r_loadAll rfl (S486.arr 2 rfl) U38 rfl (by kernel_rfl)) ?_))))
  refine sA [.int .i64 (rdNum (Rd.mk l false) 1 5), .int .i64 (rdNum (rdNumS (Rd.mk l false) 1 5) 1 16), .int .i64 (rdNum (rdNumS (rdNumS (Rd.mk l false) 1 5) 1 16) 1 1099511627776), .slice none 0 0, .slice none 0 0, .int .i64 0, .int .i64 0, .int .i64 0, .slice none 0 0] rfl rfl (S486.arr 3 rfl) rfl (by kernel_rfl) (by simp [Value.oneCell']) ?_
  intro w500 A501 K502 z503
  have S504 := S486.wr3 (ds := [.int .i64 (rdNum (Rd.mk l false) 1 5), .int .i64 (rdNum (rdNumS (Rd.mk l false) 1 5) 1 16), .int .i64 (rdNum (rdNumS (rdNumS (Rd.mk l false) 1 5) 1 16) 1 1099511627776), .slice none 0 0, .slice none 0 0, .int .i64 0, .int .i64 0, .int .i64 0, .slice none 0 0]) K502 A501
  refine vA (.int .i64 0) rfl rfl (EL_nil (thn_n (EC_ret ?_)))
  refine fin2c Tryz.results48 (show _ = ptr b11 from rfl) (show _ = .int .i64 0 from rfl) (S504.arr 3 rfl) U38 rfl (by kernel_rfl) ⟨_, rfl, ?_⟩
  have hok : decOk l = true := by rw [decOk, hde]; dsimp only; rw [hen, hrt]; rfl
  have q505 : (decV l) = (⟨rdNum (Rd.mk l false) 1 5, rdNum (rdNumS (Rd.mk l false) 1 5) 1 16, rdNum (rdNumS (rdNumS (Rd.mk l false) 1 5) 1 16) 1 1099511627776, [], [], 0, 0, 0, []⟩ : Entry) := by rw [decV, if_pos hok, hde]
  have S506 := S504.dr0
  have S507 := S506.dr0
  have S508 := S507.dr0
  have S509 := S508.dr0
  exact ⟨[.int .i64 (rdNum (Rd.mk l false) 1 5), .int .i64 (rdNum (rdNumS (Rd.mk l false) 1 5) 1 16), .int .i64 (rdNum (rdNumS (rdNumS (Rd.mk l false) 1 5) 1 16) 1 1099511627776), .slice none 0 0, .slice none 0 0, .int .i64 0, .int .i64 0, .int .i64 0, .slice none 0 0], I487, (lT (lT (lT (lT le22 le40) le59) le70) le488), (by rw [decE, if_pos hok]), (by rw [q505]; exact ⟨(.slice none 0 0), (.slice none 0 0), (.slice none 0 0), rfl, (by first | assumption | (dsimp only; omega)), (by first | assumption | (dsimp only; omega)), (by first | assumption | (dsimp only; omega)), ⟨rfl, Ro.nil⟩, ⟨rfl, Ro.nil⟩, (by dsimp only; omega), (by dsimp only; omega), (by dsimp only; omega), ⟨rfl, RoX.nil⟩⟩), S509⟩
  refine EC_reg (vL (ptr q23) rfl rfl (S76.arr 1 rfl) rfl U92 rfl ?_)
  refine eR rfl F49 rfl (End_c (ptr q23) (rdNumS (rdNumS (rdNumS (Rd.mk l false) 1 5) 1 16) 1 1099511627776) I69 _ _ S76) ?_
  rintro _ w510 ⟨rfl, S511⟩
  refine vl (.bool true) rfl (r_dec (show (!false) = true from rfl) (r_not (Eq.trans (show _ = Value.bool (rdEnd (rdNumS (rdNumS (rdNumS (Rd.mk l false) 1 5) 1 16) 1 1099511627776)) from rfl) (congrArg Value.bool (show (rdEnd (rdNumS (rdNumS (rdNumS (Rd.mk l false) 1 5) 1 16) 1 1099511627776)) = false from hen))))) (vM (.bool true) rfl rfl (EL_pass 80 rfl rfl rfl rfl rfl (EL_pass 80 rfl rfl rfl rfl rfl (EL_pass 80 rfl rfl rfl rfl rfl (vT (.bool true) rfl rfl rfl ?_)))))
  refine EL_nil (thn_n ?_)
  refine EC_cond_true rfl ?_
  refine EC_seq (EC_reg (vl (.agg (entR0).toArray) rfl (r_buildS (l := []) st_38 rfl (Eq.trans (show Instr.fill _ _ [] = _ from fill_end) (by kernel_rfl))) ?_))
  refine sA entR0 rfl rfl (S511.arr 3 rfl) rfl (by kernel_rfl) (by simp [Value.oneCell']) ?_
  intro w512 A513 K514 z515
  have S516 := S511.wr3 (ds := entR0) K514 A513
  refine vA (.int .i64 10) rfl rfl (EL_nil (thn_n (EC_ret (thn_r ?_))))
  refine fin2c Tryz.results48 (show _ = ptr b11 from rfl) (show _ = .int .i64 10 from rfl) (S516.arr 3 rfl) U38 rfl (by kernel_rfl) ⟨_, rfl, ?_⟩
  have hok : decOk l = false := by rw [decOk, hde]; dsimp only; rw [hen, Bool.false_and]
  have q517 : (decV l) = (⟨0, 0, 0, [], [], 0, 0, 0, []⟩ : Entry) := by rw [decV, hok]; rfl
  have S518 := S516.dr0
  have S519 := S518.dr0
  have S520 := S519.dr0
  have S521 := S520.dr0
  exact ⟨entR0, I69, (lT (lT (lT le22 le40) le59) le70), (by rw [decE, hok]; rfl), (by rw [q517]; exact (entRz _)), S521⟩

end Go.Proofs.YtoajodjcmeijgaaGreat
