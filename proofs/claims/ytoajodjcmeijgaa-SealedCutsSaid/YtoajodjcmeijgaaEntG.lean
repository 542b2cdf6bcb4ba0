import Derived.Test.YtoajodjcmeijgaaEntF
set_option linter.unusedVariables false
set_option linter.unusedSimpArgs false
namespace Go.Proofs.Ytoajodjcmeijgaa
open Go.RowKit Go.Ecal
theorem dl3 (n : Nat) (b : Bool) : n = 0 ∨ (0 < n ∧ b = true) ∨ (0 < n ∧ b = false) := (Nat.eq_zero_or_pos n).elim .inl fun h => by cases b; exact .inr (.inr ⟨h, rfl⟩); exact .inr (.inl ⟨h, rfl⟩)
set_option maxRecDepth 100000 in
set_option maxHeartbeats 4000000 in
theorem who_c (b : Nat) (q : Nat) (r : Rd) (I : Gh) (R : List HP) (w : World) (S : Sat w I (Blk b 90 [ptr q] :: RdP (ptr q) r :: R)) : Ret Try.prog 84 [ptr b] w fun v w' => ∃ J : Gh, Gh.le I J ∧ .int .i64 (rdNum r 1 16) = v ∧ Sat w' J (Blk b 90 [ptr q] :: RdP (ptr q) (rdNumS r 1 16) :: R) := by
  refine ret_E Try.func84 rfl Try.ntmps84 (by simp) ?_
  refine EC_seq ?_
  refine EC_reg ?_
  refine EL_val (.int .i64 0) w rfl (r_assign rfl) ?_
  refine EL_nil ?_
  refine thn_n ?_
  refine EC_seq ?_
  refine EC_reg ?_
  refine EL_val (ptr q) w rfl (r_loadA rfl (S.arr 0 rfl) (u := (ptr q)) rfl Try.underlying90 rfl) ?_
  have S11 : Sat w I (RdP (ptr q) r :: Blk b 90 [ptr q] :: R) := S.cons_front (i := 1) rfl
  refine EL_ret _ rfl Try.func68 rfl nm68 rfl (Number_c (ptr q) r 1 16 I _ _ S11) ?_
  rintro _ w12 ⟨I14, le15, rfl, S13⟩
  refine EL_val (.int .i64 (rdNum r 1 16)) w12 rfl (r_assign rfl) ?_
  refine EL_nil ?_
  refine thn_n ?_
  refine EC_ret ?_
  refine fin1 Try.results84 (show _ = .int .i64 (rdNum r 1 16) from rfl) ⟨_, rfl, ?_⟩
  have S16 : Sat w12 I14 (RdP (ptr q) (rdNumS r 1 16) :: Blk b 90 [ptr q] :: R) := S13.cons_front (i := 0) rfl
  have S17 : Sat w12 I14 (Blk b 90 [ptr q] :: RdP (ptr q) (rdNumS r 1 16) :: R) := S16.cons_front (i := 1) rfl
  exact ⟨I14, le15, rfl, S17⟩

set_option maxRecDepth 100000 in
set_option maxHeartbeats 4000000 in
theorem Decode_c (v0 : Value) (l : List UInt8) (I : Gh) (R : List HP) (w : World) (S : Sat w I (R)) (Q0 : RoB I v0 l) (hl : l.length ≤ 1000000000) : Ret Try.prog 60 [v0] w fun v w' => ∃ cr : List Value, ∃ J : Gh, Gh.le I J ∧ .tuple #[.agg cr.toArray, .int .i64 (decE l)] = v ∧ entR.r J cr (decV l) ∧ Sat w' J (R) := by
  have lq0 := RoB.le Q0 S.le
  refine ret_E Try.func60 rfl Try.ntmps60 (by simp) ?_
  refine EC_seq ?_
  refine EC_reg ?_
  refine EL_alloc (z := .agg #[.int .i64 0, .int .i64 0, .int .i64 0, .slice none 0 0, .slice none 0 0, .int .i64 0, .int .i64 0, .int .i64 0, .slice none 0 0]) [.int .i64 0, .int .i64 0, .int .i64 0, .slice none 0 0, .slice none 0 0, .int .i64 0, .int .i64 0, .int .i64 0, .slice none 0 0] rfl (by kernel_rfl) rfl ?_
  intro b11 w12 k13 A14 B15 z16
  have S17 : Sat w12 I (Blk b11 25 [.int .i64 0, .int .i64 0, .int .i64 0, .slice none 0 0, .slice none 0 0, .int .i64 0, .int .i64 0, .int .i64 0, .slice none 0 0] :: R) := S.newB B15 A14 k13
  refine EL_val (.int .i64 0) w12 rfl (r_assign rfl) ?_
  refine EL_nil ?_
  refine thn_n ?_
  refine EC_seq ?_
  refine EC_reg ?_
  refine EL_val v0 w12 rfl (r_move rfl) ?_
  refine EL_ret _ rfl Try.func58 rfl nm58 rfl (Read_c v0 l I _ _ S17 Q0 (by first | assumption | omega | (simp; done) | (simp; omega))) ?_
  rintro _ w18 ⟨p20, I21, le22, rfl, S19⟩
  obtain ⟨q23, rfl⟩ := RdP.ptr S19
  refine EL_alloc (z := .pointer none) [.pointer none] rfl (by kernel_rfl) rfl ?_
  intro b24 w25 k26 A27 B28 z29
  have S30 : Sat w25 I21 (Blk b24 90 [.pointer none] :: RdP (ptr q23) (Rd.mk l false) :: Blk b11 25 [.int .i64 0, .int .i64 0, .int .i64 0, .slice none 0 0, .slice none 0 0, .int .i64 0, .int .i64 0, .int .i64 0, .slice none 0 0] :: R) := S19.newB B28 A27 k26
  refine EL_storeA (j := 0) (u := ptr q23) rfl rfl (S30.arr 0 rfl) (by first | decide | (simp; omega) | simp) rfl (by kernel_rfl) ?_
  intro w31 A32 K33 z34
  have S35 : Sat w31 I21 (Blk b24 90 [ptr q23] :: RdP (ptr q23) (Rd.mk l false) :: Blk b11 25 [.int .i64 0, .int .i64 0, .int .i64 0, .slice none 0 0, .slice none 0 0, .int .i64 0, .int .i64 0, .int .i64 0, .slice none 0 0] :: R) := S30.wrote 0 rfl K33 A32
  refine EL_nil ?_
  refine thn_n ?_
  refine EC_seq ?_
  refine EC_reg ?_
  refine EL_val (.func (.func 84) #[] [ptr b24].toArray) w31 rfl (r_mkfun rfl rfl) ?_
  refine EL_val (.func (.func 84) #[] [ptr b24].toArray) w31 rfl (r_assign rfl) ?_
  refine EL_nil ?_
  refine thn_n ?_
  refine EC_seq ?_
  refine EC_reg ?_
  refine EL_val (ptr q23) w31 rfl (r_loadA rfl (S35.arr 0 rfl) (u := (ptr q23)) rfl Try.underlying90 rfl) ?_
  have S36 : Sat w31 I21 (RdP (ptr q23) (Rd.mk l false) :: Blk b24 90 [ptr q23] :: Blk b11 25 [.int .i64 0, .int .i64 0, .int .i64 0, .slice none 0 0, .slice none 0 0, .int .i64 0, .int .i64 0, .int .i64 0, .slice none 0 0] :: R) := S35.cons_front (i := 1) rfl
  refine EL_ret _ rfl Try.func68 rfl nm68 rfl (Number_c (ptr q23) (Rd.mk l false) 1 5 I21 _ _ S36) ?_
  rintro _ w37 ⟨I39, le40, rfl, S38⟩
  have hn41 := rdNum_rng (Rd.mk l false) 1 (hi := 5) (by omega)
  refine EL_val (.agg ([.int .i64 (rdNum (Rd.mk l false) 1 5), .int .i64 0, .int .i64 0, .slice none 0 0, .slice none 0 0, .int .i64 0, .int .i64 0, .int .i64 0, .slice none 0 0]).toArray) w37 rfl (r_buildS (l := [(0, .int .i64 (rdNum (Rd.mk l false) 1 5))]) st_25 (parts1 rfl) (Eq.trans (show Instr.fill _ _ [(0, .int .i64 (rdNum (Rd.mk l false) 1 5))] = _ from (fill_one rfl rfl rfl fill_end)) (by kernel_rfl))) ?_
  refine EL_alloc (z := .agg #[.int .i64 0, .int .i64 0, .int .i64 0, .slice none 0 0, .slice none 0 0, .int .i64 0, .int .i64 0, .int .i64 0, .slice none 0 0]) [.int .i64 0, .int .i64 0, .int .i64 0, .slice none 0 0, .slice none 0 0, .int .i64 0, .int .i64 0, .int .i64 0, .slice none 0 0] rfl (by kernel_rfl) rfl ?_
  intro b42 w43 k44 A45 B46 z47
  have S48 : Sat w43 I39 (Blk b42 25 [.int .i64 0, .int .i64 0, .int .i64 0, .slice none 0 0, .slice none 0 0, .int .i64 0, .int .i64 0, .int .i64 0, .slice none 0 0] :: RdP (ptr q23) (rdNumS (Rd.mk l false) 1 5) :: Blk b24 90 [ptr q23] :: Blk b11 25 [.int .i64 0, .int .i64 0, .int .i64 0, .slice none 0 0, .slice none 0 0, .int .i64 0, .int .i64 0, .int .i64 0, .slice none 0 0] :: R) := S38.newB B46 A45 k44
  refine EL_storeAll (v := .agg ([.int .i64 (rdNum (Rd.mk l false) 1 5), .int .i64 0, .int .i64 0, .slice none 0 0, .slice none 0 0, .int .i64 0, .int .i64 0, .int .i64 0, .slice none 0 0]).toArray) (cs' := ([.int .i64 (rdNum (Rd.mk l false) 1 5), .int .i64 0, .int .i64 0, .slice none 0 0, .slice none 0 0, .int .i64 0, .int .i64 0, .int .i64 0, .slice none 0 0]).toArray) rfl rfl rfl (S48.arr 0 rfl) rfl (by kernel_rfl) (by simp [Value.oneCell']) ?_
  intro w49 A50 K51 z52
  have S53 : Sat w49 I39 (Blk b42 25 [.int .i64 (rdNum (Rd.mk l false) 1 5), .int .i64 0, .int .i64 0, .slice none 0 0, .slice none 0 0, .int .i64 0, .int .i64 0, .int .i64 0, .slice none 0 0] :: RdP (ptr q23) (rdNumS (Rd.mk l false) 1 5) :: Blk b24 90 [ptr q23] :: Blk b11 25 [.int .i64 0, .int .i64 0, .int .i64 0, .slice none 0 0, .slice none 0 0, .int .i64 0, .int .i64 0, .int .i64 0, .slice none 0 0] :: R) := S48.wrote 0 rfl K51 A50
  refine EL_nil ?_
  refine thn_n ?_
  refine EC_seq ?_
  refine EC_reg ?_
  refine EL_val (.func (.func 84) #[] [ptr b24].toArray) w49 rfl (r_move rfl) ?_
  have S54 : Sat w49 I39 (RdP (ptr q23) (rdNumS (Rd.mk l false) 1 5) :: Blk b42 25 [.int .i64 (rdNum (Rd.mk l false) 1 5), .int .i64 0, .int .i64 0, .slice none 0 0, .slice none 0 0, .int .i64 0, .int .i64 0, .int .i64 0, .slice none 0 0] :: Blk b24 90 [ptr q23] :: Blk b11 25 [.int .i64 0, .int .i64 0, .int .i64 0, .slice none 0 0, .slice none 0 0, .int .i64 0, .int .i64 0, .int .i64 0, .slice none 0 0] :: R) := S53.cons_front (i := 1) rfl
  have S55 : Sat w49 I39 (Blk b24 90 [ptr q23] :: RdP (ptr q23) (rdNumS (Rd.mk l false) 1 5) :: Blk b42 25 [.int .i64 (rdNum (Rd.mk l false) 1 5), .int .i64 0, .int .i64 0, .slice none 0 0, .slice none 0 0, .int .i64 0, .int .i64 0, .int .i64 0, .slice none 0 0] :: Blk b11 25 [.int .i64 0, .int .i64 0, .int .i64 0, .slice none 0 0, .slice none 0 0, .int .i64 0, .int .i64 0, .int .i64 0, .slice none 0 0] :: R) := S54.cons_front (i := 2) rfl
  refine EL_retw _ rfl rfl Try.func84 rfl nm84 rfl (who_c b24 q23 (rdNumS (Rd.mk l false) 1 5) I39 _ _ S55) ?_
  rintro _ w56 ⟨I58, le59, rfl, S57⟩
  have hn60 := rdNum_rng (rdNumS (Rd.mk l false) 1 5) 1 (hi := 16) (by omega)
  refine EL_val (ptr b42 1) w56 rfl (r_fieldP (o := 0) (s := 1) rfl Try.underlying25 rfl (by kernel_rfl) (by decide) rfl) ?_
  refine EL_storeA (j := 1) (u := .int .i64 (rdNum (rdNumS (Rd.mk l false) 1 5) 1 16)) rfl rfl (S57.arr 2 rfl) (by first | decide | (simp; omega) | simp) rfl (by kernel_rfl) ?_
  intro w61 A62 K63 z64
  have S65 : Sat w61 I58 (Blk b24 90 [ptr q23] :: RdP (ptr q23) (rdNumS (rdNumS (Rd.mk l false) 1 5) 1 16) :: Blk b42 25 [.int .i64 (rdNum (Rd.mk l false) 1 5), .int .i64 (rdNum (rdNumS (Rd.mk l false) 1 5) 1 16), .int .i64 0, .slice none 0 0, .slice none 0 0, .int .i64 0, .int .i64 0, .int .i64 0, .slice none 0 0] :: Blk b11 25 [.int .i64 0, .int .i64 0, .int .i64 0, .slice none 0 0, .slice none 0 0, .int .i64 0, .int .i64 0, .int .i64 0, .slice none 0 0] :: R) := S57.wrote 2 rfl K63 A62
  refine EL_nil ?_
  refine thn_n ?_
  refine EC_seq ?_
  refine EC_reg ?_
  refine EL_val (ptr q23) w61 rfl (r_loadA rfl (S65.arr 0 rfl) (u := (ptr q23)) rfl Try.underlying90 rfl) ?_
  have S66 : Sat w61 I58 (RdP (ptr q23) (rdNumS (rdNumS (Rd.mk l false) 1 5) 1 16) :: Blk b24 90 [ptr q23] :: Blk b42 25 [.int .i64 (rdNum (Rd.mk l false) 1 5), .int .i64 (rdNum (rdNumS (Rd.mk l false) 1 5) 1 16), .int .i64 0, .slice none 0 0, .slice none 0 0, .int .i64 0, .int .i64 0, .int .i64 0, .slice none 0 0] :: Blk b11 25 [.int .i64 0, .int .i64 0, .int .i64 0, .slice none 0 0, .slice none 0 0, .int .i64 0, .int .i64 0, .int .i64 0, .slice none 0 0] :: R) := S65.cons_front (i := 1) rfl
  refine EL_ret _ rfl Try.func68 rfl nm68 rfl (Number_c (ptr q23) (rdNumS (rdNumS (Rd.mk l false) 1 5) 1 16) 1 1099511627776 I58 _ _ S66) ?_
  rintro _ w67 ⟨I69, le70, rfl, S68⟩
  have hn71 := rdNum_rng (rdNumS (rdNumS (Rd.mk l false) 1 5) 1 16) 1 (hi := 1099511627776) (by omega)
  refine EL_val (ptr b42 2) w67 rfl (r_fieldP (o := 0) (s := 1) rfl Try.underlying25 rfl (by kernel_rfl) (by decide) rfl) ?_
  refine EL_storeA (j := 2) (u := .int .i64 (rdNum (rdNumS (rdNumS (Rd.mk l false) 1 5) 1 16) 1 1099511627776)) rfl rfl (S68.arr 2 rfl) (by first | decide | (simp; omega) | simp) rfl (by kernel_rfl) ?_
  intro w72 A73 K74 z75
  have S76 : Sat w72 I69 (RdP (ptr q23) (rdNumS (rdNumS (rdNumS (Rd.mk l false) 1 5) 1 16) 1 1099511627776) :: Blk b24 90 [ptr q23] :: Blk b42 25 [.int .i64 (rdNum (Rd.mk l false) 1 5), .int .i64 (rdNum (rdNumS (Rd.mk l false) 1 5) 1 16), .int .i64 (rdNum (rdNumS (rdNumS (Rd.mk l false) 1 5) 1 16) 1 1099511627776), .slice none 0 0, .slice none 0 0, .int .i64 0, .int .i64 0, .int .i64 0, .slice none 0 0] :: Blk b11 25 [.int .i64 0, .int .i64 0, .int .i64 0, .slice none 0 0, .slice none 0 0, .int .i64 0, .int .i64 0, .int .i64 0, .slice none 0 0] :: R) := S68.wrote 2 rfl K74 A73
  refine EL_nil ?_
  refine thn_n ?_
  refine EC_seq ?_
  refine EC_seq ?_
  rcases (by omega : rdNum (Rd.mk l false) 1 5 = 1 ∨ rdNum (Rd.mk l false) 1 5 = 2 ∨ rdNum (Rd.mk l false) 1 5 = 3 ∨ rdNum (Rd.mk l false) 1 5 = 4 ∨ rdNum (Rd.mk l false) 1 5 = 5 ∨ (¬ rdNum (Rd.mk l false) 1 5 = 1 ∧ ¬ rdNum (Rd.mk l false) 1 5 = 2 ∧ ¬ rdNum (Rd.mk l false) 1 5 = 3 ∧ ¬ rdNum (Rd.mk l false) 1 5 = 4 ∧ ¬ rdNum (Rd.mk l false) 1 5 = 5)) with hk | hk | hk | hk | hk | hk
  · refine EC_reg ?_
    refine EL_val (ptr b42 0) w72 rfl (r_fieldP (o := 0) (s := 1) rfl Try.underlying25 rfl (by kernel_rfl) (by decide) rfl) ?_
    refine EL_val (.int .i64 (rdNum (Rd.mk l false) 1 5)) w72 rfl (r_loadA rfl (S76.arr 2 rfl) (u := (.int .i64 (rdNum (Rd.mk l false) 1 5))) rfl Try.underlying3 rfl) ?_
    refine EL_nil ?_
    refine thn_n ?_
    refine EC_block ?_
    refine EC_seq ?_
    refine EC_reg ?_
    refine EL_val (.bool true) w72 rfl (r_dec (show (decide ((rdNum (Rd.mk l false) 1 5) = 1)) = true from by rw [decide_eq_true_eq]; omega) (r_eql rfl rfl)) ?_
    refine EL_val (.bool true) w72 rfl (r_assign rfl) ?_
    refine EL_nil ?_
    refine thn_n ?_
    refine EC_cond_true rfl ?_
    refine EC_seq ?_
    refine EC_reg ?_
    refine EL_val (ptr q23) w72 rfl (r_loadA rfl (S76.arr 1 rfl) (u := (ptr q23)) rfl Try.underlying90 rfl) ?_
    refine EL_ret _ rfl Try.func59 rfl nm59 rfl (Text_c (ptr q23) (rdNumS (rdNumS (rdNumS (Rd.mk l false) 1 5) 1 16) 1 1099511627776) 1 64 I69 _ _ S76) ?_
    rintro _ w77 ⟨u79, I80, le81, rfl, H82, S78⟩
    refine EL_val (ptr b42 3) w77 rfl (r_fieldP (o := 0) (s := 1) rfl Try.underlying25 rfl (by kernel_rfl) (by decide) rfl) ?_
    refine EL_storeA (j := 3) (u := u79) rfl rfl (S78.arr 2 rfl) (by first | decide | (simp; omega) | simp) (row_one (H82 _ S78.le)) (by kernel_rfl) ?_
    intro w83 A84 K85 z86
    have S87 : Sat w83 I80 (RdP (ptr q23) (rdTxtS (rdNumS (rdNumS (rdNumS (Rd.mk l false) 1 5) 1 16) 1 1099511627776) 1 64) :: Blk b24 90 [ptr q23] :: Blk b42 25 [.int .i64 (rdNum (Rd.mk l false) 1 5), .int .i64 (rdNum (rdNumS (Rd.mk l false) 1 5) 1 16), .int .i64 (rdNum (rdNumS (rdNumS (Rd.mk l false) 1 5) 1 16) 1 1099511627776), u79, .slice none 0 0, .int .i64 0, .int .i64 0, .int .i64 0, .slice none 0 0] :: Blk b11 25 [.int .i64 0, .int .i64 0, .int .i64 0, .slice none 0 0, .slice none 0 0, .int .i64 0, .int .i64 0, .int .i64 0, .slice none 0 0] :: R) := S78.wrote 2 rfl K85 A84
    refine EL_nil ?_
    refine thn_n ?_
    refine EC_reg ?_
    refine EL_val (ptr q23) w83 rfl (r_loadA rfl (S87.arr 1 rfl) (u := (ptr q23)) rfl Try.underlying90 rfl) ?_
    refine EL_ret _ rfl Try.func59 rfl nm59 rfl (Text_c (ptr q23) (rdTxtS (rdNumS (rdNumS (rdNumS (Rd.mk l false) 1 5) 1 16) 1 1099511627776) 1 64) 0 512 I80 _ _ S87) ?_
    rintro _ w88 ⟨u90, I91, le92, rfl, H93, S89⟩
    refine EL_val (ptr b42 4) w88 rfl (r_fieldP (o := 0) (s := 1) rfl Try.underlying25 rfl (by kernel_rfl) (by decide) rfl) ?_
    refine EL_storeA (j := 4) (u := u90) rfl rfl (S89.arr 2 rfl) (by first | decide | (simp; omega) | simp) (row_one (H93 _ S89.le)) (by kernel_rfl) ?_
    intro w94 A95 K96 z97
    have S98 : Sat w94 I91 (RdP (ptr q23) (rdTxtS (rdTxtS (rdNumS (rdNumS (rdNumS (Rd.mk l false) 1 5) 1 16) 1 1099511627776) 1 64) 0 512) :: Blk b24 90 [ptr q23] :: Blk b42 25 [.int .i64 (rdNum (Rd.mk l false) 1 5), .int .i64 (rdNum (rdNumS (Rd.mk l false) 1 5) 1 16), .int .i64 (rdNum (rdNumS (rdNumS (Rd.mk l false) 1 5) 1 16) 1 1099511627776), u79, u90, .int .i64 0, .int .i64 0, .int .i64 0, .slice none 0 0] :: Blk b11 25 [.int .i64 0, .int .i64 0, .int .i64 0, .slice none 0 0, .slice none 0 0, .int .i64 0, .int .i64 0, .int .i64 0, .slice none 0 0] :: R) := S89.wrote 2 rfl K96 A95
    refine EL_nil ?_
    refine inB_n ?_
    refine thn_n ?_
    refine EC_seq ?_
    refine EC_seq ?_
    have hde : rdEntry ⟨l, false⟩ = ((⟨rdNum (Rd.mk l false) 1 5, rdNum (rdNumS (Rd.mk l false) 1 5) 1 16, rdNum (rdNumS (rdNumS (Rd.mk l false) 1 5) 1 16) 1 1099511627776, rdTxt (rdNumS (rdNumS (rdNumS (Rd.mk l false) 1 5) 1 16) 1 1099511627776) 1 64, rdTxt (rdTxtS (rdNumS (rdNumS (rdNumS (Rd.mk l false) 1 5) 1 16) 1 1099511627776) 1 64) 0 512, 0, 0, 0, []⟩ : Entry), rdTxtS (rdTxtS (rdNumS (rdNumS (rdNumS (Rd.mk l false) 1 5) 1 16) 1 1099511627776) 1 64) 0 512) := by rw [rdEntry, rdBody, if_pos hk]
    rcases (by cases rdEnd (rdTxtS (rdTxtS (rdNumS (rdNumS (rdNumS (Rd.mk l false) 1 5) 1 16) 1 1099511627776) 1 64) 0 512) <;> simp : rdEnd (rdTxtS (rdTxtS (rdNumS (rdNumS (rdNumS (Rd.mk l false) 1 5) 1 16) 1 1099511627776) 1 64) 0 512) = true ∨ rdEnd (rdTxtS (rdTxtS (rdNumS (rdNumS (rdNumS (Rd.mk l false) 1 5) 1 16) 1 1099511627776) 1 64) 0 512) = false) with hen | hen
    · refine EC_reg ?_
      refine EL_val (ptr q23) w94 rfl (r_loadA rfl (S98.arr 1 rfl) (u := (ptr q23)) rfl Try.underlying90 rfl) ?_
      refine EL_ret _ rfl Try.func61 rfl nm61 rfl (End_c (ptr q23) (rdTxtS (rdTxtS (rdNumS (rdNumS (rdNumS (Rd.mk l false) 1 5) 1 16) 1 1099511627776) 1 64) 0 512) I91 _ _ S98) ?_
      rintro _ w99 ⟨rfl, S100⟩
      refine EL_val (.bool false) w99 rfl (r_dec (show (!true) = false from rfl) (r_not (Eq.trans (show _ = Value.bool (rdEnd (rdTxtS (rdTxtS (rdNumS (rdNumS (rdNumS (Rd.mk l false) 1 5) 1 16) 1 1099511627776) 1 64) 0 512)) from rfl) (congrArg Value.bool (show (rdEnd (rdTxtS (rdTxtS (rdNumS (rdNumS (rdNumS (Rd.mk l false) 1 5) 1 16) 1 1099511627776) 1 64) 0 512)) = true from hen))))) ?_
      refine EL_val (.bool false) w99 rfl (r_move rfl) ?_
      refine EL_gval 80 rfl rfl rfl rfl (.agg ([.int .i64 (rdNum (Rd.mk l false) 1 5), .int .i64 (rdNum (rdNumS (Rd.mk l false) 1 5) 1 16), .int .i64 (rdNum (rdNumS (rdNumS (Rd.mk l false) 1 5) 1 16) 1 1099511627776), u79, u90, .int .i64 0, .int .i64 0, .int .i64 0, .slice none 0 0]).toArray) w99 rfl (r_loadAll rfl (S100.arr 2 rfl) Try.underlying25 rfl (by kernel_rfl)) ?_
      refine EL_gret 80 rfl rfl rfl rfl _ rfl Try.func19 rfl nm19 rfl (Right_c [.int .i64 (rdNum (Rd.mk l false) 1 5), .int .i64 (rdNum (rdNumS (Rd.mk l false) 1 5) 1 16), .int .i64 (rdNum (rdNumS (rdNumS (Rd.mk l false) 1 5) 1 16) 1 1099511627776), u79, u90, .int .i64 0, .int .i64 0, .int .i64 0, .slice none 0 0] (⟨rdNum (Rd.mk l false) 1 5, rdNum (rdNumS (Rd.mk l false) 1 5) 1 16, rdNum (rdNumS (rdNumS (Rd.mk l false) 1 5) 1 16) 1 1099511627776, rdTxt (rdNumS (rdNumS (rdNumS (Rd.mk l false) 1 5) 1 16) 1 1099511627776) 1 64, rdTxt (rdTxtS (rdNumS (rdNumS (rdNumS (Rd.mk l false) 1 5) 1 16) 1 1099511627776) 1 64) 0 512, 0, 0, 0, []⟩ : Entry) I91 _ _ S100 ⟨u79, u90, (.slice none 0 0), rfl, (by first | assumption | omega | (dsimp only; omega)), (by first | assumption | omega | (dsimp only; omega)), (by first | assumption | omega | (dsimp only; omega)), ⟨(row_one (H82 _ (Gh.le_trans le92 S100.le))), (H82.up le92)⟩, ⟨(row_one (H93 _ S100.le)), H93⟩, (by first | assumption | omega | (dsimp only; omega)), (by first | assumption | omega | (dsimp only; omega)), (by first | assumption | omega | (dsimp only; omega)), ⟨rfl, RoX.nil⟩⟩) ?_
      rintro _ w101 ⟨I103, le104, rfl, S102⟩
      refine EL_gval 80 rfl rfl rfl rfl (.bool (!((⟨rdNum (Rd.mk l false) 1 5, rdNum (rdNumS (Rd.mk l false) 1 5) 1 16, rdNum (rdNumS (rdNumS (Rd.mk l false) 1 5) 1 16) 1 1099511627776, rdTxt (rdNumS (rdNumS (rdNumS (Rd.mk l false) 1 5) 1 16) 1 1099511627776) 1 64, rdTxt (rdTxtS (rdNumS (rdNumS (rdNumS (Rd.mk l false) 1 5) 1 16) 1 1099511627776) 1 64) 0 512, 0, 0, 0, []⟩ : Entry).right))) w101 rfl (r_not rfl) ?_
      refine EL_val (.bool (!((⟨rdNum (Rd.mk l false) 1 5, rdNum (rdNumS (Rd.mk l false) 1 5) 1 16, rdNum (rdNumS (rdNumS (Rd.mk l false) 1 5) 1 16) 1 1099511627776, rdTxt (rdNumS (rdNumS (rdNumS (Rd.mk l false) 1 5) 1 16) 1 1099511627776) 1 64, rdTxt (rdTxtS (rdNumS (rdNumS (rdNumS (Rd.mk l false) 1 5) 1 16) 1 1099511627776) 1 64) 0 512, 0, 0, 0, []⟩ : Entry).right))) w101 rfl (r_pickF rfl rfl) ?_
      refine EL_nil ?_
      refine thn_n ?_
      refine EC_cond (t := !((⟨rdNum (Rd.mk l false) 1 5, rdNum (rdNumS (Rd.mk l false) 1 5) 1 16, rdNum (rdNumS (rdNumS (Rd.mk l false) 1 5) 1 16) 1 1099511627776, rdTxt (rdNumS (rdNumS (rdNumS (Rd.mk l false) 1 5) 1 16) 1 1099511627776) 1 64, rdTxt (rdTxtS (rdNumS (rdNumS (rdNumS (Rd.mk l false) 1 5) 1 16) 1 1099511627776) 1 64) 0 512, 0, 0, 0, []⟩ : Entry).right)) rfl (fun h105 => ?_) (fun h105 => ?_)
      · have hrt : ((⟨rdNum (Rd.mk l false) 1 5, rdNum (rdNumS (Rd.mk l false) 1 5) 1 16, rdNum (rdNumS (rdNumS (Rd.mk l false) 1 5) 1 16) 1 1099511627776, rdTxt (rdNumS (rdNumS (rdNumS (Rd.mk l false) 1 5) 1 16) 1 1099511627776) 1 64, rdTxt (rdTxtS (rdNumS (rdNumS (rdNumS (Rd.mk l false) 1 5) 1 16) 1 1099511627776) 1 64) 0 512, 0, 0, 0, []⟩ : Entry)).right = false := (Bool.not_eq_true' _).mp h105
        refine EC_seq ?_
        refine EC_reg ?_
        refine EL_val (.agg ([.int .i64 0, .int .i64 0, .int .i64 0, .slice none 0 0, .slice none 0 0, .int .i64 0, .int .i64 0, .int .i64 0, .slice none 0 0]).toArray) w101 rfl (r_buildS (l := []) st_25 rfl (Eq.trans (show Instr.fill _ _ [] = _ from fill_end) (by kernel_rfl))) ?_
        refine EL_storeAll (v := .agg ([.int .i64 0, .int .i64 0, .int .i64 0, .slice none 0 0, .slice none 0 0, .int .i64 0, .int .i64 0, .int .i64 0, .slice none 0 0]).toArray) (cs' := ([.int .i64 0, .int .i64 0, .int .i64 0, .slice none 0 0, .slice none 0 0, .int .i64 0, .int .i64 0, .int .i64 0, .slice none 0 0]).toArray) rfl rfl rfl (S102.arr 3 rfl) rfl (by kernel_rfl) (by simp [Value.oneCell']) ?_
        intro w106 A107 K108 z109
        have S110 : Sat w106 I103 (RdP (ptr q23) (rdTxtS (rdTxtS (rdNumS (rdNumS (rdNumS (Rd.mk l false) 1 5) 1 16) 1 1099511627776) 1 64) 0 512) :: Blk b24 90 [ptr q23] :: Blk b42 25 [.int .i64 (rdNum (Rd.mk l false) 1 5), .int .i64 (rdNum (rdNumS (Rd.mk l false) 1 5) 1 16), .int .i64 (rdNum (rdNumS (rdNumS (Rd.mk l false) 1 5) 1 16) 1 1099511627776), u79, u90, .int .i64 0, .int .i64 0, .int .i64 0, .slice none 0 0] :: Blk b11 25 [.int .i64 0, .int .i64 0, .int .i64 0, .slice none 0 0, .slice none 0 0, .int .i64 0, .int .i64 0, .int .i64 0, .slice none 0 0] :: R) := S102.wrote 3 rfl K108 A107
        refine EL_val (.int .i64 10) w106 rfl (r_assign rfl) ?_
        refine EL_nil ?_
        refine thn_n ?_
        refine EC_ret ?_
        refine thn_r ?_
        refine fin2c Try.results60 (show _ = ptr b11 from rfl) (show _ = .int .i64 10 from rfl) (S110.arr 3 rfl) Try.underlying25 rfl (by kernel_rfl) ⟨_, rfl, ?_⟩
        have hok : decOk l = false := by rw [decOk, hde]; dsimp only; rw [hen, hrt]; rfl
        have q111 : (decV l) = (⟨0, 0, 0, [], [], 0, 0, 0, []⟩ : Entry) := by rw [decV, hok]; rfl
        have S112 : Sat w106 I103 (Blk b24 90 [ptr q23] :: Blk b42 25 [.int .i64 (rdNum (Rd.mk l false) 1 5), .int .i64 (rdNum (rdNumS (Rd.mk l false) 1 5) 1 16), .int .i64 (rdNum (rdNumS (rdNumS (Rd.mk l false) 1 5) 1 16) 1 1099511627776), u79, u90, .int .i64 0, .int .i64 0, .int .i64 0, .slice none 0 0] :: Blk b11 25 [.int .i64 0, .int .i64 0, .int .i64 0, .slice none 0 0, .slice none 0 0, .int .i64 0, .int .i64 0, .int .i64 0, .slice none 0 0] :: R) := S110.drop 0 rfl
        have S113 : Sat w106 I103 (Blk b42 25 [.int .i64 (rdNum (Rd.mk l false) 1 5), .int .i64 (rdNum (rdNumS (Rd.mk l false) 1 5) 1 16), .int .i64 (rdNum (rdNumS (rdNumS (Rd.mk l false) 1 5) 1 16) 1 1099511627776), u79, u90, .int .i64 0, .int .i64 0, .int .i64 0, .slice none 0 0] :: Blk b11 25 [.int .i64 0, .int .i64 0, .int .i64 0, .slice none 0 0, .slice none 0 0, .int .i64 0, .int .i64 0, .int .i64 0, .slice none 0 0] :: R) := S112.drop 0 rfl
        have S114 : Sat w106 I103 (Blk b11 25 [.int .i64 0, .int .i64 0, .int .i64 0, .slice none 0 0, .slice none 0 0, .int .i64 0, .int .i64 0, .int .i64 0, .slice none 0 0] :: R) := S113.drop 0 rfl
        have S115 : Sat w106 I103 (R) := S114.drop 0 rfl
        exact ⟨[.int .i64 0, .int .i64 0, .int .i64 0, .slice none 0 0, .slice none 0 0, .int .i64 0, .int .i64 0, .int .i64 0, .slice none 0 0], I103, (Gh.le_trans (Gh.le_trans (Gh.le_trans (Gh.le_trans (Gh.le_trans (Gh.le_trans le22 le40) le59) le70) le81) le92) le104), (by rw [decE, hok]; rfl), (by rw [q111]; exact ⟨(.slice none 0 0), (.slice none 0 0), (.slice none 0 0), rfl, (by first | assumption | omega | (dsimp only; omega)), (by first | assumption | omega | (dsimp only; omega)), (by first | assumption | omega | (dsimp only; omega)), ⟨rfl, Ro.nil⟩, ⟨rfl, Ro.nil⟩, (by first | assumption | omega | (dsimp only; omega)), (by first | assumption | omega | (dsimp only; omega)), (by first | assumption | omega | (dsimp only; omega)), ⟨rfl, RoX.nil⟩⟩), S115⟩
      · have hrt : ((⟨rdNum (Rd.mk l false) 1 5, rdNum (rdNumS (Rd.mk l false) 1 5) 1 16, rdNum (rdNumS (rdNumS (Rd.mk l false) 1 5) 1 16) 1 1099511627776, rdTxt (rdNumS (rdNumS (rdNumS (Rd.mk l false) 1 5) 1 16) 1 1099511627776) 1 64, rdTxt (rdTxtS (rdNumS (rdNumS (rdNumS (Rd.mk l false) 1 5) 1 16) 1 1099511627776) 1 64) 0 512, 0, 0, 0, []⟩ : Entry)).right = true := (Bool.not_eq_false' _).mp h105
        refine EC_skip ?_
        refine thn_n ?_
        refine EC_seq ?_
        refine EC_reg ?_
        refine EL_val (.agg ([.int .i64 (rdNum (Rd.mk l false) 1 5), .int .i64 (rdNum (rdNumS (Rd.mk l false) 1 5) 1 16), .int .i64 (rdNum (rdNumS (rdNumS (Rd.mk l false) 1 5) 1 16) 1 1099511627776), u79, u90, .int .i64 0, .int .i64 0, .int .i64 0, .slice none 0 0]).toArray) w101 rfl (r_loadAll rfl (S102.arr 2 rfl) Try.underlying25 rfl (by kernel_rfl)) ?_
        refine EL_storeAll (v := .agg ([.int .i64 (rdNum (Rd.mk l false) 1 5), .int .i64 (rdNum (rdNumS (Rd.mk l false) 1 5) 1 16), .int .i64 (rdNum (rdNumS (rdNumS (Rd.mk l false) 1 5) 1 16) 1 1099511627776), u79, u90, .int .i64 0, .int .i64 0, .int .i64 0, .slice none 0 0]).toArray) (cs' := ([.int .i64 (rdNum (Rd.mk l false) 1 5), .int .i64 (rdNum (rdNumS (Rd.mk l false) 1 5) 1 16), .int .i64 (rdNum (rdNumS (rdNumS (Rd.mk l false) 1 5) 1 16) 1 1099511627776), u79, u90, .int .i64 0, .int .i64 0, .int .i64 0, .slice none 0 0]).toArray) rfl rfl rfl (S102.arr 3 rfl) rfl (by kernel_rfl) (ones_cons rfl (ones_cons rfl (ones_cons rfl (ones_cons (row_one (H82 _ (Gh.le_trans (Gh.le_trans le92 le104) S102.le))) (ones_cons (row_one (H93 _ (Gh.le_trans le104 S102.le))) (ones_cons rfl (ones_cons rfl (ones_cons rfl (ones_cons rfl (fun _ h => nomatch h)))))))))) ?_
        intro w116 A117 K118 z119
        have S120 : Sat w116 I103 (RdP (ptr q23) (rdTxtS (rdTxtS (rdNumS (rdNumS (rdNumS (Rd.mk l false) 1 5) 1 16) 1 1099511627776) 1 64) 0 512) :: Blk b24 90 [ptr q23] :: Blk b42 25 [.int .i64 (rdNum (Rd.mk l false) 1 5), .int .i64 (rdNum (rdNumS (Rd.mk l false) 1 5) 1 16), .int .i64 (rdNum (rdNumS (rdNumS (Rd.mk l false) 1 5) 1 16) 1 1099511627776), u79, u90, .int .i64 0, .int .i64 0, .int .i64 0, .slice none 0 0] :: Blk b11 25 [.int .i64 (rdNum (Rd.mk l false) 1 5), .int .i64 (rdNum (rdNumS (Rd.mk l false) 1 5) 1 16), .int .i64 (rdNum (rdNumS (rdNumS (Rd.mk l false) 1 5) 1 16) 1 1099511627776), u79, u90, .int .i64 0, .int .i64 0, .int .i64 0, .slice none 0 0] :: R) := S102.wrote 3 rfl K118 A117
        refine EL_val (.int .i64 0) w116 rfl (r_assign rfl) ?_
        refine EL_nil ?_
        refine thn_n ?_
        refine EC_ret ?_
        refine fin2c Try.results60 (show _ = ptr b11 from rfl) (show _ = .int .i64 0 from rfl) (S120.arr 3 rfl) Try.underlying25 rfl (by kernel_rfl) ⟨_, rfl, ?_⟩
        have hok : decOk l = true := by rw [decOk, hde]; dsimp only; rw [hen, hrt]; rfl
        have q121 : (decV l) = (⟨rdNum (Rd.mk l false) 1 5, rdNum (rdNumS (Rd.mk l false) 1 5) 1 16, rdNum (rdNumS (rdNumS (Rd.mk l false) 1 5) 1 16) 1 1099511627776, rdTxt (rdNumS (rdNumS (rdNumS (Rd.mk l false) 1 5) 1 16) 1 1099511627776) 1 64, rdTxt (rdTxtS (rdNumS (rdNumS (rdNumS (Rd.mk l false) 1 5) 1 16) 1 1099511627776) 1 64) 0 512, 0, 0, 0, []⟩ : Entry) := by rw [decV, if_pos hok, hde]
        have S122 : Sat w116 I103 (Blk b24 90 [ptr q23] :: Blk b42 25 [.int .i64 (rdNum (Rd.mk l false) 1 5), .int .i64 (rdNum (rdNumS (Rd.mk l false) 1 5) 1 16), .int .i64 (rdNum (rdNumS (rdNumS (Rd.mk l false) 1 5) 1 16) 1 1099511627776), u79, u90, .int .i64 0, .int .i64 0, .int .i64 0, .slice none 0 0] :: Blk b11 25 [.int .i64 (rdNum (Rd.mk l false) 1 5), .int .i64 (rdNum (rdNumS (Rd.mk l false) 1 5) 1 16), .int .i64 (rdNum (rdNumS (rdNumS (Rd.mk l false) 1 5) 1 16) 1 1099511627776), u79, u90, .int .i64 0, .int .i64 0, .int .i64 0, .slice none 0 0] :: R) := S120.drop 0 rfl
        have S123 : Sat w116 I103 (Blk b42 25 [.int .i64 (rdNum (Rd.mk l false) 1 5), .int .i64 (rdNum (rdNumS (Rd.mk l false) 1 5) 1 16), .int .i64 (rdNum (rdNumS (rdNumS (Rd.mk l false) 1 5) 1 16) 1 1099511627776), u79, u90, .int .i64 0, .int .i64 0, .int .i64 0, .slice none 0 0] :: Blk b11 25 [.int .i64 (rdNum (Rd.mk l false) 1 5), .int .i64 (rdNum (rdNumS (Rd.mk l false) 1 5) 1 16), .int .i64 (rdNum (rdNumS (rdNumS (Rd.mk l false) 1 5) 1 16) 1 1099511627776), u79, u90, .int .i64 0, .int .i64 0, .int .i64 0, .slice none 0 0] :: R) := S122.drop 0 rfl
        have S124 : Sat w116 I103 (Blk b11 25 [.int .i64 (rdNum (Rd.mk l false) 1 5), .int .i64 (rdNum (rdNumS (Rd.mk l false) 1 5) 1 16), .int .i64 (rdNum (rdNumS (rdNumS (Rd.mk l false) 1 5) 1 16) 1 1099511627776), u79, u90, .int .i64 0, .int .i64 0, .int .i64 0, .slice none 0 0] :: R) := S123.drop 0 rfl
        have S125 : Sat w116 I103 (R) := S124.drop 0 rfl
        exact ⟨[.int .i64 (rdNum (Rd.mk l false) 1 5), .int .i64 (rdNum (rdNumS (Rd.mk l false) 1 5) 1 16), .int .i64 (rdNum (rdNumS (rdNumS (Rd.mk l false) 1 5) 1 16) 1 1099511627776), u79, u90, .int .i64 0, .int .i64 0, .int .i64 0, .slice none 0 0], I103, (Gh.le_trans (Gh.le_trans (Gh.le_trans (Gh.le_trans (Gh.le_trans (Gh.le_trans le22 le40) le59) le70) le81) le92) le104), (by rw [decE, if_pos hok]), (by rw [q121]; exact ⟨u79, u90, (.slice none 0 0), rfl, (by first | assumption | omega | (dsimp only; omega)), (by first | assumption | omega | (dsimp only; omega)), (by first | assumption | omega | (dsimp only; omega)), ⟨(row_one (H82 _ (Gh.le_trans (Gh.le_trans le92 le104) S125.le))), (H82.up (Gh.le_trans le92 le104))⟩, ⟨(row_one (H93 _ (Gh.le_trans le104 S125.le))), (H93.up le104)⟩, (by first | assumption | omega | (dsimp only; omega)), (by first | assumption | omega | (dsimp only; omega)), (by first | assumption | omega | (dsimp only; omega)), ⟨rfl, RoX.nil⟩⟩), S125⟩
    · refine EC_reg ?_
      refine EL_val (ptr q23) w94 rfl (r_loadA rfl (S98.arr 1 rfl) (u := (ptr q23)) rfl Try.underlying90 rfl) ?_
      refine EL_ret _ rfl Try.func61 rfl nm61 rfl (End_c (ptr q23) (rdTxtS (rdTxtS (rdNumS (rdNumS (rdNumS (Rd.mk l false) 1 5) 1 16) 1 1099511627776) 1 64) 0 512) I91 _ _ S98) ?_
      rintro _ w126 ⟨rfl, S127⟩
      refine EL_val (.bool true) w126 rfl (r_dec (show (!false) = true from rfl) (r_not (Eq.trans (show _ = Value.bool (rdEnd (rdTxtS (rdTxtS (rdNumS (rdNumS (rdNumS (Rd.mk l false) 1 5) 1 16) 1 1099511627776) 1 64) 0 512)) from rfl) (congrArg Value.bool (show (rdEnd (rdTxtS (rdTxtS (rdNumS (rdNumS (rdNumS (Rd.mk l false) 1 5) 1 16) 1 1099511627776) 1 64) 0 512)) = false from hen))))) ?_
      refine EL_val (.bool true) w126 rfl (r_move rfl) ?_
      refine EL_pass 80 rfl rfl rfl rfl rfl ?_
      refine EL_pass 80 rfl rfl rfl rfl rfl ?_
      refine EL_pass 80 rfl rfl rfl rfl rfl ?_
      refine EL_val (.bool true) w126 rfl (r_pickT rfl rfl) ?_
      refine EL_nil ?_
      refine thn_n ?_
      refine EC_cond_true rfl ?_
      refine EC_seq ?_
      refine EC_reg ?_
      refine EL_val (.agg ([.int .i64 0, .int .i64 0, .int .i64 0, .slice none 0 0, .slice none 0 0, .int .i64 0, .int .i64 0, .int .i64 0, .slice none 0 0]).toArray) w126 rfl (r_buildS (l := []) st_25 rfl (Eq.trans (show Instr.fill _ _ [] = _ from fill_end) (by kernel_rfl))) ?_
      refine EL_storeAll (v := .agg ([.int .i64 0, .int .i64 0, .int .i64 0, .slice none 0 0, .slice none 0 0, .int .i64 0, .int .i64 0, .int .i64 0, .slice none 0 0]).toArray) (cs' := ([.int .i64 0, .int .i64 0, .int .i64 0, .slice none 0 0, .slice none 0 0, .int .i64 0, .int .i64 0, .int .i64 0, .slice none 0 0]).toArray) rfl rfl rfl (S127.arr 3 rfl) rfl (by kernel_rfl) (by simp [Value.oneCell']) ?_
      intro w128 A129 K130 z131
      have S132 : Sat w128 I91 (RdP (ptr q23) (rdTxtS (rdTxtS (rdNumS (rdNumS (rdNumS (Rd.mk l false) 1 5) 1 16) 1 1099511627776) 1 64) 0 512) :: Blk b24 90 [ptr q23] :: Blk b42 25 [.int .i64 (rdNum (Rd.mk l false) 1 5), .int .i64 (rdNum (rdNumS (Rd.mk l false) 1 5) 1 16), .int .i64 (rdNum (rdNumS (rdNumS (Rd.mk l false) 1 5) 1 16) 1 1099511627776), u79, u90, .int .i64 0, .int .i64 0, .int .i64 0, .slice none 0 0] :: Blk b11 25 [.int .i64 0, .int .i64 0, .int .i64 0, .slice none 0 0, .slice none 0 0, .int .i64 0, .int .i64 0, .int .i64 0, .slice none 0 0] :: R) := S127.wrote 3 rfl K130 A129
      refine EL_val (.int .i64 10) w128 rfl (r_assign rfl) ?_
      refine EL_nil ?_
      refine thn_n ?_
      refine EC_ret ?_
      refine thn_r ?_
      refine fin2c Try.results60 (show _ = ptr b11 from rfl) (show _ = .int .i64 10 from rfl) (S132.arr 3 rfl) Try.underlying25 rfl (by kernel_rfl) ⟨_, rfl, ?_⟩
      have hok : decOk l = false := by rw [decOk, hde]; dsimp only; rw [hen, Bool.false_and]
      have q133 : (decV l) = (⟨0, 0, 0, [], [], 0, 0, 0, []⟩ : Entry) := by rw [decV, hok]; rfl
      have S134 : Sat w128 I91 (Blk b24 90 [ptr q23] :: Blk b42 25 [.int .i64 (rdNum (Rd.mk l false) 1 5), .int .i64 (rdNum (rdNumS (Rd.mk l false) 1 5) 1 16), .int .i64 (rdNum (rdNumS (rdNumS (Rd.mk l false) 1 5) 1 16) 1 1099511627776), u79, u90, .int .i64 0, .int .i64 0, .int .i64 0, .slice none 0 0] :: Blk b11 25 [.int .i64 0, .int .i64 0, .int .i64 0, .slice none 0 0, .slice none 0 0, .int .i64 0, .int .i64 0, .int .i64 0, .slice none 0 0] :: R) := S132.drop 0 rfl
      have S135 : Sat w128 I91 (Blk b42 25 [.int .i64 (rdNum (Rd.mk l false) 1 5), .int .i64 (rdNum (rdNumS (Rd.mk l false) 1 5) 1 16), .int .i64 (rdNum (rdNumS (rdNumS (Rd.mk l false) 1 5) 1 16) 1 1099511627776), u79, u90, .int .i64 0, .int .i64 0, .int .i64 0, .slice none 0 0] :: Blk b11 25 [.int .i64 0, .int .i64 0, .int .i64 0, .slice none 0 0, .slice none 0 0, .int .i64 0, .int .i64 0, .int .i64 0, .slice none 0 0] :: R) := S134.drop 0 rfl
      have S136 : Sat w128 I91 (Blk b11 25 [.int .i64 0, .int .i64 0, .int .i64 0, .slice none 0 0, .slice none 0 0, .int .i64 0, .int .i64 0, .int .i64 0, .slice none 0 0] :: R) := S135.drop 0 rfl
      have S137 : Sat w128 I91 (R) := S136.drop 0 rfl
      exact ⟨[.int .i64 0, .int .i64 0, .int .i64 0, .slice none 0 0, .slice none 0 0, .int .i64 0, .int .i64 0, .int .i64 0, .slice none 0 0], I91, (Gh.le_trans (Gh.le_trans (Gh.le_trans (Gh.le_trans (Gh.le_trans le22 le40) le59) le70) le81) le92), (by rw [decE, hok]; rfl), (by rw [q133]; exact ⟨(.slice none 0 0), (.slice none 0 0), (.slice none 0 0), rfl, (by first | assumption | omega | (dsimp only; omega)), (by first | assumption | omega | (dsimp only; omega)), (by first | assumption | omega | (dsimp only; omega)), ⟨rfl, Ro.nil⟩, ⟨rfl, Ro.nil⟩, (by first | assumption | omega | (dsimp only; omega)), (by first | assumption | omega | (dsimp only; omega)), (by first | assumption | omega | (dsimp only; omega)), ⟨rfl, RoX.nil⟩⟩), S137⟩
  · refine EC_reg ?_
    refine EL_val (ptr b42 0) w72 rfl (r_fieldP (o := 0) (s := 1) rfl Try.underlying25 rfl (by kernel_rfl) (by decide) rfl) ?_
    refine EL_val (.int .i64 (rdNum (Rd.mk l false) 1 5)) w72 rfl (r_loadA rfl (S76.arr 2 rfl) (u := (.int .i64 (rdNum (Rd.mk l false) 1 5))) rfl Try.underlying3 rfl) ?_
    refine EL_nil ?_
    refine thn_n ?_
    refine EC_block ?_
    refine EC_seq ?_
    refine EC_reg ?_
    refine EL_val (.bool false) w72 rfl (r_dec (show (decide ((rdNum (Rd.mk l false) 1 5) = 1)) = false from by rw [decide_eq_false_iff_not]; omega) (r_eql rfl rfl)) ?_
    refine EL_val (.bool false) w72 rfl (r_assign rfl) ?_
    refine EL_nil ?_
    refine thn_n ?_
    refine EC_cond_false rfl ?_
    refine EC_seq ?_
    refine EC_reg ?_
    refine EL_val (.bool true) w72 rfl (r_dec (show (decide ((rdNum (Rd.mk l false) 1 5) = 2)) = true from by rw [decide_eq_true_eq]; omega) (r_eql rfl rfl)) ?_
    refine EL_val (.bool true) w72 rfl (r_assign rfl) ?_
    refine EL_nil ?_
    refine thn_n ?_
    refine EC_cond_true rfl ?_
    refine EC_reg ?_
    refine EL_val (ptr q23) w72 rfl (r_loadA rfl (S76.arr 1 rfl) (u := (ptr q23)) rfl Try.underlying90 rfl) ?_
    refine EL_ret _ rfl Try.func59 rfl nm59 rfl (Text_c (ptr q23) (rdNumS (rdNumS (rdNumS (Rd.mk l false) 1 5) 1 16) 1 1099511627776) 1 64 I69 _ _ S76) ?_
    rintro _ w138 ⟨u140, I141, le142, rfl, H143, S139⟩
    refine EL_val (ptr b42 3) w138 rfl (r_fieldP (o := 0) (s := 1) rfl Try.underlying25 rfl (by kernel_rfl) (by decide) rfl) ?_
    refine EL_storeA (j := 3) (u := u140) rfl rfl (S139.arr 2 rfl) (by first | decide | (simp; omega) | simp) (row_one (H143 _ S139.le)) (by kernel_rfl) ?_
    intro w144 A145 K146 z147
    have S148 : Sat w144 I141 (RdP (ptr q23) (rdTxtS (rdNumS (rdNumS (rdNumS (Rd.mk l false) 1 5) 1 16) 1 1099511627776) 1 64) :: Blk b24 90 [ptr q23] :: Blk b42 25 [.int .i64 (rdNum (Rd.mk l false) 1 5), .int .i64 (rdNum (rdNumS (Rd.mk l false) 1 5) 1 16), .int .i64 (rdNum (rdNumS (rdNumS (Rd.mk l false) 1 5) 1 16) 1 1099511627776), u140, .slice none 0 0, .int .i64 0, .int .i64 0, .int .i64 0, .slice none 0 0] :: Blk b11 25 [.int .i64 0, .int .i64 0, .int .i64 0, .slice none 0 0, .slice none 0 0, .int .i64 0, .int .i64 0, .int .i64 0, .slice none 0 0] :: R) := S139.wrote 2 rfl K146 A145
    refine EL_nil ?_
    refine inB_n ?_
    refine thn_n ?_
    refine EC_seq ?_
    refine EC_seq ?_
    have hde : rdEntry ⟨l, false⟩ = ((⟨rdNum (Rd.mk l false) 1 5, rdNum (rdNumS (Rd.mk l false) 1 5) 1 16, rdNum (rdNumS (rdNumS (Rd.mk l false) 1 5) 1 16) 1 1099511627776, rdTxt (rdNumS (rdNumS (rdNumS (Rd.mk l false) 1 5) 1 16) 1 1099511627776) 1 64, [], 0, 0, 0, []⟩ : Entry), rdTxtS (rdNumS (rdNumS (rdNumS (Rd.mk l false) 1 5) 1 16) 1 1099511627776) 1 64) := by rw [rdEntry, rdBody, if_neg (by omega), if_pos hk]
    rcases (by cases rdEnd (rdTxtS (rdNumS (rdNumS (rdNumS (Rd.mk l false) 1 5) 1 16) 1 1099511627776) 1 64) <;> simp : rdEnd (rdTxtS (rdNumS (rdNumS (rdNumS (Rd.mk l false) 1 5) 1 16) 1 1099511627776) 1 64) = true ∨ rdEnd (rdTxtS (rdNumS (rdNumS (rdNumS (Rd.mk l false) 1 5) 1 16) 1 1099511627776) 1 64) = false) with hen | hen
    · refine EC_reg ?_
      refine EL_val (ptr q23) w144 rfl (r_loadA rfl (S148.arr 1 rfl) (u := (ptr q23)) rfl Try.underlying90 rfl) ?_
      refine EL_ret _ rfl Try.func61 rfl nm61 rfl (End_c (ptr q23) (rdTxtS (rdNumS (rdNumS (rdNumS (Rd.mk l false) 1 5) 1 16) 1 1099511627776) 1 64) I141 _ _ S148) ?_
      rintro _ w149 ⟨rfl, S150⟩
      refine EL_val (.bool false) w149 rfl (r_dec (show (!true) = false from rfl) (r_not (Eq.trans (show _ = Value.bool (rdEnd (rdTxtS (rdNumS (rdNumS (rdNumS (Rd.mk l false) 1 5) 1 16) 1 1099511627776) 1 64)) from rfl) (congrArg Value.bool (show (rdEnd (rdTxtS (rdNumS (rdNumS (rdNumS (Rd.mk l false) 1 5) 1 16) 1 1099511627776) 1 64)) = true from hen))))) ?_
      refine EL_val (.bool false) w149 rfl (r_move rfl) ?_
      refine EL_gval 80 rfl rfl rfl rfl (.agg ([.int .i64 (rdNum (Rd.mk l false) 1 5), .int .i64 (rdNum (rdNumS (Rd.mk l false) 1 5) 1 16), .int .i64 (rdNum (rdNumS (rdNumS (Rd.mk l false) 1 5) 1 16) 1 1099511627776), u140, .slice none 0 0, .int .i64 0, .int .i64 0, .int .i64 0, .slice none 0 0]).toArray) w149 rfl (r_loadAll rfl (S150.arr 2 rfl) Try.underlying25 rfl (by kernel_rfl)) ?_
      refine EL_gret 80 rfl rfl rfl rfl _ rfl Try.func19 rfl nm19 rfl (Right_c [.int .i64 (rdNum (Rd.mk l false) 1 5), .int .i64 (rdNum (rdNumS (Rd.mk l false) 1 5) 1 16), .int .i64 (rdNum (rdNumS (rdNumS (Rd.mk l false) 1 5) 1 16) 1 1099511627776), u140, .slice none 0 0, .int .i64 0, .int .i64 0, .int .i64 0, .slice none 0 0] (⟨rdNum (Rd.mk l false) 1 5, rdNum (rdNumS (Rd.mk l false) 1 5) 1 16, rdNum (rdNumS (rdNumS (Rd.mk l false) 1 5) 1 16) 1 1099511627776, rdTxt (rdNumS (rdNumS (rdNumS (Rd.mk l false) 1 5) 1 16) 1 1099511627776) 1 64, [], 0, 0, 0, []⟩ : Entry) I141 _ _ S150 ⟨u140, (.slice none 0 0), (.slice none 0 0), rfl, (by first | assumption | omega | (dsimp only; omega)), (by first | assumption | omega | (dsimp only; omega)), (by first | assumption | omega | (dsimp only; omega)), ⟨(row_one (H143 _ S150.le)), H143⟩, ⟨rfl, Ro.nil⟩, (by first | assumption | omega | (dsimp only; omega)), (by first | assumption | omega | (dsimp only; omega)), (by first | assumption | omega | (dsimp only; omega)), ⟨rfl, RoX.nil⟩⟩) ?_
      rintro _ w151 ⟨I153, le154, rfl, S152⟩
      refine EL_gval 80 rfl rfl rfl rfl (.bool (!((⟨rdNum (Rd.mk l false) 1 5, rdNum (rdNumS (Rd.mk l false) 1 5) 1 16, rdNum (rdNumS (rdNumS (Rd.mk l false) 1 5) 1 16) 1 1099511627776, rdTxt (rdNumS (rdNumS (rdNumS (Rd.mk l false) 1 5) 1 16) 1 1099511627776) 1 64, [], 0, 0, 0, []⟩ : Entry).right))) w151 rfl (r_not rfl) ?_
      refine EL_val (.bool (!((⟨rdNum (Rd.mk l false) 1 5, rdNum (rdNumS (Rd.mk l false) 1 5) 1 16, rdNum (rdNumS (rdNumS (Rd.mk l false) 1 5) 1 16) 1 1099511627776, rdTxt (rdNumS (rdNumS (rdNumS (Rd.mk l false) 1 5) 1 16) 1 1099511627776) 1 64, [], 0, 0, 0, []⟩ : Entry).right))) w151 rfl (r_pickF rfl rfl) ?_
      refine EL_nil ?_
      refine thn_n ?_
      refine EC_cond (t := !((⟨rdNum (Rd.mk l false) 1 5, rdNum (rdNumS (Rd.mk l false) 1 5) 1 16, rdNum (rdNumS (rdNumS (Rd.mk l false) 1 5) 1 16) 1 1099511627776, rdTxt (rdNumS (rdNumS (rdNumS (Rd.mk l false) 1 5) 1 16) 1 1099511627776) 1 64, [], 0, 0, 0, []⟩ : Entry).right)) rfl (fun h155 => ?_) (fun h155 => ?_)
      · have hrt : ((⟨rdNum (Rd.mk l false) 1 5, rdNum (rdNumS (Rd.mk l false) 1 5) 1 16, rdNum (rdNumS (rdNumS (Rd.mk l false) 1 5) 1 16) 1 1099511627776, rdTxt (rdNumS (rdNumS (rdNumS (Rd.mk l false) 1 5) 1 16) 1 1099511627776) 1 64, [], 0, 0, 0, []⟩ : Entry)).right = false := (Bool.not_eq_true' _).mp h155
        refine EC_seq ?_
        refine EC_reg ?_
        refine EL_val (.agg ([.int .i64 0, .int .i64 0, .int .i64 0, .slice none 0 0, .slice none 0 0, .int .i64 0, .int .i64 0, .int .i64 0, .slice none 0 0]).toArray) w151 rfl (r_buildS (l := []) st_25 rfl (Eq.trans (show Instr.fill _ _ [] = _ from fill_end) (by kernel_rfl))) ?_
        refine EL_storeAll (v := .agg ([.int .i64 0, .int .i64 0, .int .i64 0, .slice none 0 0, .slice none 0 0, .int .i64 0, .int .i64 0, .int .i64 0, .slice none 0 0]).toArray) (cs' := ([.int .i64 0, .int .i64 0, .int .i64 0, .slice none 0 0, .slice none 0 0, .int .i64 0, .int .i64 0, .int .i64 0, .slice none 0 0]).toArray) rfl rfl rfl (S152.arr 3 rfl) rfl (by kernel_rfl) (by simp [Value.oneCell']) ?_
        intro w156 A157 K158 z159
        have S160 : Sat w156 I153 (RdP (ptr q23) (rdTxtS (rdNumS (rdNumS (rdNumS (Rd.mk l false) 1 5) 1 16) 1 1099511627776) 1 64) :: Blk b24 90 [ptr q23] :: Blk b42 25 [.int .i64 (rdNum (Rd.mk l false) 1 5), .int .i64 (rdNum (rdNumS (Rd.mk l false) 1 5) 1 16), .int .i64 (rdNum (rdNumS (rdNumS (Rd.mk l false) 1 5) 1 16) 1 1099511627776), u140, .slice none 0 0, .int .i64 0, .int .i64 0, .int .i64 0, .slice none 0 0] :: Blk b11 25 [.int .i64 0, .int .i64 0, .int .i64 0, .slice none 0 0, .slice none 0 0, .int .i64 0, .int .i64 0, .int .i64 0, .slice none 0 0] :: R) := S152.wrote 3 rfl K158 A157
        refine EL_val (.int .i64 10) w156 rfl (r_assign rfl) ?_
        refine EL_nil ?_
        refine thn_n ?_
        refine EC_ret ?_
        refine thn_r ?_
        refine fin2c Try.results60 (show _ = ptr b11 from rfl) (show _ = .int .i64 10 from rfl) (S160.arr 3 rfl) Try.underlying25 rfl (by kernel_rfl) ⟨_, rfl, ?_⟩
        have hok : decOk l = false := by rw [decOk, hde]; dsimp only; rw [hen, hrt]; rfl
        have q161 : (decV l) = (⟨0, 0, 0, [], [], 0, 0, 0, []⟩ : Entry) := by rw [decV, hok]; rfl
        have S162 : Sat w156 I153 (Blk b24 90 [ptr q23] :: Blk b42 25 [.int .i64 (rdNum (Rd.mk l false) 1 5), .int .i64 (rdNum (rdNumS (Rd.mk l false) 1 5) 1 16), .int .i64 (rdNum (rdNumS (rdNumS (Rd.mk l false) 1 5) 1 16) 1 1099511627776), u140, .slice none 0 0, .int .i64 0, .int .i64 0, .int .i64 0, .slice none 0 0] :: Blk b11 25 [.int .i64 0, .int .i64 0, .int .i64 0, .slice none 0 0, .slice none 0 0, .int .i64 0, .int .i64 0, .int .i64 0, .slice none 0 0] :: R) := S160.drop 0 rfl
        have S163 : Sat w156 I153 (Blk b42 25 [.int .i64 (rdNum (Rd.mk l false) 1 5), .int .i64 (rdNum (rdNumS (Rd.mk l false) 1 5) 1 16), .int .i64 (rdNum (rdNumS (rdNumS (Rd.mk l false) 1 5) 1 16) 1 1099511627776), u140, .slice none 0 0, .int .i64 0, .int .i64 0, .int .i64 0, .slice none 0 0] :: Blk b11 25 [.int .i64 0, .int .i64 0, .int .i64 0, .slice none 0 0, .slice none 0 0, .int .i64 0, .int .i64 0, .int .i64 0, .slice none 0 0] :: R) := S162.drop 0 rfl
        have S164 : Sat w156 I153 (Blk b11 25 [.int .i64 0, .int .i64 0, .int .i64 0, .slice none 0 0, .slice none 0 0, .int .i64 0, .int .i64 0, .int .i64 0, .slice none 0 0] :: R) := S163.drop 0 rfl
        have S165 : Sat w156 I153 (R) := S164.drop 0 rfl
        exact ⟨[.int .i64 0, .int .i64 0, .int .i64 0, .slice none 0 0, .slice none 0 0, .int .i64 0, .int .i64 0, .int .i64 0, .slice none 0 0], I153, (Gh.le_trans (Gh.le_trans (Gh.le_trans (Gh.le_trans (Gh.le_trans le22 le40) le59) le70) le142) le154), (by rw [decE, hok]; rfl), (by rw [q161]; exact ⟨(.slice none 0 0), (.slice none 0 0), (.slice none 0 0), rfl, (by first | assumption | omega | (dsimp only; omega)), (by first | assumption | omega | (dsimp only; omega)), (by first | assumption | omega | (dsimp only; omega)), ⟨rfl, Ro.nil⟩, ⟨rfl, Ro.nil⟩, (by first | assumption | omega | (dsimp only; omega)), (by first | assumption | omega | (dsimp only; omega)), (by first | assumption | omega | (dsimp only; omega)), ⟨rfl, RoX.nil⟩⟩), S165⟩
      · have hrt : ((⟨rdNum (Rd.mk l false) 1 5, rdNum (rdNumS (Rd.mk l false) 1 5) 1 16, rdNum (rdNumS (rdNumS (Rd.mk l false) 1 5) 1 16) 1 1099511627776, rdTxt (rdNumS (rdNumS (rdNumS (Rd.mk l false) 1 5) 1 16) 1 1099511627776) 1 64, [], 0, 0, 0, []⟩ : Entry)).right = true := (Bool.not_eq_false' _).mp h155
        refine EC_skip ?_
        refine thn_n ?_
        refine EC_seq ?_
        refine EC_reg ?_
        refine EL_val (.agg ([.int .i64 (rdNum (Rd.mk l false) 1 5), .int .i64 (rdNum (rdNumS (Rd.mk l false) 1 5) 1 16), .int .i64 (rdNum (rdNumS (rdNumS (Rd.mk l false) 1 5) 1 16) 1 1099511627776), u140, .slice none 0 0, .int .i64 0, .int .i64 0, .int .i64 0, .slice none 0 0]).toArray) w151 rfl (r_loadAll rfl (S152.arr 2 rfl) Try.underlying25 rfl (by kernel_rfl)) ?_
        refine EL_storeAll (v := .agg ([.int .i64 (rdNum (Rd.mk l false) 1 5), .int .i64 (rdNum (rdNumS (Rd.mk l false) 1 5) 1 16), .int .i64 (rdNum (rdNumS (rdNumS (Rd.mk l false) 1 5) 1 16) 1 1099511627776), u140, .slice none 0 0, .int .i64 0, .int .i64 0, .int .i64 0, .slice none 0 0]).toArray) (cs' := ([.int .i64 (rdNum (Rd.mk l false) 1 5), .int .i64 (rdNum (rdNumS (Rd.mk l false) 1 5) 1 16), .int .i64 (rdNum (rdNumS (rdNumS (Rd.mk l false) 1 5) 1 16) 1 1099511627776), u140, .slice none 0 0, .int .i64 0, .int .i64 0, .int .i64 0, .slice none 0 0]).toArray) rfl rfl rfl (S152.arr 3 rfl) rfl (by kernel_rfl) (ones_cons rfl (ones_cons rfl (ones_cons rfl (ones_cons (row_one (H143 _ (Gh.le_trans le154 S152.le))) (ones_cons rfl (ones_cons rfl (ones_cons rfl (ones_cons rfl (ones_cons rfl (fun _ h => nomatch h)))))))))) ?_
        intro w166 A167 K168 z169
        have S170 : Sat w166 I153 (RdP (ptr q23) (rdTxtS (rdNumS (rdNumS (rdNumS (Rd.mk l false) 1 5) 1 16) 1 1099511627776) 1 64) :: Blk b24 90 [ptr q23] :: Blk b42 25 [.int .i64 (rdNum (Rd.mk l false) 1 5), .int .i64 (rdNum (rdNumS (Rd.mk l false) 1 5) 1 16), .int .i64 (rdNum (rdNumS (rdNumS (Rd.mk l false) 1 5) 1 16) 1 1099511627776), u140, .slice none 0 0, .int .i64 0, .int .i64 0, .int .i64 0, .slice none 0 0] :: Blk b11 25 [.int .i64 (rdNum (Rd.mk l false) 1 5), .int .i64 (rdNum (rdNumS (Rd.mk l false) 1 5) 1 16), .int .i64 (rdNum (rdNumS (rdNumS (Rd.mk l false) 1 5) 1 16) 1 1099511627776), u140, .slice none 0 0, .int .i64 0, .int .i64 0, .int .i64 0, .slice none 0 0] :: R) := S152.wrote 3 rfl K168 A167
        refine EL_val (.int .i64 0) w166 rfl (r_assign rfl) ?_
        refine EL_nil ?_
        refine thn_n ?_
        refine EC_ret ?_
        refine fin2c Try.results60 (show _ = ptr b11 from rfl) (show _ = .int .i64 0 from rfl) (S170.arr 3 rfl) Try.underlying25 rfl (by kernel_rfl) ⟨_, rfl, ?_⟩
        have hok : decOk l = true := by rw [decOk, hde]; dsimp only; rw [hen, hrt]; rfl
        have q171 : (decV l) = (⟨rdNum (Rd.mk l false) 1 5, rdNum (rdNumS (Rd.mk l false) 1 5) 1 16, rdNum (rdNumS (rdNumS (Rd.mk l false) 1 5) 1 16) 1 1099511627776, rdTxt (rdNumS (rdNumS (rdNumS (Rd.mk l false) 1 5) 1 16) 1 1099511627776) 1 64, [], 0, 0, 0, []⟩ : Entry) := by rw [decV, if_pos hok, hde]
        have S172 : Sat w166 I153 (Blk b24 90 [ptr q23] :: Blk b42 25 [.int .i64 (rdNum (Rd.mk l false) 1 5), .int .i64 (rdNum (rdNumS (Rd.mk l false) 1 5) 1 16), .int .i64 (rdNum (rdNumS (rdNumS (Rd.mk l false) 1 5) 1 16) 1 1099511627776), u140, .slice none 0 0, .int .i64 0, .int .i64 0, .int .i64 0, .slice none 0 0] :: Blk b11 25 [.int .i64 (rdNum (Rd.mk l false) 1 5), .int .i64 (rdNum (rdNumS (Rd.mk l false) 1 5) 1 16), .int .i64 (rdNum (rdNumS (rdNumS (Rd.mk l false) 1 5) 1 16) 1 1099511627776), u140, .slice none 0 0, .int .i64 0, .int .i64 0, .int .i64 0, .slice none 0 0] :: R) := S170.drop 0 rfl
        have S173 : Sat w166 I153 (Blk b42 25 [.int .i64 (rdNum (Rd.mk l false) 1 5), .int .i64 (rdNum (rdNumS (Rd.mk l false) 1 5) 1 16), .int .i64 (rdNum (rdNumS (rdNumS (Rd.mk l false) 1 5) 1 16) 1 1099511627776), u140, .slice none 0 0, .int .i64 0, .int .i64 0, .int .i64 0, .slice none 0 0] :: Blk b11 25 [.int .i64 (rdNum (Rd.mk l false) 1 5), .int .i64 (rdNum (rdNumS (Rd.mk l false) 1 5) 1 16), .int .i64 (rdNum (rdNumS (rdNumS (Rd.mk l false) 1 5) 1 16) 1 1099511627776), u140, .slice none 0 0, .int .i64 0, .int .i64 0, .int .i64 0, .slice none 0 0] :: R) := S172.drop 0 rfl
        have S174 : Sat w166 I153 (Blk b11 25 [.int .i64 (rdNum (Rd.mk l false) 1 5), .int .i64 (rdNum (rdNumS (Rd.mk l false) 1 5) 1 16), .int .i64 (rdNum (rdNumS (rdNumS (Rd.mk l false) 1 5) 1 16) 1 1099511627776), u140, .slice none 0 0, .int .i64 0, .int .i64 0, .int .i64 0, .slice none 0 0] :: R) := S173.drop 0 rfl
        have S175 : Sat w166 I153 (R) := S174.drop 0 rfl
        exact ⟨[.int .i64 (rdNum (Rd.mk l false) 1 5), .int .i64 (rdNum (rdNumS (Rd.mk l false) 1 5) 1 16), .int .i64 (rdNum (rdNumS (rdNumS (Rd.mk l false) 1 5) 1 16) 1 1099511627776), u140, .slice none 0 0, .int .i64 0, .int .i64 0, .int .i64 0, .slice none 0 0], I153, (Gh.le_trans (Gh.le_trans (Gh.le_trans (Gh.le_trans (Gh.le_trans le22 le40) le59) le70) le142) le154), (by rw [decE, if_pos hok]), (by rw [q171]; exact ⟨u140, (.slice none 0 0), (.slice none 0 0), rfl, (by first | assumption | omega | (dsimp only; omega)), (by first | assumption | omega | (dsimp only; omega)), (by first | assumption | omega | (dsimp only; omega)), ⟨(row_one (H143 _ (Gh.le_trans le154 S175.le))), (H143.up le154)⟩, ⟨rfl, Ro.nil⟩, (by first | assumption | omega | (dsimp only; omega)), (by first | assumption | omega | (dsimp only; omega)), (by first | assumption | omega | (dsimp only; omega)), ⟨rfl, RoX.nil⟩⟩), S175⟩
    · refine EC_reg ?_
      refine EL_val (ptr q23) w144 rfl (r_loadA rfl (S148.arr 1 rfl) (u := (ptr q23)) rfl Try.underlying90 rfl) ?_
      refine EL_ret _ rfl Try.func61 rfl nm61 rfl (End_c (ptr q23) (rdTxtS (rdNumS (rdNumS (rdNumS (Rd.mk l false) 1 5) 1 16) 1 1099511627776) 1 64) I141 _ _ S148) ?_
      rintro _ w176 ⟨rfl, S177⟩
      refine EL_val (.bool true) w176 rfl (r_dec (show (!false) = true from rfl) (r_not (Eq.trans (show _ = Value.bool (rdEnd (rdTxtS (rdNumS (rdNumS (rdNumS (Rd.mk l false) 1 5) 1 16) 1 1099511627776) 1 64)) from rfl) (congrArg Value.bool (show (rdEnd (rdTxtS (rdNumS (rdNumS (rdNumS (Rd.mk l false) 1 5) 1 16) 1 1099511627776) 1 64)) = false from hen))))) ?_
      refine EL_val (.bool true) w176 rfl (r_move rfl) ?_
      refine EL_pass 80 rfl rfl rfl rfl rfl ?_
      refine EL_pass 80 rfl rfl rfl rfl rfl ?_
      refine EL_pass 80 rfl rfl rfl rfl rfl ?_
      refine EL_val (.bool true) w176 rfl (r_pickT rfl rfl) ?_
      refine EL_nil ?_
      refine thn_n ?_
      refine EC_cond_true rfl ?_
      refine EC_seq ?_
      refine EC_reg ?_
      refine EL_val (.agg ([.int .i64 0, .int .i64 0, .int .i64 0, .slice none 0 0, .slice none 0 0, .int .i64 0, .int .i64 0, .int .i64 0, .slice none 0 0]).toArray) w176 rfl (r_buildS (l := []) st_25 rfl (Eq.trans (show Instr.fill _ _ [] = _ from fill_end) (by kernel_rfl))) ?_
      refine EL_storeAll (v := .agg ([.int .i64 0, .int .i64 0, .int .i64 0, .slice none 0 0, .slice none 0 0, .int .i64 0, .int .i64 0, .int .i64 0, .slice none 0 0]).toArray) (cs' := ([.int .i64 0, .int .i64 0, .int .i64 0, .slice none 0 0, .slice none 0 0, .int .i64 0, .int .i64 0, .int .i64 0, .slice none 0 0]).toArray) rfl rfl rfl (S177.arr 3 rfl) rfl (by kernel_rfl) (by simp [Value.oneCell']) ?_
      intro w178 A179 K180 z181
      have S182 : Sat w178 I141 (RdP (ptr q23) (rdTxtS (rdNumS (rdNumS (rdNumS (Rd.mk l false) 1 5) 1 16) 1 1099511627776) 1 64) :: Blk b24 90 [ptr q23] :: Blk b42 25 [.int .i64 (rdNum (Rd.mk l false) 1 5), .int .i64 (rdNum (rdNumS (Rd.mk l false) 1 5) 1 16), .int .i64 (rdNum (rdNumS (rdNumS (Rd.mk l false) 1 5) 1 16) 1 1099511627776), u140, .slice none 0 0, .int .i64 0, .int .i64 0, .int .i64 0, .slice none 0 0] :: Blk b11 25 [.int .i64 0, .int .i64 0, .int .i64 0, .slice none 0 0, .slice none 0 0, .int .i64 0, .int .i64 0, .int .i64 0, .slice none 0 0] :: R) := S177.wrote 3 rfl K180 A179
      refine EL_val (.int .i64 10) w178 rfl (r_assign rfl) ?_
      refine EL_nil ?_
      refine thn_n ?_
      refine EC_ret ?_
      refine thn_r ?_
      refine fin2c Try.results60 (show _ = ptr b11 from rfl) (show _ = .int .i64 10 from rfl) (S182.arr 3 rfl) Try.underlying25 rfl (by kernel_rfl) ⟨_, rfl, ?_⟩
      have hok : decOk l = false := by rw [decOk, hde]; dsimp only; rw [hen, Bool.false_and]
      have q183 : (decV l) = (⟨0, 0, 0, [], [], 0, 0, 0, []⟩ : Entry) := by rw [decV, hok]; rfl
      have S184 : Sat w178 I141 (Blk b24 90 [ptr q23] :: Blk b42 25 [.int .i64 (rdNum (Rd.mk l false) 1 5), .int .i64 (rdNum (rdNumS (Rd.mk l false) 1 5) 1 16), .int .i64 (rdNum (rdNumS (rdNumS (Rd.mk l false) 1 5) 1 16) 1 1099511627776), u140, .slice none 0 0, .int .i64 0, .int .i64 0, .int .i64 0, .slice none 0 0] :: Blk b11 25 [.int .i64 0, .int .i64 0, .int .i64 0, .slice none 0 0, .slice none 0 0, .int .i64 0, .int .i64 0, .int .i64 0, .slice none 0 0] :: R) := S182.drop 0 rfl
      have S185 : Sat w178 I141 (Blk b42 25 [.int .i64 (rdNum (Rd.mk l false) 1 5), .int .i64 (rdNum (rdNumS (Rd.mk l false) 1 5) 1 16), .int .i64 (rdNum (rdNumS (rdNumS (Rd.mk l false) 1 5) 1 16) 1 1099511627776), u140, .slice none 0 0, .int .i64 0, .int .i64 0, .int .i64 0, .slice none 0 0] :: Blk b11 25 [.int .i64 0, .int .i64 0, .int .i64 0, .slice none 0 0, .slice none 0 0, .int .i64 0, .int .i64 0, .int .i64 0, .slice none 0 0] :: R) := S184.drop 0 rfl
      have S186 : Sat w178 I141 (Blk b11 25 [.int .i64 0, .int .i64 0, .int .i64 0, .slice none 0 0, .slice none 0 0, .int .i64 0, .int .i64 0, .int .i64 0, .slice none 0 0] :: R) := S185.drop 0 rfl
      have S187 : Sat w178 I141 (R) := S186.drop 0 rfl
      exact ⟨[.int .i64 0, .int .i64 0, .int .i64 0, .slice none 0 0, .slice none 0 0, .int .i64 0, .int .i64 0, .int .i64 0, .slice none 0 0], I141, (Gh.le_trans (Gh.le_trans (Gh.le_trans (Gh.le_trans le22 le40) le59) le70) le142), (by rw [decE, hok]; rfl), (by rw [q183]; exact ⟨(.slice none 0 0), (.slice none 0 0), (.slice none 0 0), rfl, (by first | assumption | omega | (dsimp only; omega)), (by first | assumption | omega | (dsimp only; omega)), (by first | assumption | omega | (dsimp only; omega)), ⟨rfl, Ro.nil⟩, ⟨rfl, Ro.nil⟩, (by first | assumption | omega | (dsimp only; omega)), (by first | assumption | omega | (dsimp only; omega)), (by first | assumption | omega | (dsimp only; omega)), ⟨rfl, RoX.nil⟩⟩), S187⟩
  · refine EC_reg ?_
    refine EL_val (ptr b42 0) w72 rfl (r_fieldP (o := 0) (s := 1) rfl Try.underlying25 rfl (by kernel_rfl) (by decide) rfl) ?_
    refine EL_val (.int .i64 (rdNum (Rd.mk l false) 1 5)) w72 rfl (r_loadA rfl (S76.arr 2 rfl) (u := (.int .i64 (rdNum (Rd.mk l false) 1 5))) rfl Try.underlying3 rfl) ?_
    refine EL_nil ?_
    refine thn_n ?_
    refine EC_block ?_
    refine EC_seq ?_
    refine EC_reg ?_
    refine EL_val (.bool false) w72 rfl (r_dec (show (decide ((rdNum (Rd.mk l false) 1 5) = 1)) = false from by rw [decide_eq_false_iff_not]; omega) (r_eql rfl rfl)) ?_
    refine EL_val (.bool false) w72 rfl (r_assign rfl) ?_
    refine EL_nil ?_
    refine thn_n ?_
    refine EC_cond_false rfl ?_
    refine EC_seq ?_
    refine EC_reg ?_
    refine EL_val (.bool false) w72 rfl (r_dec (show (decide ((rdNum (Rd.mk l false) 1 5) = 2)) = false from by rw [decide_eq_false_iff_not]; omega) (r_eql rfl rfl)) ?_
    refine EL_val (.bool false) w72 rfl (r_assign rfl) ?_
    refine EL_nil ?_
    refine thn_n ?_
    refine EC_cond_false rfl ?_
    refine EC_seq ?_
    refine EC_reg ?_
    refine EL_val (.bool true) w72 rfl (r_dec (show (decide ((rdNum (Rd.mk l false) 1 5) = 3)) = true from by rw [decide_eq_true_eq]; omega) (r_eql rfl rfl)) ?_
    refine EL_val (.bool true) w72 rfl (r_assign rfl) ?_
    refine EL_nil ?_
    refine thn_n ?_
    refine EC_cond_true rfl ?_
    refine EC_seq ?_
    refine EC_reg ?_
    refine EL_val (.func (.func 84) #[] [ptr b24].toArray) w72 rfl (r_move rfl) ?_
    have S188 : Sat w72 I69 (RdP (ptr q23) (rdNumS (rdNumS (rdNumS (Rd.mk l false) 1 5) 1 16) 1 1099511627776) :: Blk b24 90 [ptr q23] :: Blk b42 25 [.int .i64 (rdNum (Rd.mk l false) 1 5), .int .i64 (rdNum (rdNumS (Rd.mk l false) 1 5) 1 16), .int .i64 (rdNum (rdNumS (rdNumS (Rd.mk l false) 1 5) 1 16) 1 1099511627776), .slice none 0 0, .slice none 0 0, .int .i64 0, .int .i64 0, .int .i64 0, .slice none 0 0] :: Blk b11 25 [.int .i64 0, .int .i64 0, .int .i64 0, .slice none 0 0, .slice none 0 0, .int .i64 0, .int .i64 0, .int .i64 0, .slice none 0 0] :: R) := S76.cons_front (i := 0) rfl
    have S189 : Sat w72 I69 (Blk b24 90 [ptr q23] :: RdP (ptr q23) (rdNumS (rdNumS (rdNumS (Rd.mk l false) 1 5) 1 16) 1 1099511627776) :: Blk b42 25 [.int .i64 (rdNum (Rd.mk l false) 1 5), .int .i64 (rdNum (rdNumS (Rd.mk l false) 1 5) 1 16), .int .i64 (rdNum (rdNumS (rdNumS (Rd.mk l false) 1 5) 1 16) 1 1099511627776), .slice none 0 0, .slice none 0 0, .int .i64 0, .int .i64 0, .int .i64 0, .slice none 0 0] :: Blk b11 25 [.int .i64 0, .int .i64 0, .int .i64 0, .slice none 0 0, .slice none 0 0, .int .i64 0, .int .i64 0, .int .i64 0, .slice none 0 0] :: R) := S188.cons_front (i := 1) rfl
    refine EL_retw _ rfl rfl Try.func84 rfl nm84 rfl (who_c b24 q23 (rdNumS (rdNumS (rdNumS (Rd.mk l false) 1 5) 1 16) 1 1099511627776) I69 _ _ S189) ?_
    rintro _ w190 ⟨I192, le193, rfl, S191⟩
    have hn194 := rdNum_rng (rdNumS (rdNumS (rdNumS (Rd.mk l false) 1 5) 1 16) 1 1099511627776) 1 (hi := 16) (by omega)
    refine EL_val (ptr b42 5) w190 rfl (r_fieldP (o := 0) (s := 1) rfl Try.underlying25 rfl (by kernel_rfl) (by decide) rfl) ?_
    refine EL_storeA (j := 5) (u := .int .i64 (rdNum (rdNumS (rdNumS (rdNumS (Rd.mk l false) 1 5) 1 16) 1 1099511627776) 1 16)) rfl rfl (S191.arr 2 rfl) (by first | decide | (simp; omega) | simp) rfl (by kernel_rfl) ?_
    intro w195 A196 K197 z198
    have S199 : Sat w195 I192 (Blk b24 90 [ptr q23] :: RdP (ptr q23) (rdNumS (rdNumS (rdNumS (rdNumS (Rd.mk l false) 1 5) 1 16) 1 1099511627776) 1 16) :: Blk b42 25 [.int .i64 (rdNum (Rd.mk l false) 1 5), .int .i64 (rdNum (rdNumS (Rd.mk l false) 1 5) 1 16), .int .i64 (rdNum (rdNumS (rdNumS (Rd.mk l false) 1 5) 1 16) 1 1099511627776), .slice none 0 0, .slice none 0 0, .int .i64 (rdNum (rdNumS (rdNumS (rdNumS (Rd.mk l false) 1 5) 1 16) 1 1099511627776) 1 16), .int .i64 0, .int .i64 0, .slice none 0 0] :: Blk b11 25 [.int .i64 0, .int .i64 0, .int .i64 0, .slice none 0 0, .slice none 0 0, .int .i64 0, .int .i64 0, .int .i64 0, .slice none 0 0] :: R) := S191.wrote 2 rfl K197 A196
    refine EL_nil ?_
    refine thn_n ?_
    refine EC_reg ?_
    refine EL_val (ptr q23) w195 rfl (r_loadA rfl (S199.arr 0 rfl) (u := (ptr q23)) rfl Try.underlying90 rfl) ?_
    have S200 : Sat w195 I192 (RdP (ptr q23) (rdNumS (rdNumS (rdNumS (rdNumS (Rd.mk l false) 1 5) 1 16) 1 1099511627776) 1 16) :: Blk b24 90 [ptr q23] :: Blk b42 25 [.int .i64 (rdNum (Rd.mk l false) 1 5), .int .i64 (rdNum (rdNumS (Rd.mk l false) 1 5) 1 16), .int .i64 (rdNum (rdNumS (rdNumS (Rd.mk l false) 1 5) 1 16) 1 1099511627776), .slice none 0 0, .slice none 0 0, .int .i64 (rdNum (rdNumS (rdNumS (rdNumS (Rd.mk l false) 1 5) 1 16) 1 1099511627776) 1 16), .int .i64 0, .int .i64 0, .slice none 0 0] :: Blk b11 25 [.int .i64 0, .int .i64 0, .int .i64 0, .slice none 0 0, .slice none 0 0, .int .i64 0, .int .i64 0, .int .i64 0, .slice none 0 0] :: R) := S199.cons_front (i := 1) rfl
    refine EL_ret _ rfl Try.func68 rfl nm68 rfl (Number_c (ptr q23) (rdNumS (rdNumS (rdNumS (rdNumS (Rd.mk l false) 1 5) 1 16) 1 1099511627776) 1 16) 1 7 I192 _ _ S200) ?_
    rintro _ w201 ⟨I203, le204, rfl, S202⟩
    have hn205 := rdNum_rng (rdNumS (rdNumS (rdNumS (rdNumS (Rd.mk l false) 1 5) 1 16) 1 1099511627776) 1 16) 1 (hi := 7) (by omega)
    refine EL_val (ptr b42 6) w201 rfl (r_fieldP (o := 0) (s := 1) rfl Try.underlying25 rfl (by kernel_rfl) (by decide) rfl) ?_
    refine EL_storeA (j := 6) (u := .int .i64 (rdNum (rdNumS (rdNumS (rdNumS (rdNumS (Rd.mk l false) 1 5) 1 16) 1 1099511627776) 1 16) 1 7)) rfl rfl (S202.arr 2 rfl) (by first | decide | (simp; omega) | simp) rfl (by kernel_rfl) ?_
    intro w206 A207 K208 z209
    have S210 : Sat w206 I203 (RdP (ptr q23) (rdNumS (rdNumS (rdNumS (rdNumS (rdNumS (Rd.mk l false) 1 5) 1 16) 1 1099511627776) 1 16) 1 7) :: Blk b24 90 [ptr q23] :: Blk b42 25 [.int .i64 (rdNum (Rd.mk l false) 1 5), .int .i64 (rdNum (rdNumS (Rd.mk l false) 1 5) 1 16), .int .i64 (rdNum (rdNumS (rdNumS (Rd.mk l false) 1 5) 1 16) 1 1099511627776), .slice none 0 0, .slice none 0 0, .int .i64 (rdNum (rdNumS (rdNumS (rdNumS (Rd.mk l false) 1 5) 1 16) 1 1099511627776) 1 16), .int .i64 (rdNum (rdNumS (rdNumS (rdNumS (rdNumS (Rd.mk l false) 1 5) 1 16) 1 1099511627776) 1 16) 1 7), .int .i64 0, .slice none 0 0] :: Blk b11 25 [.int .i64 0, .int .i64 0, .int .i64 0, .slice none 0 0, .slice none 0 0, .int .i64 0, .int .i64 0, .int .i64 0, .slice none 0 0] :: R) := S202.wrote 2 rfl K208 A207
    refine EL_nil ?_
    refine inB_n ?_
    refine thn_n ?_
    refine EC_seq ?_
    refine EC_seq ?_
    have hde : rdEntry ⟨l, false⟩ = ((⟨rdNum (Rd.mk l false) 1 5, rdNum (rdNumS (Rd.mk l false) 1 5) 1 16, rdNum (rdNumS (rdNumS (Rd.mk l false) 1 5) 1 16) 1 1099511627776, [], [], rdNum (rdNumS (rdNumS (rdNumS (Rd.mk l false) 1 5) 1 16) 1 1099511627776) 1 16, rdNum (rdNumS (rdNumS (rdNumS (rdNumS (Rd.mk l false) 1 5) 1 16) 1 1099511627776) 1 16) 1 7, 0, []⟩ : Entry), rdNumS (rdNumS (rdNumS (rdNumS (rdNumS (Rd.mk l false) 1 5) 1 16) 1 1099511627776) 1 16) 1 7) := by rw [rdEntry, rdBody, if_neg (by omega), if_neg (by omega), if_pos hk]
    rcases (by cases rdEnd (rdNumS (rdNumS (rdNumS (rdNumS (rdNumS (Rd.mk l false) 1 5) 1 16) 1 1099511627776) 1 16) 1 7) <;> simp : rdEnd (rdNumS (rdNumS (rdNumS (rdNumS (rdNumS (Rd.mk l false) 1 5) 1 16) 1 1099511627776) 1 16) 1 7) = true ∨ rdEnd (rdNumS (rdNumS (rdNumS (rdNumS (rdNumS (Rd.mk l false) 1 5) 1 16) 1 1099511627776) 1 16) 1 7) = false) with hen | hen
    · refine EC_reg ?_
      refine EL_val (ptr q23) w206 rfl (r_loadA rfl (S210.arr 1 rfl) (u := (ptr q23)) rfl Try.underlying90 rfl) ?_
      refine EL_ret _ rfl Try.func61 rfl nm61 rfl (End_c (ptr q23) (rdNumS (rdNumS (rdNumS (rdNumS (rdNumS (Rd.mk l false) 1 5) 1 16) 1 1099511627776) 1 16) 1 7) I203 _ _ S210) ?_
      rintro _ w211 ⟨rfl, S212⟩
      refine EL_val (.bool false) w211 rfl (r_dec (show (!true) = false from rfl) (r_not (Eq.trans (show _ = Value.bool (rdEnd (rdNumS (rdNumS (rdNumS (rdNumS (rdNumS (Rd.mk l false) 1 5) 1 16) 1 1099511627776) 1 16) 1 7)) from rfl) (congrArg Value.bool (show (rdEnd (rdNumS (rdNumS (rdNumS (rdNumS (rdNumS (Rd.mk l false) 1 5) 1 16) 1 1099511627776) 1 16) 1 7)) = true from hen))))) ?_
      refine EL_val (.bool false) w211 rfl (r_move rfl) ?_
      refine EL_gval 80 rfl rfl rfl rfl (.agg ([.int .i64 (rdNum (Rd.mk l false) 1 5), .int .i64 (rdNum (rdNumS (Rd.mk l false) 1 5) 1 16), .int .i64 (rdNum (rdNumS (rdNumS (Rd.mk l false) 1 5) 1 16) 1 1099511627776), .slice none 0 0, .slice none 0 0, .int .i64 (rdNum (rdNumS (rdNumS (rdNumS (Rd.mk l false) 1 5) 1 16) 1 1099511627776) 1 16), .int .i64 (rdNum (rdNumS (rdNumS (rdNumS (rdNumS (Rd.mk l false) 1 5) 1 16) 1 1099511627776) 1 16) 1 7), .int .i64 0, .slice none 0 0]).toArray) w211 rfl (r_loadAll rfl (S212.arr 2 rfl) Try.underlying25 rfl (by kernel_rfl)) ?_
      refine EL_gret 80 rfl rfl rfl rfl _ rfl Try.func19 rfl nm19 rfl (Right_c [.int .i64 (rdNum (Rd.mk l false) 1 5), .int .i64 (rdNum (rdNumS (Rd.mk l false) 1 5) 1 16), .int .i64 (rdNum (rdNumS (rdNumS (Rd.mk l false) 1 5) 1 16) 1 1099511627776), .slice none 0 0, .slice none 0 0, .int .i64 (rdNum (rdNumS (rdNumS (rdNumS (Rd.mk l false) 1 5) 1 16) 1 1099511627776) 1 16), .int .i64 (rdNum (rdNumS (rdNumS (rdNumS (rdNumS (Rd.mk l false) 1 5) 1 16) 1 1099511627776) 1 16) 1 7), .int .i64 0, .slice none 0 0] (⟨rdNum (Rd.mk l false) 1 5, rdNum (rdNumS (Rd.mk l false) 1 5) 1 16, rdNum (rdNumS (rdNumS (Rd.mk l false) 1 5) 1 16) 1 1099511627776, [], [], rdNum (rdNumS (rdNumS (rdNumS (Rd.mk l false) 1 5) 1 16) 1 1099511627776) 1 16, rdNum (rdNumS (rdNumS (rdNumS (rdNumS (Rd.mk l false) 1 5) 1 16) 1 1099511627776) 1 16) 1 7, 0, []⟩ : Entry) I203 _ _ S212 ⟨(.slice none 0 0), (.slice none 0 0), (.slice none 0 0), rfl, (by first | assumption | omega | (dsimp only; omega)), (by first | assumption | omega | (dsimp only; omega)), (by first | assumption | omega | (dsimp only; omega)), ⟨rfl, Ro.nil⟩, ⟨rfl, Ro.nil⟩, (by first | assumption | omega | (dsimp only; omega)), (by first | assumption | omega | (dsimp only; omega)), (by first | assumption | omega | (dsimp only; omega)), ⟨rfl, RoX.nil⟩⟩) ?_
      rintro _ w213 ⟨I215, le216, rfl, S214⟩
      refine EL_gval 80 rfl rfl rfl rfl (.bool (!((⟨rdNum (Rd.mk l false) 1 5, rdNum (rdNumS (Rd.mk l false) 1 5) 1 16, rdNum (rdNumS (rdNumS (Rd.mk l false) 1 5) 1 16) 1 1099511627776, [], [], rdNum (rdNumS (rdNumS (rdNumS (Rd.mk l false) 1 5) 1 16) 1 1099511627776) 1 16, rdNum (rdNumS (rdNumS (rdNumS (rdNumS (Rd.mk l false) 1 5) 1 16) 1 1099511627776) 1 16) 1 7, 0, []⟩ : Entry).right))) w213 rfl (r_not rfl) ?_
      refine EL_val (.bool (!((⟨rdNum (Rd.mk l false) 1 5, rdNum (rdNumS (Rd.mk l false) 1 5) 1 16, rdNum (rdNumS (rdNumS (Rd.mk l false) 1 5) 1 16) 1 1099511627776, [], [], rdNum (rdNumS (rdNumS (rdNumS (Rd.mk l false) 1 5) 1 16) 1 1099511627776) 1 16, rdNum (rdNumS (rdNumS (rdNumS (rdNumS (Rd.mk l false) 1 5) 1 16) 1 1099511627776) 1 16) 1 7, 0, []⟩ : Entry).right))) w213 rfl (r_pickF rfl rfl) ?_
      refine EL_nil ?_
      refine thn_n ?_
      refine EC_cond (t := !((⟨rdNum (Rd.mk l false) 1 5, rdNum (rdNumS (Rd.mk l false) 1 5) 1 16, rdNum (rdNumS (rdNumS (Rd.mk l false) 1 5) 1 16) 1 1099511627776, [], [], rdNum (rdNumS (rdNumS (rdNumS (Rd.mk l false) 1 5) 1 16) 1 1099511627776) 1 16, rdNum (rdNumS (rdNumS (rdNumS (rdNumS (Rd.mk l false) 1 5) 1 16) 1 1099511627776) 1 16) 1 7, 0, []⟩ : Entry).right)) rfl (fun h217 => ?_) (fun h217 => ?_)
      · have hrt : ((⟨rdNum (Rd.mk l false) 1 5, rdNum (rdNumS (Rd.mk l false) 1 5) 1 16, rdNum (rdNumS (rdNumS (Rd.mk l false) 1 5) 1 16) 1 1099511627776, [], [], rdNum (rdNumS (rdNumS (rdNumS (Rd.mk l false) 1 5) 1 16) 1 1099511627776) 1 16, rdNum (rdNumS (rdNumS (rdNumS (rdNumS (Rd.mk l false) 1 5) 1 16) 1 1099511627776) 1 16) 1 7, 0, []⟩ : Entry)).right = false := (Bool.not_eq_true' _).mp h217
        refine EC_seq ?_
        refine EC_reg ?_
        refine EL_val (.agg ([.int .i64 0, .int .i64 0, .int .i64 0, .slice none 0 0, .slice none 0 0, .int .i64 0, .int .i64 0, .int .i64 0, .slice none 0 0]).toArray) w213 rfl (r_buildS (l := []) st_25 rfl (Eq.trans (show Instr.fill _ _ [] = _ from fill_end) (by kernel_rfl))) ?_
        refine EL_storeAll (v := .agg ([.int .i64 0, .int .i64 0, .int .i64 0, .slice none 0 0, .slice none 0 0, .int .i64 0, .int .i64 0, .int .i64 0, .slice none 0 0]).toArray) (cs' := ([.int .i64 0, .int .i64 0, .int .i64 0, .slice none 0 0, .slice none 0 0, .int .i64 0, .int .i64 0, .int .i64 0, .slice none 0 0]).toArray) rfl rfl rfl (S214.arr 3 rfl) rfl (by kernel_rfl) (by simp [Value.oneCell']) ?_
        intro w218 A219 K220 z221
        have S222 : Sat w218 I215 (RdP (ptr q23) (rdNumS (rdNumS (rdNumS (rdNumS (rdNumS (Rd.mk l false) 1 5) 1 16) 1 1099511627776) 1 16) 1 7) :: Blk b24 90 [ptr q23] :: Blk b42 25 [.int .i64 (rdNum (Rd.mk l false) 1 5), .int .i64 (rdNum (rdNumS (Rd.mk l false) 1 5) 1 16), .int .i64 (rdNum (rdNumS (rdNumS (Rd.mk l false) 1 5) 1 16) 1 1099511627776), .slice none 0 0, .slice none 0 0, .int .i64 (rdNum (rdNumS (rdNumS (rdNumS (Rd.mk l false) 1 5) 1 16) 1 1099511627776) 1 16), .int .i64 (rdNum (rdNumS (rdNumS (rdNumS (rdNumS (Rd.mk l false) 1 5) 1 16) 1 1099511627776) 1 16) 1 7), .int .i64 0, .slice none 0 0] :: Blk b11 25 [.int .i64 0, .int .i64 0, .int .i64 0, .slice none 0 0, .slice none 0 0, .int .i64 0, .int .i64 0, .int .i64 0, .slice none 0 0] :: R) := S214.wrote 3 rfl K220 A219
        refine EL_val (.int .i64 10) w218 rfl (r_assign rfl) ?_
        refine EL_nil ?_
        refine thn_n ?_
        refine EC_ret ?_
        refine thn_r ?_
        refine fin2c Try.results60 (show _ = ptr b11 from rfl) (show _ = .int .i64 10 from rfl) (S222.arr 3 rfl) Try.underlying25 rfl (by kernel_rfl) ⟨_, rfl, ?_⟩
        have hok : decOk l = false := by rw [decOk, hde]; dsimp only; rw [hen, hrt]; rfl
        have q223 : (decV l) = (⟨0, 0, 0, [], [], 0, 0, 0, []⟩ : Entry) := by rw [decV, hok]; rfl
        have S224 : Sat w218 I215 (Blk b24 90 [ptr q23] :: Blk b42 25 [.int .i64 (rdNum (Rd.mk l false) 1 5), .int .i64 (rdNum (rdNumS (Rd.mk l false) 1 5) 1 16), .int .i64 (rdNum (rdNumS (rdNumS (Rd.mk l false) 1 5) 1 16) 1 1099511627776), .slice none 0 0, .slice none 0 0, .int .i64 (rdNum (rdNumS (rdNumS (rdNumS (Rd.mk l false) 1 5) 1 16) 1 1099511627776) 1 16), .int .i64 (rdNum (rdNumS (rdNumS (rdNumS (rdNumS (Rd.mk l false) 1 5) 1 16) 1 1099511627776) 1 16) 1 7), .int .i64 0, .slice none 0 0] :: Blk b11 25 [.int .i64 0, .int .i64 0, .int .i64 0, .slice none 0 0, .slice none 0 0, .int .i64 0, .int .i64 0, .int .i64 0, .slice none 0 0] :: R) := S222.drop 0 rfl
        have S225 : Sat w218 I215 (Blk b42 25 [.int .i64 (rdNum (Rd.mk l false) 1 5), .int .i64 (rdNum (rdNumS (Rd.mk l false) 1 5) 1 16), .int .i64 (rdNum (rdNumS (rdNumS (Rd.mk l false) 1 5) 1 16) 1 1099511627776), .slice none 0 0, .slice none 0 0, .int .i64 (rdNum (rdNumS (rdNumS (rdNumS (Rd.mk l false) 1 5) 1 16) 1 1099511627776) 1 16), .int .i64 (rdNum (rdNumS (rdNumS (rdNumS (rdNumS (Rd.mk l false) 1 5) 1 16) 1 1099511627776) 1 16) 1 7), .int .i64 0, .slice none 0 0] :: Blk b11 25 [.int .i64 0, .int .i64 0, .int .i64 0, .slice none 0 0, .slice none 0 0, .int .i64 0, .int .i64 0, .int .i64 0, .slice none 0 0] :: R) := S224.drop 0 rfl
        have S226 : Sat w218 I215 (Blk b11 25 [.int .i64 0, .int .i64 0, .int .i64 0, .slice none 0 0, .slice none 0 0, .int .i64 0, .int .i64 0, .int .i64 0, .slice none 0 0] :: R) := S225.drop 0 rfl
        have S227 : Sat w218 I215 (R) := S226.drop 0 rfl
        exact ⟨[.int .i64 0, .int .i64 0, .int .i64 0, .slice none 0 0, .slice none 0 0, .int .i64 0, .int .i64 0, .int .i64 0, .slice none 0 0], I215, (Gh.le_trans (Gh.le_trans (Gh.le_trans (Gh.le_trans (Gh.le_trans (Gh.le_trans le22 le40) le59) le70) le193) le204) le216), (by rw [decE, hok]; rfl), (by rw [q223]; exact ⟨(.slice none 0 0), (.slice none 0 0), (.slice none 0 0), rfl, (by first | assumption | omega | (dsimp only; omega)), (by first | assumption | omega | (dsimp only; omega)), (by first | assumption | omega | (dsimp only; omega)), ⟨rfl, Ro.nil⟩, ⟨rfl, Ro.nil⟩, (by first | assumption | omega | (dsimp only; omega)), (by first | assumption | omega | (dsimp only; omega)), (by first | assumption | omega | (dsimp only; omega)), ⟨rfl, RoX.nil⟩⟩), S227⟩
      · have hrt : ((⟨rdNum (Rd.mk l false) 1 5, rdNum (rdNumS (Rd.mk l false) 1 5) 1 16, rdNum (rdNumS (rdNumS (Rd.mk l false) 1 5) 1 16) 1 1099511627776, [], [], rdNum (rdNumS (rdNumS (rdNumS (Rd.mk l false) 1 5) 1 16) 1 1099511627776) 1 16, rdNum (rdNumS (rdNumS (rdNumS (rdNumS (Rd.mk l false) 1 5) 1 16) 1 1099511627776) 1 16) 1 7, 0, []⟩ : Entry)).right = true := (Bool.not_eq_false' _).mp h217
        refine EC_skip ?_
        refine thn_n ?_
        refine EC_seq ?_
        refine EC_reg ?_
        refine EL_val (.agg ([.int .i64 (rdNum (Rd.mk l false) 1 5), .int .i64 (rdNum (rdNumS (Rd.mk l false) 1 5) 1 16), .int .i64 (rdNum (rdNumS (rdNumS (Rd.mk l false) 1 5) 1 16) 1 1099511627776), .slice none 0 0, .slice none 0 0, .int .i64 (rdNum (rdNumS (rdNumS (rdNumS (Rd.mk l false) 1 5) 1 16) 1 1099511627776) 1 16), .int .i64 (rdNum (rdNumS (rdNumS (rdNumS (rdNumS (Rd.mk l false) 1 5) 1 16) 1 1099511627776) 1 16) 1 7), .int .i64 0, .slice none 0 0]).toArray) w213 rfl (r_loadAll rfl (S214.arr 2 rfl) Try.underlying25 rfl (by kernel_rfl)) ?_
        refine EL_storeAll (v := .agg ([.int .i64 (rdNum (Rd.mk l false) 1 5), .int .i64 (rdNum (rdNumS (Rd.mk l false) 1 5) 1 16), .int .i64 (rdNum (rdNumS (rdNumS (Rd.mk l false) 1 5) 1 16) 1 1099511627776), .slice none 0 0, .slice none 0 0, .int .i64 (rdNum (rdNumS (rdNumS (rdNumS (Rd.mk l false) 1 5) 1 16) 1 1099511627776) 1 16), .int .i64 (rdNum (rdNumS (rdNumS (rdNumS (rdNumS (Rd.mk l false) 1 5) 1 16) 1 1099511627776) 1 16) 1 7), .int .i64 0, .slice none 0 0]).toArray) (cs' := ([.int .i64 (rdNum (Rd.mk l false) 1 5), .int .i64 (rdNum (rdNumS (Rd.mk l false) 1 5) 1 16), .int .i64 (rdNum (rdNumS (rdNumS (Rd.mk l false) 1 5) 1 16) 1 1099511627776), .slice none 0 0, .slice none 0 0, .int .i64 (rdNum (rdNumS (rdNumS (rdNumS (Rd.mk l false) 1 5) 1 16) 1 1099511627776) 1 16), .int .i64 (rdNum (rdNumS (rdNumS (rdNumS (rdNumS (Rd.mk l false) 1 5) 1 16) 1 1099511627776) 1 16) 1 7), .int .i64 0, .slice none 0 0]).toArray) rfl rfl rfl (S214.arr 3 rfl) rfl (by kernel_rfl) (by simp [Value.oneCell']) ?_
        intro w228 A229 K230 z231
        have S232 : Sat w228 I215 (RdP (ptr q23) (rdNumS (rdNumS (rdNumS (rdNumS (rdNumS (Rd.mk l false) 1 5) 1 16) 1 1099511627776) 1 16) 1 7) :: Blk b24 90 [ptr q23] :: Blk b42 25 [.int .i64 (rdNum (Rd.mk l false) 1 5), .int .i64 (rdNum (rdNumS (Rd.mk l false) 1 5) 1 16), .int .i64 (rdNum (rdNumS (rdNumS (Rd.mk l false) 1 5) 1 16) 1 1099511627776), .slice none 0 0, .slice none 0 0, .int .i64 (rdNum (rdNumS (rdNumS (rdNumS (Rd.mk l false) 1 5) 1 16) 1 1099511627776) 1 16), .int .i64 (rdNum (rdNumS (rdNumS (rdNumS (rdNumS (Rd.mk l false) 1 5) 1 16) 1 1099511627776) 1 16) 1 7), .int .i64 0, .slice none 0 0] :: Blk b11 25 [.int .i64 (rdNum (Rd.mk l false) 1 5), .int .i64 (rdNum (rdNumS (Rd.mk l false) 1 5) 1 16), .int .i64 (rdNum (rdNumS (rdNumS (Rd.mk l false) 1 5) 1 16) 1 1099511627776), .slice none 0 0, .slice none 0 0, .int .i64 (rdNum (rdNumS (rdNumS (rdNumS (Rd.mk l false) 1 5) 1 16) 1 1099511627776) 1 16), .int .i64 (rdNum (rdNumS (rdNumS (rdNumS (rdNumS (Rd.mk l false) 1 5) 1 16) 1 1099511627776) 1 16) 1 7), .int .i64 0, .slice none 0 0] :: R) := S214.wrote 3 rfl K230 A229
        refine EL_val (.int .i64 0) w228 rfl (r_assign rfl) ?_
        refine EL_nil ?_
        refine thn_n ?_
        refine EC_ret ?_
        refine fin2c Try.results60 (show _ = ptr b11 from rfl) (show _ = .int .i64 0 from rfl) (S232.arr 3 rfl) Try.underlying25 rfl (by kernel_rfl) ⟨_, rfl, ?_⟩
        have hok : decOk l = true := by rw [decOk, hde]; dsimp only; rw [hen, hrt]; rfl
        have q233 : (decV l) = (⟨rdNum (Rd.mk l false) 1 5, rdNum (rdNumS (Rd.mk l false) 1 5) 1 16, rdNum (rdNumS (rdNumS (Rd.mk l false) 1 5) 1 16) 1 1099511627776, [], [], rdNum (rdNumS (rdNumS (rdNumS (Rd.mk l false) 1 5) 1 16) 1 1099511627776) 1 16, rdNum (rdNumS (rdNumS (rdNumS (rdNumS (Rd.mk l false) 1 5) 1 16) 1 1099511627776) 1 16) 1 7, 0, []⟩ : Entry) := by rw [decV, if_pos hok, hde]
        have S234 : Sat w228 I215 (Blk b24 90 [ptr q23] :: Blk b42 25 [.int .i64 (rdNum (Rd.mk l false) 1 5), .int .i64 (rdNum (rdNumS (Rd.mk l false) 1 5) 1 16), .int .i64 (rdNum (rdNumS (rdNumS (Rd.mk l false) 1 5) 1 16) 1 1099511627776), .slice none 0 0, .slice none 0 0, .int .i64 (rdNum (rdNumS (rdNumS (rdNumS (Rd.mk l false) 1 5) 1 16) 1 1099511627776) 1 16), .int .i64 (rdNum (rdNumS (rdNumS (rdNumS (rdNumS (Rd.mk l false) 1 5) 1 16) 1 1099511627776) 1 16) 1 7), .int .i64 0, .slice none 0 0] :: Blk b11 25 [.int .i64 (rdNum (Rd.mk l false) 1 5), .int .i64 (rdNum (rdNumS (Rd.mk l false) 1 5) 1 16), .int .i64 (rdNum (rdNumS (rdNumS (Rd.mk l false) 1 5) 1 16) 1 1099511627776), .slice none 0 0, .slice none 0 0, .int .i64 (rdNum (rdNumS (rdNumS (rdNumS (Rd.mk l false) 1 5) 1 16) 1 1099511627776) 1 16), .int .i64 (rdNum (rdNumS (rdNumS (rdNumS (rdNumS (Rd.mk l false) 1 5) 1 16) 1 1099511627776) 1 16) 1 7), .int .i64 0, .slice none 0 0] :: R) := S232.drop 0 rfl
        have S235 : Sat w228 I215 (Blk b42 25 [.int .i64 (rdNum (Rd.mk l false) 1 5), .int .i64 (rdNum (rdNumS (Rd.mk l false) 1 5) 1 16), .int .i64 (rdNum (rdNumS (rdNumS (Rd.mk l false) 1 5) 1 16) 1 1099511627776), .slice none 0 0, .slice none 0 0, .int .i64 (rdNum (rdNumS (rdNumS (rdNumS (Rd.mk l false) 1 5) 1 16) 1 1099511627776) 1 16), .int .i64 (rdNum (rdNumS (rdNumS (rdNumS (rdNumS (Rd.mk l false) 1 5) 1 16) 1 1099511627776) 1 16) 1 7), .int .i64 0, .slice none 0 0] :: Blk b11 25 [.int .i64 (rdNum (Rd.mk l false) 1 5), .int .i64 (rdNum (rdNumS (Rd.mk l false) 1 5) 1 16), .int .i64 (rdNum (rdNumS (rdNumS (Rd.mk l false) 1 5) 1 16) 1 1099511627776), .slice none 0 0, .slice none 0 0, .int .i64 (rdNum (rdNumS (rdNumS (rdNumS (Rd.mk l false) 1 5) 1 16) 1 1099511627776) 1 16), .int .i64 (rdNum (rdNumS (rdNumS (rdNumS (rdNumS (Rd.mk l false) 1 5) 1 16) 1 1099511627776) 1 16) 1 7), .int .i64 0, .slice none 0 0] :: R) := S234.drop 0 rfl
        have S236 : Sat w228 I215 (Blk b11 25 [.int .i64 (rdNum (Rd.mk l false) 1 5), .int .i64 (rdNum (rdNumS (Rd.mk l false) 1 5) 1 16), .int .i64 (rdNum (rdNumS (rdNumS (Rd.mk l false) 1 5) 1 16) 1 1099511627776), .slice none 0 0, .slice none 0 0, .int .i64 (rdNum (rdNumS (rdNumS (rdNumS (Rd.mk l false) 1 5) 1 16) 1 1099511627776) 1 16), .int .i64 (rdNum (rdNumS (rdNumS (rdNumS (rdNumS (Rd.mk l false) 1 5) 1 16) 1 1099511627776) 1 16) 1 7), .int .i64 0, .slice none 0 0] :: R) := S235.drop 0 rfl
        have S237 : Sat w228 I215 (R) := S236.drop 0 rfl
        exact ⟨[.int .i64 (rdNum (Rd.mk l false) 1 5), .int .i64 (rdNum (rdNumS (Rd.mk l false) 1 5) 1 16), .int .i64 (rdNum (rdNumS (rdNumS (Rd.mk l false) 1 5) 1 16) 1 1099511627776), .slice none 0 0, .slice none 0 0, .int .i64 (rdNum (rdNumS (rdNumS (rdNumS (Rd.mk l false) 1 5) 1 16) 1 1099511627776) 1 16), .int .i64 (rdNum (rdNumS (rdNumS (rdNumS (rdNumS (Rd.mk l false) 1 5) 1 16) 1 1099511627776) 1 16) 1 7), .int .i64 0, .slice none 0 0], I215, (Gh.le_trans (Gh.le_trans (Gh.le_trans (Gh.le_trans (Gh.le_trans (Gh.le_trans le22 le40) le59) le70) le193) le204) le216), (by rw [decE, if_pos hok]), (by rw [q233]; exact ⟨(.slice none 0 0), (.slice none 0 0), (.slice none 0 0), rfl, (by first | assumption | omega | (dsimp only; omega)), (by first | assumption | omega | (dsimp only; omega)), (by first | assumption | omega | (dsimp only; omega)), ⟨rfl, Ro.nil⟩, ⟨rfl, Ro.nil⟩, (by first | assumption | omega | (dsimp only; omega)), (by first | assumption | omega | (dsimp only; omega)), (by first | assumption | omega | (dsimp only; omega)), ⟨rfl, RoX.nil⟩⟩), S237⟩
    · refine EC_reg ?_
      refine EL_val (ptr q23) w206 rfl (r_loadA rfl (S210.arr 1 rfl) (u := (ptr q23)) rfl Try.underlying90 rfl) ?_
      refine EL_ret _ rfl Try.func61 rfl nm61 rfl (End_c (ptr q23) (rdNumS (rdNumS (rdNumS (rdNumS (rdNumS (Rd.mk l false) 1 5) 1 16) 1 1099511627776) 1 16) 1 7) I203 _ _ S210) ?_
      rintro _ w238 ⟨rfl, S239⟩
      refine EL_val (.bool true) w238 rfl (r_dec (show (!false) = true from rfl) (r_not (Eq.trans (show _ = Value.bool (rdEnd (rdNumS (rdNumS (rdNumS (rdNumS (rdNumS (Rd.mk l false) 1 5) 1 16) 1 1099511627776) 1 16) 1 7)) from rfl) (congrArg Value.bool (show (rdEnd (rdNumS (rdNumS (rdNumS (rdNumS (rdNumS (Rd.mk l false) 1 5) 1 16) 1 1099511627776) 1 16) 1 7)) = false from hen))))) ?_
      refine EL_val (.bool true) w238 rfl (r_move rfl) ?_
      refine EL_pass 80 rfl rfl rfl rfl rfl ?_
      refine EL_pass 80 rfl rfl rfl rfl rfl ?_
      refine EL_pass 80 rfl rfl rfl rfl rfl ?_
      refine EL_val (.bool true) w238 rfl (r_pickT rfl rfl) ?_
      refine EL_nil ?_
      refine thn_n ?_
      refine EC_cond_true rfl ?_
      refine EC_seq ?_
      refine EC_reg ?_
      refine EL_val (.agg ([.int .i64 0, .int .i64 0, .int .i64 0, .slice none 0 0, .slice none 0 0, .int .i64 0, .int .i64 0, .int .i64 0, .slice none 0 0]).toArray) w238 rfl (r_buildS (l := []) st_25 rfl (Eq.trans (show Instr.fill _ _ [] = _ from fill_end) (by kernel_rfl))) ?_
      refine EL_storeAll (v := .agg ([.int .i64 0, .int .i64 0, .int .i64 0, .slice none 0 0, .slice none 0 0, .int .i64 0, .int .i64 0, .int .i64 0, .slice none 0 0]).toArray) (cs' := ([.int .i64 0, .int .i64 0, .int .i64 0, .slice none 0 0, .slice none 0 0, .int .i64 0, .int .i64 0, .int .i64 0, .slice none 0 0]).toArray) rfl rfl rfl (S239.arr 3 rfl) rfl (by kernel_rfl) (by simp [Value.oneCell']) ?_
      intro w240 A241 K242 z243
      have S244 : Sat w240 I203 (RdP (ptr q23) (rdNumS (rdNumS (rdNumS (rdNumS (rdNumS (Rd.mk l false) 1 5) 1 16) 1 1099511627776) 1 16) 1 7) :: Blk b24 90 [ptr q23] :: Blk b42 25 [.int .i64 (rdNum (Rd.mk l false) 1 5), .int .i64 (rdNum (rdNumS (Rd.mk l false) 1 5) 1 16), .int .i64 (rdNum (rdNumS (rdNumS (Rd.mk l false) 1 5) 1 16) 1 1099511627776), .slice none 0 0, .slice none 0 0, .int .i64 (rdNum (rdNumS (rdNumS (rdNumS (Rd.mk l false) 1 5) 1 16) 1 1099511627776) 1 16), .int .i64 (rdNum (rdNumS (rdNumS (rdNumS (rdNumS (Rd.mk l false) 1 5) 1 16) 1 1099511627776) 1 16) 1 7), .int .i64 0, .slice none 0 0] :: Blk b11 25 [.int .i64 0, .int .i64 0, .int .i64 0, .slice none 0 0, .slice none 0 0, .int .i64 0, .int .i64 0, .int .i64 0, .slice none 0 0] :: R) := S239.wrote 3 rfl K242 A241
      refine EL_val (.int .i64 10) w240 rfl (r_assign rfl) ?_
      refine EL_nil ?_
      refine thn_n ?_
      refine EC_ret ?_
      refine thn_r ?_
      refine fin2c Try.results60 (show _ = ptr b11 from rfl) (show _ = .int .i64 10 from rfl) (S244.arr 3 rfl) Try.underlying25 rfl (by kernel_rfl) ⟨_, rfl, ?_⟩
      have hok : decOk l = false := by rw [decOk, hde]; dsimp only; rw [hen, Bool.false_and]
      have q245 : (decV l) = (⟨0, 0, 0, [], [], 0, 0, 0, []⟩ : Entry) := by rw [decV, hok]; rfl
      have S246 : Sat w240 I203 (Blk b24 90 [ptr q23] :: Blk b42 25 [.int .i64 (rdNum (Rd.mk l false) 1 5), .int .i64 (rdNum (rdNumS (Rd.mk l false) 1 5) 1 16), .int .i64 (rdNum (rdNumS (rdNumS (Rd.mk l false) 1 5) 1 16) 1 1099511627776), .slice none 0 0, .slice none 0 0, .int .i64 (rdNum (rdNumS (rdNumS (rdNumS (Rd.mk l false) 1 5) 1 16) 1 1099511627776) 1 16), .int .i64 (rdNum (rdNumS (rdNumS (rdNumS (rdNumS (Rd.mk l false) 1 5) 1 16) 1 1099511627776) 1 16) 1 7), .int .i64 0, .slice none 0 0] :: Blk b11 25 [.int .i64 0, .int .i64 0, .int .i64 0, .slice none 0 0, .slice none 0 0, .int .i64 0, .int .i64 0, .int .i64 0, .slice none 0 0] :: R) := S244.drop 0 rfl
      have S247 : Sat w240 I203 (Blk b42 25 [.int .i64 (rdNum (Rd.mk l false) 1 5), .int .i64 (rdNum (rdNumS (Rd.mk l false) 1 5) 1 16), .int .i64 (rdNum (rdNumS (rdNumS (Rd.mk l false) 1 5) 1 16) 1 1099511627776), .slice none 0 0, .slice none 0 0, .int .i64 (rdNum (rdNumS (rdNumS (rdNumS (Rd.mk l false) 1 5) 1 16) 1 1099511627776) 1 16), .int .i64 (rdNum (rdNumS (rdNumS (rdNumS (rdNumS (Rd.mk l false) 1 5) 1 16) 1 1099511627776) 1 16) 1 7), .int .i64 0, .slice none 0 0] :: Blk b11 25 [.int .i64 0, .int .i64 0, .int .i64 0, .slice none 0 0, .slice none 0 0, .int .i64 0, .int .i64 0, .int .i64 0, .slice none 0 0] :: R) := S246.drop 0 rfl
      have S248 : Sat w240 I203 (Blk b11 25 [.int .i64 0, .int .i64 0, .int .i64 0, .slice none 0 0, .slice none 0 0, .int .i64 0, .int .i64 0, .int .i64 0, .slice none 0 0] :: R) := S247.drop 0 rfl
      have S249 : Sat w240 I203 (R) := S248.drop 0 rfl
      exact ⟨[.int .i64 0, .int .i64 0, .int .i64 0, .slice none 0 0, .slice none 0 0, .int .i64 0, .int .i64 0, .int .i64 0, .slice none 0 0], I203, (Gh.le_trans (Gh.le_trans (Gh.le_trans (Gh.le_trans (Gh.le_trans le22 le40) le59) le70) le193) le204), (by rw [decE, hok]; rfl), (by rw [q245]; exact ⟨(.slice none 0 0), (.slice none 0 0), (.slice none 0 0), rfl, (by first | assumption | omega | (dsimp only; omega)), (by first | assumption | omega | (dsimp only; omega)), (by first | assumption | omega | (dsimp only; omega)), ⟨rfl, Ro.nil⟩, ⟨rfl, Ro.nil⟩, (by first | assumption | omega | (dsimp only; omega)), (by first | assumption | omega | (dsimp only; omega)), (by first | assumption | omega | (dsimp only; omega)), ⟨rfl, RoX.nil⟩⟩), S249⟩
  · refine EC_reg ?_
    refine EL_val (ptr b42 0) w72 rfl (r_fieldP (o := 0) (s := 1) rfl Try.underlying25 rfl (by kernel_rfl) (by decide) rfl) ?_
    refine EL_val (.int .i64 (rdNum (Rd.mk l false) 1 5)) w72 rfl (r_loadA rfl (S76.arr 2 rfl) (u := (.int .i64 (rdNum (Rd.mk l false) 1 5))) rfl Try.underlying3 rfl) ?_
    refine EL_nil ?_
    refine thn_n ?_
    refine EC_block ?_
    refine EC_seq ?_
    refine EC_reg ?_
    refine EL_val (.bool false) w72 rfl (r_dec (show (decide ((rdNum (Rd.mk l false) 1 5) = 1)) = false from by rw [decide_eq_false_iff_not]; omega) (r_eql rfl rfl)) ?_
    refine EL_val (.bool false) w72 rfl (r_assign rfl) ?_
    refine EL_nil ?_
    refine thn_n ?_
    refine EC_cond_false rfl ?_
    refine EC_seq ?_
    refine EC_reg ?_
    refine EL_val (.bool false) w72 rfl (r_dec (show (decide ((rdNum (Rd.mk l false) 1 5) = 2)) = false from by rw [decide_eq_false_iff_not]; omega) (r_eql rfl rfl)) ?_
    refine EL_val (.bool false) w72 rfl (r_assign rfl) ?_
    refine EL_nil ?_
    refine thn_n ?_
    refine EC_cond_false rfl ?_
    refine EC_seq ?_
    refine EC_reg ?_
    refine EL_val (.bool false) w72 rfl (r_dec (show (decide ((rdNum (Rd.mk l false) 1 5) = 3)) = false from by rw [decide_eq_false_iff_not]; omega) (r_eql rfl rfl)) ?_
    refine EL_val (.bool false) w72 rfl (r_assign rfl) ?_
    refine EL_nil ?_
    refine thn_n ?_
    refine EC_cond_false rfl ?_
    refine EC_seq ?_
    refine EC_reg ?_
    refine EL_val (.bool true) w72 rfl (r_dec (show (decide ((rdNum (Rd.mk l false) 1 5) = 4)) = true from by rw [decide_eq_true_eq]; omega) (r_eql rfl rfl)) ?_
    refine EL_val (.bool true) w72 rfl (r_assign rfl) ?_
    refine EL_nil ?_
    refine thn_n ?_
    refine EC_cond_true rfl ?_
    refine EC_reg ?_
    refine EL_val (.func (.func 84) #[] [ptr b24].toArray) w72 rfl (r_move rfl) ?_
    have S250 : Sat w72 I69 (RdP (ptr q23) (rdNumS (rdNumS (rdNumS (Rd.mk l false) 1 5) 1 16) 1 1099511627776) :: Blk b24 90 [ptr q23] :: Blk b42 25 [.int .i64 (rdNum (Rd.mk l false) 1 5), .int .i64 (rdNum (rdNumS (Rd.mk l false) 1 5) 1 16), .int .i64 (rdNum (rdNumS (rdNumS (Rd.mk l false) 1 5) 1 16) 1 1099511627776), .slice none 0 0, .slice none 0 0, .int .i64 0, .int .i64 0, .int .i64 0, .slice none 0 0] :: Blk b11 25 [.int .i64 0, .int .i64 0, .int .i64 0, .slice none 0 0, .slice none 0 0, .int .i64 0, .int .i64 0, .int .i64 0, .slice none 0 0] :: R) := S76.cons_front (i := 0) rfl
    have S251 : Sat w72 I69 (Blk b24 90 [ptr q23] :: RdP (ptr q23) (rdNumS (rdNumS (rdNumS (Rd.mk l false) 1 5) 1 16) 1 1099511627776) :: Blk b42 25 [.int .i64 (rdNum (Rd.mk l false) 1 5), .int .i64 (rdNum (rdNumS (Rd.mk l false) 1 5) 1 16), .int .i64 (rdNum (rdNumS (rdNumS (Rd.mk l false) 1 5) 1 16) 1 1099511627776), .slice none 0 0, .slice none 0 0, .int .i64 0, .int .i64 0, .int .i64 0, .slice none 0 0] :: Blk b11 25 [.int .i64 0, .int .i64 0, .int .i64 0, .slice none 0 0, .slice none 0 0, .int .i64 0, .int .i64 0, .int .i64 0, .slice none 0 0] :: R) := S250.cons_front (i := 1) rfl
    refine EL_retw _ rfl rfl Try.func84 rfl nm84 rfl (who_c b24 q23 (rdNumS (rdNumS (rdNumS (Rd.mk l false) 1 5) 1 16) 1 1099511627776) I69 _ _ S251) ?_
    rintro _ w252 ⟨I254, le255, rfl, S253⟩
    have hn256 := rdNum_rng (rdNumS (rdNumS (rdNumS (Rd.mk l false) 1 5) 1 16) 1 1099511627776) 1 (hi := 16) (by omega)
    refine EL_val (ptr b42 5) w252 rfl (r_fieldP (o := 0) (s := 1) rfl Try.underlying25 rfl (by kernel_rfl) (by decide) rfl) ?_
    refine EL_storeA (j := 5) (u := .int .i64 (rdNum (rdNumS (rdNumS (rdNumS (Rd.mk l false) 1 5) 1 16) 1 1099511627776) 1 16)) rfl rfl (S253.arr 2 rfl) (by first | decide | (simp; omega) | simp) rfl (by kernel_rfl) ?_
    intro w257 A258 K259 z260
    have S261 : Sat w257 I254 (Blk b24 90 [ptr q23] :: RdP (ptr q23) (rdNumS (rdNumS (rdNumS (rdNumS (Rd.mk l false) 1 5) 1 16) 1 1099511627776) 1 16) :: Blk b42 25 [.int .i64 (rdNum (Rd.mk l false) 1 5), .int .i64 (rdNum (rdNumS (Rd.mk l false) 1 5) 1 16), .int .i64 (rdNum (rdNumS (rdNumS (Rd.mk l false) 1 5) 1 16) 1 1099511627776), .slice none 0 0, .slice none 0 0, .int .i64 (rdNum (rdNumS (rdNumS (rdNumS (Rd.mk l false) 1 5) 1 16) 1 1099511627776) 1 16), .int .i64 0, .int .i64 0, .slice none 0 0] :: Blk b11 25 [.int .i64 0, .int .i64 0, .int .i64 0, .slice none 0 0, .slice none 0 0, .int .i64 0, .int .i64 0, .int .i64 0, .slice none 0 0] :: R) := S253.wrote 2 rfl K259 A258
    refine EL_nil ?_
    refine inB_n ?_
    refine thn_n ?_
    refine EC_seq ?_
    refine EC_seq ?_
    have hde : rdEntry ⟨l, false⟩ = ((⟨rdNum (Rd.mk l false) 1 5, rdNum (rdNumS (Rd.mk l false) 1 5) 1 16, rdNum (rdNumS (rdNumS (Rd.mk l false) 1 5) 1 16) 1 1099511627776, [], [], rdNum (rdNumS (rdNumS (rdNumS (Rd.mk l false) 1 5) 1 16) 1 1099511627776) 1 16, 0, 0, []⟩ : Entry), rdNumS (rdNumS (rdNumS (rdNumS (Rd.mk l false) 1 5) 1 16) 1 1099511627776) 1 16) := by rw [rdEntry, rdBody, if_neg (by omega), if_neg (by omega), if_neg (by omega), if_pos hk]
    rcases (by cases rdEnd (rdNumS (rdNumS (rdNumS (rdNumS (Rd.mk l false) 1 5) 1 16) 1 1099511627776) 1 16) <;> simp : rdEnd (rdNumS (rdNumS (rdNumS (rdNumS (Rd.mk l false) 1 5) 1 16) 1 1099511627776) 1 16) = true ∨ rdEnd (rdNumS (rdNumS (rdNumS (rdNumS (Rd.mk l false) 1 5) 1 16) 1 1099511627776) 1 16) = false) with hen | hen
    · refine EC_reg ?_
      refine EL_val (ptr q23) w257 rfl (r_loadA rfl (S261.arr 0 rfl) (u := (ptr q23)) rfl Try.underlying90 rfl) ?_
      have S262 : Sat w257 I254 (RdP (ptr q23) (rdNumS (rdNumS (rdNumS (rdNumS (Rd.mk l false) 1 5) 1 16) 1 1099511627776) 1 16) :: Blk b24 90 [ptr q23] :: Blk b42 25 [.int .i64 (rdNum (Rd.mk l false) 1 5), .int .i64 (rdNum (rdNumS (Rd.mk l false) 1 5) 1 16), .int .i64 (rdNum (rdNumS (rdNumS (Rd.mk l false) 1 5) 1 16) 1 1099511627776), .slice none 0 0, .slice none 0 0, .int .i64 (rdNum (rdNumS (rdNumS (rdNumS (Rd.mk l false) 1 5) 1 16) 1 1099511627776) 1 16), .int .i64 0, .int .i64 0, .slice none 0 0] :: Blk b11 25 [.int .i64 0, .int .i64 0, .int .i64 0, .slice none 0 0, .slice none 0 0, .int .i64 0, .int .i64 0, .int .i64 0, .slice none 0 0] :: R) := S261.cons_front (i := 1) rfl
      refine EL_ret _ rfl Try.func61 rfl nm61 rfl (End_c (ptr q23) (rdNumS (rdNumS (rdNumS (rdNumS (Rd.mk l false) 1 5) 1 16) 1 1099511627776) 1 16) I254 _ _ S262) ?_
      rintro _ w263 ⟨rfl, S264⟩
      refine EL_val (.bool false) w263 rfl (r_dec (show (!true) = false from rfl) (r_not (Eq.trans (show _ = Value.bool (rdEnd (rdNumS (rdNumS (rdNumS (rdNumS (Rd.mk l false) 1 5) 1 16) 1 1099511627776) 1 16)) from rfl) (congrArg Value.bool (show (rdEnd (rdNumS (rdNumS (rdNumS (rdNumS (Rd.mk l false) 1 5) 1 16) 1 1099511627776) 1 16)) = true from hen))))) ?_
      refine EL_val (.bool false) w263 rfl (r_move rfl) ?_
      refine EL_gval 80 rfl rfl rfl rfl (.agg ([.int .i64 (rdNum (Rd.mk l false) 1 5), .int .i64 (rdNum (rdNumS (Rd.mk l false) 1 5) 1 16), .int .i64 (rdNum (rdNumS (rdNumS (Rd.mk l false) 1 5) 1 16) 1 1099511627776), .slice none 0 0, .slice none 0 0, .int .i64 (rdNum (rdNumS (rdNumS (rdNumS (Rd.mk l false) 1 5) 1 16) 1 1099511627776) 1 16), .int .i64 0, .int .i64 0, .slice none 0 0]).toArray) w263 rfl (r_loadAll rfl (S264.arr 2 rfl) Try.underlying25 rfl (by kernel_rfl)) ?_
      refine EL_gret 80 rfl rfl rfl rfl _ rfl Try.func19 rfl nm19 rfl (Right_c [.int .i64 (rdNum (Rd.mk l false) 1 5), .int .i64 (rdNum (rdNumS (Rd.mk l false) 1 5) 1 16), .int .i64 (rdNum (rdNumS (rdNumS (Rd.mk l false) 1 5) 1 16) 1 1099511627776), .slice none 0 0, .slice none 0 0, .int .i64 (rdNum (rdNumS (rdNumS (rdNumS (Rd.mk l false) 1 5) 1 16) 1 1099511627776) 1 16), .int .i64 0, .int .i64 0, .slice none 0 0] (⟨rdNum (Rd.mk l false) 1 5, rdNum (rdNumS (Rd.mk l false) 1 5) 1 16, rdNum (rdNumS (rdNumS (Rd.mk l false) 1 5) 1 16) 1 1099511627776, [], [], rdNum (rdNumS (rdNumS (rdNumS (Rd.mk l false) 1 5) 1 16) 1 1099511627776) 1 16, 0, 0, []⟩ : Entry) I254 _ _ S264 ⟨(.slice none 0 0), (.slice none 0 0), (.slice none 0 0), rfl, (by first | assumption | omega | (dsimp only; omega)), (by first | assumption | omega | (dsimp only; omega)), (by first | assumption | omega | (dsimp only; omega)), ⟨rfl, Ro.nil⟩, ⟨rfl, Ro.nil⟩, (by first | assumption | omega | (dsimp only; omega)), (by first | assumption | omega | (dsimp only; omega)), (by first | assumption | omega | (dsimp only; omega)), ⟨rfl, RoX.nil⟩⟩) ?_
      rintro _ w265 ⟨I267, le268, rfl, S266⟩
      refine EL_gval 80 rfl rfl rfl rfl (.bool (!((⟨rdNum (Rd.mk l false) 1 5, rdNum (rdNumS (Rd.mk l false) 1 5) 1 16, rdNum (rdNumS (rdNumS (Rd.mk l false) 1 5) 1 16) 1 1099511627776, [], [], rdNum (rdNumS (rdNumS (rdNumS (Rd.mk l false) 1 5) 1 16) 1 1099511627776) 1 16, 0, 0, []⟩ : Entry).right))) w265 rfl (r_not rfl) ?_
      refine EL_val (.bool (!((⟨rdNum (Rd.mk l false) 1 5, rdNum (rdNumS (Rd.mk l false) 1 5) 1 16, rdNum (rdNumS (rdNumS (Rd.mk l false) 1 5) 1 16) 1 1099511627776, [], [], rdNum (rdNumS (rdNumS (rdNumS (Rd.mk l false) 1 5) 1 16) 1 1099511627776) 1 16, 0, 0, []⟩ : Entry).right))) w265 rfl (r_pickF rfl rfl) ?_
      refine EL_nil ?_
      refine thn_n ?_
      refine EC_cond (t := !((⟨rdNum (Rd.mk l false) 1 5, rdNum (rdNumS (Rd.mk l false) 1 5) 1 16, rdNum (rdNumS (rdNumS (Rd.mk l false) 1 5) 1 16) 1 1099511627776, [], [], rdNum (rdNumS (rdNumS (rdNumS (Rd.mk l false) 1 5) 1 16) 1 1099511627776) 1 16, 0, 0, []⟩ : Entry).right)) rfl (fun h269 => ?_) (fun h269 => ?_)
      · have hrt : ((⟨rdNum (Rd.mk l false) 1 5, rdNum (rdNumS (Rd.mk l false) 1 5) 1 16, rdNum (rdNumS (rdNumS (Rd.mk l false) 1 5) 1 16) 1 1099511627776, [], [], rdNum (rdNumS (rdNumS (rdNumS (Rd.mk l false) 1 5) 1 16) 1 1099511627776) 1 16, 0, 0, []⟩ : Entry)).right = false := (Bool.not_eq_true' _).mp h269
        refine EC_seq ?_
        refine EC_reg ?_
        refine EL_val (.agg ([.int .i64 0, .int .i64 0, .int .i64 0, .slice none 0 0, .slice none 0 0, .int .i64 0, .int .i64 0, .int .i64 0, .slice none 0 0]).toArray) w265 rfl (r_buildS (l := []) st_25 rfl (Eq.trans (show Instr.fill _ _ [] = _ from fill_end) (by kernel_rfl))) ?_
        refine EL_storeAll (v := .agg ([.int .i64 0, .int .i64 0, .int .i64 0, .slice none 0 0, .slice none 0 0, .int .i64 0, .int .i64 0, .int .i64 0, .slice none 0 0]).toArray) (cs' := ([.int .i64 0, .int .i64 0, .int .i64 0, .slice none 0 0, .slice none 0 0, .int .i64 0, .int .i64 0, .int .i64 0, .slice none 0 0]).toArray) rfl rfl rfl (S266.arr 3 rfl) rfl (by kernel_rfl) (by simp [Value.oneCell']) ?_
        intro w270 A271 K272 z273
        have S274 : Sat w270 I267 (RdP (ptr q23) (rdNumS (rdNumS (rdNumS (rdNumS (Rd.mk l false) 1 5) 1 16) 1 1099511627776) 1 16) :: Blk b24 90 [ptr q23] :: Blk b42 25 [.int .i64 (rdNum (Rd.mk l false) 1 5), .int .i64 (rdNum (rdNumS (Rd.mk l false) 1 5) 1 16), .int .i64 (rdNum (rdNumS (rdNumS (Rd.mk l false) 1 5) 1 16) 1 1099511627776), .slice none 0 0, .slice none 0 0, .int .i64 (rdNum (rdNumS (rdNumS (rdNumS (Rd.mk l false) 1 5) 1 16) 1 1099511627776) 1 16), .int .i64 0, .int .i64 0, .slice none 0 0] :: Blk b11 25 [.int .i64 0, .int .i64 0, .int .i64 0, .slice none 0 0, .slice none 0 0, .int .i64 0, .int .i64 0, .int .i64 0, .slice none 0 0] :: R) := S266.wrote 3 rfl K272 A271
        refine EL_val (.int .i64 10) w270 rfl (r_assign rfl) ?_
        refine EL_nil ?_
        refine thn_n ?_
        refine EC_ret ?_
        refine thn_r ?_
        refine fin2c Try.results60 (show _ = ptr b11 from rfl) (show _ = .int .i64 10 from rfl) (S274.arr 3 rfl) Try.underlying25 rfl (by kernel_rfl) ⟨_, rfl, ?_⟩
        have hok : decOk l = false := by rw [decOk, hde]; dsimp only; rw [hen, hrt]; rfl
        have q275 : (decV l) = (⟨0, 0, 0, [], [], 0, 0, 0, []⟩ : Entry) := by rw [decV, hok]; rfl
        have S276 : Sat w270 I267 (Blk b24 90 [ptr q23] :: Blk b42 25 [.int .i64 (rdNum (Rd.mk l false) 1 5), .int .i64 (rdNum (rdNumS (Rd.mk l false) 1 5) 1 16), .int .i64 (rdNum (rdNumS (rdNumS (Rd.mk l false) 1 5) 1 16) 1 1099511627776), .slice none 0 0, .slice none 0 0, .int .i64 (rdNum (rdNumS (rdNumS (rdNumS (Rd.mk l false) 1 5) 1 16) 1 1099511627776) 1 16), .int .i64 0, .int .i64 0, .slice none 0 0] :: Blk b11 25 [.int .i64 0, .int .i64 0, .int .i64 0, .slice none 0 0, .slice none 0 0, .int .i64 0, .int .i64 0, .int .i64 0, .slice none 0 0] :: R) := S274.drop 0 rfl
        have S277 : Sat w270 I267 (Blk b42 25 [.int .i64 (rdNum (Rd.mk l false) 1 5), .int .i64 (rdNum (rdNumS (Rd.mk l false) 1 5) 1 16), .int .i64 (rdNum (rdNumS (rdNumS (Rd.mk l false) 1 5) 1 16) 1 1099511627776), .slice none 0 0, .slice none 0 0, .int .i64 (rdNum (rdNumS (rdNumS (rdNumS (Rd.mk l false) 1 5) 1 16) 1 1099511627776) 1 16), .int .i64 0, .int .i64 0, .slice none 0 0] :: Blk b11 25 [.int .i64 0, .int .i64 0, .int .i64 0, .slice none 0 0, .slice none 0 0, .int .i64 0, .int .i64 0, .int .i64 0, .slice none 0 0] :: R) := S276.drop 0 rfl
        have S278 : Sat w270 I267 (Blk b11 25 [.int .i64 0, .int .i64 0, .int .i64 0, .slice none 0 0, .slice none 0 0, .int .i64 0, .int .i64 0, .int .i64 0, .slice none 0 0] :: R) := S277.drop 0 rfl
        have S279 : Sat w270 I267 (R) := S278.drop 0 rfl
        exact ⟨[.int .i64 0, .int .i64 0, .int .i64 0, .slice none 0 0, .slice none 0 0, .int .i64 0, .int .i64 0, .int .i64 0, .slice none 0 0], I267, (Gh.le_trans (Gh.le_trans (Gh.le_trans (Gh.le_trans (Gh.le_trans le22 le40) le59) le70) le255) le268), (by rw [decE, hok]; rfl), (by rw [q275]; exact ⟨(.slice none 0 0), (.slice none 0 0), (.slice none 0 0), rfl, (by first | assumption | omega | (dsimp only; omega)), (by first | assumption | omega | (dsimp only; omega)), (by first | assumption | omega | (dsimp only; omega)), ⟨rfl, Ro.nil⟩, ⟨rfl, Ro.nil⟩, (by first | assumption | omega | (dsimp only; omega)), (by first | assumption | omega | (dsimp only; omega)), (by first | assumption | omega | (dsimp only; omega)), ⟨rfl, RoX.nil⟩⟩), S279⟩
      · have hrt : ((⟨rdNum (Rd.mk l false) 1 5, rdNum (rdNumS (Rd.mk l false) 1 5) 1 16, rdNum (rdNumS (rdNumS (Rd.mk l false) 1 5) 1 16) 1 1099511627776, [], [], rdNum (rdNumS (rdNumS (rdNumS (Rd.mk l false) 1 5) 1 16) 1 1099511627776) 1 16, 0, 0, []⟩ : Entry)).right = true := (Bool.not_eq_false' _).mp h269
        refine EC_skip ?_
        refine thn_n ?_
        refine EC_seq ?_
        refine EC_reg ?_
        refine EL_val (.agg ([.int .i64 (rdNum (Rd.mk l false) 1 5), .int .i64 (rdNum (rdNumS (Rd.mk l false) 1 5) 1 16), .int .i64 (rdNum (rdNumS (rdNumS (Rd.mk l false) 1 5) 1 16) 1 1099511627776), .slice none 0 0, .slice none 0 0, .int .i64 (rdNum (rdNumS (rdNumS (rdNumS (Rd.mk l false) 1 5) 1 16) 1 1099511627776) 1 16), .int .i64 0, .int .i64 0, .slice none 0 0]).toArray) w265 rfl (r_loadAll rfl (S266.arr 2 rfl) Try.underlying25 rfl (by kernel_rfl)) ?_
        refine EL_storeAll (v := .agg ([.int .i64 (rdNum (Rd.mk l false) 1 5), .int .i64 (rdNum (rdNumS (Rd.mk l false) 1 5) 1 16), .int .i64 (rdNum (rdNumS (rdNumS (Rd.mk l false) 1 5) 1 16) 1 1099511627776), .slice none 0 0, .slice none 0 0, .int .i64 (rdNum (rdNumS (rdNumS (rdNumS (Rd.mk l false) 1 5) 1 16) 1 1099511627776) 1 16), .int .i64 0, .int .i64 0, .slice none 0 0]).toArray) (cs' := ([.int .i64 (rdNum (Rd.mk l false) 1 5), .int .i64 (rdNum (rdNumS (Rd.mk l false) 1 5) 1 16), .int .i64 (rdNum (rdNumS (rdNumS (Rd.mk l false) 1 5) 1 16) 1 1099511627776), .slice none 0 0, .slice none 0 0, .int .i64 (rdNum (rdNumS (rdNumS (rdNumS (Rd.mk l false) 1 5) 1 16) 1 1099511627776) 1 16), .int .i64 0, .int .i64 0, .slice none 0 0]).toArray) rfl rfl rfl (S266.arr 3 rfl) rfl (by kernel_rfl) (by simp [Value.oneCell']) ?_
        intro w280 A281 K282 z283
        have S284 : Sat w280 I267 (RdP (ptr q23) (rdNumS (rdNumS (rdNumS (rdNumS (Rd.mk l false) 1 5) 1 16) 1 1099511627776) 1 16) :: Blk b24 90 [ptr q23] :: Blk b42 25 [.int .i64 (rdNum (Rd.mk l false) 1 5), .int .i64 (rdNum (rdNumS (Rd.mk l false) 1 5) 1 16), .int .i64 (rdNum (rdNumS (rdNumS (Rd.mk l false) 1 5) 1 16) 1 1099511627776), .slice none 0 0, .slice none 0 0, .int .i64 (rdNum (rdNumS (rdNumS (rdNumS (Rd.mk l false) 1 5) 1 16) 1 1099511627776) 1 16), .int .i64 0, .int .i64 0, .slice none 0 0] :: Blk b11 25 [.int .i64 (rdNum (Rd.mk l false) 1 5), .int .i64 (rdNum (rdNumS (Rd.mk l false) 1 5) 1 16), .int .i64 (rdNum (rdNumS (rdNumS (Rd.mk l false) 1 5) 1 16) 1 1099511627776), .slice none 0 0, .slice none 0 0, .int .i64 (rdNum (rdNumS (rdNumS (rdNumS (Rd.mk l false) 1 5) 1 16) 1 1099511627776) 1 16), .int .i64 0, .int .i64 0, .slice none 0 0] :: R) := S266.wrote 3 rfl K282 A281
        refine EL_val (.int .i64 0) w280 rfl (r_assign rfl) ?_
        refine EL_nil ?_
        refine thn_n ?_
        refine EC_ret ?_
        refine fin2c Try.results60 (show _ = ptr b11 from rfl) (show _ = .int .i64 0 from rfl) (S284.arr 3 rfl) Try.underlying25 rfl (by kernel_rfl) ⟨_, rfl, ?_⟩
        have hok : decOk l = true := by rw [decOk, hde]; dsimp only; rw [hen, hrt]; rfl
        have q285 : (decV l) = (⟨rdNum (Rd.mk l false) 1 5, rdNum (rdNumS (Rd.mk l false) 1 5) 1 16, rdNum (rdNumS (rdNumS (Rd.mk l false) 1 5) 1 16) 1 1099511627776, [], [], rdNum (rdNumS (rdNumS (rdNumS (Rd.mk l false) 1 5) 1 16) 1 1099511627776) 1 16, 0, 0, []⟩ : Entry) := by rw [decV, if_pos hok, hde]
        have S286 : Sat w280 I267 (Blk b24 90 [ptr q23] :: Blk b42 25 [.int .i64 (rdNum (Rd.mk l false) 1 5), .int .i64 (rdNum (rdNumS (Rd.mk l false) 1 5) 1 16), .int .i64 (rdNum (rdNumS (rdNumS (Rd.mk l false) 1 5) 1 16) 1 1099511627776), .slice none 0 0, .slice none 0 0, .int .i64 (rdNum (rdNumS (rdNumS (rdNumS (Rd.mk l false) 1 5) 1 16) 1 1099511627776) 1 16), .int .i64 0, .int .i64 0, .slice none 0 0] :: Blk b11 25 [.int .i64 (rdNum (Rd.mk l false) 1 5), .int .i64 (rdNum (rdNumS (Rd.mk l false) 1 5) 1 16), .int .i64 (rdNum (rdNumS (rdNumS (Rd.mk l false) 1 5) 1 16) 1 1099511627776), .slice none 0 0, .slice none 0 0, .int .i64 (rdNum (rdNumS (rdNumS (rdNumS (Rd.mk l false) 1 5) 1 16) 1 1099511627776) 1 16), .int .i64 0, .int .i64 0, .slice none 0 0] :: R) := S284.drop 0 rfl
        have S287 : Sat w280 I267 (Blk b42 25 [.int .i64 (rdNum (Rd.mk l false) 1 5), .int .i64 (rdNum (rdNumS (Rd.mk l false) 1 5) 1 16), .int .i64 (rdNum (rdNumS (rdNumS (Rd.mk l false) 1 5) 1 16) 1 1099511627776), .slice none 0 0, .slice none 0 0, .int .i64 (rdNum (rdNumS (rdNumS (rdNumS (Rd.mk l false) 1 5) 1 16) 1 1099511627776) 1 16), .int .i64 0, .int .i64 0, .slice none 0 0] :: Blk b11 25 [.int .i64 (rdNum (Rd.mk l false) 1 5), .int .i64 (rdNum (rdNumS (Rd.mk l false) 1 5) 1 16), .int .i64 (rdNum (rdNumS (rdNumS (Rd.mk l false) 1 5) 1 16) 1 1099511627776), .slice none 0 0, .slice none 0 0, .int .i64 (rdNum (rdNumS (rdNumS (rdNumS (Rd.mk l false) 1 5) 1 16) 1 1099511627776) 1 16), .int .i64 0, .int .i64 0, .slice none 0 0] :: R) := S286.drop 0 rfl
        have S288 : Sat w280 I267 (Blk b11 25 [.int .i64 (rdNum (Rd.mk l false) 1 5), .int .i64 (rdNum (rdNumS (Rd.mk l false) 1 5) 1 16), .int .i64 (rdNum (rdNumS (rdNumS (Rd.mk l false) 1 5) 1 16) 1 1099511627776), .slice none 0 0, .slice none 0 0, .int .i64 (rdNum (rdNumS (rdNumS (rdNumS (Rd.mk l false) 1 5) 1 16) 1 1099511627776) 1 16), .int .i64 0, .int .i64 0, .slice none 0 0] :: R) := S287.drop 0 rfl
        have S289 : Sat w280 I267 (R) := S288.drop 0 rfl
        exact ⟨[.int .i64 (rdNum (Rd.mk l false) 1 5), .int .i64 (rdNum (rdNumS (Rd.mk l false) 1 5) 1 16), .int .i64 (rdNum (rdNumS (rdNumS (Rd.mk l false) 1 5) 1 16) 1 1099511627776), .slice none 0 0, .slice none 0 0, .int .i64 (rdNum (rdNumS (rdNumS (rdNumS (Rd.mk l false) 1 5) 1 16) 1 1099511627776) 1 16), .int .i64 0, .int .i64 0, .slice none 0 0], I267, (Gh.le_trans (Gh.le_trans (Gh.le_trans (Gh.le_trans (Gh.le_trans le22 le40) le59) le70) le255) le268), (by rw [decE, if_pos hok]), (by rw [q285]; exact ⟨(.slice none 0 0), (.slice none 0 0), (.slice none 0 0), rfl, (by first | assumption | omega | (dsimp only; omega)), (by first | assumption | omega | (dsimp only; omega)), (by first | assumption | omega | (dsimp only; omega)), ⟨rfl, Ro.nil⟩, ⟨rfl, Ro.nil⟩, (by first | assumption | omega | (dsimp only; omega)), (by first | assumption | omega | (dsimp only; omega)), (by first | assumption | omega | (dsimp only; omega)), ⟨rfl, RoX.nil⟩⟩), S289⟩
    · refine EC_reg ?_
      refine EL_val (ptr q23) w257 rfl (r_loadA rfl (S261.arr 0 rfl) (u := (ptr q23)) rfl Try.underlying90 rfl) ?_
      have S290 : Sat w257 I254 (RdP (ptr q23) (rdNumS (rdNumS (rdNumS (rdNumS (Rd.mk l false) 1 5) 1 16) 1 1099511627776) 1 16) :: Blk b24 90 [ptr q23] :: Blk b42 25 [.int .i64 (rdNum (Rd.mk l false) 1 5), .int .i64 (rdNum (rdNumS (Rd.mk l false) 1 5) 1 16), .int .i64 (rdNum (rdNumS (rdNumS (Rd.mk l false) 1 5) 1 16) 1 1099511627776), .slice none 0 0, .slice none 0 0, .int .i64 (rdNum (rdNumS (rdNumS (rdNumS (Rd.mk l false) 1 5) 1 16) 1 1099511627776) 1 16), .int .i64 0, .int .i64 0, .slice none 0 0] :: Blk b11 25 [.int .i64 0, .int .i64 0, .int .i64 0, .slice none 0 0, .slice none 0 0, .int .i64 0, .int .i64 0, .int .i64 0, .slice none 0 0] :: R) := S261.cons_front (i := 1) rfl
      refine EL_ret _ rfl Try.func61 rfl nm61 rfl (End_c (ptr q23) (rdNumS (rdNumS (rdNumS (rdNumS (Rd.mk l false) 1 5) 1 16) 1 1099511627776) 1 16) I254 _ _ S290) ?_
      rintro _ w291 ⟨rfl, S292⟩
      refine EL_val (.bool true) w291 rfl (r_dec (show (!false) = true from rfl) (r_not (Eq.trans (show _ = Value.bool (rdEnd (rdNumS (rdNumS (rdNumS (rdNumS (Rd.mk l false) 1 5) 1 16) 1 1099511627776) 1 16)) from rfl) (congrArg Value.bool (show (rdEnd (rdNumS (rdNumS (rdNumS (rdNumS (Rd.mk l false) 1 5) 1 16) 1 1099511627776) 1 16)) = false from hen))))) ?_
      refine EL_val (.bool true) w291 rfl (r_move rfl) ?_
      refine EL_pass 80 rfl rfl rfl rfl rfl ?_
      refine EL_pass 80 rfl rfl rfl rfl rfl ?_
      refine EL_pass 80 rfl rfl rfl rfl rfl ?_
      refine EL_val (.bool true) w291 rfl (r_pickT rfl rfl) ?_
      refine EL_nil ?_
      refine thn_n ?_
      refine EC_cond_true rfl ?_
      refine EC_seq ?_
      refine EC_reg ?_
      refine EL_val (.agg ([.int .i64 0, .int .i64 0, .int .i64 0, .slice none 0 0, .slice none 0 0, .int .i64 0, .int .i64 0, .int .i64 0, .slice none 0 0]).toArray) w291 rfl (r_buildS (l := []) st_25 rfl (Eq.trans (show Instr.fill _ _ [] = _ from fill_end) (by kernel_rfl))) ?_
      refine EL_storeAll (v := .agg ([.int .i64 0, .int .i64 0, .int .i64 0, .slice none 0 0, .slice none 0 0, .int .i64 0, .int .i64 0, .int .i64 0, .slice none 0 0]).toArray) (cs' := ([.int .i64 0, .int .i64 0, .int .i64 0, .slice none 0 0, .slice none 0 0, .int .i64 0, .int .i64 0, .int .i64 0, .slice none 0 0]).toArray) rfl rfl rfl (S292.arr 3 rfl) rfl (by kernel_rfl) (by simp [Value.oneCell']) ?_
      intro w293 A294 K295 z296
      have S297 : Sat w293 I254 (RdP (ptr q23) (rdNumS (rdNumS (rdNumS (rdNumS (Rd.mk l false) 1 5) 1 16) 1 1099511627776) 1 16) :: Blk b24 90 [ptr q23] :: Blk b42 25 [.int .i64 (rdNum (Rd.mk l false) 1 5), .int .i64 (rdNum (rdNumS (Rd.mk l false) 1 5) 1 16), .int .i64 (rdNum (rdNumS (rdNumS (Rd.mk l false) 1 5) 1 16) 1 1099511627776), .slice none 0 0, .slice none 0 0, .int .i64 (rdNum (rdNumS (rdNumS (rdNumS (Rd.mk l false) 1 5) 1 16) 1 1099511627776) 1 16), .int .i64 0, .int .i64 0, .slice none 0 0] :: Blk b11 25 [.int .i64 0, .int .i64 0, .int .i64 0, .slice none 0 0, .slice none 0 0, .int .i64 0, .int .i64 0, .int .i64 0, .slice none 0 0] :: R) := S292.wrote 3 rfl K295 A294
      refine EL_val (.int .i64 10) w293 rfl (r_assign rfl) ?_
      refine EL_nil ?_
      refine thn_n ?_
      refine EC_ret ?_
      refine thn_r ?_
      refine fin2c Try.results60 (show _ = ptr b11 from rfl) (show _ = .int .i64 10 from rfl) (S297.arr 3 rfl) Try.underlying25 rfl (by kernel_rfl) ⟨_, rfl, ?_⟩
      have hok : decOk l = false := by rw [decOk, hde]; dsimp only; rw [hen, Bool.false_and]
      have q298 : (decV l) = (⟨0, 0, 0, [], [], 0, 0, 0, []⟩ : Entry) := by rw [decV, hok]; rfl
      have S299 : Sat w293 I254 (Blk b24 90 [ptr q23] :: Blk b42 25 [.int .i64 (rdNum (Rd.mk l false) 1 5), .int .i64 (rdNum (rdNumS (Rd.mk l false) 1 5) 1 16), .int .i64 (rdNum (rdNumS (rdNumS (Rd.mk l false) 1 5) 1 16) 1 1099511627776), .slice none 0 0, .slice none 0 0, .int .i64 (rdNum (rdNumS (rdNumS (rdNumS (Rd.mk l false) 1 5) 1 16) 1 1099511627776) 1 16), .int .i64 0, .int .i64 0, .slice none 0 0] :: Blk b11 25 [.int .i64 0, .int .i64 0, .int .i64 0, .slice none 0 0, .slice none 0 0, .int .i64 0, .int .i64 0, .int .i64 0, .slice none 0 0] :: R) := S297.drop 0 rfl
      have S300 : Sat w293 I254 (Blk b42 25 [.int .i64 (rdNum (Rd.mk l false) 1 5), .int .i64 (rdNum (rdNumS (Rd.mk l false) 1 5) 1 16), .int .i64 (rdNum (rdNumS (rdNumS (Rd.mk l false) 1 5) 1 16) 1 1099511627776), .slice none 0 0, .slice none 0 0, .int .i64 (rdNum (rdNumS (rdNumS (rdNumS (Rd.mk l false) 1 5) 1 16) 1 1099511627776) 1 16), .int .i64 0, .int .i64 0, .slice none 0 0] :: Blk b11 25 [.int .i64 0, .int .i64 0, .int .i64 0, .slice none 0 0, .slice none 0 0, .int .i64 0, .int .i64 0, .int .i64 0, .slice none 0 0] :: R) := S299.drop 0 rfl
      have S301 : Sat w293 I254 (Blk b11 25 [.int .i64 0, .int .i64 0, .int .i64 0, .slice none 0 0, .slice none 0 0, .int .i64 0, .int .i64 0, .int .i64 0, .slice none 0 0] :: R) := S300.drop 0 rfl
      have S302 : Sat w293 I254 (R) := S301.drop 0 rfl
      exact ⟨[.int .i64 0, .int .i64 0, .int .i64 0, .slice none 0 0, .slice none 0 0, .int .i64 0, .int .i64 0, .int .i64 0, .slice none 0 0], I254, (Gh.le_trans (Gh.le_trans (Gh.le_trans (Gh.le_trans le22 le40) le59) le70) le255), (by rw [decE, hok]; rfl), (by rw [q298]; exact ⟨(.slice none 0 0), (.slice none 0 0), (.slice none 0 0), rfl, (by first | assumption | omega | (dsimp only; omega)), (by first | assumption | omega | (dsimp only; omega)), (by first | assumption | omega | (dsimp only; omega)), ⟨rfl, Ro.nil⟩, ⟨rfl, Ro.nil⟩, (by first | assumption | omega | (dsimp only; omega)), (by first | assumption | omega | (dsimp only; omega)), (by first | assumption | omega | (dsimp only; omega)), ⟨rfl, RoX.nil⟩⟩), S302⟩
  · refine EC_reg ?_
    refine EL_val (ptr b42 0) w72 rfl (r_fieldP (o := 0) (s := 1) rfl Try.underlying25 rfl (by kernel_rfl) (by decide) rfl) ?_
    refine EL_val (.int .i64 (rdNum (Rd.mk l false) 1 5)) w72 rfl (r_loadA rfl (S76.arr 2 rfl) (u := (.int .i64 (rdNum (Rd.mk l false) 1 5))) rfl Try.underlying3 rfl) ?_
    refine EL_nil ?_
    refine thn_n ?_
    refine EC_block ?_
    refine EC_seq ?_
    refine EC_reg ?_
    refine EL_val (.bool false) w72 rfl (r_dec (show (decide ((rdNum (Rd.mk l false) 1 5) = 1)) = false from by rw [decide_eq_false_iff_not]; omega) (r_eql rfl rfl)) ?_
    refine EL_val (.bool false) w72 rfl (r_assign rfl) ?_
    refine EL_nil ?_
    refine thn_n ?_
    refine EC_cond_false rfl ?_
    refine EC_seq ?_
    refine EC_reg ?_
    refine EL_val (.bool false) w72 rfl (r_dec (show (decide ((rdNum (Rd.mk l false) 1 5) = 2)) = false from by rw [decide_eq_false_iff_not]; omega) (r_eql rfl rfl)) ?_
    refine EL_val (.bool false) w72 rfl (r_assign rfl) ?_
    refine EL_nil ?_
    refine thn_n ?_
    refine EC_cond_false rfl ?_
    refine EC_seq ?_
    refine EC_reg ?_
    refine EL_val (.bool false) w72 rfl (r_dec (show (decide ((rdNum (Rd.mk l false) 1 5) = 3)) = false from by rw [decide_eq_false_iff_not]; omega) (r_eql rfl rfl)) ?_
    refine EL_val (.bool false) w72 rfl (r_assign rfl) ?_
    refine EL_nil ?_
    refine thn_n ?_
    refine EC_cond_false rfl ?_
    refine EC_seq ?_
    refine EC_reg ?_
    refine EL_val (.bool false) w72 rfl (r_dec (show (decide ((rdNum (Rd.mk l false) 1 5) = 4)) = false from by rw [decide_eq_false_iff_not]; omega) (r_eql rfl rfl)) ?_
    refine EL_val (.bool false) w72 rfl (r_assign rfl) ?_
    refine EL_nil ?_
    refine thn_n ?_
    refine EC_cond_false rfl ?_
    refine EC_seq ?_
    refine EC_reg ?_
    refine EL_val (.bool true) w72 rfl (r_dec (show (decide ((rdNum (Rd.mk l false) 1 5) = 5)) = true from by rw [decide_eq_true_eq]; omega) (r_eql rfl rfl)) ?_
    refine EL_val (.bool true) w72 rfl (r_assign rfl) ?_
    refine EL_nil ?_
    refine thn_n ?_
    refine EC_cond_true rfl ?_
    refine EC_seq ?_
    refine EC_reg ?_
    refine EL_val (ptr q23) w72 rfl (r_loadA rfl (S76.arr 1 rfl) (u := (ptr q23)) rfl Try.underlying90 rfl) ?_
    refine EL_ret _ rfl Try.func68 rfl nm68 rfl (Number_c (ptr q23) (rdNumS (rdNumS (rdNumS (Rd.mk l false) 1 5) 1 16) 1 1099511627776) 1 16 I69 _ _ S76) ?_
    rintro _ w303 ⟨I305, le306, rfl, S304⟩
    have hn307 := rdNum_rng (rdNumS (rdNumS (rdNumS (Rd.mk l false) 1 5) 1 16) 1 1099511627776) 1 (hi := 16) (by omega)
    refine EL_val (ptr b42 7) w303 rfl (r_fieldP (o := 0) (s := 1) rfl Try.underlying25 rfl (by kernel_rfl) (by decide) rfl) ?_
    refine EL_storeA (j := 7) (u := .int .i64 (rdNum (rdNumS (rdNumS (rdNumS (Rd.mk l false) 1 5) 1 16) 1 1099511627776) 1 16)) rfl rfl (S304.arr 2 rfl) (by first | decide | (simp; omega) | simp) rfl (by kernel_rfl) ?_
    intro w308 A309 K310 z311
    have S312 : Sat w308 I305 (RdP (ptr q23) (rdNumS (rdNumS (rdNumS (rdNumS (Rd.mk l false) 1 5) 1 16) 1 1099511627776) 1 16) :: Blk b24 90 [ptr q23] :: Blk b42 25 [.int .i64 (rdNum (Rd.mk l false) 1 5), .int .i64 (rdNum (rdNumS (Rd.mk l false) 1 5) 1 16), .int .i64 (rdNum (rdNumS (rdNumS (Rd.mk l false) 1 5) 1 16) 1 1099511627776), .slice none 0 0, .slice none 0 0, .int .i64 0, .int .i64 0, .int .i64 (rdNum (rdNumS (rdNumS (rdNumS (Rd.mk l false) 1 5) 1 16) 1 1099511627776) 1 16), .slice none 0 0] :: Blk b11 25 [.int .i64 0, .int .i64 0, .int .i64 0, .slice none 0 0, .slice none 0 0, .int .i64 0, .int .i64 0, .int .i64 0, .slice none 0 0] :: R) := S304.wrote 2 rfl K310 A309
    refine EL_nil ?_
    refine thn_n ?_
    refine EC_seq ?_
    refine EC_reg ?_
    refine EL_val (ptr q23) w308 rfl (r_loadA rfl (S312.arr 1 rfl) (u := (ptr q23)) rfl Try.underlying90 rfl) ?_
    refine EL_ret _ rfl Try.func68 rfl nm68 rfl (Number_c (ptr q23) (rdNumS (rdNumS (rdNumS (rdNumS (Rd.mk l false) 1 5) 1 16) 1 1099511627776) 1 16) 0 16 I305 _ _ S312) ?_
    rintro _ w313 ⟨I315, le316, rfl, S314⟩
    have hn317 := rdNum_rng (rdNumS (rdNumS (rdNumS (rdNumS (Rd.mk l false) 1 5) 1 16) 1 1099511627776) 1 16) 0 (hi := 16) (by omega)
    refine EL_val (.int .i64 (rdNum (rdNumS (rdNumS (rdNumS (rdNumS (Rd.mk l false) 1 5) 1 16) 1 1099511627776) 1 16) 0 16)) w313 rfl (r_assign rfl) ?_
    refine EL_nil ?_
    refine thn_n ?_
    refine EC_block ?_
    have S318 : Sat w313 I315 (OwnX 62 wrapR (.slice none 0 0) [] :: RdP (ptr q23) (rdNumS (rdNumS (rdNumS (rdNumS (rdNumS (Rd.mk l false) 1 5) 1 16) 1 1099511627776) 1 16) 0 16) :: Blk b24 90 [ptr q23] :: Blk b42 25 [.int .i64 (rdNum (Rd.mk l false) 1 5), .int .i64 (rdNum (rdNumS (Rd.mk l false) 1 5) 1 16), .int .i64 (rdNum (rdNumS (rdNumS (Rd.mk l false) 1 5) 1 16) 1 1099511627776), .slice none 0 0, .slice none 0 0, .int .i64 0, .int .i64 0, .int .i64 (rdNum (rdNumS (rdNumS (rdNumS (Rd.mk l false) 1 5) 1 16) 1 1099511627776) 1 16), .slice none 0 0] :: Blk b11 25 [.int .i64 0, .int .i64 0, .int .i64 0, .slice none 0 0, .slice none 0 0, .int .i64 0, .int .i64 0, .int .i64 0, .slice none 0 0] :: R) := OwnX.nil S314 62 wrapR
    have S319 : Sat w313 I315 (Blk b11 25 [.int .i64 0, .int .i64 0, .int .i64 0, .slice none 0 0, .slice none 0 0, .int .i64 0, .int .i64 0, .int .i64 0, .slice none 0 0] :: OwnX 62 wrapR (.slice none 0 0) [] :: RdP (ptr q23) (rdNumS (rdNumS (rdNumS (rdNumS (rdNumS (Rd.mk l false) 1 5) 1 16) 1 1099511627776) 1 16) 0 16) :: Blk b24 90 [ptr q23] :: Blk b42 25 [.int .i64 (rdNum (Rd.mk l false) 1 5), .int .i64 (rdNum (rdNumS (Rd.mk l false) 1 5) 1 16), .int .i64 (rdNum (rdNumS (rdNumS (Rd.mk l false) 1 5) 1 16) 1 1099511627776), .slice none 0 0, .slice none 0 0, .int .i64 0, .int .i64 0, .int .i64 (rdNum (rdNumS (rdNumS (rdNumS (Rd.mk l false) 1 5) 1 16) 1 1099511627776) 1 16), .slice none 0 0] :: R) := S318.cons_front (i := 4) rfl
    have S320 : Sat w313 I315 (Blk b24 90 [ptr q23] :: Blk b11 25 [.int .i64 0, .int .i64 0, .int .i64 0, .slice none 0 0, .slice none 0 0, .int .i64 0, .int .i64 0, .int .i64 0, .slice none 0 0] :: OwnX 62 wrapR (.slice none 0 0) [] :: RdP (ptr q23) (rdNumS (rdNumS (rdNumS (rdNumS (rdNumS (Rd.mk l false) 1 5) 1 16) 1 1099511627776) 1 16) 0 16) :: Blk b42 25 [.int .i64 (rdNum (Rd.mk l false) 1 5), .int .i64 (rdNum (rdNumS (Rd.mk l false) 1 5) 1 16), .int .i64 (rdNum (rdNumS (rdNumS (Rd.mk l false) 1 5) 1 16) 1 1099511627776), .slice none 0 0, .slice none 0 0, .int .i64 0, .int .i64 0, .int .i64 (rdNum (rdNumS (rdNumS (rdNumS (Rd.mk l false) 1 5) 1 16) 1 1099511627776) 1 16), .slice none 0 0] :: R) := S319.cons_front (i := 3) rfl
    have S321 : Sat w313 I315 (RdP (ptr q23) (rdNumS (rdNumS (rdNumS (rdNumS (rdNumS (Rd.mk l false) 1 5) 1 16) 1 1099511627776) 1 16) 0 16) :: Blk b24 90 [ptr q23] :: Blk b11 25 [.int .i64 0, .int .i64 0, .int .i64 0, .slice none 0 0, .slice none 0 0, .int .i64 0, .int .i64 0, .int .i64 0, .slice none 0 0] :: OwnX 62 wrapR (.slice none 0 0) [] :: Blk b42 25 [.int .i64 (rdNum (Rd.mk l false) 1 5), .int .i64 (rdNum (rdNumS (Rd.mk l false) 1 5) 1 16), .int .i64 (rdNum (rdNumS (rdNumS (Rd.mk l false) 1 5) 1 16) 1 1099511627776), .slice none 0 0, .slice none 0 0, .int .i64 0, .int .i64 0, .int .i64 (rdNum (rdNumS (rdNumS (rdNumS (Rd.mk l false) 1 5) 1 16) 1 1099511627776) 1 16), .slice none 0 0] :: R) := S320.cons_front (i := 3) rfl
    have S322 : Sat w313 I315 (OwnX 62 wrapR (.slice none 0 0) [] :: RdP (ptr q23) (rdNumS (rdNumS (rdNumS (rdNumS (rdNumS (Rd.mk l false) 1 5) 1 16) 1 1099511627776) 1 16) 0 16) :: Blk b24 90 [ptr q23] :: Blk b11 25 [.int .i64 0, .int .i64 0, .int .i64 0, .slice none 0 0, .slice none 0 0, .int .i64 0, .int .i64 0, .int .i64 0, .slice none 0 0] :: Blk b42 25 [.int .i64 (rdNum (Rd.mk l false) 1 5), .int .i64 (rdNum (rdNumS (Rd.mk l false) 1 5) 1 16), .int .i64 (rdNum (rdNumS (rdNumS (Rd.mk l false) 1 5) 1 16) 1 1099511627776), .slice none 0 0, .slice none 0 0, .int .i64 0, .int .i64 0, .int .i64 (rdNum (rdNumS (rdNumS (rdNumS (Rd.mk l false) 1 5) 1 16) 1 1099511627776) 1 16), .slice none 0 0] :: R) := S321.cons_front (i := 3) rfl
    have S323 : Sat w313 I315 (Blk b42 25 [.int .i64 (rdNum (Rd.mk l false) 1 5), .int .i64 (rdNum (rdNumS (Rd.mk l false) 1 5) 1 16), .int .i64 (rdNum (rdNumS (rdNumS (Rd.mk l false) 1 5) 1 16) 1 1099511627776), .slice none 0 0, .slice none 0 0, .int .i64 0, .int .i64 0, .int .i64 (rdNum (rdNumS (rdNumS (rdNumS (Rd.mk l false) 1 5) 1 16) 1 1099511627776) 1 16), .slice none 0 0] :: OwnX 62 wrapR (.slice none 0 0) [] :: RdP (ptr q23) (rdNumS (rdNumS (rdNumS (rdNumS (rdNumS (Rd.mk l false) 1 5) 1 16) 1 1099511627776) 1 16) 0 16) :: Blk b24 90 [ptr q23] :: Blk b11 25 [.int .i64 0, .int .i64 0, .int .i64 0, .slice none 0 0, .slice none 0 0, .int .i64 0, .int .i64 0, .int .i64 0, .slice none 0 0] :: R) := S322.cons_front (i := 4) rfl
    refine EC_loop (fun m' E' w' => ∃ n : Nat, ∃ r : Rd, ∃ wv : Value, ∃ ws : List WrapT, ∃ J : Gh, m' = 0 + n ∧ E' 7 = .int .i64 (n : Int) ∧ E' 2 = ptr b11 ∧ E' 3 = .int .i64 0 ∧ E' 4 = ptr b24 ∧ E' 5 = .func (.func 84) #[] [ptr b24].toArray ∧ E' 6 = ptr b42 ∧ (rdWraps n r ws = rdWraps (rdNum (rdNumS (rdNumS (rdNumS (rdNumS (Rd.mk l false) 1 5) 1 16) 1 1099511627776) 1 16) 0 16).toNat (rdNumS (rdNumS (rdNumS (rdNumS (rdNumS (Rd.mk l false) 1 5) 1 16) 1 1099511627776) 1 16) 0 16) []) ∧ (n + ws.length ≤ 16) ∧ Gh.le I315 J ∧ Sat w' J (Blk b42 25 [.int .i64 (rdNum (Rd.mk l false) 1 5), .int .i64 (rdNum (rdNumS (Rd.mk l false) 1 5) 1 16), .int .i64 (rdNum (rdNumS (rdNumS (Rd.mk l false) 1 5) 1 16) 1 1099511627776), .slice none 0 0, .slice none 0 0, .int .i64 0, .int .i64 0, .int .i64 (rdNum (rdNumS (rdNumS (rdNumS (Rd.mk l false) 1 5) 1 16) 1 1099511627776) 1 16), wv] :: OwnX 62 wrapR wv ws :: RdP (ptr q23) r :: Blk b24 90 [ptr q23] :: Blk b11 25 [.int .i64 0, .int .i64 0, .int .i64 0, .slice none 0 0, .slice none 0 0, .int .i64 0, .int .i64 0, .int .i64 0, .slice none 0 0] :: R)) _ ⟨(rdNum (rdNumS (rdNumS (rdNumS (rdNumS (Rd.mk l false) 1 5) 1 16) 1 1099511627776) 1 16) 0 16).toNat, rdNumS (rdNumS (rdNumS (rdNumS (rdNumS (Rd.mk l false) 1 5) 1 16) 1 1099511627776) 1 16) 0 16, .slice none 0 0, [], I315, rfl, (Eq.trans (show _ = Value.int .i64 (rdNum (rdNumS (rdNumS (rdNumS (rdNumS (Rd.mk l false) 1 5) 1 16) 1 1099511627776) 1 16) 0 16) from rfl) (congrArg _ (Int.toNat_of_nonneg (by omega)).symm)), rfl, rfl, rfl, rfl, rfl, rfl, (by simp; omega), (Gh.le_refl _), S323⟩ ?_
    rintro _ E324 w325 ⟨n, r, wv, ws, I326, rfl, e327, e328, e329, e330, e331, e332, hr, hn16, le333, S334⟩
    refine EC_seq ?_
    refine EC_seq ?_
    rcases dl3 n r.bad with hq | hq | hq
    · have hx : rdWraps (rdNum (rdNumS (rdNumS (rdNumS (rdNumS (Rd.mk l false) 1 5) 1 16) 1 1099511627776) 1 16) 0 16).toNat (rdNumS (rdNumS (rdNumS (rdNumS (rdNumS (Rd.mk l false) 1 5) 1 16) 1 1099511627776) 1 16) 0 16) [] = (ws, r) := by rw [← hr, hq]; rfl
      refine EC_reg ?_
      refine EL_val (.int .i64 (n : Int)) w325 rfl (r_move (by exact e327)) ?_
      refine EL_val (.bool false) w325 rfl (r_dec (show (decide (0 < (n : Int))) = false from by simp; omega) (r_gtr rfl rfl)) ?_
      refine EL_val (.bool false) w325 rfl (r_move rfl) ?_
      refine EL_pass 58 rfl rfl rfl rfl rfl ?_
      refine EL_pass 58 rfl rfl rfl rfl rfl ?_
      refine EL_pass 58 rfl rfl rfl rfl rfl ?_
      refine EL_val (.bool false) w325 rfl (r_pickF rfl rfl) ?_
      refine EL_nil ?_
      refine thn_n ?_
      refine EC_cond_false rfl ?_
      refine EC_exit ?_
      refine thn_x ?_
      refine thn_x ?_
      refine inB_hit ?_
      refine inB_n ?_
      refine thn_n ?_
      refine EC_seq ?_
      refine EC_seq ?_
      have oH338 := (OwnX.one S334 1 rfl (by decide))
      obtain ⟨I335, le336, S337, H338⟩ : ∃ J : Gh, Gh.le I326 J ∧ Sat w325 J (Blk b42 25 [.int .i64 (rdNum (Rd.mk l false) 1 5), .int .i64 (rdNum (rdNumS (Rd.mk l false) 1 5) 1 16), .int .i64 (rdNum (rdNumS (rdNumS (Rd.mk l false) 1 5) 1 16) 1 1099511627776), .slice none 0 0, .slice none 0 0, .int .i64 0, .int .i64 0, .int .i64 (rdNum (rdNumS (rdNumS (rdNumS (Rd.mk l false) 1 5) 1 16) 1 1099511627776) 1 16), wv] :: RdP (ptr q23) r :: Blk b24 90 [ptr q23] :: Blk b11 25 [.int .i64 0, .int .i64 0, .int .i64 0, .slice none 0 0, .slice none 0 0, .int .i64 0, .int .i64 0, .int .i64 0, .slice none 0 0] :: R) ∧ RoX J wv wrapR ws := OwnX.frz S334 1 rfl (by decide)
      have hde : rdEntry ⟨l, false⟩ = ((⟨rdNum (Rd.mk l false) 1 5, rdNum (rdNumS (Rd.mk l false) 1 5) 1 16, rdNum (rdNumS (rdNumS (Rd.mk l false) 1 5) 1 16) 1 1099511627776, [], [], 0, 0, rdNum (rdNumS (rdNumS (rdNumS (Rd.mk l false) 1 5) 1 16) 1 1099511627776) 1 16, ws⟩ : Entry), r) := by rw [rdEntry, rdBody, if_neg (by omega), if_neg (by omega), if_neg (by omega), if_neg (by omega), if_pos hk]; dsimp only; rw [hx]
      rcases (by cases rdEnd r <;> simp : rdEnd r = true ∨ rdEnd r = false) with hen | hen
      · refine EC_reg ?_
        refine EL_val (ptr q23) w325 rfl (r_loadA (by exact e330) (S337.arr 2 rfl) (u := (ptr q23)) rfl Try.underlying90 rfl) ?_
        have S339 : Sat w325 I335 (RdP (ptr q23) r :: Blk b42 25 [.int .i64 (rdNum (Rd.mk l false) 1 5), .int .i64 (rdNum (rdNumS (Rd.mk l false) 1 5) 1 16), .int .i64 (rdNum (rdNumS (rdNumS (Rd.mk l false) 1 5) 1 16) 1 1099511627776), .slice none 0 0, .slice none 0 0, .int .i64 0, .int .i64 0, .int .i64 (rdNum (rdNumS (rdNumS (rdNumS (Rd.mk l false) 1 5) 1 16) 1 1099511627776) 1 16), wv] :: Blk b24 90 [ptr q23] :: Blk b11 25 [.int .i64 0, .int .i64 0, .int .i64 0, .slice none 0 0, .slice none 0 0, .int .i64 0, .int .i64 0, .int .i64 0, .slice none 0 0] :: R) := S337.cons_front (i := 1) rfl
        refine EL_ret _ rfl Try.func61 rfl nm61 rfl (End_c (ptr q23) r I335 _ _ S339) ?_
        rintro _ w340 ⟨rfl, S341⟩
        refine EL_val (.bool false) w340 rfl (r_dec (show (!true) = false from rfl) (r_not (Eq.trans (show _ = Value.bool (rdEnd r) from rfl) (congrArg Value.bool (show (rdEnd r) = true from hen))))) ?_
        refine EL_val (.bool false) w340 rfl (r_move rfl) ?_
        refine EL_gval 80 rfl rfl rfl rfl (.agg ([.int .i64 (rdNum (Rd.mk l false) 1 5), .int .i64 (rdNum (rdNumS (Rd.mk l false) 1 5) 1 16), .int .i64 (rdNum (rdNumS (rdNumS (Rd.mk l false) 1 5) 1 16) 1 1099511627776), .slice none 0 0, .slice none 0 0, .int .i64 0, .int .i64 0, .int .i64 (rdNum (rdNumS (rdNumS (rdNumS (Rd.mk l false) 1 5) 1 16) 1 1099511627776) 1 16), wv]).toArray) w340 rfl (r_loadAll (by exact e332) (S341.arr 1 rfl) Try.underlying25 rfl (by kernel_rfl)) ?_
        refine EL_gret 80 rfl rfl rfl rfl _ rfl Try.func19 rfl nm19 rfl (Right_c [.int .i64 (rdNum (Rd.mk l false) 1 5), .int .i64 (rdNum (rdNumS (Rd.mk l false) 1 5) 1 16), .int .i64 (rdNum (rdNumS (rdNumS (Rd.mk l false) 1 5) 1 16) 1 1099511627776), .slice none 0 0, .slice none 0 0, .int .i64 0, .int .i64 0, .int .i64 (rdNum (rdNumS (rdNumS (rdNumS (Rd.mk l false) 1 5) 1 16) 1 1099511627776) 1 16), wv] (⟨rdNum (Rd.mk l false) 1 5, rdNum (rdNumS (Rd.mk l false) 1 5) 1 16, rdNum (rdNumS (rdNumS (Rd.mk l false) 1 5) 1 16) 1 1099511627776, [], [], 0, 0, rdNum (rdNumS (rdNumS (rdNumS (Rd.mk l false) 1 5) 1 16) 1 1099511627776) 1 16, ws⟩ : Entry) I335 _ _ S341 ⟨(.slice none 0 0), (.slice none 0 0), wv, rfl, (by first | assumption | omega | (dsimp only; omega)), (by first | assumption | omega | (dsimp only; omega)), (by first | assumption | omega | (dsimp only; omega)), ⟨rfl, Ro.nil⟩, ⟨rfl, Ro.nil⟩, (by first | assumption | omega | (dsimp only; omega)), (by first | assumption | omega | (dsimp only; omega)), (by first | assumption | omega | (dsimp only; omega)), ⟨oH338, H338⟩⟩) ?_
        rintro _ w342 ⟨I344, le345, rfl, S343⟩
        refine EL_gval 80 rfl rfl rfl rfl (.bool (!((⟨rdNum (Rd.mk l false) 1 5, rdNum (rdNumS (Rd.mk l false) 1 5) 1 16, rdNum (rdNumS (rdNumS (Rd.mk l false) 1 5) 1 16) 1 1099511627776, [], [], 0, 0, rdNum (rdNumS (rdNumS (rdNumS (Rd.mk l false) 1 5) 1 16) 1 1099511627776) 1 16, ws⟩ : Entry).right))) w342 rfl (r_not rfl) ?_
        refine EL_val (.bool (!((⟨rdNum (Rd.mk l false) 1 5, rdNum (rdNumS (Rd.mk l false) 1 5) 1 16, rdNum (rdNumS (rdNumS (Rd.mk l false) 1 5) 1 16) 1 1099511627776, [], [], 0, 0, rdNum (rdNumS (rdNumS (rdNumS (Rd.mk l false) 1 5) 1 16) 1 1099511627776) 1 16, ws⟩ : Entry).right))) w342 rfl (r_pickF rfl rfl) ?_
        refine EL_nil ?_
        refine thn_n ?_
        refine EC_cond (t := !((⟨rdNum (Rd.mk l false) 1 5, rdNum (rdNumS (Rd.mk l false) 1 5) 1 16, rdNum (rdNumS (rdNumS (Rd.mk l false) 1 5) 1 16) 1 1099511627776, [], [], 0, 0, rdNum (rdNumS (rdNumS (rdNumS (Rd.mk l false) 1 5) 1 16) 1 1099511627776) 1 16, ws⟩ : Entry).right)) rfl (fun h346 => ?_) (fun h346 => ?_)
        · have hrt : ((⟨rdNum (Rd.mk l false) 1 5, rdNum (rdNumS (Rd.mk l false) 1 5) 1 16, rdNum (rdNumS (rdNumS (Rd.mk l false) 1 5) 1 16) 1 1099511627776, [], [], 0, 0, rdNum (rdNumS (rdNumS (rdNumS (Rd.mk l false) 1 5) 1 16) 1 1099511627776) 1 16, ws⟩ : Entry)).right = false := (Bool.not_eq_true' _).mp h346
          refine EC_seq ?_
          refine EC_reg ?_
          refine EL_val (.agg ([.int .i64 0, .int .i64 0, .int .i64 0, .slice none 0 0, .slice none 0 0, .int .i64 0, .int .i64 0, .int .i64 0, .slice none 0 0]).toArray) w342 rfl (r_buildS (l := []) st_25 rfl (Eq.trans (show Instr.fill _ _ [] = _ from fill_end) (by kernel_rfl))) ?_
          refine EL_storeAll (v := .agg ([.int .i64 0, .int .i64 0, .int .i64 0, .slice none 0 0, .slice none 0 0, .int .i64 0, .int .i64 0, .int .i64 0, .slice none 0 0]).toArray) (cs' := ([.int .i64 0, .int .i64 0, .int .i64 0, .slice none 0 0, .slice none 0 0, .int .i64 0, .int .i64 0, .int .i64 0, .slice none 0 0]).toArray) (by exact e328) rfl rfl (S343.arr 3 rfl) rfl (by kernel_rfl) (by simp [Value.oneCell']) ?_
          intro w347 A348 K349 z350
          have S351 : Sat w347 I344 (RdP (ptr q23) r :: Blk b42 25 [.int .i64 (rdNum (Rd.mk l false) 1 5), .int .i64 (rdNum (rdNumS (Rd.mk l false) 1 5) 1 16), .int .i64 (rdNum (rdNumS (rdNumS (Rd.mk l false) 1 5) 1 16) 1 1099511627776), .slice none 0 0, .slice none 0 0, .int .i64 0, .int .i64 0, .int .i64 (rdNum (rdNumS (rdNumS (rdNumS (Rd.mk l false) 1 5) 1 16) 1 1099511627776) 1 16), wv] :: Blk b24 90 [ptr q23] :: Blk b11 25 [.int .i64 0, .int .i64 0, .int .i64 0, .slice none 0 0, .slice none 0 0, .int .i64 0, .int .i64 0, .int .i64 0, .slice none 0 0] :: R) := S343.wrote 3 rfl K349 A348
          refine EL_val (.int .i64 10) w347 rfl (r_assign rfl) ?_
          refine EL_nil ?_
          refine thn_n ?_
          refine EC_ret ?_
          refine thn_r ?_
          refine fin2c Try.results60 (show _ = ptr b11 from (by exact e328)) (show _ = .int .i64 10 from rfl) (S351.arr 3 rfl) Try.underlying25 rfl (by kernel_rfl) ⟨_, rfl, ?_⟩
          have hok : decOk l = false := by rw [decOk, hde]; dsimp only; rw [hen, hrt]; rfl
          have q352 : (decV l) = (⟨0, 0, 0, [], [], 0, 0, 0, []⟩ : Entry) := by rw [decV, hok]; rfl
          have S353 : Sat w347 I344 (Blk b42 25 [.int .i64 (rdNum (Rd.mk l false) 1 5), .int .i64 (rdNum (rdNumS (Rd.mk l false) 1 5) 1 16), .int .i64 (rdNum (rdNumS (rdNumS (Rd.mk l false) 1 5) 1 16) 1 1099511627776), .slice none 0 0, .slice none 0 0, .int .i64 0, .int .i64 0, .int .i64 (rdNum (rdNumS (rdNumS (rdNumS (Rd.mk l false) 1 5) 1 16) 1 1099511627776) 1 16), wv] :: Blk b24 90 [ptr q23] :: Blk b11 25 [.int .i64 0, .int .i64 0, .int .i64 0, .slice none 0 0, .slice none 0 0, .int .i64 0, .int .i64 0, .int .i64 0, .slice none 0 0] :: R) := S351.drop 0 rfl
          have S354 : Sat w347 I344 (Blk b24 90 [ptr q23] :: Blk b11 25 [.int .i64 0, .int .i64 0, .int .i64 0, .slice none 0 0, .slice none 0 0, .int .i64 0, .int .i64 0, .int .i64 0, .slice none 0 0] :: R) := S353.drop 0 rfl
          have S355 : Sat w347 I344 (Blk b11 25 [.int .i64 0, .int .i64 0, .int .i64 0, .slice none 0 0, .slice none 0 0, .int .i64 0, .int .i64 0, .int .i64 0, .slice none 0 0] :: R) := S354.drop 0 rfl
          have S356 : Sat w347 I344 (R) := S355.drop 0 rfl
          exact ⟨[.int .i64 0, .int .i64 0, .int .i64 0, .slice none 0 0, .slice none 0 0, .int .i64 0, .int .i64 0, .int .i64 0, .slice none 0 0], I344, (Gh.le_trans (Gh.le_trans (Gh.le_trans (Gh.le_trans (Gh.le_trans (Gh.le_trans (Gh.le_trans (Gh.le_trans le22 le40) le59) le70) le306) le316) le333) le336) le345), (by rw [decE, hok]; rfl), (by rw [q352]; exact ⟨(.slice none 0 0), (.slice none 0 0), (.slice none 0 0), rfl, (by first | assumption | omega | (dsimp only; omega)), (by first | assumption | omega | (dsimp only; omega)), (by first | assumption | omega | (dsimp only; omega)), ⟨rfl, Ro.nil⟩, ⟨rfl, Ro.nil⟩, (by first | assumption | omega | (dsimp only; omega)), (by first | assumption | omega | (dsimp only; omega)), (by first | assumption | omega | (dsimp only; omega)), ⟨rfl, RoX.nil⟩⟩), S356⟩
        · have hrt : ((⟨rdNum (Rd.mk l false) 1 5, rdNum (rdNumS (Rd.mk l false) 1 5) 1 16, rdNum (rdNumS (rdNumS (Rd.mk l false) 1 5) 1 16) 1 1099511627776, [], [], 0, 0, rdNum (rdNumS (rdNumS (rdNumS (Rd.mk l false) 1 5) 1 16) 1 1099511627776) 1 16, ws⟩ : Entry)).right = true := (Bool.not_eq_false' _).mp h346
          refine EC_skip ?_
          refine thn_n ?_
          refine EC_seq ?_
          refine EC_reg ?_
          refine EL_val (.agg ([.int .i64 (rdNum (Rd.mk l false) 1 5), .int .i64 (rdNum (rdNumS (Rd.mk l false) 1 5) 1 16), .int .i64 (rdNum (rdNumS (rdNumS (Rd.mk l false) 1 5) 1 16) 1 1099511627776), .slice none 0 0, .slice none 0 0, .int .i64 0, .int .i64 0, .int .i64 (rdNum (rdNumS (rdNumS (rdNumS (Rd.mk l false) 1 5) 1 16) 1 1099511627776) 1 16), wv]).toArray) w342 rfl (r_loadAll (by exact e332) (S343.arr 1 rfl) Try.underlying25 rfl (by kernel_rfl)) ?_
          refine EL_storeAll (v := .agg ([.int .i64 (rdNum (Rd.mk l false) 1 5), .int .i64 (rdNum (rdNumS (Rd.mk l false) 1 5) 1 16), .int .i64 (rdNum (rdNumS (rdNumS (Rd.mk l false) 1 5) 1 16) 1 1099511627776), .slice none 0 0, .slice none 0 0, .int .i64 0, .int .i64 0, .int .i64 (rdNum (rdNumS (rdNumS (rdNumS (Rd.mk l false) 1 5) 1 16) 1 1099511627776) 1 16), wv]).toArray) (cs' := ([.int .i64 (rdNum (Rd.mk l false) 1 5), .int .i64 (rdNum (rdNumS (Rd.mk l false) 1 5) 1 16), .int .i64 (rdNum (rdNumS (rdNumS (Rd.mk l false) 1 5) 1 16) 1 1099511627776), .slice none 0 0, .slice none 0 0, .int .i64 0, .int .i64 0, .int .i64 (rdNum (rdNumS (rdNumS (rdNumS (Rd.mk l false) 1 5) 1 16) 1 1099511627776) 1 16), wv]).toArray) (by exact e328) rfl rfl (S343.arr 3 rfl) rfl (by kernel_rfl) (ones_cons rfl (ones_cons rfl (ones_cons rfl (ones_cons rfl (ones_cons rfl (ones_cons rfl (ones_cons rfl (ones_cons rfl (ones_cons oH338 (fun _ h => nomatch h)))))))))) ?_
          intro w357 A358 K359 z360
          have S361 : Sat w357 I344 (RdP (ptr q23) r :: Blk b42 25 [.int .i64 (rdNum (Rd.mk l false) 1 5), .int .i64 (rdNum (rdNumS (Rd.mk l false) 1 5) 1 16), .int .i64 (rdNum (rdNumS (rdNumS (Rd.mk l false) 1 5) 1 16) 1 1099511627776), .slice none 0 0, .slice none 0 0, .int .i64 0, .int .i64 0, .int .i64 (rdNum (rdNumS (rdNumS (rdNumS (Rd.mk l false) 1 5) 1 16) 1 1099511627776) 1 16), wv] :: Blk b24 90 [ptr q23] :: Blk b11 25 [.int .i64 (rdNum (Rd.mk l false) 1 5), .int .i64 (rdNum (rdNumS (Rd.mk l false) 1 5) 1 16), .int .i64 (rdNum (rdNumS (rdNumS (Rd.mk l false) 1 5) 1 16) 1 1099511627776), .slice none 0 0, .slice none 0 0, .int .i64 0, .int .i64 0, .int .i64 (rdNum (rdNumS (rdNumS (rdNumS (Rd.mk l false) 1 5) 1 16) 1 1099511627776) 1 16), wv] :: R) := S343.wrote 3 rfl K359 A358
          refine EL_val (.int .i64 0) w357 rfl (r_assign rfl) ?_
          refine EL_nil ?_
          refine thn_n ?_
          refine EC_ret ?_
          refine fin2c Try.results60 (show _ = ptr b11 from (by exact e328)) (show _ = .int .i64 0 from rfl) (S361.arr 3 rfl) Try.underlying25 rfl (by kernel_rfl) ⟨_, rfl, ?_⟩
          have hok : decOk l = true := by rw [decOk, hde]; dsimp only; rw [hen, hrt]; rfl
          have q362 : (decV l) = (⟨rdNum (Rd.mk l false) 1 5, rdNum (rdNumS (Rd.mk l false) 1 5) 1 16, rdNum (rdNumS (rdNumS (Rd.mk l false) 1 5) 1 16) 1 1099511627776, [], [], 0, 0, rdNum (rdNumS (rdNumS (rdNumS (Rd.mk l false) 1 5) 1 16) 1 1099511627776) 1 16, ws⟩ : Entry) := by rw [decV, if_pos hok, hde]
          have S363 : Sat w357 I344 (Blk b42 25 [.int .i64 (rdNum (Rd.mk l false) 1 5), .int .i64 (rdNum (rdNumS (Rd.mk l false) 1 5) 1 16), .int .i64 (rdNum (rdNumS (rdNumS (Rd.mk l false) 1 5) 1 16) 1 1099511627776), .slice none 0 0, .slice none 0 0, .int .i64 0, .int .i64 0, .int .i64 (rdNum (rdNumS (rdNumS (rdNumS (Rd.mk l false) 1 5) 1 16) 1 1099511627776) 1 16), wv] :: Blk b24 90 [ptr q23] :: Blk b11 25 [.int .i64 (rdNum (Rd.mk l false) 1 5), .int .i64 (rdNum (rdNumS (Rd.mk l false) 1 5) 1 16), .int .i64 (rdNum (rdNumS (rdNumS (Rd.mk l false) 1 5) 1 16) 1 1099511627776), .slice none 0 0, .slice none 0 0, .int .i64 0, .int .i64 0, .int .i64 (rdNum (rdNumS (rdNumS (rdNumS (Rd.mk l false) 1 5) 1 16) 1 1099511627776) 1 16), wv] :: R) := S361.drop 0 rfl
          have S364 : Sat w357 I344 (Blk b24 90 [ptr q23] :: Blk b11 25 [.int .i64 (rdNum (Rd.mk l false) 1 5), .int .i64 (rdNum (rdNumS (Rd.mk l false) 1 5) 1 16), .int .i64 (rdNum (rdNumS (rdNumS (Rd.mk l false) 1 5) 1 16) 1 1099511627776), .slice none 0 0, .slice none 0 0, .int .i64 0, .int .i64 0, .int .i64 (rdNum (rdNumS (rdNumS (rdNumS (Rd.mk l false) 1 5) 1 16) 1 1099511627776) 1 16), wv] :: R) := S363.drop 0 rfl
          have S365 : Sat w357 I344 (Blk b11 25 [.int .i64 (rdNum (Rd.mk l false) 1 5), .int .i64 (rdNum (rdNumS (Rd.mk l false) 1 5) 1 16), .int .i64 (rdNum (rdNumS (rdNumS (Rd.mk l false) 1 5) 1 16) 1 1099511627776), .slice none 0 0, .slice none 0 0, .int .i64 0, .int .i64 0, .int .i64 (rdNum (rdNumS (rdNumS (rdNumS (Rd.mk l false) 1 5) 1 16) 1 1099511627776) 1 16), wv] :: R) := S364.drop 0 rfl
          have S366 : Sat w357 I344 (R) := S365.drop 0 rfl
          exact ⟨[.int .i64 (rdNum (Rd.mk l false) 1 5), .int .i64 (rdNum (rdNumS (Rd.mk l false) 1 5) 1 16), .int .i64 (rdNum (rdNumS (rdNumS (Rd.mk l false) 1 5) 1 16) 1 1099511627776), .slice none 0 0, .slice none 0 0, .int .i64 0, .int .i64 0, .int .i64 (rdNum (rdNumS (rdNumS (rdNumS (Rd.mk l false) 1 5) 1 16) 1 1099511627776) 1 16), wv], I344, (Gh.le_trans (Gh.le_trans (Gh.le_trans (Gh.le_trans (Gh.le_trans (Gh.le_trans (Gh.le_trans (Gh.le_trans le22 le40) le59) le70) le306) le316) le333) le336) le345), (by rw [decE, if_pos hok]), (by rw [q362]; exact ⟨(.slice none 0 0), (.slice none 0 0), wv, rfl, (by first | assumption | omega | (dsimp only; omega)), (by first | assumption | omega | (dsimp only; omega)), (by first | assumption | omega | (dsimp only; omega)), ⟨rfl, Ro.nil⟩, ⟨rfl, Ro.nil⟩, (by first | assumption | omega | (dsimp only; omega)), (by first | assumption | omega | (dsimp only; omega)), (by first | assumption | omega | (dsimp only; omega)), ⟨oH338, (H338.up le345)⟩⟩), S366⟩
      · refine EC_reg ?_
        refine EL_val (ptr q23) w325 rfl (r_loadA (by exact e330) (S337.arr 2 rfl) (u := (ptr q23)) rfl Try.underlying90 rfl) ?_
        have S367 : Sat w325 I335 (RdP (ptr q23) r :: Blk b42 25 [.int .i64 (rdNum (Rd.mk l false) 1 5), .int .i64 (rdNum (rdNumS (Rd.mk l false) 1 5) 1 16), .int .i64 (rdNum (rdNumS (rdNumS (Rd.mk l false) 1 5) 1 16) 1 1099511627776), .slice none 0 0, .slice none 0 0, .int .i64 0, .int .i64 0, .int .i64 (rdNum (rdNumS (rdNumS (rdNumS (Rd.mk l false) 1 5) 1 16) 1 1099511627776) 1 16), wv] :: Blk b24 90 [ptr q23] :: Blk b11 25 [.int .i64 0, .int .i64 0, .int .i64 0, .slice none 0 0, .slice none 0 0, .int .i64 0, .int .i64 0, .int .i64 0, .slice none 0 0] :: R) := S337.cons_front (i := 1) rfl
        refine EL_ret _ rfl Try.func61 rfl nm61 rfl (End_c (ptr q23) r I335 _ _ S367) ?_
        rintro _ w368 ⟨rfl, S369⟩
        refine EL_val (.bool true) w368 rfl (r_dec (show (!false) = true from rfl) (r_not (Eq.trans (show _ = Value.bool (rdEnd r) from rfl) (congrArg Value.bool (show (rdEnd r) = false from hen))))) ?_
        refine EL_val (.bool true) w368 rfl (r_move rfl) ?_
        refine EL_pass 80 rfl rfl rfl rfl rfl ?_
        refine EL_pass 80 rfl rfl rfl rfl rfl ?_
        refine EL_pass 80 rfl rfl rfl rfl rfl ?_
        refine EL_val (.bool true) w368 rfl (r_pickT rfl rfl) ?_
        refine EL_nil ?_
        refine thn_n ?_
        refine EC_cond_true rfl ?_
        refine EC_seq ?_
        refine EC_reg ?_
        refine EL_val (.agg ([.int .i64 0, .int .i64 0, .int .i64 0, .slice none 0 0, .slice none 0 0, .int .i64 0, .int .i64 0, .int .i64 0, .slice none 0 0]).toArray) w368 rfl (r_buildS (l := []) st_25 rfl (Eq.trans (show Instr.fill _ _ [] = _ from fill_end) (by kernel_rfl))) ?_
        refine EL_storeAll (v := .agg ([.int .i64 0, .int .i64 0, .int .i64 0, .slice none 0 0, .slice none 0 0, .int .i64 0, .int .i64 0, .int .i64 0, .slice none 0 0]).toArray) (cs' := ([.int .i64 0, .int .i64 0, .int .i64 0, .slice none 0 0, .slice none 0 0, .int .i64 0, .int .i64 0, .int .i64 0, .slice none 0 0]).toArray) (by exact e328) rfl rfl (S369.arr 3 rfl) rfl (by kernel_rfl) (by simp [Value.oneCell']) ?_
        intro w370 A371 K372 z373
        have S374 : Sat w370 I335 (RdP (ptr q23) r :: Blk b42 25 [.int .i64 (rdNum (Rd.mk l false) 1 5), .int .i64 (rdNum (rdNumS (Rd.mk l false) 1 5) 1 16), .int .i64 (rdNum (rdNumS (rdNumS (Rd.mk l false) 1 5) 1 16) 1 1099511627776), .slice none 0 0, .slice none 0 0, .int .i64 0, .int .i64 0, .int .i64 (rdNum (rdNumS (rdNumS (rdNumS (Rd.mk l false) 1 5) 1 16) 1 1099511627776) 1 16), wv] :: Blk b24 90 [ptr q23] :: Blk b11 25 [.int .i64 0, .int .i64 0, .int .i64 0, .slice none 0 0, .slice none 0 0, .int .i64 0, .int .i64 0, .int .i64 0, .slice none 0 0] :: R) := S369.wrote 3 rfl K372 A371
        refine EL_val (.int .i64 10) w370 rfl (r_assign rfl) ?_
        refine EL_nil ?_
        refine thn_n ?_
        refine EC_ret ?_
        refine thn_r ?_
        refine fin2c Try.results60 (show _ = ptr b11 from (by exact e328)) (show _ = .int .i64 10 from rfl) (S374.arr 3 rfl) Try.underlying25 rfl (by kernel_rfl) ⟨_, rfl, ?_⟩
        have hok : decOk l = false := by rw [decOk, hde]; dsimp only; rw [hen, Bool.false_and]
        have q375 : (decV l) = (⟨0, 0, 0, [], [], 0, 0, 0, []⟩ : Entry) := by rw [decV, hok]; rfl
        have S376 : Sat w370 I335 (Blk b42 25 [.int .i64 (rdNum (Rd.mk l false) 1 5), .int .i64 (rdNum (rdNumS (Rd.mk l false) 1 5) 1 16), .int .i64 (rdNum (rdNumS (rdNumS (Rd.mk l false) 1 5) 1 16) 1 1099511627776), .slice none 0 0, .slice none 0 0, .int .i64 0, .int .i64 0, .int .i64 (rdNum (rdNumS (rdNumS (rdNumS (Rd.mk l false) 1 5) 1 16) 1 1099511627776) 1 16), wv] :: Blk b24 90 [ptr q23] :: Blk b11 25 [.int .i64 0, .int .i64 0, .int .i64 0, .slice none 0 0, .slice none 0 0, .int .i64 0, .int .i64 0, .int .i64 0, .slice none 0 0] :: R) := S374.drop 0 rfl
        have S377 : Sat w370 I335 (Blk b24 90 [ptr q23] :: Blk b11 25 [.int .i64 0, .int .i64 0, .int .i64 0, .slice none 0 0, .slice none 0 0, .int .i64 0, .int .i64 0, .int .i64 0, .slice none 0 0] :: R) := S376.drop 0 rfl
        have S378 : Sat w370 I335 (Blk b11 25 [.int .i64 0, .int .i64 0, .int .i64 0, .slice none 0 0, .slice none 0 0, .int .i64 0, .int .i64 0, .int .i64 0, .slice none 0 0] :: R) := S377.drop 0 rfl
        have S379 : Sat w370 I335 (R) := S378.drop 0 rfl
        exact ⟨[.int .i64 0, .int .i64 0, .int .i64 0, .slice none 0 0, .slice none 0 0, .int .i64 0, .int .i64 0, .int .i64 0, .slice none 0 0], I335, (Gh.le_trans (Gh.le_trans (Gh.le_trans (Gh.le_trans (Gh.le_trans (Gh.le_trans (Gh.le_trans le22 le40) le59) le70) le306) le316) le333) le336), (by rw [decE, hok]; rfl), (by rw [q375]; exact ⟨(.slice none 0 0), (.slice none 0 0), (.slice none 0 0), rfl, (by first | assumption | omega | (dsimp only; omega)), (by first | assumption | omega | (dsimp only; omega)), (by first | assumption | omega | (dsimp only; omega)), ⟨rfl, Ro.nil⟩, ⟨rfl, Ro.nil⟩, (by first | assumption | omega | (dsimp only; omega)), (by first | assumption | omega | (dsimp only; omega)), (by first | assumption | omega | (dsimp only; omega)), ⟨rfl, RoX.nil⟩⟩), S379⟩
    · have hx : rdWraps (rdNum (rdNumS (rdNumS (rdNumS (rdNumS (Rd.mk l false) 1 5) 1 16) 1 1099511627776) 1 16) 0 16).toNat (rdNumS (rdNumS (rdNumS (rdNumS (rdNumS (Rd.mk l false) 1 5) 1 16) 1 1099511627776) 1 16) 0 16) [] = (ws, r) := by rw [← hr]; exact rdw_bad hq.2
      refine EC_reg ?_
      refine EL_val (.int .i64 (n : Int)) w325 rfl (r_move (by exact e327)) ?_
      refine EL_val (.bool true) w325 rfl (r_dec (show (decide (0 < (n : Int))) = true from by simp; omega) (r_gtr rfl rfl)) ?_
      refine EL_val (.bool true) w325 rfl (r_move rfl) ?_
      refine EL_gval 58 rfl rfl rfl rfl (ptr q23) w325 rfl (r_loadA (by exact e330) (S334.arr 3 rfl) (u := (ptr q23)) rfl Try.underlying90 rfl) ?_
      have S380 : Sat w325 I326 (RdP (ptr q23) r :: Blk b42 25 [.int .i64 (rdNum (Rd.mk l false) 1 5), .int .i64 (rdNum (rdNumS (Rd.mk l false) 1 5) 1 16), .int .i64 (rdNum (rdNumS (rdNumS (Rd.mk l false) 1 5) 1 16) 1 1099511627776), .slice none 0 0, .slice none 0 0, .int .i64 0, .int .i64 0, .int .i64 (rdNum (rdNumS (rdNumS (rdNumS (Rd.mk l false) 1 5) 1 16) 1 1099511627776) 1 16), wv] :: OwnX 62 wrapR wv ws :: Blk b24 90 [ptr q23] :: Blk b11 25 [.int .i64 0, .int .i64 0, .int .i64 0, .slice none 0 0, .slice none 0 0, .int .i64 0, .int .i64 0, .int .i64 0, .slice none 0 0] :: R) := S334.cons_front (i := 2) rfl
      refine EL_gret 58 rfl rfl rfl rfl _ rfl Try.func85 rfl nm85 rfl (Bad_c (ptr q23) r I326 _ _ S380) ?_
      rintro _ w381 ⟨rfl, S382⟩
      refine EL_gval 58 rfl rfl rfl rfl (.bool false) w381 rfl (r_dec (show (!true) = false from rfl) (r_not (Eq.trans (show _ = Value.bool (r.bad) from rfl) (congrArg Value.bool (show (r.bad) = true from hq.2))))) ?_
      refine EL_val (.bool false) w381 rfl (r_pickT rfl rfl) ?_
      refine EL_nil ?_
      refine thn_n ?_
      refine EC_cond_false rfl ?_
      refine EC_exit ?_
      refine thn_x ?_
      refine thn_x ?_
      refine inB_hit ?_
      refine inB_n ?_
      refine thn_n ?_
      refine EC_seq ?_
      refine EC_seq ?_
      have oH386 := (OwnX.one S382 2 rfl (by decide))
      obtain ⟨I383, le384, S385, H386⟩ : ∃ J : Gh, Gh.le I326 J ∧ Sat w381 J (RdP (ptr q23) r :: Blk b42 25 [.int .i64 (rdNum (Rd.mk l false) 1 5), .int .i64 (rdNum (rdNumS (Rd.mk l false) 1 5) 1 16), .int .i64 (rdNum (rdNumS (rdNumS (Rd.mk l false) 1 5) 1 16) 1 1099511627776), .slice none 0 0, .slice none 0 0, .int .i64 0, .int .i64 0, .int .i64 (rdNum (rdNumS (rdNumS (rdNumS (Rd.mk l false) 1 5) 1 16) 1 1099511627776) 1 16), wv] :: Blk b24 90 [ptr q23] :: Blk b11 25 [.int .i64 0, .int .i64 0, .int .i64 0, .slice none 0 0, .slice none 0 0, .int .i64 0, .int .i64 0, .int .i64 0, .slice none 0 0] :: R) ∧ RoX J wv wrapR ws := OwnX.frz S382 2 rfl (by decide)
      have hde : rdEntry ⟨l, false⟩ = ((⟨rdNum (Rd.mk l false) 1 5, rdNum (rdNumS (Rd.mk l false) 1 5) 1 16, rdNum (rdNumS (rdNumS (Rd.mk l false) 1 5) 1 16) 1 1099511627776, [], [], 0, 0, rdNum (rdNumS (rdNumS (rdNumS (Rd.mk l false) 1 5) 1 16) 1 1099511627776) 1 16, ws⟩ : Entry), r) := by rw [rdEntry, rdBody, if_neg (by omega), if_neg (by omega), if_neg (by omega), if_neg (by omega), if_pos hk]; dsimp only; rw [hx]
      rcases (by cases rdEnd r <;> simp : rdEnd r = true ∨ rdEnd r = false) with hen | hen
      · refine EC_reg ?_
        refine EL_val (ptr q23) w381 rfl (r_loadA (by exact e330) (S385.arr 2 rfl) (u := (ptr q23)) rfl Try.underlying90 rfl) ?_
        refine EL_ret _ rfl Try.func61 rfl nm61 rfl (End_c (ptr q23) r I383 _ _ S385) ?_
        rintro _ w387 ⟨rfl, S388⟩
        refine EL_val (.bool false) w387 rfl (r_dec (show (!true) = false from rfl) (r_not (Eq.trans (show _ = Value.bool (rdEnd r) from rfl) (congrArg Value.bool (show (rdEnd r) = true from hen))))) ?_
        refine EL_val (.bool false) w387 rfl (r_move rfl) ?_
        refine EL_gval 80 rfl rfl rfl rfl (.agg ([.int .i64 (rdNum (Rd.mk l false) 1 5), .int .i64 (rdNum (rdNumS (Rd.mk l false) 1 5) 1 16), .int .i64 (rdNum (rdNumS (rdNumS (Rd.mk l false) 1 5) 1 16) 1 1099511627776), .slice none 0 0, .slice none 0 0, .int .i64 0, .int .i64 0, .int .i64 (rdNum (rdNumS (rdNumS (rdNumS (Rd.mk l false) 1 5) 1 16) 1 1099511627776) 1 16), wv]).toArray) w387 rfl (r_loadAll (by exact e332) (S388.arr 1 rfl) Try.underlying25 rfl (by kernel_rfl)) ?_
        refine EL_gret 80 rfl rfl rfl rfl _ rfl Try.func19 rfl nm19 rfl (Right_c [.int .i64 (rdNum (Rd.mk l false) 1 5), .int .i64 (rdNum (rdNumS (Rd.mk l false) 1 5) 1 16), .int .i64 (rdNum (rdNumS (rdNumS (Rd.mk l false) 1 5) 1 16) 1 1099511627776), .slice none 0 0, .slice none 0 0, .int .i64 0, .int .i64 0, .int .i64 (rdNum (rdNumS (rdNumS (rdNumS (Rd.mk l false) 1 5) 1 16) 1 1099511627776) 1 16), wv] (⟨rdNum (Rd.mk l false) 1 5, rdNum (rdNumS (Rd.mk l false) 1 5) 1 16, rdNum (rdNumS (rdNumS (Rd.mk l false) 1 5) 1 16) 1 1099511627776, [], [], 0, 0, rdNum (rdNumS (rdNumS (rdNumS (Rd.mk l false) 1 5) 1 16) 1 1099511627776) 1 16, ws⟩ : Entry) I383 _ _ S388 ⟨(.slice none 0 0), (.slice none 0 0), wv, rfl, (by first | assumption | omega | (dsimp only; omega)), (by first | assumption | omega | (dsimp only; omega)), (by first | assumption | omega | (dsimp only; omega)), ⟨rfl, Ro.nil⟩, ⟨rfl, Ro.nil⟩, (by first | assumption | omega | (dsimp only; omega)), (by first | assumption | omega | (dsimp only; omega)), (by first | assumption | omega | (dsimp only; omega)), ⟨oH386, H386⟩⟩) ?_
        rintro _ w389 ⟨I391, le392, rfl, S390⟩
        refine EL_gval 80 rfl rfl rfl rfl (.bool (!((⟨rdNum (Rd.mk l false) 1 5, rdNum (rdNumS (Rd.mk l false) 1 5) 1 16, rdNum (rdNumS (rdNumS (Rd.mk l false) 1 5) 1 16) 1 1099511627776, [], [], 0, 0, rdNum (rdNumS (rdNumS (rdNumS (Rd.mk l false) 1 5) 1 16) 1 1099511627776) 1 16, ws⟩ : Entry).right))) w389 rfl (r_not rfl) ?_
        refine EL_val (.bool (!((⟨rdNum (Rd.mk l false) 1 5, rdNum (rdNumS (Rd.mk l false) 1 5) 1 16, rdNum (rdNumS (rdNumS (Rd.mk l false) 1 5) 1 16) 1 1099511627776, [], [], 0, 0, rdNum (rdNumS (rdNumS (rdNumS (Rd.mk l false) 1 5) 1 16) 1 1099511627776) 1 16, ws⟩ : Entry).right))) w389 rfl (r_pickF rfl rfl) ?_
        refine EL_nil ?_
        refine thn_n ?_
        refine EC_cond (t := !((⟨rdNum (Rd.mk l false) 1 5, rdNum (rdNumS (Rd.mk l false) 1 5) 1 16, rdNum (rdNumS (rdNumS (Rd.mk l false) 1 5) 1 16) 1 1099511627776, [], [], 0, 0, rdNum (rdNumS (rdNumS (rdNumS (Rd.mk l false) 1 5) 1 16) 1 1099511627776) 1 16, ws⟩ : Entry).right)) rfl (fun h393 => ?_) (fun h393 => ?_)
        · have hrt : ((⟨rdNum (Rd.mk l false) 1 5, rdNum (rdNumS (Rd.mk l false) 1 5) 1 16, rdNum (rdNumS (rdNumS (Rd.mk l false) 1 5) 1 16) 1 1099511627776, [], [], 0, 0, rdNum (rdNumS (rdNumS (rdNumS (Rd.mk l false) 1 5) 1 16) 1 1099511627776) 1 16, ws⟩ : Entry)).right = false := (Bool.not_eq_true' _).mp h393
          refine EC_seq ?_
          refine EC_reg ?_
          refine EL_val (.agg ([.int .i64 0, .int .i64 0, .int .i64 0, .slice none 0 0, .slice none 0 0, .int .i64 0, .int .i64 0, .int .i64 0, .slice none 0 0]).toArray) w389 rfl (r_buildS (l := []) st_25 rfl (Eq.trans (show Instr.fill _ _ [] = _ from fill_end) (by kernel_rfl))) ?_
          refine EL_storeAll (v := .agg ([.int .i64 0, .int .i64 0, .int .i64 0, .slice none 0 0, .slice none 0 0, .int .i64 0, .int .i64 0, .int .i64 0, .slice none 0 0]).toArray) (cs' := ([.int .i64 0, .int .i64 0, .int .i64 0, .slice none 0 0, .slice none 0 0, .int .i64 0, .int .i64 0, .int .i64 0, .slice none 0 0]).toArray) (by exact e328) rfl rfl (S390.arr 3 rfl) rfl (by kernel_rfl) (by simp [Value.oneCell']) ?_
          intro w394 A395 K396 z397
          have S398 : Sat w394 I391 (RdP (ptr q23) r :: Blk b42 25 [.int .i64 (rdNum (Rd.mk l false) 1 5), .int .i64 (rdNum (rdNumS (Rd.mk l false) 1 5) 1 16), .int .i64 (rdNum (rdNumS (rdNumS (Rd.mk l false) 1 5) 1 16) 1 1099511627776), .slice none 0 0, .slice none 0 0, .int .i64 0, .int .i64 0, .int .i64 (rdNum (rdNumS (rdNumS (rdNumS (Rd.mk l false) 1 5) 1 16) 1 1099511627776) 1 16), wv] :: Blk b24 90 [ptr q23] :: Blk b11 25 [.int .i64 0, .int .i64 0, .int .i64 0, .slice none 0 0, .slice none 0 0, .int .i64 0, .int .i64 0, .int .i64 0, .slice none 0 0] :: R) := S390.wrote 3 rfl K396 A395
          refine EL_val (.int .i64 10) w394 rfl (r_assign rfl) ?_
          refine EL_nil ?_
          refine thn_n ?_
          refine EC_ret ?_
          refine thn_r ?_
          refine fin2c Try.results60 (show _ = ptr b11 from (by exact e328)) (show _ = .int .i64 10 from rfl) (S398.arr 3 rfl) Try.underlying25 rfl (by kernel_rfl) ⟨_, rfl, ?_⟩
          have hok : decOk l = false := by rw [decOk, hde]; dsimp only; rw [hen, hrt]; rfl
          have q399 : (decV l) = (⟨0, 0, 0, [], [], 0, 0, 0, []⟩ : Entry) := by rw [decV, hok]; rfl
          have S400 : Sat w394 I391 (Blk b42 25 [.int .i64 (rdNum (Rd.mk l false) 1 5), .int .i64 (rdNum (rdNumS (Rd.mk l false) 1 5) 1 16), .int .i64 (rdNum (rdNumS (rdNumS (Rd.mk l false) 1 5) 1 16) 1 1099511627776), .slice none 0 0, .slice none 0 0, .int .i64 0, .int .i64 0, .int .i64 (rdNum (rdNumS (rdNumS (rdNumS (Rd.mk l false) 1 5) 1 16) 1 1099511627776) 1 16), wv] :: Blk b24 90 [ptr q23] :: Blk b11 25 [.int .i64 0, .int .i64 0, .int .i64 0, .slice none 0 0, .slice none 0 0, .int .i64 0, .int .i64 0, .int .i64 0, .slice none 0 0] :: R) := S398.drop 0 rfl
          have S401 : Sat w394 I391 (Blk b24 90 [ptr q23] :: Blk b11 25 [.int .i64 0, .int .i64 0, .int .i64 0, .slice none 0 0, .slice none 0 0, .int .i64 0, .int .i64 0, .int .i64 0, .slice none 0 0] :: R) := S400.drop 0 rfl
          have S402 : Sat w394 I391 (Blk b11 25 [.int .i64 0, .int .i64 0, .int .i64 0, .slice none 0 0, .slice none 0 0, .int .i64 0, .int .i64 0, .int .i64 0, .slice none 0 0] :: R) := S401.drop 0 rfl
          have S403 : Sat w394 I391 (R) := S402.drop 0 rfl
          exact ⟨[.int .i64 0, .int .i64 0, .int .i64 0, .slice none 0 0, .slice none 0 0, .int .i64 0, .int .i64 0, .int .i64 0, .slice none 0 0], I391, (Gh.le_trans (Gh.le_trans (Gh.le_trans (Gh.le_trans (Gh.le_trans (Gh.le_trans (Gh.le_trans (Gh.le_trans le22 le40) le59) le70) le306) le316) le333) le384) le392), (by rw [decE, hok]; rfl), (by rw [q399]; exact ⟨(.slice none 0 0), (.slice none 0 0), (.slice none 0 0), rfl, (by first | assumption | omega | (dsimp only; omega)), (by first | assumption | omega | (dsimp only; omega)), (by first | assumption | omega | (dsimp only; omega)), ⟨rfl, Ro.nil⟩, ⟨rfl, Ro.nil⟩, (by first | assumption | omega | (dsimp only; omega)), (by first | assumption | omega | (dsimp only; omega)), (by first | assumption | omega | (dsimp only; omega)), ⟨rfl, RoX.nil⟩⟩), S403⟩
        · have hrt : ((⟨rdNum (Rd.mk l false) 1 5, rdNum (rdNumS (Rd.mk l false) 1 5) 1 16, rdNum (rdNumS (rdNumS (Rd.mk l false) 1 5) 1 16) 1 1099511627776, [], [], 0, 0, rdNum (rdNumS (rdNumS (rdNumS (Rd.mk l false) 1 5) 1 16) 1 1099511627776) 1 16, ws⟩ : Entry)).right = true := (Bool.not_eq_false' _).mp h393
          refine EC_skip ?_
          refine thn_n ?_
          refine EC_seq ?_
          refine EC_reg ?_
          refine EL_val (.agg ([.int .i64 (rdNum (Rd.mk l false) 1 5), .int .i64 (rdNum (rdNumS (Rd.mk l false) 1 5) 1 16), .int .i64 (rdNum (rdNumS (rdNumS (Rd.mk l false) 1 5) 1 16) 1 1099511627776), .slice none 0 0, .slice none 0 0, .int .i64 0, .int .i64 0, .int .i64 (rdNum (rdNumS (rdNumS (rdNumS (Rd.mk l false) 1 5) 1 16) 1 1099511627776) 1 16), wv]).toArray) w389 rfl (r_loadAll (by exact e332) (S390.arr 1 rfl) Try.underlying25 rfl (by kernel_rfl)) ?_
          refine EL_storeAll (v := .agg ([.int .i64 (rdNum (Rd.mk l false) 1 5), .int .i64 (rdNum (rdNumS (Rd.mk l false) 1 5) 1 16), .int .i64 (rdNum (rdNumS (rdNumS (Rd.mk l false) 1 5) 1 16) 1 1099511627776), .slice none 0 0, .slice none 0 0, .int .i64 0, .int .i64 0, .int .i64 (rdNum (rdNumS (rdNumS (rdNumS (Rd.mk l false) 1 5) 1 16) 1 1099511627776) 1 16), wv]).toArray) (cs' := ([.int .i64 (rdNum (Rd.mk l false) 1 5), .int .i64 (rdNum (rdNumS (Rd.mk l false) 1 5) 1 16), .int .i64 (rdNum (rdNumS (rdNumS (Rd.mk l false) 1 5) 1 16) 1 1099511627776), .slice none 0 0, .slice none 0 0, .int .i64 0, .int .i64 0, .int .i64 (rdNum (rdNumS (rdNumS (rdNumS (Rd.mk l false) 1 5) 1 16) 1 1099511627776) 1 16), wv]).toArray) (by exact e328) rfl rfl (S390.arr 3 rfl) rfl (by kernel_rfl) (ones_cons rfl (ones_cons rfl (ones_cons rfl (ones_cons rfl (ones_cons rfl (ones_cons rfl (ones_cons rfl (ones_cons rfl (ones_cons oH386 (fun _ h => nomatch h)))))))))) ?_
          intro w404 A405 K406 z407
          have S408 : Sat w404 I391 (RdP (ptr q23) r :: Blk b42 25 [.int .i64 (rdNum (Rd.mk l false) 1 5), .int .i64 (rdNum (rdNumS (Rd.mk l false) 1 5) 1 16), .int .i64 (rdNum (rdNumS (rdNumS (Rd.mk l false) 1 5) 1 16) 1 1099511627776), .slice none 0 0, .slice none 0 0, .int .i64 0, .int .i64 0, .int .i64 (rdNum (rdNumS (rdNumS (rdNumS (Rd.mk l false) 1 5) 1 16) 1 1099511627776) 1 16), wv] :: Blk b24 90 [ptr q23] :: Blk b11 25 [.int .i64 (rdNum (Rd.mk l false) 1 5), .int .i64 (rdNum (rdNumS (Rd.mk l false) 1 5) 1 16), .int .i64 (rdNum (rdNumS (rdNumS (Rd.mk l false) 1 5) 1 16) 1 1099511627776), .slice none 0 0, .slice none 0 0, .int .i64 0, .int .i64 0, .int .i64 (rdNum (rdNumS (rdNumS (rdNumS (Rd.mk l false) 1 5) 1 16) 1 1099511627776) 1 16), wv] :: R) := S390.wrote 3 rfl K406 A405
          refine EL_val (.int .i64 0) w404 rfl (r_assign rfl) ?_
          refine EL_nil ?_
          refine thn_n ?_
          refine EC_ret ?_
          refine fin2c Try.results60 (show _ = ptr b11 from (by exact e328)) (show _ = .int .i64 0 from rfl) (S408.arr 3 rfl) Try.underlying25 rfl (by kernel_rfl) ⟨_, rfl, ?_⟩
          have hok : decOk l = true := by rw [decOk, hde]; dsimp only; rw [hen, hrt]; rfl
          have q409 : (decV l) = (⟨rdNum (Rd.mk l false) 1 5, rdNum (rdNumS (Rd.mk l false) 1 5) 1 16, rdNum (rdNumS (rdNumS (Rd.mk l false) 1 5) 1 16) 1 1099511627776, [], [], 0, 0, rdNum (rdNumS (rdNumS (rdNumS (Rd.mk l false) 1 5) 1 16) 1 1099511627776) 1 16, ws⟩ : Entry) := by rw [decV, if_pos hok, hde]
          have S410 : Sat w404 I391 (Blk b42 25 [.int .i64 (rdNum (Rd.mk l false) 1 5), .int .i64 (rdNum (rdNumS (Rd.mk l false) 1 5) 1 16), .int .i64 (rdNum (rdNumS (rdNumS (Rd.mk l false) 1 5) 1 16) 1 1099511627776), .slice none 0 0, .slice none 0 0, .int .i64 0, .int .i64 0, .int .i64 (rdNum (rdNumS (rdNumS (rdNumS (Rd.mk l false) 1 5) 1 16) 1 1099511627776) 1 16), wv] :: Blk b24 90 [ptr q23] :: Blk b11 25 [.int .i64 (rdNum (Rd.mk l false) 1 5), .int .i64 (rdNum (rdNumS (Rd.mk l false) 1 5) 1 16), .int .i64 (rdNum (rdNumS (rdNumS (Rd.mk l false) 1 5) 1 16) 1 1099511627776), .slice none 0 0, .slice none 0 0, .int .i64 0, .int .i64 0, .int .i64 (rdNum (rdNumS (rdNumS (rdNumS (Rd.mk l false) 1 5) 1 16) 1 1099511627776) 1 16), wv] :: R) := S408.drop 0 rfl
          have S411 : Sat w404 I391 (Blk b24 90 [ptr q23] :: Blk b11 25 [.int .i64 (rdNum (Rd.mk l false) 1 5), .int .i64 (rdNum (rdNumS (Rd.mk l false) 1 5) 1 16), .int .i64 (rdNum (rdNumS (rdNumS (Rd.mk l false) 1 5) 1 16) 1 1099511627776), .slice none 0 0, .slice none 0 0, .int .i64 0, .int .i64 0, .int .i64 (rdNum (rdNumS (rdNumS (rdNumS (Rd.mk l false) 1 5) 1 16) 1 1099511627776) 1 16), wv] :: R) := S410.drop 0 rfl
          have S412 : Sat w404 I391 (Blk b11 25 [.int .i64 (rdNum (Rd.mk l false) 1 5), .int .i64 (rdNum (rdNumS (Rd.mk l false) 1 5) 1 16), .int .i64 (rdNum (rdNumS (rdNumS (Rd.mk l false) 1 5) 1 16) 1 1099511627776), .slice none 0 0, .slice none 0 0, .int .i64 0, .int .i64 0, .int .i64 (rdNum (rdNumS (rdNumS (rdNumS (Rd.mk l false) 1 5) 1 16) 1 1099511627776) 1 16), wv] :: R) := S411.drop 0 rfl
          have S413 : Sat w404 I391 (R) := S412.drop 0 rfl
          exact ⟨[.int .i64 (rdNum (Rd.mk l false) 1 5), .int .i64 (rdNum (rdNumS (Rd.mk l false) 1 5) 1 16), .int .i64 (rdNum (rdNumS (rdNumS (Rd.mk l false) 1 5) 1 16) 1 1099511627776), .slice none 0 0, .slice none 0 0, .int .i64 0, .int .i64 0, .int .i64 (rdNum (rdNumS (rdNumS (rdNumS (Rd.mk l false) 1 5) 1 16) 1 1099511627776) 1 16), wv], I391, (Gh.le_trans (Gh.le_trans (Gh.le_trans (Gh.le_trans (Gh.le_trans (Gh.le_trans (Gh.le_trans (Gh.le_trans le22 le40) le59) le70) le306) le316) le333) le384) le392), (by rw [decE, if_pos hok]), (by rw [q409]; exact ⟨(.slice none 0 0), (.slice none 0 0), wv, rfl, (by first | assumption | omega | (dsimp only; omega)), (by first | assumption | omega | (dsimp only; omega)), (by first | assumption | omega | (dsimp only; omega)), ⟨rfl, Ro.nil⟩, ⟨rfl, Ro.nil⟩, (by first | assumption | omega | (dsimp only; omega)), (by first | assumption | omega | (dsimp only; omega)), (by first | assumption | omega | (dsimp only; omega)), ⟨oH386, (H386.up le392)⟩⟩), S413⟩
      · refine EC_reg ?_
        refine EL_val (ptr q23) w381 rfl (r_loadA (by exact e330) (S385.arr 2 rfl) (u := (ptr q23)) rfl Try.underlying90 rfl) ?_
        refine EL_ret _ rfl Try.func61 rfl nm61 rfl (End_c (ptr q23) r I383 _ _ S385) ?_
        rintro _ w414 ⟨rfl, S415⟩
        refine EL_val (.bool true) w414 rfl (r_dec (show (!false) = true from rfl) (r_not (Eq.trans (show _ = Value.bool (rdEnd r) from rfl) (congrArg Value.bool (show (rdEnd r) = false from hen))))) ?_
        refine EL_val (.bool true) w414 rfl (r_move rfl) ?_
        refine EL_pass 80 rfl rfl rfl rfl rfl ?_
        refine EL_pass 80 rfl rfl rfl rfl rfl ?_
        refine EL_pass 80 rfl rfl rfl rfl rfl ?_
        refine EL_val (.bool true) w414 rfl (r_pickT rfl rfl) ?_
        refine EL_nil ?_
        refine thn_n ?_
        refine EC_cond_true rfl ?_
        refine EC_seq ?_
        refine EC_reg ?_
        refine EL_val (.agg ([.int .i64 0, .int .i64 0, .int .i64 0, .slice none 0 0, .slice none 0 0, .int .i64 0, .int .i64 0, .int .i64 0, .slice none 0 0]).toArray) w414 rfl (r_buildS (l := []) st_25 rfl (Eq.trans (show Instr.fill _ _ [] = _ from fill_end) (by kernel_rfl))) ?_
        refine EL_storeAll (v := .agg ([.int .i64 0, .int .i64 0, .int .i64 0, .slice none 0 0, .slice none 0 0, .int .i64 0, .int .i64 0, .int .i64 0, .slice none 0 0]).toArray) (cs' := ([.int .i64 0, .int .i64 0, .int .i64 0, .slice none 0 0, .slice none 0 0, .int .i64 0, .int .i64 0, .int .i64 0, .slice none 0 0]).toArray) (by exact e328) rfl rfl (S415.arr 3 rfl) rfl (by kernel_rfl) (by simp [Value.oneCell']) ?_
        intro w416 A417 K418 z419
        have S420 : Sat w416 I383 (RdP (ptr q23) r :: Blk b42 25 [.int .i64 (rdNum (Rd.mk l false) 1 5), .int .i64 (rdNum (rdNumS (Rd.mk l false) 1 5) 1 16), .int .i64 (rdNum (rdNumS (rdNumS (Rd.mk l false) 1 5) 1 16) 1 1099511627776), .slice none 0 0, .slice none 0 0, .int .i64 0, .int .i64 0, .int .i64 (rdNum (rdNumS (rdNumS (rdNumS (Rd.mk l false) 1 5) 1 16) 1 1099511627776) 1 16), wv] :: Blk b24 90 [ptr q23] :: Blk b11 25 [.int .i64 0, .int .i64 0, .int .i64 0, .slice none 0 0, .slice none 0 0, .int .i64 0, .int .i64 0, .int .i64 0, .slice none 0 0] :: R) := S415.wrote 3 rfl K418 A417
        refine EL_val (.int .i64 10) w416 rfl (r_assign rfl) ?_
        refine EL_nil ?_
        refine thn_n ?_
        refine EC_ret ?_
        refine thn_r ?_
        refine fin2c Try.results60 (show _ = ptr b11 from (by exact e328)) (show _ = .int .i64 10 from rfl) (S420.arr 3 rfl) Try.underlying25 rfl (by kernel_rfl) ⟨_, rfl, ?_⟩
        have hok : decOk l = false := by rw [decOk, hde]; dsimp only; rw [hen, Bool.false_and]
        have q421 : (decV l) = (⟨0, 0, 0, [], [], 0, 0, 0, []⟩ : Entry) := by rw [decV, hok]; rfl
        have S422 : Sat w416 I383 (Blk b42 25 [.int .i64 (rdNum (Rd.mk l false) 1 5), .int .i64 (rdNum (rdNumS (Rd.mk l false) 1 5) 1 16), .int .i64 (rdNum (rdNumS (rdNumS (Rd.mk l false) 1 5) 1 16) 1 1099511627776), .slice none 0 0, .slice none 0 0, .int .i64 0, .int .i64 0, .int .i64 (rdNum (rdNumS (rdNumS (rdNumS (Rd.mk l false) 1 5) 1 16) 1 1099511627776) 1 16), wv] :: Blk b24 90 [ptr q23] :: Blk b11 25 [.int .i64 0, .int .i64 0, .int .i64 0, .slice none 0 0, .slice none 0 0, .int .i64 0, .int .i64 0, .int .i64 0, .slice none 0 0] :: R) := S420.drop 0 rfl
        have S423 : Sat w416 I383 (Blk b24 90 [ptr q23] :: Blk b11 25 [.int .i64 0, .int .i64 0, .int .i64 0, .slice none 0 0, .slice none 0 0, .int .i64 0, .int .i64 0, .int .i64 0, .slice none 0 0] :: R) := S422.drop 0 rfl
        have S424 : Sat w416 I383 (Blk b11 25 [.int .i64 0, .int .i64 0, .int .i64 0, .slice none 0 0, .slice none 0 0, .int .i64 0, .int .i64 0, .int .i64 0, .slice none 0 0] :: R) := S423.drop 0 rfl
        have S425 : Sat w416 I383 (R) := S424.drop 0 rfl
        exact ⟨[.int .i64 0, .int .i64 0, .int .i64 0, .slice none 0 0, .slice none 0 0, .int .i64 0, .int .i64 0, .int .i64 0, .slice none 0 0], I383, (Gh.le_trans (Gh.le_trans (Gh.le_trans (Gh.le_trans (Gh.le_trans (Gh.le_trans (Gh.le_trans le22 le40) le59) le70) le306) le316) le333) le384), (by rw [decE, hok]; rfl), (by rw [q421]; exact ⟨(.slice none 0 0), (.slice none 0 0), (.slice none 0 0), rfl, (by first | assumption | omega | (dsimp only; omega)), (by first | assumption | omega | (dsimp only; omega)), (by first | assumption | omega | (dsimp only; omega)), ⟨rfl, Ro.nil⟩, ⟨rfl, Ro.nil⟩, (by first | assumption | omega | (dsimp only; omega)), (by first | assumption | omega | (dsimp only; omega)), (by first | assumption | omega | (dsimp only; omega)), ⟨rfl, RoX.nil⟩⟩), S425⟩
    · refine EC_reg ?_
      refine EL_val (.int .i64 (n : Int)) w325 rfl (r_move (by exact e327)) ?_
      refine EL_val (.bool true) w325 rfl (r_dec (show (decide (0 < (n : Int))) = true from by simp; omega) (r_gtr rfl rfl)) ?_
      refine EL_val (.bool true) w325 rfl (r_move rfl) ?_
      refine EL_gval 58 rfl rfl rfl rfl (ptr q23) w325 rfl (r_loadA (by exact e330) (S334.arr 3 rfl) (u := (ptr q23)) rfl Try.underlying90 rfl) ?_
      have S426 : Sat w325 I326 (RdP (ptr q23) r :: Blk b42 25 [.int .i64 (rdNum (Rd.mk l false) 1 5), .int .i64 (rdNum (rdNumS (Rd.mk l false) 1 5) 1 16), .int .i64 (rdNum (rdNumS (rdNumS (Rd.mk l false) 1 5) 1 16) 1 1099511627776), .slice none 0 0, .slice none 0 0, .int .i64 0, .int .i64 0, .int .i64 (rdNum (rdNumS (rdNumS (rdNumS (Rd.mk l false) 1 5) 1 16) 1 1099511627776) 1 16), wv] :: OwnX 62 wrapR wv ws :: Blk b24 90 [ptr q23] :: Blk b11 25 [.int .i64 0, .int .i64 0, .int .i64 0, .slice none 0 0, .slice none 0 0, .int .i64 0, .int .i64 0, .int .i64 0, .slice none 0 0] :: R) := S334.cons_front (i := 2) rfl
      refine EL_gret 58 rfl rfl rfl rfl _ rfl Try.func85 rfl nm85 rfl (Bad_c (ptr q23) r I326 _ _ S426) ?_
      rintro _ w427 ⟨rfl, S428⟩
      refine EL_gval 58 rfl rfl rfl rfl (.bool true) w427 rfl (r_dec (show (!false) = true from rfl) (r_not (Eq.trans (show _ = Value.bool (r.bad) from rfl) (congrArg Value.bool (show (r.bad) = false from hq.2))))) ?_
      refine EL_val (.bool true) w427 rfl (r_pickT rfl rfl) ?_
      refine EL_nil ?_
      refine thn_n ?_
      refine EC_cond_true rfl ?_
      refine EC_skip ?_
      refine thn_n ?_
      refine EC_seq ?_
      refine EC_block ?_
      refine EC_seq ?_
      refine EC_reg ?_
      refine EL_val (.func (.func 84) #[] [ptr b24].toArray) w427 rfl (r_move (by exact e331)) ?_
      have S429 : Sat w427 I326 (RdP (ptr q23) r :: Blk b42 25 [.int .i64 (rdNum (Rd.mk l false) 1 5), .int .i64 (rdNum (rdNumS (Rd.mk l false) 1 5) 1 16), .int .i64 (rdNum (rdNumS (rdNumS (Rd.mk l false) 1 5) 1 16) 1 1099511627776), .slice none 0 0, .slice none 0 0, .int .i64 0, .int .i64 0, .int .i64 (rdNum (rdNumS (rdNumS (rdNumS (Rd.mk l false) 1 5) 1 16) 1 1099511627776) 1 16), wv] :: OwnX 62 wrapR wv ws :: Blk b24 90 [ptr q23] :: Blk b11 25 [.int .i64 0, .int .i64 0, .int .i64 0, .slice none 0 0, .slice none 0 0, .int .i64 0, .int .i64 0, .int .i64 0, .slice none 0 0] :: R) := S428.cons_front (i := 0) rfl
      have S430 : Sat w427 I326 (Blk b24 90 [ptr q23] :: RdP (ptr q23) r :: Blk b42 25 [.int .i64 (rdNum (Rd.mk l false) 1 5), .int .i64 (rdNum (rdNumS (Rd.mk l false) 1 5) 1 16), .int .i64 (rdNum (rdNumS (rdNumS (Rd.mk l false) 1 5) 1 16) 1 1099511627776), .slice none 0 0, .slice none 0 0, .int .i64 0, .int .i64 0, .int .i64 (rdNum (rdNumS (rdNumS (rdNumS (Rd.mk l false) 1 5) 1 16) 1 1099511627776) 1 16), wv] :: OwnX 62 wrapR wv ws :: Blk b11 25 [.int .i64 0, .int .i64 0, .int .i64 0, .slice none 0 0, .slice none 0 0, .int .i64 0, .int .i64 0, .int .i64 0, .slice none 0 0] :: R) := S429.cons_front (i := 3) rfl
      refine EL_retw _ rfl rfl Try.func84 rfl nm84 rfl (who_c b24 q23 r I326 _ _ S430) ?_
      rintro _ w431 ⟨I433, le434, rfl, S432⟩
      have hn435 := rdNum_rng r 1 (hi := 16) (by omega)
      refine EL_val (.agg ([.int .i64 (rdNum r 1 16), .slice none 0 0]).toArray) w431 rfl (r_buildS (l := [(0, .int .i64 (rdNum r 1 16))]) st_62 (parts1 rfl) (Eq.trans (show Instr.fill _ _ [(0, .int .i64 (rdNum r 1 16))] = _ from (fill_one rfl rfl rfl fill_end)) (by kernel_rfl))) ?_
      refine EL_alloc (z := .agg #[.int .i64 0, .slice none 0 0]) [.int .i64 0, .slice none 0 0] rfl (by kernel_rfl) rfl ?_
      intro b436 w437 k438 A439 B440 z441
      have S442 : Sat w437 I433 (Blk b436 62 [.int .i64 0, .slice none 0 0] :: Blk b24 90 [ptr q23] :: RdP (ptr q23) (rdNumS r 1 16) :: Blk b42 25 [.int .i64 (rdNum (Rd.mk l false) 1 5), .int .i64 (rdNum (rdNumS (Rd.mk l false) 1 5) 1 16), .int .i64 (rdNum (rdNumS (rdNumS (Rd.mk l false) 1 5) 1 16) 1 1099511627776), .slice none 0 0, .slice none 0 0, .int .i64 0, .int .i64 0, .int .i64 (rdNum (rdNumS (rdNumS (rdNumS (Rd.mk l false) 1 5) 1 16) 1 1099511627776) 1 16), wv] :: OwnX 62 wrapR wv ws :: Blk b11 25 [.int .i64 0, .int .i64 0, .int .i64 0, .slice none 0 0, .slice none 0 0, .int .i64 0, .int .i64 0, .int .i64 0, .slice none 0 0] :: R) := S432.newB B440 A439 k438
      refine EL_storeAll (v := .agg ([.int .i64 (rdNum r 1 16), .slice none 0 0]).toArray) (cs' := ([.int .i64 (rdNum r 1 16), .slice none 0 0]).toArray) rfl rfl rfl (S442.arr 0 rfl) rfl (by kernel_rfl) (by simp [Value.oneCell']) ?_
      intro w443 A444 K445 z446
      have S447 : Sat w443 I433 (Blk b436 62 [.int .i64 (rdNum r 1 16), .slice none 0 0] :: Blk b24 90 [ptr q23] :: RdP (ptr q23) (rdNumS r 1 16) :: Blk b42 25 [.int .i64 (rdNum (Rd.mk l false) 1 5), .int .i64 (rdNum (rdNumS (Rd.mk l false) 1 5) 1 16), .int .i64 (rdNum (rdNumS (rdNumS (Rd.mk l false) 1 5) 1 16) 1 1099511627776), .slice none 0 0, .slice none 0 0, .int .i64 0, .int .i64 0, .int .i64 (rdNum (rdNumS (rdNumS (rdNumS (Rd.mk l false) 1 5) 1 16) 1 1099511627776) 1 16), wv] :: OwnX 62 wrapR wv ws :: Blk b11 25 [.int .i64 0, .int .i64 0, .int .i64 0, .slice none 0 0, .slice none 0 0, .int .i64 0, .int .i64 0, .int .i64 0, .slice none 0 0] :: R) := S442.wrote 0 rfl K445 A444
      refine EL_nil ?_
      refine thn_n ?_
      refine EC_seq ?_
      refine EC_reg ?_
      refine EL_val (ptr q23) w443 rfl (r_loadA (by exact e330) (S447.arr 1 rfl) (u := (ptr q23)) rfl Try.underlying90 rfl) ?_
      have S448 : Sat w443 I433 (RdP (ptr q23) (rdNumS r 1 16) :: Blk b436 62 [.int .i64 (rdNum r 1 16), .slice none 0 0] :: Blk b24 90 [ptr q23] :: Blk b42 25 [.int .i64 (rdNum (Rd.mk l false) 1 5), .int .i64 (rdNum (rdNumS (Rd.mk l false) 1 5) 1 16), .int .i64 (rdNum (rdNumS (rdNumS (Rd.mk l false) 1 5) 1 16) 1 1099511627776), .slice none 0 0, .slice none 0 0, .int .i64 0, .int .i64 0, .int .i64 (rdNum (rdNumS (rdNumS (rdNumS (Rd.mk l false) 1 5) 1 16) 1 1099511627776) 1 16), wv] :: OwnX 62 wrapR wv ws :: Blk b11 25 [.int .i64 0, .int .i64 0, .int .i64 0, .slice none 0 0, .slice none 0 0, .int .i64 0, .int .i64 0, .int .i64 0, .slice none 0 0] :: R) := S447.cons_front (i := 2) rfl
      refine EL_ret _ rfl Try.func59 rfl nm59 rfl (Text_c (ptr q23) (rdNumS r 1 16) 48 48 I433 _ _ S448) ?_
      rintro _ w449 ⟨u451, I452, le453, rfl, H454, S450⟩
      refine EL_val (ptr b436 1) w449 rfl (r_fieldP (o := 0) (s := 1) rfl Try.underlying62 rfl (by kernel_rfl) (by decide) rfl) ?_
      refine EL_storeA (j := 1) (u := u451) rfl rfl (S450.arr 1 rfl) (by first | decide | (simp; omega) | simp) (row_one (H454 _ S450.le)) (by kernel_rfl) ?_
      intro w455 A456 K457 z458
      have S459 : Sat w455 I452 (RdP (ptr q23) (rdTxtS (rdNumS r 1 16) 48 48) :: Blk b436 62 [.int .i64 (rdNum r 1 16), u451] :: Blk b24 90 [ptr q23] :: Blk b42 25 [.int .i64 (rdNum (Rd.mk l false) 1 5), .int .i64 (rdNum (rdNumS (Rd.mk l false) 1 5) 1 16), .int .i64 (rdNum (rdNumS (rdNumS (Rd.mk l false) 1 5) 1 16) 1 1099511627776), .slice none 0 0, .slice none 0 0, .int .i64 0, .int .i64 0, .int .i64 (rdNum (rdNumS (rdNumS (rdNumS (Rd.mk l false) 1 5) 1 16) 1 1099511627776) 1 16), wv] :: OwnX 62 wrapR wv ws :: Blk b11 25 [.int .i64 0, .int .i64 0, .int .i64 0, .slice none 0 0, .slice none 0 0, .int .i64 0, .int .i64 0, .int .i64 0, .slice none 0 0] :: R) := S450.wrote 1 rfl K457 A456
      refine EL_nil ?_
      refine thn_n ?_
      refine EC_reg ?_
      refine EL_val (ptr b42 8) w455 rfl (r_fieldP (o := 0) (s := 1) (by exact e332) Try.underlying25 rfl (by kernel_rfl) (by decide) rfl) ?_
      refine EL_val wv w455 rfl (r_loadA rfl (S459.arr 3 rfl) (u := wv) rfl Try.underlying23 rfl) ?_
      refine EL_val (.agg ([.int .i64 (rdNum r 1 16), u451]).toArray) w455 rfl (r_loadAll rfl (S459.arr 1 rfl) Try.underlying62 rfl (by kernel_rfl)) ?_
      refine EL_litW (z := #[.int .i64 0, .slice none 0 0]) (cs := ([.int .i64 (rdNum r 1 16), u451]).toArray) (sz := 2) (l := [(0, .agg ([.int .i64 (rdNum r 1 16), u451]).toArray)]) rfl Try.underlying23 (by kernel_rfl) (parts1 rfl) (by kernel_rfl) rfl (by decide) ?_
      intro v460 w461 O462 B463 k464
      have S465 : Sat w461 I452 (OwnX 62 wrapR v460 [(⟨rdNum r 1 16, rdTxt (rdNumS r 1 16) 48 48⟩ : WrapT)] :: RdP (ptr q23) (rdTxtS (rdNumS r 1 16) 48 48) :: Blk b436 62 [.int .i64 (rdNum r 1 16), u451] :: Blk b24 90 [ptr q23] :: Blk b42 25 [.int .i64 (rdNum (Rd.mk l false) 1 5), .int .i64 (rdNum (rdNumS (Rd.mk l false) 1 5) 1 16), .int .i64 (rdNum (rdNumS (rdNumS (Rd.mk l false) 1 5) 1 16) 1 1099511627776), .slice none 0 0, .slice none 0 0, .int .i64 0, .int .i64 0, .int .i64 (rdNum (rdNumS (rdNumS (rdNumS (Rd.mk l false) 1 5) 1 16) 1 1099511627776) 1 16), wv] :: OwnX 62 wrapR wv ws :: Blk b11 25 [.int .i64 0, .int .i64 0, .int .i64 0, .slice none 0 0, .slice none 0 0, .int .i64 0, .int .i64 0, .int .i64 0, .slice none 0 0] :: R) := OwnX.cls (xss := [[.int .i64 (rdNum r 1 16), u451]]) (.cons ⟨u451, rfl, (by first | assumption | omega | (dsimp only; omega)), ⟨(row_one (H454 _ S459.le)), H454⟩⟩ .nil) (S459.newO B463 O462)
      have oH472 := (OwnX.one S465 0 rfl (by decide))
      obtain ⟨I469, le470, S471, H472⟩ : ∃ J : Gh, Gh.le I452 J ∧ Sat w461 J (RdP (ptr q23) (rdTxtS (rdNumS r 1 16) 48 48) :: Blk b436 62 [.int .i64 (rdNum r 1 16), u451] :: Blk b24 90 [ptr q23] :: Blk b42 25 [.int .i64 (rdNum (Rd.mk l false) 1 5), .int .i64 (rdNum (rdNumS (Rd.mk l false) 1 5) 1 16), .int .i64 (rdNum (rdNumS (rdNumS (Rd.mk l false) 1 5) 1 16) 1 1099511627776), .slice none 0 0, .slice none 0 0, .int .i64 0, .int .i64 0, .int .i64 (rdNum (rdNumS (rdNumS (rdNumS (Rd.mk l false) 1 5) 1 16) 1 1099511627776) 1 16), wv] :: OwnX 62 wrapR wv ws :: Blk b11 25 [.int .i64 0, .int .i64 0, .int .i64 0, .slice none 0 0, .slice none 0 0, .int .i64 0, .int .i64 0, .int .i64 0, .slice none 0 0] :: R) ∧ RoX J v460 wrapR [(⟨rdNum r 1 16, rdTxt (rdNumS r 1 16) 48 48⟩ : WrapT)] := OwnX.frz S465 0 rfl (by decide)
      have S473 : Sat w461 I469 (OwnX 62 wrapR wv ws :: RdP (ptr q23) (rdTxtS (rdNumS r 1 16) 48 48) :: Blk b436 62 [.int .i64 (rdNum r 1 16), u451] :: Blk b24 90 [ptr q23] :: Blk b42 25 [.int .i64 (rdNum (Rd.mk l false) 1 5), .int .i64 (rdNum (rdNumS (Rd.mk l false) 1 5) 1 16), .int .i64 (rdNum (rdNumS (rdNumS (Rd.mk l false) 1 5) 1 16) 1 1099511627776), .slice none 0 0, .slice none 0 0, .int .i64 0, .int .i64 0, .int .i64 (rdNum (rdNumS (rdNumS (rdNumS (Rd.mk l false) 1 5) 1 16) 1 1099511627776) 1 16), wv] :: Blk b11 25 [.int .i64 0, .int .i64 0, .int .i64 0, .slice none 0 0, .slice none 0 0, .int .i64 0, .int .i64 0, .int .i64 0, .slice none 0 0] :: R) := S471.cons_front (i := 4) rfl
      refine EL_appX (z := (.agg #[.int .i64 0, .slice none 0 0])) (bytes := 32) rfl Try.underlying23 (by kernel_rfl) rfl (by decide) rfl rfl S473 H472 (by first | omega | (simp; done) | (simp only [List.length_cons, List.length_nil]; omega) | (rw [List.length_append]; simp only [List.length_cons, List.length_nil]; omega) | (simp; omega)) (by first | omega | (simp; done) | (simp only [List.length_cons, List.length_nil]; omega) | (rw [List.length_append]; simp only [List.length_cons, List.length_nil]; omega) | (simp; omega)) ?_
      intro v466 w467 S468
      refine EL_val (ptr b42 8) w467 rfl (r_fieldP (o := 0) (s := 1) (by exact e332) Try.underlying25 rfl (by kernel_rfl) (by decide) rfl) ?_
      refine EL_storeA (j := 8) (u := v466) rfl rfl (S468.arr 4 rfl) (by first | decide | (simp; omega) | simp) (OwnX.one S468 0 rfl (by decide)) (by kernel_rfl) ?_
      intro w474 A475 K476 z477
      have S478 : Sat w474 I469 (OwnX 62 wrapR v466 (ws ++ [(⟨rdNum r 1 16, rdTxt (rdNumS r 1 16) 48 48⟩ : WrapT)]) :: RdP (ptr q23) (rdTxtS (rdNumS r 1 16) 48 48) :: Blk b436 62 [.int .i64 (rdNum r 1 16), u451] :: Blk b24 90 [ptr q23] :: Blk b42 25 [.int .i64 (rdNum (Rd.mk l false) 1 5), .int .i64 (rdNum (rdNumS (Rd.mk l false) 1 5) 1 16), .int .i64 (rdNum (rdNumS (rdNumS (Rd.mk l false) 1 5) 1 16) 1 1099511627776), .slice none 0 0, .slice none 0 0, .int .i64 0, .int .i64 0, .int .i64 (rdNum (rdNumS (rdNumS (rdNumS (Rd.mk l false) 1 5) 1 16) 1 1099511627776) 1 16), v466] :: Blk b11 25 [.int .i64 0, .int .i64 0, .int .i64 0, .slice none 0 0, .slice none 0 0, .int .i64 0, .int .i64 0, .int .i64 0, .slice none 0 0] :: R) := S468.wrote 4 rfl K476 A475
      refine EL_nil ?_
      refine inB_n ?_
      refine thn_n ?_
      refine EC_reg ?_
      refine EL_val (.int .i64 (n : Int)) w474 rfl (r_move (by exact e327)) ?_
      refine EL_int ((n : Int) - 1) rfl (r_subi rfl rfl (by omega)) ?_
      intro x479 hx479
      refine EL_val (.int .i64 x479) w474 rfl (r_assign rfl) ?_
      refine EL_nil ?_
      refine thn_n ?_
      have S480 : Sat w474 I469 (OwnX 62 wrapR v466 (ws ++ [(⟨rdNum r 1 16, rdTxt (rdNumS r 1 16) 48 48⟩ : WrapT)]) :: RdP (ptr q23) (rdTxtS (rdNumS r 1 16) 48 48) :: Blk b24 90 [ptr q23] :: Blk b42 25 [.int .i64 (rdNum (Rd.mk l false) 1 5), .int .i64 (rdNum (rdNumS (Rd.mk l false) 1 5) 1 16), .int .i64 (rdNum (rdNumS (rdNumS (Rd.mk l false) 1 5) 1 16) 1 1099511627776), .slice none 0 0, .slice none 0 0, .int .i64 0, .int .i64 0, .int .i64 (rdNum (rdNumS (rdNumS (rdNumS (Rd.mk l false) 1 5) 1 16) 1 1099511627776) 1 16), v466] :: Blk b11 25 [.int .i64 0, .int .i64 0, .int .i64 0, .slice none 0 0, .slice none 0 0, .int .i64 0, .int .i64 0, .int .i64 0, .slice none 0 0] :: R) := S478.drop 2 rfl
      have S481 : Sat w474 I469 (Blk b11 25 [.int .i64 0, .int .i64 0, .int .i64 0, .slice none 0 0, .slice none 0 0, .int .i64 0, .int .i64 0, .int .i64 0, .slice none 0 0] :: OwnX 62 wrapR v466 (ws ++ [(⟨rdNum r 1 16, rdTxt (rdNumS r 1 16) 48 48⟩ : WrapT)]) :: RdP (ptr q23) (rdTxtS (rdNumS r 1 16) 48 48) :: Blk b24 90 [ptr q23] :: Blk b42 25 [.int .i64 (rdNum (Rd.mk l false) 1 5), .int .i64 (rdNum (rdNumS (Rd.mk l false) 1 5) 1 16), .int .i64 (rdNum (rdNumS (rdNumS (Rd.mk l false) 1 5) 1 16) 1 1099511627776), .slice none 0 0, .slice none 0 0, .int .i64 0, .int .i64 0, .int .i64 (rdNum (rdNumS (rdNumS (rdNumS (Rd.mk l false) 1 5) 1 16) 1 1099511627776) 1 16), v466] :: R) := S480.cons_front (i := 4) rfl
      have S482 : Sat w474 I469 (Blk b24 90 [ptr q23] :: Blk b11 25 [.int .i64 0, .int .i64 0, .int .i64 0, .slice none 0 0, .slice none 0 0, .int .i64 0, .int .i64 0, .int .i64 0, .slice none 0 0] :: OwnX 62 wrapR v466 (ws ++ [(⟨rdNum r 1 16, rdTxt (rdNumS r 1 16) 48 48⟩ : WrapT)]) :: RdP (ptr q23) (rdTxtS (rdNumS r 1 16) 48 48) :: Blk b42 25 [.int .i64 (rdNum (Rd.mk l false) 1 5), .int .i64 (rdNum (rdNumS (Rd.mk l false) 1 5) 1 16), .int .i64 (rdNum (rdNumS (rdNumS (Rd.mk l false) 1 5) 1 16) 1 1099511627776), .slice none 0 0, .slice none 0 0, .int .i64 0, .int .i64 0, .int .i64 (rdNum (rdNumS (rdNumS (rdNumS (Rd.mk l false) 1 5) 1 16) 1 1099511627776) 1 16), v466] :: R) := S481.cons_front (i := 3) rfl
      have S483 : Sat w474 I469 (RdP (ptr q23) (rdTxtS (rdNumS r 1 16) 48 48) :: Blk b24 90 [ptr q23] :: Blk b11 25 [.int .i64 0, .int .i64 0, .int .i64 0, .slice none 0 0, .slice none 0 0, .int .i64 0, .int .i64 0, .int .i64 0, .slice none 0 0] :: OwnX 62 wrapR v466 (ws ++ [(⟨rdNum r 1 16, rdTxt (rdNumS r 1 16) 48 48⟩ : WrapT)]) :: Blk b42 25 [.int .i64 (rdNum (Rd.mk l false) 1 5), .int .i64 (rdNum (rdNumS (Rd.mk l false) 1 5) 1 16), .int .i64 (rdNum (rdNumS (rdNumS (Rd.mk l false) 1 5) 1 16) 1 1099511627776), .slice none 0 0, .slice none 0 0, .int .i64 0, .int .i64 0, .int .i64 (rdNum (rdNumS (rdNumS (rdNumS (Rd.mk l false) 1 5) 1 16) 1 1099511627776) 1 16), v466] :: R) := S482.cons_front (i := 3) rfl
      have S484 : Sat w474 I469 (OwnX 62 wrapR v466 (ws ++ [(⟨rdNum r 1 16, rdTxt (rdNumS r 1 16) 48 48⟩ : WrapT)]) :: RdP (ptr q23) (rdTxtS (rdNumS r 1 16) 48 48) :: Blk b24 90 [ptr q23] :: Blk b11 25 [.int .i64 0, .int .i64 0, .int .i64 0, .slice none 0 0, .slice none 0 0, .int .i64 0, .int .i64 0, .int .i64 0, .slice none 0 0] :: Blk b42 25 [.int .i64 (rdNum (Rd.mk l false) 1 5), .int .i64 (rdNum (rdNumS (Rd.mk l false) 1 5) 1 16), .int .i64 (rdNum (rdNumS (rdNumS (Rd.mk l false) 1 5) 1 16) 1 1099511627776), .slice none 0 0, .slice none 0 0, .int .i64 0, .int .i64 0, .int .i64 (rdNum (rdNumS (rdNumS (rdNumS (Rd.mk l false) 1 5) 1 16) 1 1099511627776) 1 16), v466] :: R) := S483.cons_front (i := 3) rfl
      have S485 : Sat w474 I469 (Blk b42 25 [.int .i64 (rdNum (Rd.mk l false) 1 5), .int .i64 (rdNum (rdNumS (Rd.mk l false) 1 5) 1 16), .int .i64 (rdNum (rdNumS (rdNumS (Rd.mk l false) 1 5) 1 16) 1 1099511627776), .slice none 0 0, .slice none 0 0, .int .i64 0, .int .i64 0, .int .i64 (rdNum (rdNumS (rdNumS (rdNumS (Rd.mk l false) 1 5) 1 16) 1 1099511627776) 1 16), v466] :: OwnX 62 wrapR v466 (ws ++ [(⟨rdNum r 1 16, rdTxt (rdNumS r 1 16) 48 48⟩ : WrapT)]) :: RdP (ptr q23) (rdTxtS (rdNumS r 1 16) 48 48) :: Blk b24 90 [ptr q23] :: Blk b11 25 [.int .i64 0, .int .i64 0, .int .i64 0, .slice none 0 0, .slice none 0 0, .int .i64 0, .int .i64 0, .int .i64 0, .slice none 0 0] :: R) := S484.cons_front (i := 4) rfl
      refine ⟨_, ?_, n - 1, rdTxtS (rdNumS r 1 16) 48 48, v466, ws ++ [(⟨rdNum r 1 16, rdTxt (rdNumS r 1 16) 48 48⟩ : WrapT)], I469, rfl, (Eq.trans (show _ = Value.int .i64 x479 from rfl) (congrArg _ (by omega))), (by exact e328), (by exact e329), (by exact e330), (by exact e331), (by exact e332), ((rdw_step hq.1 hq.2).symm.trans hr), (by simp; omega), (Gh.le_trans (Gh.le_trans (Gh.le_trans le333 le434) le453) le470), S485⟩
      first | omega | (simp; omega)
  · refine EC_reg ?_
    refine EL_val (ptr b42 0) w72 rfl (r_fieldP (o := 0) (s := 1) rfl Try.underlying25 rfl (by kernel_rfl) (by decide) rfl) ?_
    refine EL_val (.int .i64 (rdNum (Rd.mk l false) 1 5)) w72 rfl (r_loadA rfl (S76.arr 2 rfl) (u := (.int .i64 (rdNum (Rd.mk l false) 1 5))) rfl Try.underlying3 rfl) ?_
    refine EL_nil ?_
    refine thn_n ?_
    refine EC_block ?_
    refine EC_seq ?_
    refine EC_reg ?_
    refine EL_val (.bool false) w72 rfl (r_dec (show (decide ((rdNum (Rd.mk l false) 1 5) = 1)) = false from by rw [decide_eq_false_iff_not]; omega) (r_eql rfl rfl)) ?_
    refine EL_val (.bool false) w72 rfl (r_assign rfl) ?_
    refine EL_nil ?_
    refine thn_n ?_
    refine EC_cond_false rfl ?_
    refine EC_seq ?_
    refine EC_reg ?_
    refine EL_val (.bool false) w72 rfl (r_dec (show (decide ((rdNum (Rd.mk l false) 1 5) = 2)) = false from by rw [decide_eq_false_iff_not]; omega) (r_eql rfl rfl)) ?_
    refine EL_val (.bool false) w72 rfl (r_assign rfl) ?_
    refine EL_nil ?_
    refine thn_n ?_
    refine EC_cond_false rfl ?_
    refine EC_seq ?_
    refine EC_reg ?_
    refine EL_val (.bool false) w72 rfl (r_dec (show (decide ((rdNum (Rd.mk l false) 1 5) = 3)) = false from by rw [decide_eq_false_iff_not]; omega) (r_eql rfl rfl)) ?_
    refine EL_val (.bool false) w72 rfl (r_assign rfl) ?_
    refine EL_nil ?_
    refine thn_n ?_
    refine EC_cond_false rfl ?_
    refine EC_seq ?_
    refine EC_reg ?_
    refine EL_val (.bool false) w72 rfl (r_dec (show (decide ((rdNum (Rd.mk l false) 1 5) = 4)) = false from by rw [decide_eq_false_iff_not]; omega) (r_eql rfl rfl)) ?_
    refine EL_val (.bool false) w72 rfl (r_assign rfl) ?_
    refine EL_nil ?_
    refine thn_n ?_
    refine EC_cond_false rfl ?_
    refine EC_seq ?_
    refine EC_reg ?_
    refine EL_val (.bool false) w72 rfl (r_dec (show (decide ((rdNum (Rd.mk l false) 1 5) = 5)) = false from by rw [decide_eq_false_iff_not]; omega) (r_eql rfl rfl)) ?_
    refine EL_val (.bool false) w72 rfl (r_assign rfl) ?_
    refine EL_nil ?_
    refine thn_n ?_
    refine EC_cond_false rfl ?_
    refine EC_skip ?_
    refine inB_n ?_
    refine thn_n ?_
    refine EC_seq ?_
    refine EC_seq ?_
    have hde : rdEntry ⟨l, false⟩ = ((⟨rdNum (Rd.mk l false) 1 5, rdNum (rdNumS (Rd.mk l false) 1 5) 1 16, rdNum (rdNumS (rdNumS (Rd.mk l false) 1 5) 1 16) 1 1099511627776, [], [], 0, 0, 0, []⟩ : Entry), rdNumS (rdNumS (rdNumS (Rd.mk l false) 1 5) 1 16) 1 1099511627776) := by rw [rdEntry, rdBody, if_neg (by omega), if_neg (by omega), if_neg (by omega), if_neg (by omega), if_neg (by omega)]
    rcases (by cases rdEnd (rdNumS (rdNumS (rdNumS (Rd.mk l false) 1 5) 1 16) 1 1099511627776) <;> simp : rdEnd (rdNumS (rdNumS (rdNumS (Rd.mk l false) 1 5) 1 16) 1 1099511627776) = true ∨ rdEnd (rdNumS (rdNumS (rdNumS (Rd.mk l false) 1 5) 1 16) 1 1099511627776) = false) with hen | hen
    · refine EC_reg ?_
      refine EL_val (ptr q23) w72 rfl (r_loadA rfl (S76.arr 1 rfl) (u := (ptr q23)) rfl Try.underlying90 rfl) ?_
      refine EL_ret _ rfl Try.func61 rfl nm61 rfl (End_c (ptr q23) (rdNumS (rdNumS (rdNumS (Rd.mk l false) 1 5) 1 16) 1 1099511627776) I69 _ _ S76) ?_
      rintro _ w486 ⟨rfl, S487⟩
      refine EL_val (.bool false) w486 rfl (r_dec (show (!true) = false from rfl) (r_not (Eq.trans (show _ = Value.bool (rdEnd (rdNumS (rdNumS (rdNumS (Rd.mk l false) 1 5) 1 16) 1 1099511627776)) from rfl) (congrArg Value.bool (show (rdEnd (rdNumS (rdNumS (rdNumS (Rd.mk l false) 1 5) 1 16) 1 1099511627776)) = true from hen))))) ?_
      refine EL_val (.bool false) w486 rfl (r_move rfl) ?_
      refine EL_gval 80 rfl rfl rfl rfl (.agg ([.int .i64 (rdNum (Rd.mk l false) 1 5), .int .i64 (rdNum (rdNumS (Rd.mk l false) 1 5) 1 16), .int .i64 (rdNum (rdNumS (rdNumS (Rd.mk l false) 1 5) 1 16) 1 1099511627776), .slice none 0 0, .slice none 0 0, .int .i64 0, .int .i64 0, .int .i64 0, .slice none 0 0]).toArray) w486 rfl (r_loadAll rfl (S487.arr 2 rfl) Try.underlying25 rfl (by kernel_rfl)) ?_
      refine EL_gret 80 rfl rfl rfl rfl _ rfl Try.func19 rfl nm19 rfl (Right_c [.int .i64 (rdNum (Rd.mk l false) 1 5), .int .i64 (rdNum (rdNumS (Rd.mk l false) 1 5) 1 16), .int .i64 (rdNum (rdNumS (rdNumS (Rd.mk l false) 1 5) 1 16) 1 1099511627776), .slice none 0 0, .slice none 0 0, .int .i64 0, .int .i64 0, .int .i64 0, .slice none 0 0] (⟨rdNum (Rd.mk l false) 1 5, rdNum (rdNumS (Rd.mk l false) 1 5) 1 16, rdNum (rdNumS (rdNumS (Rd.mk l false) 1 5) 1 16) 1 1099511627776, [], [], 0, 0, 0, []⟩ : Entry) I69 _ _ S487 ⟨(.slice none 0 0), (.slice none 0 0), (.slice none 0 0), rfl, (by first | assumption | omega | (dsimp only; omega)), (by first | assumption | omega | (dsimp only; omega)), (by first | assumption | omega | (dsimp only; omega)), ⟨rfl, Ro.nil⟩, ⟨rfl, Ro.nil⟩, (by first | assumption | omega | (dsimp only; omega)), (by first | assumption | omega | (dsimp only; omega)), (by first | assumption | omega | (dsimp only; omega)), ⟨rfl, RoX.nil⟩⟩) ?_
      rintro _ w488 ⟨I490, le491, rfl, S489⟩
      refine EL_gval 80 rfl rfl rfl rfl (.bool (!((⟨rdNum (Rd.mk l false) 1 5, rdNum (rdNumS (Rd.mk l false) 1 5) 1 16, rdNum (rdNumS (rdNumS (Rd.mk l false) 1 5) 1 16) 1 1099511627776, [], [], 0, 0, 0, []⟩ : Entry).right))) w488 rfl (r_not rfl) ?_
      refine EL_val (.bool (!((⟨rdNum (Rd.mk l false) 1 5, rdNum (rdNumS (Rd.mk l false) 1 5) 1 16, rdNum (rdNumS (rdNumS (Rd.mk l false) 1 5) 1 16) 1 1099511627776, [], [], 0, 0, 0, []⟩ : Entry).right))) w488 rfl (r_pickF rfl rfl) ?_
      refine EL_nil ?_
      refine thn_n ?_
      refine EC_cond (t := !((⟨rdNum (Rd.mk l false) 1 5, rdNum (rdNumS (Rd.mk l false) 1 5) 1 16, rdNum (rdNumS (rdNumS (Rd.mk l false) 1 5) 1 16) 1 1099511627776, [], [], 0, 0, 0, []⟩ : Entry).right)) rfl (fun h492 => ?_) (fun h492 => ?_)
      · have hrt : ((⟨rdNum (Rd.mk l false) 1 5, rdNum (rdNumS (Rd.mk l false) 1 5) 1 16, rdNum (rdNumS (rdNumS (Rd.mk l false) 1 5) 1 16) 1 1099511627776, [], [], 0, 0, 0, []⟩ : Entry)).right = false := (Bool.not_eq_true' _).mp h492
        refine EC_seq ?_
        refine EC_reg ?_
        refine EL_val (.agg ([.int .i64 0, .int .i64 0, .int .i64 0, .slice none 0 0, .slice none 0 0, .int .i64 0, .int .i64 0, .int .i64 0, .slice none 0 0]).toArray) w488 rfl (r_buildS (l := []) st_25 rfl (Eq.trans (show Instr.fill _ _ [] = _ from fill_end) (by kernel_rfl))) ?_
        refine EL_storeAll (v := .agg ([.int .i64 0, .int .i64 0, .int .i64 0, .slice none 0 0, .slice none 0 0, .int .i64 0, .int .i64 0, .int .i64 0, .slice none 0 0]).toArray) (cs' := ([.int .i64 0, .int .i64 0, .int .i64 0, .slice none 0 0, .slice none 0 0, .int .i64 0, .int .i64 0, .int .i64 0, .slice none 0 0]).toArray) rfl rfl rfl (S489.arr 3 rfl) rfl (by kernel_rfl) (by simp [Value.oneCell']) ?_
        intro w493 A494 K495 z496
        have S497 : Sat w493 I490 (RdP (ptr q23) (rdNumS (rdNumS (rdNumS (Rd.mk l false) 1 5) 1 16) 1 1099511627776) :: Blk b24 90 [ptr q23] :: Blk b42 25 [.int .i64 (rdNum (Rd.mk l false) 1 5), .int .i64 (rdNum (rdNumS (Rd.mk l false) 1 5) 1 16), .int .i64 (rdNum (rdNumS (rdNumS (Rd.mk l false) 1 5) 1 16) 1 1099511627776), .slice none 0 0, .slice none 0 0, .int .i64 0, .int .i64 0, .int .i64 0, .slice none 0 0] :: Blk b11 25 [.int .i64 0, .int .i64 0, .int .i64 0, .slice none 0 0, .slice none 0 0, .int .i64 0, .int .i64 0, .int .i64 0, .slice none 0 0] :: R) := S489.wrote 3 rfl K495 A494
        refine EL_val (.int .i64 10) w493 rfl (r_assign rfl) ?_
        refine EL_nil ?_
        refine thn_n ?_
        refine EC_ret ?_
        refine thn_r ?_
        refine fin2c Try.results60 (show _ = ptr b11 from rfl) (show _ = .int .i64 10 from rfl) (S497.arr 3 rfl) Try.underlying25 rfl (by kernel_rfl) ⟨_, rfl, ?_⟩
        have hok : decOk l = false := by rw [decOk, hde]; dsimp only; rw [hen, hrt]; rfl
        have q498 : (decV l) = (⟨0, 0, 0, [], [], 0, 0, 0, []⟩ : Entry) := by rw [decV, hok]; rfl
        have S499 : Sat w493 I490 (Blk b24 90 [ptr q23] :: Blk b42 25 [.int .i64 (rdNum (Rd.mk l false) 1 5), .int .i64 (rdNum (rdNumS (Rd.mk l false) 1 5) 1 16), .int .i64 (rdNum (rdNumS (rdNumS (Rd.mk l false) 1 5) 1 16) 1 1099511627776), .slice none 0 0, .slice none 0 0, .int .i64 0, .int .i64 0, .int .i64 0, .slice none 0 0] :: Blk b11 25 [.int .i64 0, .int .i64 0, .int .i64 0, .slice none 0 0, .slice none 0 0, .int .i64 0, .int .i64 0, .int .i64 0, .slice none 0 0] :: R) := S497.drop 0 rfl
        have S500 : Sat w493 I490 (Blk b42 25 [.int .i64 (rdNum (Rd.mk l false) 1 5), .int .i64 (rdNum (rdNumS (Rd.mk l false) 1 5) 1 16), .int .i64 (rdNum (rdNumS (rdNumS (Rd.mk l false) 1 5) 1 16) 1 1099511627776), .slice none 0 0, .slice none 0 0, .int .i64 0, .int .i64 0, .int .i64 0, .slice none 0 0] :: Blk b11 25 [.int .i64 0, .int .i64 0, .int .i64 0, .slice none 0 0, .slice none 0 0, .int .i64 0, .int .i64 0, .int .i64 0, .slice none 0 0] :: R) := S499.drop 0 rfl
        have S501 : Sat w493 I490 (Blk b11 25 [.int .i64 0, .int .i64 0, .int .i64 0, .slice none 0 0, .slice none 0 0, .int .i64 0, .int .i64 0, .int .i64 0, .slice none 0 0] :: R) := S500.drop 0 rfl
        have S502 : Sat w493 I490 (R) := S501.drop 0 rfl
        exact ⟨[.int .i64 0, .int .i64 0, .int .i64 0, .slice none 0 0, .slice none 0 0, .int .i64 0, .int .i64 0, .int .i64 0, .slice none 0 0], I490, (Gh.le_trans (Gh.le_trans (Gh.le_trans (Gh.le_trans le22 le40) le59) le70) le491), (by rw [decE, hok]; rfl), (by rw [q498]; exact ⟨(.slice none 0 0), (.slice none 0 0), (.slice none 0 0), rfl, (by first | assumption | omega | (dsimp only; omega)), (by first | assumption | omega | (dsimp only; omega)), (by first | assumption | omega | (dsimp only; omega)), ⟨rfl, Ro.nil⟩, ⟨rfl, Ro.nil⟩, (by first | assumption | omega | (dsimp only; omega)), (by first | assumption | omega | (dsimp only; omega)), (by first | assumption | omega | (dsimp only; omega)), ⟨rfl, RoX.nil⟩⟩), S502⟩
      · have hrt : ((⟨rdNum (Rd.mk l false) 1 5, rdNum (rdNumS (Rd.mk l false) 1 5) 1 16, rdNum (rdNumS (rdNumS (Rd.mk l false) 1 5) 1 16) 1 1099511627776, [], [], 0, 0, 0, []⟩ : Entry)).right = true := (Bool.not_eq_false' _).mp h492
        refine EC_skip ?_
        refine thn_n ?_
        refine EC_seq ?_
        refine EC_reg ?_
        refine EL_val (.agg ([.int .i64 (rdNum (Rd.mk l false) 1 5), .int .i64 (rdNum (rdNumS (Rd.mk l false) 1 5) 1 16), .int .i64 (rdNum (rdNumS (rdNumS (Rd.mk l false) 1 5) 1 16) 1 1099511627776), .slice none 0 0, .slice none 0 0, .int .i64 0, .int .i64 0, .int .i64 0, .slice none 0 0]).toArray) w488 rfl (r_loadAll rfl (S489.arr 2 rfl) Try.underlying25 rfl (by kernel_rfl)) ?_
        refine EL_storeAll (v := .agg ([.int .i64 (rdNum (Rd.mk l false) 1 5), .int .i64 (rdNum (rdNumS (Rd.mk l false) 1 5) 1 16), .int .i64 (rdNum (rdNumS (rdNumS (Rd.mk l false) 1 5) 1 16) 1 1099511627776), .slice none 0 0, .slice none 0 0, .int .i64 0, .int .i64 0, .int .i64 0, .slice none 0 0]).toArray) (cs' := ([.int .i64 (rdNum (Rd.mk l false) 1 5), .int .i64 (rdNum (rdNumS (Rd.mk l false) 1 5) 1 16), .int .i64 (rdNum (rdNumS (rdNumS (Rd.mk l false) 1 5) 1 16) 1 1099511627776), .slice none 0 0, .slice none 0 0, .int .i64 0, .int .i64 0, .int .i64 0, .slice none 0 0]).toArray) rfl rfl rfl (S489.arr 3 rfl) rfl (by kernel_rfl) (by simp [Value.oneCell']) ?_
        intro w503 A504 K505 z506
        have S507 : Sat w503 I490 (RdP (ptr q23) (rdNumS (rdNumS (rdNumS (Rd.mk l false) 1 5) 1 16) 1 1099511627776) :: Blk b24 90 [ptr q23] :: Blk b42 25 [.int .i64 (rdNum (Rd.mk l false) 1 5), .int .i64 (rdNum (rdNumS (Rd.mk l false) 1 5) 1 16), .int .i64 (rdNum (rdNumS (rdNumS (Rd.mk l false) 1 5) 1 16) 1 1099511627776), .slice none 0 0, .slice none 0 0, .int .i64 0, .int .i64 0, .int .i64 0, .slice none 0 0] :: Blk b11 25 [.int .i64 (rdNum (Rd.mk l false) 1 5), .int .i64 (rdNum (rdNumS (Rd.mk l false) 1 5) 1 16), .int .i64 (rdNum (rdNumS (rdNumS (Rd.mk l false) 1 5) 1 16) 1 1099511627776), .slice none 0 0, .slice none 0 0, .int .i64 0, .int .i64 0, .int .i64 0, .slice none 0 0] :: R) := S489.wrote 3 rfl K505 A504
        refine EL_val (.int .i64 0) w503 rfl (r_assign rfl) ?_
        refine EL_nil ?_
        refine thn_n ?_
        refine EC_ret ?_
        refine fin2c Try.results60 (show _ = ptr b11 from rfl) (show _ = .int .i64 0 from rfl) (S507.arr 3 rfl) Try.underlying25 rfl (by kernel_rfl) ⟨_, rfl, ?_⟩
        have hok : decOk l = true := by rw [decOk, hde]; dsimp only; rw [hen, hrt]; rfl
        have q508 : (decV l) = (⟨rdNum (Rd.mk l false) 1 5, rdNum (rdNumS (Rd.mk l false) 1 5) 1 16, rdNum (rdNumS (rdNumS (Rd.mk l false) 1 5) 1 16) 1 1099511627776, [], [], 0, 0, 0, []⟩ : Entry) := by rw [decV, if_pos hok, hde]
        have S509 : Sat w503 I490 (Blk b24 90 [ptr q23] :: Blk b42 25 [.int .i64 (rdNum (Rd.mk l false) 1 5), .int .i64 (rdNum (rdNumS (Rd.mk l false) 1 5) 1 16), .int .i64 (rdNum (rdNumS (rdNumS (Rd.mk l false) 1 5) 1 16) 1 1099511627776), .slice none 0 0, .slice none 0 0, .int .i64 0, .int .i64 0, .int .i64 0, .slice none 0 0] :: Blk b11 25 [.int .i64 (rdNum (Rd.mk l false) 1 5), .int .i64 (rdNum (rdNumS (Rd.mk l false) 1 5) 1 16), .int .i64 (rdNum (rdNumS (rdNumS (Rd.mk l false) 1 5) 1 16) 1 1099511627776), .slice none 0 0, .slice none 0 0, .int .i64 0, .int .i64 0, .int .i64 0, .slice none 0 0] :: R) := S507.drop 0 rfl
        have S510 : Sat w503 I490 (Blk b42 25 [.int .i64 (rdNum (Rd.mk l false) 1 5), .int .i64 (rdNum (rdNumS (Rd.mk l false) 1 5) 1 16), .int .i64 (rdNum (rdNumS (rdNumS (Rd.mk l false) 1 5) 1 16) 1 1099511627776), .slice none 0 0, .slice none 0 0, .int .i64 0, .int .i64 0, .int .i64 0, .slice none 0 0] :: Blk b11 25 [.int .i64 (rdNum (Rd.mk l false) 1 5), .int .i64 (rdNum (rdNumS (Rd.mk l false) 1 5) 1 16), .int .i64 (rdNum (rdNumS (rdNumS (Rd.mk l false) 1 5) 1 16) 1 1099511627776), .slice none 0 0, .slice none 0 0, .int .i64 0, .int .i64 0, .int .i64 0, .slice none 0 0] :: R) := S509.drop 0 rfl
        have S511 : Sat w503 I490 (Blk b11 25 [.int .i64 (rdNum (Rd.mk l false) 1 5), .int .i64 (rdNum (rdNumS (Rd.mk l false) 1 5) 1 16), .int .i64 (rdNum (rdNumS (rdNumS (Rd.mk l false) 1 5) 1 16) 1 1099511627776), .slice none 0 0, .slice none 0 0, .int .i64 0, .int .i64 0, .int .i64 0, .slice none 0 0] :: R) := S510.drop 0 rfl
        have S512 : Sat w503 I490 (R) := S511.drop 0 rfl
        exact ⟨[.int .i64 (rdNum (Rd.mk l false) 1 5), .int .i64 (rdNum (rdNumS (Rd.mk l false) 1 5) 1 16), .int .i64 (rdNum (rdNumS (rdNumS (Rd.mk l false) 1 5) 1 16) 1 1099511627776), .slice none 0 0, .slice none 0 0, .int .i64 0, .int .i64 0, .int .i64 0, .slice none 0 0], I490, (Gh.le_trans (Gh.le_trans (Gh.le_trans (Gh.le_trans le22 le40) le59) le70) le491), (by rw [decE, if_pos hok]), (by rw [q508]; exact ⟨(.slice none 0 0), (.slice none 0 0), (.slice none 0 0), rfl, (by first | assumption | omega | (dsimp only; omega)), (by first | assumption | omega | (dsimp only; omega)), (by first | assumption | omega | (dsimp only; omega)), ⟨rfl, Ro.nil⟩, ⟨rfl, Ro.nil⟩, (by first | assumption | omega | (dsimp only; omega)), (by first | assumption | omega | (dsimp only; omega)), (by first | assumption | omega | (dsimp only; omega)), ⟨rfl, RoX.nil⟩⟩), S512⟩
    · refine EC_reg ?_
      refine EL_val (ptr q23) w72 rfl (r_loadA rfl (S76.arr 1 rfl) (u := (ptr q23)) rfl Try.underlying90 rfl) ?_
      refine EL_ret _ rfl Try.func61 rfl nm61 rfl (End_c (ptr q23) (rdNumS (rdNumS (rdNumS (Rd.mk l false) 1 5) 1 16) 1 1099511627776) I69 _ _ S76) ?_
      rintro _ w513 ⟨rfl, S514⟩
      refine EL_val (.bool true) w513 rfl (r_dec (show (!false) = true from rfl) (r_not (Eq.trans (show _ = Value.bool (rdEnd (rdNumS (rdNumS (rdNumS (Rd.mk l false) 1 5) 1 16) 1 1099511627776)) from rfl) (congrArg Value.bool (show (rdEnd (rdNumS (rdNumS (rdNumS (Rd.mk l false) 1 5) 1 16) 1 1099511627776)) = false from hen))))) ?_
      refine EL_val (.bool true) w513 rfl (r_move rfl) ?_
      refine EL_pass 80 rfl rfl rfl rfl rfl ?_
      refine EL_pass 80 rfl rfl rfl rfl rfl ?_
      refine EL_pass 80 rfl rfl rfl rfl rfl ?_
      refine EL_val (.bool true) w513 rfl (r_pickT rfl rfl) ?_
      refine EL_nil ?_
      refine thn_n ?_
      refine EC_cond_true rfl ?_
      refine EC_seq ?_
      refine EC_reg ?_
      refine EL_val (.agg ([.int .i64 0, .int .i64 0, .int .i64 0, .slice none 0 0, .slice none 0 0, .int .i64 0, .int .i64 0, .int .i64 0, .slice none 0 0]).toArray) w513 rfl (r_buildS (l := []) st_25 rfl (Eq.trans (show Instr.fill _ _ [] = _ from fill_end) (by kernel_rfl))) ?_
      refine EL_storeAll (v := .agg ([.int .i64 0, .int .i64 0, .int .i64 0, .slice none 0 0, .slice none 0 0, .int .i64 0, .int .i64 0, .int .i64 0, .slice none 0 0]).toArray) (cs' := ([.int .i64 0, .int .i64 0, .int .i64 0, .slice none 0 0, .slice none 0 0, .int .i64 0, .int .i64 0, .int .i64 0, .slice none 0 0]).toArray) rfl rfl rfl (S514.arr 3 rfl) rfl (by kernel_rfl) (by simp [Value.oneCell']) ?_
      intro w515 A516 K517 z518
      have S519 : Sat w515 I69 (RdP (ptr q23) (rdNumS (rdNumS (rdNumS (Rd.mk l false) 1 5) 1 16) 1 1099511627776) :: Blk b24 90 [ptr q23] :: Blk b42 25 [.int .i64 (rdNum (Rd.mk l false) 1 5), .int .i64 (rdNum (rdNumS (Rd.mk l false) 1 5) 1 16), .int .i64 (rdNum (rdNumS (rdNumS (Rd.mk l false) 1 5) 1 16) 1 1099511627776), .slice none 0 0, .slice none 0 0, .int .i64 0, .int .i64 0, .int .i64 0, .slice none 0 0] :: Blk b11 25 [.int .i64 0, .int .i64 0, .int .i64 0, .slice none 0 0, .slice none 0 0, .int .i64 0, .int .i64 0, .int .i64 0, .slice none 0 0] :: R) := S514.wrote 3 rfl K517 A516
      refine EL_val (.int .i64 10) w515 rfl (r_assign rfl) ?_
      refine EL_nil ?_
      refine thn_n ?_
      refine EC_ret ?_
      refine thn_r ?_
      refine fin2c Try.results60 (show _ = ptr b11 from rfl) (show _ = .int .i64 10 from rfl) (S519.arr 3 rfl) Try.underlying25 rfl (by kernel_rfl) ⟨_, rfl, ?_⟩
      have hok : decOk l = false := by rw [decOk, hde]; dsimp only; rw [hen, Bool.false_and]
      have q520 : (decV l) = (⟨0, 0, 0, [], [], 0, 0, 0, []⟩ : Entry) := by rw [decV, hok]; rfl
      have S521 : Sat w515 I69 (Blk b24 90 [ptr q23] :: Blk b42 25 [.int .i64 (rdNum (Rd.mk l false) 1 5), .int .i64 (rdNum (rdNumS (Rd.mk l false) 1 5) 1 16), .int .i64 (rdNum (rdNumS (rdNumS (Rd.mk l false) 1 5) 1 16) 1 1099511627776), .slice none 0 0, .slice none 0 0, .int .i64 0, .int .i64 0, .int .i64 0, .slice none 0 0] :: Blk b11 25 [.int .i64 0, .int .i64 0, .int .i64 0, .slice none 0 0, .slice none 0 0, .int .i64 0, .int .i64 0, .int .i64 0, .slice none 0 0] :: R) := S519.drop 0 rfl
      have S522 : Sat w515 I69 (Blk b42 25 [.int .i64 (rdNum (Rd.mk l false) 1 5), .int .i64 (rdNum (rdNumS (Rd.mk l false) 1 5) 1 16), .int .i64 (rdNum (rdNumS (rdNumS (Rd.mk l false) 1 5) 1 16) 1 1099511627776), .slice none 0 0, .slice none 0 0, .int .i64 0, .int .i64 0, .int .i64 0, .slice none 0 0] :: Blk b11 25 [.int .i64 0, .int .i64 0, .int .i64 0, .slice none 0 0, .slice none 0 0, .int .i64 0, .int .i64 0, .int .i64 0, .slice none 0 0] :: R) := S521.drop 0 rfl
      have S523 : Sat w515 I69 (Blk b11 25 [.int .i64 0, .int .i64 0, .int .i64 0, .slice none 0 0, .slice none 0 0, .int .i64 0, .int .i64 0, .int .i64 0, .slice none 0 0] :: R) := S522.drop 0 rfl
      have S524 : Sat w515 I69 (R) := S523.drop 0 rfl
      exact ⟨[.int .i64 0, .int .i64 0, .int .i64 0, .slice none 0 0, .slice none 0 0, .int .i64 0, .int .i64 0, .int .i64 0, .slice none 0 0], I69, (Gh.le_trans (Gh.le_trans (Gh.le_trans le22 le40) le59) le70), (by rw [decE, hok]; rfl), (by rw [q520]; exact ⟨(.slice none 0 0), (.slice none 0 0), (.slice none 0 0), rfl, (by first | assumption | omega | (dsimp only; omega)), (by first | assumption | omega | (dsimp only; omega)), (by first | assumption | omega | (dsimp only; omega)), ⟨rfl, Ro.nil⟩, ⟨rfl, Ro.nil⟩, (by first | assumption | omega | (dsimp only; omega)), (by first | assumption | omega | (dsimp only; omega)), (by first | assumption | omega | (dsimp only; omega)), ⟨rfl, RoX.nil⟩⟩), S524⟩

end Go.Proofs.Ytoajodjcmeijgaa
