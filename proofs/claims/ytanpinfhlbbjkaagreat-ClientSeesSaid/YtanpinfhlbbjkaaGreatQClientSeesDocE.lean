import Derived.Test.YtanpinfhlbbjkaaGreatQClientSeesDocs11
set_option linter.unusedVariables false
set_option linter.unusedSimpArgs false
set_option maxRecDepth 100000
set_option maxHeartbeats 4000000
namespace Go.Proofs.YtanpinfhlbbjkaaGreat
open Go.RowKit Go.Ecal

theorem MEntry_c (ce : List Value) (e : Entry) (I : Gh) (R : List HP) (w : World) (S : Sat w I (R)) (he : entR.r I ce e) (hws : e.wraps.length ≤ 1000000) : Ret Tryz.prog 33 [.agg ce.toArray] w fun v w' => ∃ cr : List Value, ∃ J : Gh, Gh.le I J ∧ .agg cr.toArray = v ∧ entR.r J cr e ∧ Sat w' J (R) := by
  obtain ⟨v0, v1, v2, rfl, r0, r1, r2, ⟨o0, H0⟩, ⟨o1, H1⟩, r3, r4, r5, ⟨o2, H2⟩⟩ := he
  refine ret_E Tryz.func33 rfl Tryz.ntmps33 (by simp) ?_
  refine g2 ?_
  refine yB (cs := entRC e v0 v1 v2) S ?_
  intro b0 w0 S0
  refine yN entR0 S0 ?_
  intro b1 w1 S1
  refine g20 ?_
  refine vl _ rfl (gB (entRC e v0 v1 (.slice none 0 0)) st_81 (parts8 rfl rfl rfl rfl rfl rfl rfl rfl) (fill_one rfl rfl rfl (fill_one rfl rfl rfl (fill_one rfl rfl rfl (fill_one rfl (one_cells o0) rfl (fill_one rfl (one_cells o1) rfl (fill_one rfl rfl rfl (fill_one rfl rfl rfl (fill_one rfl rfl rfl fill_end))))))))) ?_
  refine yN entR0 S1 ?_
  intro b2 w2 S2
  refine yW0 S2 ?_ (h1 := ones_cons rfl (ones_cons rfl (ones_cons rfl (ones_cons o0 (ones_cons o1 (ones_cons rfl (ones_cons rfl (ones_cons rfl (ones_cons rfl ones_nil)))))))))
  intro w3 S3
  refine g7 ?_
  refine vl _ rfl (r_lenX rfl (H2.row S3.le) U27) ?_
  refine g4 ?_
  have S4 : Sat _ _ (OwnX 162 wrapR (.slice none 0 0) [] :: _) := OwnX.nil S3 162 wrapR
  have q0 : [] = e.wraps.take 0 := by rw [List.take_zero]
  have S5 := S4.ax0 q0
  refine EC_loop (fun m' E' w' => ∃ j : Nat, ∃ wv : Value, ∃ J : Gh, m' = e.wraps.length - j ∧ E' 26 = .int .i64 (j : Int) ∧ E' 2 = ptr b1 ∧ E' 3 = ptr b2 ∧ E' 24 = v2 ∧ E' 25 = .int .i64 (e.wraps.length : Int) ∧ (j ≤ e.wraps.length) ∧ Gh.le I J ∧ Sat w' J (Blk b2 81 (entRC e v0 v1 wv) :: OwnX 162 wrapR wv (e.wraps.take j) :: Blk b1 81 entR0 :: Blk b0 29 (entRC e v0 v1 v2) :: R)) _ ⟨0, .slice none 0 0, I, rfl, rfl, rfl, rfl, rfl, rfl, Nat.zero_le _, (Gh.le_refl _), S5.fr3.fr3.fr2.fr3⟩ ?_
  rintro _ E0 w4 ⟨j, wv, I0, rfl, e0, e1, e2, e3, e4, hj, le0, S6⟩
  refine g6 ?_
  refine EC_if rfl (fun h0 => ?_) (fun h0 => ?_)
  refine g6 ?_
  refine vl (ptr (blkOf v2) (offOf v2 + ((j : Int) : Int).toNat * 2)) rfl (r_indexX (by exact e3) (H2.row (lT le0 S6.le)) (by exact e0) (by omega) as' U27 (by kernel_rfl)) ?_
  obtain ⟨a0, ha0⟩ := get_some (l := e.wraps) (j := ((j : Int) : Int).toNat) as'
  obtain ⟨cs0, hc0, he0⟩ := H2.el ha0
  obtain ⟨v3, rfl, r6, ⟨o3, H3⟩⟩ := hc0
  refine vl (.agg ([.int .i64 a0.who, v3]).toArray) rfl (r_loadR (cs := [.int .i64 a0.who, v3]) rfl (he0 _ (lT le0 S6.le)) U113 rfl (by kernel_rfl)) ?_
  refine yN [.int .i64 0, .slice none 0 0] S6 ?_
  intro b3 w5 S7
  refine yW0 S7 ?_ (h1 := ones_cons rfl (ones_cons o3 ones_nil))
  intro w6 S8
  refine g6 ?_
  refine EL_litW (z := #[.int .i64 0, .slice none 0 0]) (cs := ([.int .i64 a0.who, v3]).toArray) (sz := 2) (l := [(0, .agg ([.int .i64 a0.who, v3]).toArray)]) rfl U79 (by kernel_rfl) (parts1 rfl) (by kernel_rfl) rfl (by decide) ?_
  intro v4 w7 O0 B0 k0
  have S9 : Sat _ _ (OwnX 162 wrapR v4 [a0] :: _) := OwnX.cls (xss := [[.int .i64 a0.who, v3]]) (.cons ⟨v3, rfl, ad, ⟨o3, (H3.up le0)⟩⟩ .nil) (S8.newO B0 O0)
  have oH103 := (OwnX.one S9 0 rfl (by decide))
  obtain ⟨I1, le1, S10, H4⟩ := S9.fx0 (by decide)
  refine EL_appX (z := (.agg #[.int .i64 0, .slice none 0 0])) (bytes := 32) rfl U79 (by kernel_rfl) rfl (by decide) rfl rfl S10.fr2 H4 ac ac ?_
  intro v5 w8 S11
  refine g1 ?_
  refine yS2 S11 ?_ (hu := OwnX.one S11 0 rfl (by decide))
  intro w9 S12
  refine g4 ?_
  refine EL_int ((j : Int) + 1) rfl (r_addi (by exact e0) rfl (by omega)) ?_
  intro x0 hx110
  refine g3 ?_
  have q1 : (e.wraps.take j) ++ [a0] = e.wraps.take (j + 1) := by rw [List.take_add_one, (show e.wraps[j]? = _ from ha0)]; rfl
  have S13 := S12.ax0 q1
  refine ⟨_, ?_, j + 1, v5, I1, rfl, (Eq.trans (show _ = Value.int .i64 x0 from rfl) (congrArg _ (by omega))), (by exact e1), (by exact e2), (by exact e3), (by exact e4), by omega, (lT le0 le1), S13.dr1.fr3.fr3.fr2.fr3⟩
  first | omega | (simp; omega)
  refine g8 ?_
  refine yW2 S6 ?_ (h1 := ones_cons rfl (ones_cons rfl (ones_cons rfl (ones_cons o0 (ones_cons o1 (ones_cons rfl (ones_cons rfl (ones_cons rfl (ones_cons (OwnX.one S6 1 rfl (by decide)) ones_nil)))))))))
  intro w10 S14
  refine g3 ?_
  refine f1c Tryz.results33 ?_
  have q2 : e.wraps.take j = e.wraps := by rw [List.take_of_length_le (by omega)]
  have S15 := S14.ax1 q2
  have oH128 := (OwnX.one S15 1 rfl (by decide))
  obtain ⟨I2, le2, S16, H5⟩ := S15.fx1 (by decide)
  have q3 : e = (⟨e.kind, e.writer, e.seq, e.name, e.value, e.who, e.rights, e.epoch, e.wraps⟩ : Entry) := rfl
  exact ⟨_, I2, (lT le0 le2), rfl, (by rw [q3]; exact ⟨v0, v1, wv, rfl, ad, ad, ad, ⟨o0, (H0.up (lT le0 le2))⟩, ⟨o1, (H1.up (lT le0 le2))⟩, ad, ad, ad, ⟨oH128, H5⟩⟩), S16.dr0.dr0.dr0⟩

theorem Apply11_c (v0 : Value) (K : List Doc) (ce : List Value) (e : Entry) (I : Gh) (R : List HP) (w : World) (S : Sat w I (R)) (Q0 : RoX I v0 docR K) (he : entR.r I ce e) (hr : RiseD K) (hl : K.length ≤ 1000000) (hk1 : 1 ≤ e.kind) : Ret Tryz.prog 32 [v0, .agg ce.toArray] w fun v w' => ∃ v1 : Value, ∃ x : Int, ∃ J : Gh, Gh.le I J ∧ .tuple #[v1, .int .i64 x] = v ∧ (v1.oneCell' = true) ∧ RoX J v1 docR (apD K e) ∧ Sat w' J (R) := by
  have lq0 := XRow.le (Q0.row S.le)
  obtain ⟨v2, v3, v4, rfl, r0, r1, r2, ⟨o0, H0⟩, ⟨o1, H1⟩, r3, r4, r5, ⟨o2, H2⟩⟩ := he
  refine ret_E Tryz.func32 rfl Tryz.ntmps32 (by simp) ?_
  refine g2 ?_
  refine yB (cs := entRC e v2 v3 v4) S ?_
  intro b0 w0 S0
  refine g12 ?_
  refine EC_if rfl (fun h0 => ?_) (fun h0 => ?_)
  have hk2 : 2 < e.kind := h0
  refine g9 ?_
  refine f2 Tryz.results32 ?_
  rw [show apD K e = K by rw [apD, if_neg (by omega), if_neg (by omega)]]
  exact ⟨v0, 0, I, (Gh.le_refl _), rfl, (XRow.one (Q0.row S0.le)), Q0, S0.dr0⟩
  have hk2 : ¬ 2 < e.kind := h0
  refine g24 ?_
  have S1 : Sat _ _ (OwnX 161 docR (.slice none 0 0) [] :: _) := OwnX.nil S0 161 docR
  refine EC_loop (fun m' E' w' => ∃ j : Nat, ∃ ov : Value, ∃ bs : List Doc, ∃ th : Bool, ∃ dn : Bool, ∃ J : Gh, m' = K.length - j ∧ E' 9 = .int .i64 (j : Int) ∧ E' 6 = ov ∧ E' 7 = .bool th ∧ E' 8 = .bool dn ∧ E' 0 = v0 ∧ E' 3 = ptr b0 ∧ E' 4 = .slice none 0 0 ∧ E' 5 = .int .i64 0 ∧ (j ≤ K.length) ∧ ((bs, th, dn) = apGo e (K.take j)) ∧ (bs.length ≤ 2 * j) ∧ Gh.le I J ∧ Sat w' J (OwnX 161 docR ov bs :: Blk b0 81 (entRC e v2 v3 v4) :: R)) _ ⟨0, .slice none 0 0, [], false, false, I, rfl, rfl, rfl, rfl, rfl, rfl, rfl, rfl, rfl, Nat.zero_le _, rfl, (by simp), (Gh.le_refl _), S1⟩ ?_
  rintro _ E0 w1 ⟨j, ov, bs, th, dn, I0, rfl, e0, e1, e2, e3, e4, e5, e6, e7, hj, hx, hbl, le0, S2⟩
  refine g5 ?_
  refine vl _ rfl (r_lenX rfl (Q0.row (lT le0 S2.le)) U76) ?_
  refine g3 ?_
  refine EC_if rfl (fun h1 => ?_) (fun h1 => ?_)
  refine g5 ?_
  obtain ⟨a0, ha0⟩ := get_some (l := K) (j := ((j : Int) : Int).toNat) as'
  obtain ⟨cs0, hc0, he0⟩ := Q0.el ha0
  obtain ⟨v5, v6, rfl, ⟨o3, H3⟩, ⟨o4, H4⟩⟩ := hc0
  rcases Bool.eq_false_or_eq_true (decide (a0.1 = e.name)) with hsm | hsm
  have hsm2 : a0.1 = e.name := of_decide_eq_true hsm
  refine EC_quietB (by kernel_rfl) (by kernel_rfl) ?_
  refine g2 ?_
  refine EQ_val (ptr (blkOf v0) (offOf v0 + ((j : Int) : Int).toNat * 2)) rfl (fun _ hw => r_indexX rfl (XRow.below (Q0.row (lT le0 S2.le)) (hp_below hw)) rfl (by omega) as' U76 (by kernel_rfl)) (EQ_val (ptr (blkOf v0) (offOf v0 + ((j : Int) : Int).toNat * 2 + 0)) rfl (fun _ hw => r_fieldP (s := 1) rfl U161 rfl (by kernel_rfl) (by decide) rfl) ?_)
  obtain ⟨cs1, hc1, he1⟩ := Q0.el ha0
  obtain ⟨v7, v8, rfl, ⟨o5, H5⟩, ⟨o6, H6⟩⟩ := hc1
  refine EQ_val v7 rfl (fun _ hw => r_loadF (k := 0) rfl (ElAt.below (he1 _ (lT le0 S2.le)) (hp_below hw)) rfl U26 rfl) (EQ_val (.string (str a0.1)) rfl (fun _ hw => r_str rfl ((H5 _ (lT le0 S2.le)).below hw) U26 U5 U9) ?_)
  refine g2 ?_
  refine EQ_val (.string (str e.name)) rfl (fun _ hw => r_str rfl ((H0 _ (lT le0 S2.le)).below hw) U26 U5 U9) (EQ_val _ rfl (fun _ hw => dcT (r_eqls rfl rfl) hsm) ?_)
  refine g1 ?_
  refine yE S2 ?_
  intro w2 S3
  refine g12 ?_
  rcases first3 (e.kind = 1) (dn = false) (bytesBefore a0.1 e.name = false) with hq | hq | hq | hq
  have hpd : decide (e.kind = 1 ∧ dn = false ∧ bytesBefore a0.1 e.name = false) = false := decide_eq_false (fun h => hq h.1)
  refine EC_quietB (by kernel_rfl) (by kernel_rfl) ?_
  refine g2 ?_
  refine EQ_val _ rfl (fun _ hw => dcF (r_eql rfl rfl) (by simp [hq])) ?_
  refine g16 ?_
  refine yE S3 ?_
  intro w3 S4
  refine g7 ?_
  refine vl _ rfl (dcF (r_not rfl) rfl) ?_
  refine g8 ?_
  refine EL_int ((j : Int) + 1) rfl (r_addi rfl rfl (by omega)) ?_
  intro x0 hx77
  refine g3 ?_
  refine ⟨_, ?_, j + 1, ov, bs, th || true, dn, I0, rfl, (Eq.trans (show _ = Value.int .i64 x0 from rfl) (congrArg _ (by omega))), (by exact e1), rfl, (by exact e3), (by exact e4), (by exact e5), (by exact e6), (by exact e7), by omega, (by rw [apGo_step (show K[j]? = _ from ha0), ← hx, ap1_of hsm hpd]; simp), (by first | omega | (simp; omega)), le0, S4⟩
  first | omega | (simp; omega)
  have hpd : decide (e.kind = 1 ∧ dn = false ∧ bytesBefore a0.1 e.name = false) = false := decide_eq_false (fun h => hq.2 h.2.1)
  have hdn1 : dn = true := by cases dn; exact absurd rfl hq.2; rfl
  refine EC_quietB (by kernel_rfl) (by kernel_rfl) ?_
  refine g2 ?_
  refine EQ_val _ rfl (fun _ hw => dcT (r_eql rfl rfl) (by simp [hq.1])) ?_
  refine g7 ?_
  refine EQ_gite 42 rfl rfl rfl (ptr (blkOf v0) (offOf v0 + ((j : Int) : Int).toNat * 2)) rfl (fun g80 _ hw => r_indexX (cond_of g80 rfl) (XRow.below (Q0.row (lT le0 S3.le)) (hp_below hw)) (cond_of g80 rfl) (by omega) as' U76 (by kernel_rfl)) (EQ_gite 42 rfl rfl rfl (ptr (blkOf v0) (offOf v0 + ((j : Int) : Int).toNat * 2 + 0)) rfl (fun g81 _ hw => r_fieldP (s := 1) (cond_of g81 rfl) U161 rfl (by kernel_rfl) (by decide) rfl) ?_)
  obtain ⟨cs2, hc2, he2⟩ := Q0.el ha0
  obtain ⟨v9, v10, rfl, ⟨o7, H7⟩, ⟨o8, H8⟩⟩ := hc2
  refine EQ_gite 42 rfl rfl rfl v9 rfl (fun g82 _ hw => r_loadF (k := 0) (cond_of g82 rfl) (ElAt.below (he2 _ (lT le0 S3.le)) (hp_below hw)) rfl U26 rfl) (EQ_gite 42 rfl rfl rfl (.string (str a0.1)) rfl (fun g92 _ hw => r_str (cond_of g92 rfl) ((H7 _ (lT le0 S3.le)).below hw) U26 U5 U9) ?_)
  refine g2 ?_
  refine EQ_gite 42 rfl rfl rfl (.string (str e.name)) rfl (fun g95 _ hw => r_str (cond_of g95 rfl) ((H0 _ (lT le0 S3.le)).below hw) U26 U5 U9) (EQ_gite 42 rfl rfl rfl (.bool (!(bytesBefore a0.1 e.name))) rfl (fun g96 _ hw => r_geqs (cond_of g96 rfl) (cond_of g96 rfl)) ?_)
  refine g1 ?_
  refine yE S3 ?_
  intro w4 S5
  refine g1 ?_
  refine EC_cond_false (Eq.trans (show _ = Value.bool (!dn && (!(bytesBefore a0.1 e.name))) from rfl) (congrArg Value.bool (show (!dn && (!(bytesBefore a0.1 e.name))) = false from (by simp [hdn1])))) ?_
  refine g5 ?_
  refine vl _ rfl (dcF (r_not rfl) rfl) ?_
  refine g8 ?_
  refine EL_int ((j : Int) + 1) rfl (r_addi rfl rfl (by omega)) ?_
  intro x1 hx100
  refine g3 ?_
  refine ⟨_, ?_, j + 1, ov, bs, th || true, dn, I0, rfl, (Eq.trans (show _ = Value.int .i64 x1 from rfl) (congrArg _ (by omega))), (by exact e1), rfl, (by exact e3), (by exact e4), (by exact e5), (by exact e6), (by exact e7), by omega, (by rw [apGo_step (show K[j]? = _ from ha0), ← hx, ap1_of hsm hpd]; simp), (by first | omega | (simp; omega)), le0, S5⟩
  first | omega | (simp; omega)
  have hpd : decide (e.kind = 1 ∧ dn = false ∧ bytesBefore a0.1 e.name = false) = false := decide_eq_false (fun h => hq.2.2 h.2.2)
  have hbf : bytesBefore a0.1 e.name = true := by simpa using hq.2.2
  refine EC_quietB (by kernel_rfl) (by kernel_rfl) ?_
  refine g2 ?_
  refine EQ_val _ rfl (fun _ hw => dcT (r_eql rfl rfl) (by simp [hq.1])) ?_
  refine g7 ?_
  refine EQ_gite 42 rfl rfl rfl (ptr (blkOf v0) (offOf v0 + ((j : Int) : Int).toNat * 2)) rfl (fun g103 _ hw => r_indexX (cond_of g103 rfl) (XRow.below (Q0.row (lT le0 S3.le)) (hp_below hw)) (cond_of g103 rfl) (by omega) as' U76 (by kernel_rfl)) (EQ_gite 42 rfl rfl rfl (ptr (blkOf v0) (offOf v0 + ((j : Int) : Int).toNat * 2 + 0)) rfl (fun g104 _ hw => r_fieldP (s := 1) (cond_of g104 rfl) U161 rfl (by kernel_rfl) (by decide) rfl) ?_)
  obtain ⟨cs3, hc3, he3⟩ := Q0.el ha0
  obtain ⟨v11, v12, rfl, ⟨o9, H9⟩, ⟨o10, H10⟩⟩ := hc3
  refine EQ_gite 42 rfl rfl rfl v11 rfl (fun g105 _ hw => r_loadF (k := 0) (cond_of g105 rfl) (ElAt.below (he3 _ (lT le0 S3.le)) (hp_below hw)) rfl U26 rfl) (EQ_gite 42 rfl rfl rfl (.string (str a0.1)) rfl (fun g115 _ hw => r_str (cond_of g115 rfl) ((H9 _ (lT le0 S3.le)).below hw) U26 U5 U9) ?_)
  refine g2 ?_
  refine EQ_gite 42 rfl rfl rfl (.string (str e.name)) rfl (fun g118 _ hw => r_str (cond_of g118 rfl) ((H0 _ (lT le0 S3.le)).below hw) U26 U5 U9) (EQ_gite 42 rfl rfl rfl (.bool false) rfl (fun g119 _ hw => r_dec (show (!(bytesBefore a0.1 e.name)) = false from by simp [hbf]) (r_geqs (cond_of g119 rfl) (cond_of g119 rfl))) ?_)
  refine g1 ?_
  refine yE S3 ?_
  intro w5 S6
  refine g1 ?_
  refine EC_cond_false (Eq.trans (show _ = Value.bool (!dn && false) from rfl) (congrArg Value.bool (show (!dn && false) = false from (by simp [hbf])))) ?_
  refine g5 ?_
  refine vl _ rfl (dcF (r_not rfl) rfl) ?_
  refine g8 ?_
  refine EL_int ((j : Int) + 1) rfl (r_addi rfl rfl (by omega)) ?_
  intro x2 hx123
  refine g3 ?_
  refine ⟨_, ?_, j + 1, ov, bs, th || true, dn, I0, rfl, (Eq.trans (show _ = Value.int .i64 x2 from rfl) (congrArg _ (by omega))), (by exact e1), rfl, (by exact e3), (by exact e4), (by exact e5), (by exact e6), (by exact e7), by omega, (by rw [apGo_step (show K[j]? = _ from ha0), ← hx, ap1_of hsm hpd]; simp), (by first | omega | (simp; omega)), le0, S6⟩
  first | omega | (simp; omega)
  have hpd : decide (e.kind = 1 ∧ dn = false ∧ bytesBefore a0.1 e.name = false) = true := decide_eq_true hq
  refine EC_quietB (by kernel_rfl) (by kernel_rfl) ?_
  refine g2 ?_
  refine EQ_val _ rfl (fun _ hw => dcT (r_eql rfl rfl) (by simp [hq.1])) ?_
  refine g7 ?_
  refine EQ_gite 42 rfl rfl rfl (ptr (blkOf v0) (offOf v0 + ((j : Int) : Int).toNat * 2)) rfl (fun g126 _ hw => r_indexX (cond_of g126 rfl) (XRow.below (Q0.row (lT le0 S3.le)) (hp_below hw)) (cond_of g126 rfl) (by omega) as' U76 (by kernel_rfl)) (EQ_gite 42 rfl rfl rfl (ptr (blkOf v0) (offOf v0 + ((j : Int) : Int).toNat * 2 + 0)) rfl (fun g127 _ hw => r_fieldP (s := 1) (cond_of g127 rfl) U161 rfl (by kernel_rfl) (by decide) rfl) ?_)
  obtain ⟨cs4, hc4, he4⟩ := Q0.el ha0
  obtain ⟨v13, v14, rfl, ⟨o11, H11⟩, ⟨o12, H12⟩⟩ := hc4
  refine EQ_gite 42 rfl rfl rfl v13 rfl (fun g128 _ hw => r_loadF (k := 0) (cond_of g128 rfl) (ElAt.below (he4 _ (lT le0 S3.le)) (hp_below hw)) rfl U26 rfl) (EQ_gite 42 rfl rfl rfl (.string (str a0.1)) rfl (fun g138 _ hw => r_str (cond_of g138 rfl) ((H11 _ (lT le0 S3.le)).below hw) U26 U5 U9) ?_)
  refine g2 ?_
  refine EQ_gite 42 rfl rfl rfl (.string (str e.name)) rfl (fun g141 _ hw => r_str (cond_of g141 rfl) ((H0 _ (lT le0 S3.le)).below hw) U26 U5 U9) (EQ_gite 42 rfl rfl rfl (.bool true) rfl (fun g142 _ hw => r_dec (show (!(bytesBefore a0.1 e.name)) = true from by simp [hq.2.2]) (r_geqs (cond_of g142 rfl) (cond_of g142 rfl))) ?_)
  refine g1 ?_
  refine yE S3 ?_
  intro w6 S7
  refine g1 ?_
  refine EC_cond_true (Eq.trans (show _ = Value.bool (!dn && true) from rfl) (congrArg Value.bool (show (!dn && true) = true from (by simp [hq.2.1, hq.2.2])))) ?_
  refine g7 ?_
  refine vl _ rfl (gB [v2, v3] st_161 (parts2 rfl rfl) (fill_one rfl (one_cells o0) rfl (fill_one rfl (one_cells o1) rfl fill_end))) ?_
  refine EL_litW (z := #[.slice none 0 0, .slice none 0 0]) (cs := ([v2, v3]).toArray) (sz := 2) (l := [(0, .agg ([v2, v3]).toArray)]) rfl U76 (by kernel_rfl) (parts1 rfl) (by kernel_rfl) rfl (by decide) ?_
  intro v15 w7 O0 B0 k0
  have S8 : Sat _ _ (OwnX 161 docR v15 [(⟨e.name, e.value⟩ : Doc)] :: _) := OwnX.cls (xss := [[v2, v3]]) (.cons ⟨v2, v3, rfl, ⟨o0, (H0.up le0)⟩, ⟨o1, (H1.up le0)⟩⟩ .nil) (S7.newO B0 O0)
  have oH158 := (OwnX.one S8 0 rfl (by decide))
  obtain ⟨I1, le1, S9, H13⟩ := S8.fx0 (by decide)
  refine EL_appX (z := (.agg #[.slice none 0 0, .slice none 0 0])) (bytes := 48) rfl U76 (by kernel_rfl) rfl (by decide) rfl rfl S9 H13 ac ac ?_
  intro v16 w8 S10
  refine g10 ?_
  refine vl _ rfl (dcF (r_not rfl) rfl) ?_
  refine g8 ?_
  refine EL_int ((j : Int) + 1) rfl (r_addi rfl rfl (by omega)) ?_
  intro x3 hx159
  refine g3 ?_
  refine ⟨_, ?_, j + 1, v16, bs ++ [(⟨e.name, e.value⟩ : Doc)], th || true, true, I1, rfl, (Eq.trans (show _ = Value.int .i64 x3 from rfl) (congrArg _ (by omega))), rfl, rfl, rfl, (by exact e4), (by exact e5), (by exact e6), (by exact e7), by omega, (by rw [apGo_step (show K[j]? = _ from ha0), ← hx, ap1_of hsm hpd]; simp), (by first | omega | (simp; omega)), (lT le0 le1), S10⟩
  first | omega | (simp; omega)
  have hsm2 : ¬ a0.1 = e.name := of_decide_eq_false hsm
  refine EC_quietB (by kernel_rfl) (by kernel_rfl) ?_
  refine g2 ?_
  refine EQ_val (ptr (blkOf v0) (offOf v0 + ((j : Int) : Int).toNat * 2)) rfl (fun _ hw => r_indexX rfl (XRow.below (Q0.row (lT le0 S2.le)) (hp_below hw)) rfl (by omega) as' U76 (by kernel_rfl)) (EQ_val (ptr (blkOf v0) (offOf v0 + ((j : Int) : Int).toNat * 2 + 0)) rfl (fun _ hw => r_fieldP (s := 1) rfl U161 rfl (by kernel_rfl) (by decide) rfl) ?_)
  obtain ⟨cs5, hc5, he5⟩ := Q0.el ha0
  obtain ⟨v17, v18, rfl, ⟨o13, H14⟩, ⟨o14, H15⟩⟩ := hc5
  refine EQ_val v17 rfl (fun _ hw => r_loadF (k := 0) rfl (ElAt.below (he5 _ (lT le0 S2.le)) (hp_below hw)) rfl U26 rfl) (EQ_val (.string (str a0.1)) rfl (fun _ hw => r_str rfl ((H14 _ (lT le0 S2.le)).below hw) U26 U5 U9) ?_)
  refine g2 ?_
  refine EQ_val (.string (str e.name)) rfl (fun _ hw => r_str rfl ((H0 _ (lT le0 S2.le)).below hw) U26 U5 U9) (EQ_val _ rfl (fun _ hw => dcF (r_eqls rfl rfl) hsm) ?_)
  refine g1 ?_
  refine yE S2 ?_
  intro w9 S11
  refine g12 ?_
  rcases first3 (e.kind = 1) (dn = false) (bytesBefore a0.1 e.name = false) with hq | hq | hq | hq
  have hpd : decide (e.kind = 1 ∧ dn = false ∧ bytesBefore a0.1 e.name = false) = false := decide_eq_false (fun h => hq h.1)
  refine EC_quietB (by kernel_rfl) (by kernel_rfl) ?_
  refine g2 ?_
  refine EQ_val _ rfl (fun _ hw => dcF (r_eql rfl rfl) (by simp [hq])) ?_
  refine g16 ?_
  refine yE S11 ?_
  intro w10 S12
  refine g7 ?_
  refine vl _ rfl (dcT (r_not rfl) rfl) ?_
  refine g7 ?_
  refine vl (ptr (blkOf v0) (offOf v0 + ((j : Int) : Int).toNat * 2)) rfl (r_indexX rfl (Q0.row (lT le0 S12.le)) rfl (by omega) as' U76 (by kernel_rfl)) ?_
  obtain ⟨cs6, hc6, he6⟩ := Q0.el ha0
  obtain ⟨v19, v20, rfl, ⟨o15, H16⟩, ⟨o16, H17⟩⟩ := hc6
  refine vl (.agg ([v19, v20]).toArray) rfl (r_loadR (cs := [v19, v20]) rfl (he6 _ (lT le0 S12.le)) U161 rfl (by kernel_rfl)) ?_
  refine EL_litW (z := #[.slice none 0 0, .slice none 0 0]) (cs := ([v19, v20]).toArray) (sz := 2) (l := [(0, .agg ([v19, v20]).toArray)]) rfl U76 (by kernel_rfl) (parts1 rfl) (by kernel_rfl) rfl (by decide) ?_
  intro v21 w11 O1 B1 k1
  have S13 : Sat _ _ (OwnX 161 docR v21 [a0] :: _) := OwnX.cls (xss := [[v19, v20]]) (.cons ⟨v19, v20, rfl, ⟨o15, (H16.up le0)⟩, ⟨o16, (H17.up le0)⟩⟩ .nil) (S12.newO B1 O1)
  have oH197 := (OwnX.one S13 0 rfl (by decide))
  obtain ⟨I2, le2, S14, H18⟩ := S13.fx0 (by decide)
  refine EL_appX (z := (.agg #[.slice none 0 0, .slice none 0 0])) (bytes := 48) rfl U76 (by kernel_rfl) rfl (by decide) rfl rfl S14 H18 ac ac ?_
  intro v22 w12 S15
  refine g6 ?_
  refine EL_int ((j : Int) + 1) rfl (r_addi rfl rfl (by omega)) ?_
  intro x4 hx198
  refine g3 ?_
  refine ⟨_, ?_, j + 1, v22, bs ++ [a0], th || false, dn, I2, rfl, (Eq.trans (show _ = Value.int .i64 x4 from rfl) (congrArg _ (by omega))), rfl, rfl, (by exact e3), (by exact e4), (by exact e5), (by exact e6), (by exact e7), by omega, (by rw [apGo_step (show K[j]? = _ from ha0), ← hx, ap1_of hsm hpd]; simp), (by first | omega | (simp; omega)), (lT le0 le2), S15⟩
  first | omega | (simp; omega)
  have hpd : decide (e.kind = 1 ∧ dn = false ∧ bytesBefore a0.1 e.name = false) = false := decide_eq_false (fun h => hq.2 h.2.1)
  have hdn1 : dn = true := by cases dn; exact absurd rfl hq.2; rfl
  refine EC_quietB (by kernel_rfl) (by kernel_rfl) ?_
  refine g2 ?_
  refine EQ_val _ rfl (fun _ hw => dcT (r_eql rfl rfl) (by simp [hq.1])) ?_
  refine g7 ?_
  refine EQ_gite 42 rfl rfl rfl (ptr (blkOf v0) (offOf v0 + ((j : Int) : Int).toNat * 2)) rfl (fun g201 _ hw => r_indexX (cond_of g201 rfl) (XRow.below (Q0.row (lT le0 S11.le)) (hp_below hw)) (cond_of g201 rfl) (by omega) as' U76 (by kernel_rfl)) (EQ_gite 42 rfl rfl rfl (ptr (blkOf v0) (offOf v0 + ((j : Int) : Int).toNat * 2 + 0)) rfl (fun g202 _ hw => r_fieldP (s := 1) (cond_of g202 rfl) U161 rfl (by kernel_rfl) (by decide) rfl) ?_)
  obtain ⟨cs7, hc7, he7⟩ := Q0.el ha0
  obtain ⟨v23, v24, rfl, ⟨o17, H19⟩, ⟨o18, H20⟩⟩ := hc7
  refine EQ_gite 42 rfl rfl rfl v23 rfl (fun g203 _ hw => r_loadF (k := 0) (cond_of g203 rfl) (ElAt.below (he7 _ (lT le0 S11.le)) (hp_below hw)) rfl U26 rfl) (EQ_gite 42 rfl rfl rfl (.string (str a0.1)) rfl (fun g213 _ hw => r_str (cond_of g213 rfl) ((H19 _ (lT le0 S11.le)).below hw) U26 U5 U9) ?_)
  refine g2 ?_
  refine EQ_gite 42 rfl rfl rfl (.string (str e.name)) rfl (fun g216 _ hw => r_str (cond_of g216 rfl) ((H0 _ (lT le0 S11.le)).below hw) U26 U5 U9) (EQ_gite 42 rfl rfl rfl (.bool (!(bytesBefore a0.1 e.name))) rfl (fun g217 _ hw => r_geqs (cond_of g217 rfl) (cond_of g217 rfl)) ?_)
  refine g1 ?_
  refine yE S11 ?_
  intro w13 S16
  refine g1 ?_
  refine EC_cond_false (Eq.trans (show _ = Value.bool (!dn && (!(bytesBefore a0.1 e.name))) from rfl) (congrArg Value.bool (show (!dn && (!(bytesBefore a0.1 e.name))) = false from (by simp [hdn1])))) ?_
  refine g5 ?_
  refine vl _ rfl (dcT (r_not rfl) rfl) ?_
  refine g7 ?_
  refine vl (ptr (blkOf v0) (offOf v0 + ((j : Int) : Int).toNat * 2)) rfl (r_indexX rfl (Q0.row (lT le0 S16.le)) rfl (by omega) as' U76 (by kernel_rfl)) ?_
  obtain ⟨cs8, hc8, he8⟩ := Q0.el ha0
  obtain ⟨v25, v26, rfl, ⟨o19, H21⟩, ⟨o20, H22⟩⟩ := hc8
  refine vl (.agg ([v25, v26]).toArray) rfl (r_loadR (cs := [v25, v26]) rfl (he8 _ (lT le0 S16.le)) U161 rfl (by kernel_rfl)) ?_
  refine EL_litW (z := #[.slice none 0 0, .slice none 0 0]) (cs := ([v25, v26]).toArray) (sz := 2) (l := [(0, .agg ([v25, v26]).toArray)]) rfl U76 (by kernel_rfl) (parts1 rfl) (by kernel_rfl) rfl (by decide) ?_
  intro v27 w14 O2 B2 k2
  have S17 : Sat _ _ (OwnX 161 docR v27 [a0] :: _) := OwnX.cls (xss := [[v25, v26]]) (.cons ⟨v25, v26, rfl, ⟨o19, (H21.up le0)⟩, ⟨o20, (H22.up le0)⟩⟩ .nil) (S16.newO B2 O2)
  have oH242 := (OwnX.one S17 0 rfl (by decide))
  obtain ⟨I3, le3, S18, H23⟩ := S17.fx0 (by decide)
  refine EL_appX (z := (.agg #[.slice none 0 0, .slice none 0 0])) (bytes := 48) rfl U76 (by kernel_rfl) rfl (by decide) rfl rfl S18 H23 ac ac ?_
  intro v28 w15 S19
  refine g6 ?_
  refine EL_int ((j : Int) + 1) rfl (r_addi rfl rfl (by omega)) ?_
  intro x5 hx243
  refine g3 ?_
  refine ⟨_, ?_, j + 1, v28, bs ++ [a0], th || false, dn, I3, rfl, (Eq.trans (show _ = Value.int .i64 x5 from rfl) (congrArg _ (by omega))), rfl, rfl, (by exact e3), (by exact e4), (by exact e5), (by exact e6), (by exact e7), by omega, (by rw [apGo_step (show K[j]? = _ from ha0), ← hx, ap1_of hsm hpd]; simp), (by first | omega | (simp; omega)), (lT le0 le3), S19⟩
  first | omega | (simp; omega)
  have hpd : decide (e.kind = 1 ∧ dn = false ∧ bytesBefore a0.1 e.name = false) = false := decide_eq_false (fun h => hq.2.2 h.2.2)
  have hbf : bytesBefore a0.1 e.name = true := by simpa using hq.2.2
  refine EC_quietB (by kernel_rfl) (by kernel_rfl) ?_
  refine g2 ?_
  refine EQ_val _ rfl (fun _ hw => dcT (r_eql rfl rfl) (by simp [hq.1])) ?_
  refine g7 ?_
  refine EQ_gite 42 rfl rfl rfl (ptr (blkOf v0) (offOf v0 + ((j : Int) : Int).toNat * 2)) rfl (fun g246 _ hw => r_indexX (cond_of g246 rfl) (XRow.below (Q0.row (lT le0 S11.le)) (hp_below hw)) (cond_of g246 rfl) (by omega) as' U76 (by kernel_rfl)) (EQ_gite 42 rfl rfl rfl (ptr (blkOf v0) (offOf v0 + ((j : Int) : Int).toNat * 2 + 0)) rfl (fun g247 _ hw => r_fieldP (s := 1) (cond_of g247 rfl) U161 rfl (by kernel_rfl) (by decide) rfl) ?_)
  obtain ⟨cs9, hc9, he9⟩ := Q0.el ha0
  obtain ⟨v29, v30, rfl, ⟨o21, H24⟩, ⟨o22, H25⟩⟩ := hc9
  refine EQ_gite 42 rfl rfl rfl v29 rfl (fun g248 _ hw => r_loadF (k := 0) (cond_of g248 rfl) (ElAt.below (he9 _ (lT le0 S11.le)) (hp_below hw)) rfl U26 rfl) (EQ_gite 42 rfl rfl rfl (.string (str a0.1)) rfl (fun g258 _ hw => r_str (cond_of g258 rfl) ((H24 _ (lT le0 S11.le)).below hw) U26 U5 U9) ?_)
  refine g2 ?_
  refine EQ_gite 42 rfl rfl rfl (.string (str e.name)) rfl (fun g261 _ hw => r_str (cond_of g261 rfl) ((H0 _ (lT le0 S11.le)).below hw) U26 U5 U9) (EQ_gite 42 rfl rfl rfl (.bool false) rfl (fun g262 _ hw => r_dec (show (!(bytesBefore a0.1 e.name)) = false from by simp [hbf]) (r_geqs (cond_of g262 rfl) (cond_of g262 rfl))) ?_)
  refine g1 ?_
  refine yE S11 ?_
  intro w16 S20
  refine g1 ?_
  refine EC_cond_false (Eq.trans (show _ = Value.bool (!dn && false) from rfl) (congrArg Value.bool (show (!dn && false) = false from (by simp [hbf])))) ?_
  refine g5 ?_
  refine vl _ rfl (dcT (r_not rfl) rfl) ?_
  refine g7 ?_
  refine vl (ptr (blkOf v0) (offOf v0 + ((j : Int) : Int).toNat * 2)) rfl (r_indexX rfl (Q0.row (lT le0 S20.le)) rfl (by omega) as' U76 (by kernel_rfl)) ?_
  obtain ⟨cs10, hc10, he10⟩ := Q0.el ha0
  obtain ⟨v31, v32, rfl, ⟨o23, H26⟩, ⟨o24, H27⟩⟩ := hc10
  refine vl (.agg ([v31, v32]).toArray) rfl (r_loadR (cs := [v31, v32]) rfl (he10 _ (lT le0 S20.le)) U161 rfl (by kernel_rfl)) ?_
  refine EL_litW (z := #[.slice none 0 0, .slice none 0 0]) (cs := ([v31, v32]).toArray) (sz := 2) (l := [(0, .agg ([v31, v32]).toArray)]) rfl U76 (by kernel_rfl) (parts1 rfl) (by kernel_rfl) rfl (by decide) ?_
  intro v33 w17 O3 B3 k3
  have S21 : Sat _ _ (OwnX 161 docR v33 [a0] :: _) := OwnX.cls (xss := [[v31, v32]]) (.cons ⟨v31, v32, rfl, ⟨o23, (H26.up le0)⟩, ⟨o24, (H27.up le0)⟩⟩ .nil) (S20.newO B3 O3)
  have oH287 := (OwnX.one S21 0 rfl (by decide))
  obtain ⟨I4, le4, S22, H28⟩ := S21.fx0 (by decide)
  refine EL_appX (z := (.agg #[.slice none 0 0, .slice none 0 0])) (bytes := 48) rfl U76 (by kernel_rfl) rfl (by decide) rfl rfl S22 H28 ac ac ?_
  intro v34 w18 S23
  refine g6 ?_
  refine EL_int ((j : Int) + 1) rfl (r_addi rfl rfl (by omega)) ?_
  intro x6 hx288
  refine g3 ?_
  refine ⟨_, ?_, j + 1, v34, bs ++ [a0], th || false, dn, I4, rfl, (Eq.trans (show _ = Value.int .i64 x6 from rfl) (congrArg _ (by omega))), rfl, rfl, (by exact e3), (by exact e4), (by exact e5), (by exact e6), (by exact e7), by omega, (by rw [apGo_step (show K[j]? = _ from ha0), ← hx, ap1_of hsm hpd]; simp), (by first | omega | (simp; omega)), (lT le0 le4), S23⟩
  first | omega | (simp; omega)
  have hpd : decide (e.kind = 1 ∧ dn = false ∧ bytesBefore a0.1 e.name = false) = true := decide_eq_true hq
  refine EC_quietB (by kernel_rfl) (by kernel_rfl) ?_
  refine g2 ?_
  refine EQ_val _ rfl (fun _ hw => dcT (r_eql rfl rfl) (by simp [hq.1])) ?_
  refine g7 ?_
  refine EQ_gite 42 rfl rfl rfl (ptr (blkOf v0) (offOf v0 + ((j : Int) : Int).toNat * 2)) rfl (fun g291 _ hw => r_indexX (cond_of g291 rfl) (XRow.below (Q0.row (lT le0 S11.le)) (hp_below hw)) (cond_of g291 rfl) (by omega) as' U76 (by kernel_rfl)) (EQ_gite 42 rfl rfl rfl (ptr (blkOf v0) (offOf v0 + ((j : Int) : Int).toNat * 2 + 0)) rfl (fun g292 _ hw => r_fieldP (s := 1) (cond_of g292 rfl) U161 rfl (by kernel_rfl) (by decide) rfl) ?_)
  obtain ⟨cs11, hc11, he11⟩ := Q0.el ha0
  obtain ⟨v35, v36, rfl, ⟨o25, H29⟩, ⟨o26, H30⟩⟩ := hc11
  refine EQ_gite 42 rfl rfl rfl v35 rfl (fun g293 _ hw => r_loadF (k := 0) (cond_of g293 rfl) (ElAt.below (he11 _ (lT le0 S11.le)) (hp_below hw)) rfl U26 rfl) (EQ_gite 42 rfl rfl rfl (.string (str a0.1)) rfl (fun g303 _ hw => r_str (cond_of g303 rfl) ((H29 _ (lT le0 S11.le)).below hw) U26 U5 U9) ?_)
  refine g2 ?_
  refine EQ_gite 42 rfl rfl rfl (.string (str e.name)) rfl (fun g306 _ hw => r_str (cond_of g306 rfl) ((H0 _ (lT le0 S11.le)).below hw) U26 U5 U9) (EQ_gite 42 rfl rfl rfl (.bool true) rfl (fun g307 _ hw => r_dec (show (!(bytesBefore a0.1 e.name)) = true from by simp [hq.2.2]) (r_geqs (cond_of g307 rfl) (cond_of g307 rfl))) ?_)
  refine g1 ?_
  refine yE S11 ?_
  intro w19 S24
  refine g1 ?_
  refine EC_cond_true (Eq.trans (show _ = Value.bool (!dn && true) from rfl) (congrArg Value.bool (show (!dn && true) = true from (by simp [hq.2.1, hq.2.2])))) ?_
  refine g7 ?_
  refine vl _ rfl (gB [v2, v3] st_161 (parts2 rfl rfl) (fill_one rfl (one_cells o0) rfl (fill_one rfl (one_cells o1) rfl fill_end))) ?_
  refine EL_litW (z := #[.slice none 0 0, .slice none 0 0]) (cs := ([v2, v3]).toArray) (sz := 2) (l := [(0, .agg ([v2, v3]).toArray)]) rfl U76 (by kernel_rfl) (parts1 rfl) (by kernel_rfl) rfl (by decide) ?_
  intro v37 w20 O4 B4 k4
  have S25 : Sat _ _ (OwnX 161 docR v37 [(⟨e.name, e.value⟩ : Doc)] :: _) := OwnX.cls (xss := [[v2, v3]]) (.cons ⟨v2, v3, rfl, ⟨o0, (H0.up le0)⟩, ⟨o1, (H1.up le0)⟩⟩ .nil) (S24.newO B4 O4)
  have oH323 := (OwnX.one S25 0 rfl (by decide))
  obtain ⟨I5, le5, S26, H31⟩ := S25.fx0 (by decide)
  refine EL_appX (z := (.agg #[.slice none 0 0, .slice none 0 0])) (bytes := 48) rfl U76 (by kernel_rfl) rfl (by decide) rfl rfl S26 H31 ac ac ?_
  intro v38 w21 S27
  refine g10 ?_
  refine vl _ rfl (dcT (r_not rfl) rfl) ?_
  refine g7 ?_
  refine vl (ptr (blkOf v0) (offOf v0 + ((j : Int) : Int).toNat * 2)) rfl (r_indexX rfl (Q0.row (lT (lT le0 le5) S27.le)) rfl (by omega) as' U76 (by kernel_rfl)) ?_
  obtain ⟨cs12, hc12, he12⟩ := Q0.el ha0
  obtain ⟨v39, v40, rfl, ⟨o27, H32⟩, ⟨o28, H33⟩⟩ := hc12
  refine vl (.agg ([v39, v40]).toArray) rfl (r_loadR (cs := [v39, v40]) rfl (he12 _ (lT (lT le0 le5) S27.le)) U161 rfl (by kernel_rfl)) ?_
  refine EL_litW (z := #[.slice none 0 0, .slice none 0 0]) (cs := ([v39, v40]).toArray) (sz := 2) (l := [(0, .agg ([v39, v40]).toArray)]) rfl U76 (by kernel_rfl) (parts1 rfl) (by kernel_rfl) rfl (by decide) ?_
  intro v41 w22 O5 B5 k5
  have S28 : Sat _ _ (OwnX 161 docR v41 [a0] :: _) := OwnX.cls (xss := [[v39, v40]]) (.cons ⟨v39, v40, rfl, ⟨o27, (H32.up (lT le0 le5))⟩, ⟨o28, (H33.up (lT le0 le5))⟩⟩ .nil) (S27.newO B5 O5)
  have oH345 := (OwnX.one S28 0 rfl (by decide))
  obtain ⟨I6, le6, S29, H34⟩ := S28.fx0 (by decide)
  refine EL_appX (z := (.agg #[.slice none 0 0, .slice none 0 0])) (bytes := 48) rfl U76 (by kernel_rfl) rfl (by decide) rfl rfl S29 H34 ac ac ?_
  intro v42 w23 S30
  refine g6 ?_
  refine EL_int ((j : Int) + 1) rfl (r_addi rfl rfl (by omega)) ?_
  intro x7 hx346
  refine g3 ?_
  refine ⟨_, ?_, j + 1, v42, (bs ++ [(⟨e.name, e.value⟩ : Doc)]) ++ [a0], th || false, true, I6, rfl, (Eq.trans (show _ = Value.int .i64 x7 from rfl) (congrArg _ (by omega))), rfl, rfl, rfl, (by exact e4), (by exact e5), (by exact e6), (by exact e7), by omega, (by rw [apGo_step (show K[j]? = _ from ha0), ← hx, ap1_of hsm hpd]; simp), (by first | omega | (simp; omega)), (lT (lT le0 le5) le6), S30⟩
  first | omega | (simp; omega)
  refine g7 ?_
  have hap := ap_is (e := e) hr hk1 hk2
  rw [List.take_of_length_le (by omega : K.length ≤ j)] at hx
  rw [← hx] at hap
  dsimp only at hap
  rcases first2 (e.kind = 2) (th = false) with hg | hg | hg
  refine g3 ?_
  refine vl _ rfl (dcF (r_eql rfl rfl) (by simp [hg])) ?_
  refine g11 ?_
  rcases first2 (e.kind = 1) (dn = false) with hf | hf | hf
  refine g3 ?_
  refine vl _ rfl (dcF (r_eql rfl rfl) (by simp [hf])) ?_
  refine g17 ?_
  refine f2 Tryz.results32 ?_
  have q0 : bs = apD K e := (by rw [← hap.1]; first | rw [if_pos hf] | rw [if_neg (fun q => hf q.1)] | rw [if_neg (fun q => hf.2 q.2)])
  have S31 := S2.ax0 q0
  have oH352 := (OwnX.one S31 0 rfl (by decide))
  obtain ⟨I7, le7, S32, H35⟩ := S31.fx0 (by decide)
  exact ⟨ov, 0, I7, (lT le0 le7), rfl, oH352, H35, S32.dr0⟩
  have hdt : dn = true := by cases dn; exact absurd rfl hf.2; rfl
  refine g3 ?_
  refine vl _ rfl (dcT (r_eql rfl rfl) (by simp [hf.1])) ?_
  refine g6 ?_
  refine EC_cond_false (Eq.trans (show _ = Value.bool (!dn) from rfl) (congrArg Value.bool (show (!dn) = false from (by simp [hdt])))) ?_
  refine g10 ?_
  refine f2 Tryz.results32 ?_
  have q1 : bs = apD K e := (by rw [← hap.1]; first | rw [if_pos hf] | rw [if_neg (fun q => hf q.1)] | rw [if_neg (fun q => hf.2 q.2)])
  have S33 := S2.ax0 q1
  have oH359 := (OwnX.one S33 0 rfl (by decide))
  obtain ⟨I8, le8, S34, H36⟩ := S33.fx0 (by decide)
  exact ⟨ov, 0, I8, (lT le0 le8), rfl, oH359, H36, S34.dr0⟩
  refine g3 ?_
  refine vl _ rfl (dcT (r_eql rfl rfl) (by simp [hf.1])) ?_
  refine g6 ?_
  refine EC_cond_true (Eq.trans (show _ = Value.bool (!dn) from rfl) (congrArg Value.bool (show (!dn) = true from (by simp [hf.2])))) ?_
  refine g6 ?_
  refine vl _ rfl (gB [v2, v3] st_161 (parts2 rfl rfl) (fill_one rfl (one_cells o0) rfl (fill_one rfl (one_cells o1) rfl fill_end))) ?_
  refine EL_litW (z := #[.slice none 0 0, .slice none 0 0]) (cs := ([v2, v3]).toArray) (sz := 2) (l := [(0, .agg ([v2, v3]).toArray)]) rfl U76 (by kernel_rfl) (parts1 rfl) (by kernel_rfl) rfl (by decide) ?_
  intro v43 w24 O6 B6 k6
  have S35 : Sat _ _ (OwnX 161 docR v43 [(⟨e.name, e.value⟩ : Doc)] :: _) := OwnX.cls (xss := [[v2, v3]]) (.cons ⟨v2, v3, rfl, ⟨o0, (H0.up le0)⟩, ⟨o1, (H1.up le0)⟩⟩ .nil) (S2.newO B6 O6)
  have oH373 := (OwnX.one S35 0 rfl (by decide))
  obtain ⟨I9, le9, S36, H37⟩ := S35.fx0 (by decide)
  refine EL_appX (z := (.agg #[.slice none 0 0, .slice none 0 0])) (bytes := 48) rfl U76 (by kernel_rfl) rfl (by decide) rfl rfl S36 H37 ac ac ?_
  intro v44 w25 S37
  refine g11 ?_
  refine f2 Tryz.results32 ?_
  have q2 : bs ++ [(⟨e.name, e.value⟩ : Doc)] = apD K e := (by rw [← hap.1]; first | rw [if_pos hf] | rw [if_neg (fun q => hf q.1)] | rw [if_neg (fun q => hf.2 q.2)])
  have S38 := S37.ax0 q2
  have oH379 := (OwnX.one S38 0 rfl (by decide))
  obtain ⟨I10, le10, S39, H38⟩ := S38.fx0 (by decide)
  exact ⟨v44, 0, I10, (lT (lT le0 le9) le10), rfl, oH379, H38, S39.dr0⟩
  have htt : th = true := by cases th; exact absurd rfl hg.2; rfl
  refine g3 ?_
  refine vl _ rfl (dcT (r_eql rfl rfl) (by simp [hg.1])) ?_
  refine g6 ?_
  refine EC_cond_false (Eq.trans (show _ = Value.bool (!th) from rfl) (congrArg Value.bool (show (!th) = false from (by simp [htt])))) ?_
  refine g4 ?_
  rcases first2 (e.kind = 1) (dn = false) with hf | hf | hf
  refine g3 ?_
  refine vl _ rfl (dcF (r_eql rfl rfl) (by simp [hf])) ?_
  refine g17 ?_
  refine f2 Tryz.results32 ?_
  have q3 : bs = apD K e := (by rw [← hap.1]; first | rw [if_pos hf] | rw [if_neg (fun q => hf q.1)] | rw [if_neg (fun q => hf.2 q.2)])
  have S40 := S2.ax0 q3
  have oH386 := (OwnX.one S40 0 rfl (by decide))
  obtain ⟨I11, le11, S41, H39⟩ := S40.fx0 (by decide)
  exact ⟨ov, 0, I11, (lT le0 le11), rfl, oH386, H39, S41.dr0⟩
  have hdt : dn = true := by cases dn; exact absurd rfl hf.2; rfl
  refine g3 ?_
  refine vl _ rfl (dcT (r_eql rfl rfl) (by simp [hf.1])) ?_
  refine g6 ?_
  refine EC_cond_false (Eq.trans (show _ = Value.bool (!dn) from rfl) (congrArg Value.bool (show (!dn) = false from (by simp [hdt])))) ?_
  refine g10 ?_
  refine f2 Tryz.results32 ?_
  have q4 : bs = apD K e := (by rw [← hap.1]; first | rw [if_pos hf] | rw [if_neg (fun q => hf q.1)] | rw [if_neg (fun q => hf.2 q.2)])
  have S42 := S2.ax0 q4
  have oH393 := (OwnX.one S42 0 rfl (by decide))
  obtain ⟨I12, le12, S43, H40⟩ := S42.fx0 (by decide)
  exact ⟨ov, 0, I12, (lT le0 le12), rfl, oH393, H40, S43.dr0⟩
  refine g3 ?_
  refine vl _ rfl (dcT (r_eql rfl rfl) (by simp [hf.1])) ?_
  refine g6 ?_
  refine EC_cond_true (Eq.trans (show _ = Value.bool (!dn) from rfl) (congrArg Value.bool (show (!dn) = true from (by simp [hf.2])))) ?_
  refine g6 ?_
  refine vl _ rfl (gB [v2, v3] st_161 (parts2 rfl rfl) (fill_one rfl (one_cells o0) rfl (fill_one rfl (one_cells o1) rfl fill_end))) ?_
  refine EL_litW (z := #[.slice none 0 0, .slice none 0 0]) (cs := ([v2, v3]).toArray) (sz := 2) (l := [(0, .agg ([v2, v3]).toArray)]) rfl U76 (by kernel_rfl) (parts1 rfl) (by kernel_rfl) rfl (by decide) ?_
  intro v45 w26 O7 B7 k7
  have S44 : Sat _ _ (OwnX 161 docR v45 [(⟨e.name, e.value⟩ : Doc)] :: _) := OwnX.cls (xss := [[v2, v3]]) (.cons ⟨v2, v3, rfl, ⟨o0, (H0.up le0)⟩, ⟨o1, (H1.up le0)⟩⟩ .nil) (S2.newO B7 O7)
  have oH407 := (OwnX.one S44 0 rfl (by decide))
  obtain ⟨I13, le13, S45, H41⟩ := S44.fx0 (by decide)
  refine EL_appX (z := (.agg #[.slice none 0 0, .slice none 0 0])) (bytes := 48) rfl U76 (by kernel_rfl) rfl (by decide) rfl rfl S45 H41 ac ac ?_
  intro v46 w27 S46
  refine g11 ?_
  refine f2 Tryz.results32 ?_
  have q5 : bs ++ [(⟨e.name, e.value⟩ : Doc)] = apD K e := (by rw [← hap.1]; first | rw [if_pos hf] | rw [if_neg (fun q => hf q.1)] | rw [if_neg (fun q => hf.2 q.2)])
  have S47 := S46.ax0 q5
  have oH413 := (OwnX.one S47 0 rfl (by decide))
  obtain ⟨I14, le14, S48, H42⟩ := S47.fx0 (by decide)
  exact ⟨v46, 0, I14, (lT (lT le0 le13) le14), rfl, oH413, H42, S48.dr0⟩
  have hk22 := hg.1
  have hth := hg.2
  refine g3 ?_
  refine vl _ rfl (dcT (r_eql rfl rfl) (by simp [hg.1])) ?_
  refine g6 ?_
  refine EC_cond_true (Eq.trans (show _ = Value.bool (!th) from rfl) (congrArg Value.bool (show (!th) = true from (by simp [hg.2])))) ?_
  refine g9 ?_
  refine f2 Tryz.results32 ?_
  rw [show apD K e = K by rw [apD, if_neg (by omega), if_pos hk22]; exact del_none (by rw [← hap.2 hk22]; exact hth)]
  exact ⟨v0, 32, I0, le0, rfl, (XRow.one (Q0.row (lT le0 S2.le))), (Q0.up le0), S2.dr0.dr0⟩

end Go.Proofs.YtanpinfhlbbjkaaGreat
