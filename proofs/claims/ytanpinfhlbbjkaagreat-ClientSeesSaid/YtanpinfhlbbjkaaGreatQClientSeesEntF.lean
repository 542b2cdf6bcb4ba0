import Derived.Test.YtanpinfhlbbjkaaGreatQClientSeesEntE
set_option linter.unusedVariables false
set_option linter.unusedSimpArgs false
set_option maxRecDepth 100000
set_option maxHeartbeats 4000000
namespace Go.Proofs.YtanpinfhlbbjkaaGreat
open Go.RowKit Go.Ecal

theorem Encode_c (ce : List Value) (e : Entry) (I : Gh) (R : List HP) (w : World) (S : Sat w I (R)) (he : entR.r I ce e) : Ret Tryz.prog 48 [.agg ce.toArray] w fun v w' => ∃ v1 : Value, ∃ J : Gh, Gh.le I J ∧ .tuple #[v1, .int .i64 e.encE] = v ∧ Sat w' J (OwnB v1 e.encB :: R) := by
  obtain ⟨v0, v2, v3, rfl, r0, r1, r2, ⟨o0, H0⟩, ⟨o1, H1⟩, r3, r4, r5, ⟨o2, H2⟩⟩ := he
  refine ret_E Tryz.func48 rfl Tryz.ntmps48 (by simp) ?_
  refine g2 ?_
  refine yB (cs := entRC e v0 v2 v3) S ?_
  intro b0 w0 S0
  refine g8 ?_
  refine yR (Right_c (entRC e v0 v2 v3) e _ _ _ S0 ⟨v0, v2, v3, rfl, ad, ad, ad, ⟨o0, H0⟩, ⟨o1, H1⟩, ad, ad, ad, ⟨o2, H2⟩⟩) ?_
  rintro _ w1 ⟨I0, le0, rfl, S1⟩
  refine g3 ?_
  refine EC_cond (t := !e.right) rfl (fun h0 => ?_) (fun h0 => ?_)
  have hr : e.right = false := (Bool.not_eq_true' _).mp h0
  refine g8 ?_
  refine f2 Tryz.results48 ?_
  rw [show e.encB = [] from by rw [Entry.encB, hr]; rfl]
  have S2 := S1.nilB
  exact ⟨(.slice none 0 0), I0, le0, (by rw [Entry.encE, hr]; rfl), S2.dr1⟩
  have hr : e.right = true := (Bool.not_eq_false' _).mp h0
  refine g6 ?_
  refine vl _ rfl (r_iface rfl U3 rfl) ?_
  refine g2 ?_
  refine vl _ rfl (r_iface rfl U3 rfl) ?_
  refine g2 ?_
  refine vl _ rfl (r_iface rfl U3 rfl) ?_
  refine EL_lit1 (l := [(0, .iface 3 (.int .i64 e.kind)), (1, .iface 3 (.int .i64 e.writer)), (2, .iface 3 (.int .i64 e.seq))]) w1.heap.size [.iface 3 (.int .i64 e.kind), .iface 3 (.int .i64 e.writer), .iface 3 (.int .i64 e.seq)] el_146 rfl (by decide) rfl (Nat.le_refl _) (parts3 rfl rfl rfl) (Eq.trans (show Instr.fill _ _ [(0, .iface 3 (.int .i64 e.kind)), (1, .iface 3 (.int .i64 e.writer)), (2, .iface 3 (.int .i64 e.seq))] = _ from (fill_one rfl rfl (by kernel_rfl) (fill_one rfl rfl (by kernel_rfl) (fill_one rfl rfl (by kernel_rfl) fill_end)))) (by kernel_rfl)) ?_
  intro v4 w2 O0 B0 k0
  have S3 : Sat _ _ (OwnX 20 anyR v4 [(Any.int e.kind), (Any.int e.writer), (Any.int e.seq)] :: _) := OwnX.cls (xss := [[.iface 3 (.int .i64 e.kind)], [.iface 3 (.int .i64 e.writer)], [.iface 3 (.int .i64 e.seq)]]) (.cons ⟨rfl, (by first | assumption | omega)⟩ (.cons ⟨rfl, (by first | assumption | omega)⟩ (.cons ⟨rfl, (by first | assumption | omega)⟩ .nil))) (S1.newO B0 O0)
  refine g5 ?_
  rcases (by have := right_kind hr; omega : e.kind = 1 ∨ e.kind = 2 ∨ e.kind = 3 ∨ e.kind = 4 ∨ e.kind = 5) with hk | hk | hk | hk | hk
  refine g8 ?_
  refine vl _ rfl (dT (r_eql rfl rfl)) ?_
  refine g8 ?_
  refine vl _ rfl (r_iface rfl U26 rfl) ?_
  refine g2 ?_
  refine vl _ rfl (r_iface rfl U26 rfl) ?_
  refine EL_lit1 (l := [(0, .iface 26 v0), (1, .iface 26 v2)]) w2.heap.size [.iface 26 v0, .iface 26 v2] el_146 rfl (by decide) rfl (Nat.le_refl _) (parts2 rfl rfl) (Eq.trans (show Instr.fill _ _ [(0, .iface 26 v0), (1, .iface 26 v2)] = _ from (fill_one rfl rfl (by kernel_rfl) (fill_one rfl rfl (by kernel_rfl) fill_end))) (by kernel_rfl)) ?_
  intro v5 w3 O1 B1 k1
  have S4 : Sat _ _ (OwnX 20 anyR v5 [(Any.bytes e.name), (Any.bytes e.value)] :: _) := OwnX.cls (xss := [[.iface 26 v0], [.iface 26 v2]]) (.cons ⟨_, rfl, o0, (H0.up le0)⟩ (.cons ⟨_, rfl, o1, (H1.up le0)⟩ .nil)) (S3.newO B1 O1)
  have oH59 := (OwnX.one S4 0 rfl (by decide))
  obtain ⟨I1, le1, S5, H3⟩ := S4.fx0 (by decide)
  refine EL_appX (z := (.nilIface)) (bytes := 16) rfl U146 (by kernel_rfl) rfl (by decide) rfl rfl S5 H3 ac ac ?_
  intro v6 w4 S6
  refine g5 ?_
  have q0 : [(Any.int e.kind), (Any.int e.writer), (Any.int e.seq)] ++ [(Any.bytes e.name), (Any.bytes e.value)] = e.parts := by simp [Entry.parts, hk]
  have S7 := S6.ax0 q0
  have hpl := parts_len hr
  skip
  refine g2 ?_
  have oH65 := (OwnX.one S7 0 rfl (by decide))
  obtain ⟨I2, le2, S8, H4⟩ := S7.fx0 (by decide)
  refine yR (Put_c _ _ _ _ _ S8 H4 au) ?_
  rintro _ w5 ⟨v7, rfl, S9⟩
  refine g7 ?_
  refine f2 Tryz.results48 ?_
  have q1 : putB e.parts = e.encB := by rw [Entry.encB, if_pos hr]
  have S10 := S9.ab0 q1
  exact ⟨v7, I2, (lT (lT le0 le1) le2), (by rw [Entry.encE, if_pos hr]), S10.dr1⟩
  refine g8 ?_
  refine vl _ rfl (dF (r_eql rfl rfl)) ?_
  refine g6 ?_
  refine vl _ rfl (dT (r_eql rfl rfl)) ?_
  refine g8 ?_
  refine vl _ rfl (r_iface rfl U26 rfl) ?_
  refine EL_lit1 (l := [(0, .iface 26 v0)]) w2.heap.size [.iface 26 v0] el_146 rfl (by decide) rfl (Nat.le_refl _) (parts1 rfl) (Eq.trans (show Instr.fill _ _ [(0, .iface 26 v0)] = _ from (fill_one rfl rfl (by kernel_rfl) fill_end)) (by kernel_rfl)) ?_
  intro v8 w6 O2 B2 k2
  have S11 : Sat _ _ (OwnX 20 anyR v8 [(Any.bytes e.name)] :: _) := OwnX.cls (xss := [[.iface 26 v0]]) (.cons ⟨_, rfl, o0, (H0.up le0)⟩ .nil) (S3.newO B2 O2)
  have oH84 := (OwnX.one S11 0 rfl (by decide))
  obtain ⟨I3, le3, S12, H5⟩ := S11.fx0 (by decide)
  refine EL_appX (z := (.nilIface)) (bytes := 16) rfl U146 (by kernel_rfl) rfl (by decide) rfl rfl S12 H5 ac ac ?_
  intro v9 w7 S13
  refine g5 ?_
  have q2 : [(Any.int e.kind), (Any.int e.writer), (Any.int e.seq)] ++ [(Any.bytes e.name)] = e.parts := by simp [Entry.parts, hk]
  have S14 := S13.ax0 q2
  have hpl := parts_len hr
  skip
  refine g2 ?_
  have oH90 := (OwnX.one S14 0 rfl (by decide))
  obtain ⟨I4, le4, S15, H6⟩ := S14.fx0 (by decide)
  refine yR (Put_c _ _ _ _ _ S15 H6 au) ?_
  rintro _ w8 ⟨v10, rfl, S16⟩
  refine g7 ?_
  refine f2 Tryz.results48 ?_
  have q3 : putB e.parts = e.encB := by rw [Entry.encB, if_pos hr]
  have S17 := S16.ab0 q3
  exact ⟨v10, I4, (lT (lT le0 le3) le4), (by rw [Entry.encE, if_pos hr]), S17.dr1⟩
  refine g8 ?_
  refine vl _ rfl (dF (r_eql rfl rfl)) ?_
  refine g6 ?_
  refine vl _ rfl (dF (r_eql rfl rfl)) ?_
  refine g6 ?_
  refine vl _ rfl (dT (r_eql rfl rfl)) ?_
  refine g8 ?_
  refine vl _ rfl (r_iface rfl U3 rfl) ?_
  refine g2 ?_
  refine vl _ rfl (r_iface rfl U3 rfl) ?_
  refine EL_lit1 (l := [(0, .iface 3 (.int .i64 e.who)), (1, .iface 3 (.int .i64 e.rights))]) w2.heap.size [.iface 3 (.int .i64 e.who), .iface 3 (.int .i64 e.rights)] el_146 rfl (by decide) rfl (Nat.le_refl _) (parts2 rfl rfl) (Eq.trans (show Instr.fill _ _ [(0, .iface 3 (.int .i64 e.who)), (1, .iface 3 (.int .i64 e.rights))] = _ from (fill_one rfl rfl (by kernel_rfl) (fill_one rfl rfl (by kernel_rfl) fill_end))) (by kernel_rfl)) ?_
  intro v11 w9 O3 B3 k3
  have S18 : Sat _ _ (OwnX 20 anyR v11 [(Any.int e.who), (Any.int e.rights)] :: _) := OwnX.cls (xss := [[.iface 3 (.int .i64 e.who)], [.iface 3 (.int .i64 e.rights)]]) (.cons ⟨rfl, (by first | assumption | omega)⟩ (.cons ⟨rfl, (by first | assumption | omega)⟩ .nil)) (S3.newO B3 O3)
  have oH109 := (OwnX.one S18 0 rfl (by decide))
  obtain ⟨I5, le5, S19, H7⟩ := S18.fx0 (by decide)
  refine EL_appX (z := (.nilIface)) (bytes := 16) rfl U146 (by kernel_rfl) rfl (by decide) rfl rfl S19 H7 ac ac ?_
  intro v12 w10 S20
  refine g5 ?_
  have q4 : [(Any.int e.kind), (Any.int e.writer), (Any.int e.seq)] ++ [(Any.int e.who), (Any.int e.rights)] = e.parts := by simp [Entry.parts, hk]
  have S21 := S20.ax0 q4
  have hpl := parts_len hr
  skip
  refine g2 ?_
  have oH115 := (OwnX.one S21 0 rfl (by decide))
  obtain ⟨I6, le6, S22, H8⟩ := S21.fx0 (by decide)
  refine yR (Put_c _ _ _ _ _ S22 H8 au) ?_
  rintro _ w11 ⟨v13, rfl, S23⟩
  refine g7 ?_
  refine f2 Tryz.results48 ?_
  have q5 : putB e.parts = e.encB := by rw [Entry.encB, if_pos hr]
  have S24 := S23.ab0 q5
  exact ⟨v13, I6, (lT (lT le0 le5) le6), (by rw [Entry.encE, if_pos hr]), S24.dr1⟩
  refine g8 ?_
  refine vl _ rfl (dF (r_eql rfl rfl)) ?_
  refine g6 ?_
  refine vl _ rfl (dF (r_eql rfl rfl)) ?_
  refine g6 ?_
  refine vl _ rfl (dF (r_eql rfl rfl)) ?_
  refine g6 ?_
  refine vl _ rfl (dT (r_eql rfl rfl)) ?_
  refine g8 ?_
  refine vl _ rfl (r_iface rfl U3 rfl) ?_
  refine EL_lit1 (l := [(0, .iface 3 (.int .i64 e.who))]) w2.heap.size [.iface 3 (.int .i64 e.who)] el_146 rfl (by decide) rfl (Nat.le_refl _) (parts1 rfl) (Eq.trans (show Instr.fill _ _ [(0, .iface 3 (.int .i64 e.who))] = _ from (fill_one rfl rfl (by kernel_rfl) fill_end)) (by kernel_rfl)) ?_
  intro v14 w12 O4 B4 k4
  have S25 : Sat _ _ (OwnX 20 anyR v14 [(Any.int e.who)] :: _) := OwnX.cls (xss := [[.iface 3 (.int .i64 e.who)]]) (.cons ⟨rfl, (by first | assumption | omega)⟩ .nil) (S3.newO B4 O4)
  have oH134 := (OwnX.one S25 0 rfl (by decide))
  obtain ⟨I7, le7, S26, H9⟩ := S25.fx0 (by decide)
  refine EL_appX (z := (.nilIface)) (bytes := 16) rfl U146 (by kernel_rfl) rfl (by decide) rfl rfl S26 H9 ac ac ?_
  intro v15 w13 S27
  refine g5 ?_
  have q6 : [(Any.int e.kind), (Any.int e.writer), (Any.int e.seq)] ++ [(Any.int e.who)] = e.parts := by simp [Entry.parts, hk]
  have S28 := S27.ax0 q6
  have hpl := parts_len hr
  skip
  refine g2 ?_
  have oH140 := (OwnX.one S28 0 rfl (by decide))
  obtain ⟨I8, le8, S29, H10⟩ := S28.fx0 (by decide)
  refine yR (Put_c _ _ _ _ _ S29 H10 au) ?_
  rintro _ w14 ⟨v16, rfl, S30⟩
  refine g7 ?_
  refine f2 Tryz.results48 ?_
  have q7 : putB e.parts = e.encB := by rw [Entry.encB, if_pos hr]
  have S31 := S30.ab0 q7
  exact ⟨v16, I8, (lT (lT le0 le7) le8), (by rw [Entry.encE, if_pos hr]), S31.dr1⟩
  have hw16 := right_wraps hr
  refine g8 ?_
  refine vl _ rfl (dF (r_eql rfl rfl)) ?_
  refine g6 ?_
  refine vl _ rfl (dF (r_eql rfl rfl)) ?_
  refine g6 ?_
  refine vl _ rfl (dF (r_eql rfl rfl)) ?_
  refine g6 ?_
  refine vl _ rfl (dF (r_eql rfl rfl)) ?_
  refine g6 ?_
  refine vl _ rfl (dT (r_eql rfl rfl)) ?_
  refine g9 ?_
  refine vl _ rfl (r_iface rfl U3 rfl) ?_
  refine g2 ?_
  refine vl _ rfl (r_lenX rfl (H2.row (lT le0 S3.le)) U27) (vl _ rfl (r_iface rfl U3 rfl) ?_)
  refine EL_lit1 (l := [(0, .iface 3 (.int .i64 e.epoch)), (1, .iface 3 (.int .i64 (e.wraps.length : Int)))]) w2.heap.size [.iface 3 (.int .i64 e.epoch), .iface 3 (.int .i64 (e.wraps.length : Int))] el_146 rfl (by decide) rfl (Nat.le_refl _) (parts2 rfl rfl) (Eq.trans (show Instr.fill _ _ [(0, .iface 3 (.int .i64 e.epoch)), (1, .iface 3 (.int .i64 (e.wraps.length : Int)))] = _ from (fill_one rfl rfl (by kernel_rfl) (fill_one rfl rfl (by kernel_rfl) fill_end))) (by kernel_rfl)) ?_
  intro v17 w15 O5 B5 k5
  have S32 : Sat _ _ (OwnX 20 anyR v17 [(Any.int e.epoch), (Any.int (e.wraps.length : Int))] :: _) := OwnX.cls (xss := [[.iface 3 (.int .i64 e.epoch)], [.iface 3 (.int .i64 (e.wraps.length : Int))]]) (.cons ⟨rfl, (by first | assumption | omega)⟩ (.cons ⟨rfl, (by first | assumption | omega)⟩ .nil)) (S3.newO B5 O5)
  have oH159 := (OwnX.one S32 0 rfl (by decide))
  obtain ⟨I9, le9, S33, H11⟩ := S32.fx0 (by decide)
  refine EL_appX (z := (.nilIface)) (bytes := 16) rfl U146 (by kernel_rfl) rfl (by decide) rfl rfl S33 H11 ac ac ?_
  intro v18 w16 S34
  refine g7 ?_
  refine vl _ rfl (r_lenX rfl (H2.row (lT (lT le0 le9) S34.le)) U27) ?_
  refine g4 ?_
  have q8 : [(Any.int e.kind), (Any.int e.writer), (Any.int e.seq)] ++ [(Any.int e.epoch), (Any.int (e.wraps.length : Int))] = baseW e ++ wrapParts (e.wraps.take 0) := by simp [wrapParts]
  have S35 := S34.ax0 q8
  refine EC_loop (fun m' E' w' => ∃ j : Nat, ∃ qv : Value, ∃ J : Gh, m' = e.wraps.length - j ∧ E' 75 = .int .i64 (j : Int) ∧ E' 4 = qv ∧ E' 2 = .slice none 0 0 ∧ E' 3 = .int .i64 0 ∧ E' 73 = v3 ∧ E' 74 = .int .i64 (e.wraps.length : Int) ∧ (j ≤ e.wraps.length) ∧ ((baseW e ++ wrapParts (e.wraps.take j)).length ≤ 40) ∧ Gh.le I9 J ∧ Sat w' J (OwnX 20 anyR qv (baseW e ++ wrapParts (e.wraps.take j)) :: Blk b0 29 (entRC e v0 v2 v3) :: R)) _ ⟨0, v18, I9, rfl, rfl, rfl, rfl, rfl, rfl, rfl, Nat.zero_le _, (by simp [wrapParts]), (Gh.le_refl _), S35⟩ ?_
  rintro _ E0 w17 ⟨j, qv, I10, rfl, e0, e1, e2, e3, e4, e5, hj, hln, le10, S36⟩
  refine g6 ?_
  refine EC_if rfl (fun h2 => ?_) (fun h2 => ?_)
  refine g6 ?_
  refine vl (ptr (blkOf v3) (offOf v3 + ((j : Int) : Int).toNat * 2)) rfl (r_indexX (by exact e4) (H2.row (lT (lT (lT le0 le9) le10) S36.le)) (by exact e0) (by omega) as' U27 (by kernel_rfl)) ?_
  obtain ⟨a0, ha0⟩ := get_some (l := e.wraps) (j := ((j : Int) : Int).toNat) as'
  obtain ⟨cs0, hc0, he0⟩ := H2.el ha0
  obtain ⟨v19, rfl, r6, ⟨o3, H12⟩⟩ := hc0
  refine vl (.agg ([.int .i64 a0.who, v19]).toArray) rfl (r_loadR (cs := [.int .i64 a0.who, v19]) rfl (he0 _ (lT (lT (lT le0 le9) le10) S36.le)) U113 rfl (by kernel_rfl)) ?_
  refine yN [.int .i64 0, .slice none 0 0] S36 ?_
  intro b1 w18 S37
  refine yW0 S37 ?_ (h1 := ones_cons rfl (ones_cons o3 ones_nil))
  intro w19 S38
  refine g6 ?_
  refine vl _ rfl (r_iface rfl U3 rfl) ?_
  refine g2 ?_
  refine vl _ rfl (r_iface rfl U26 rfl) ?_
  refine EL_lit1 (l := [(0, .iface 3 (.int .i64 a0.who)), (1, .iface 26 v19)]) w19.heap.size [.iface 3 (.int .i64 a0.who), .iface 26 v19] el_146 rfl (by decide) rfl (Nat.le_refl _) (parts2 rfl rfl) (Eq.trans (show Instr.fill _ _ [(0, .iface 3 (.int .i64 a0.who)), (1, .iface 26 v19)] = _ from (fill_one rfl rfl (by kernel_rfl) (fill_one rfl rfl (by kernel_rfl) fill_end))) (by kernel_rfl)) ?_
  intro v20 w20 O6 B6 k6
  have S39 : Sat _ _ (OwnX 20 anyR v20 [(Any.int a0.who), (Any.bytes a0.box)] :: _) := OwnX.cls (xss := [[.iface 3 (.int .i64 a0.who)], [.iface 26 v19]]) (.cons ⟨rfl, (by first | assumption | omega)⟩ (.cons ⟨_, rfl, o3, (H12.up (lT (lT le0 le9) le10))⟩ .nil)) (S38.newO B6 O6)
  have oH207 := (OwnX.one S39 0 rfl (by decide))
  obtain ⟨I11, le11, S40, H13⟩ := S39.fx0 (by decide)
  refine EL_appX (z := (.nilIface)) (bytes := 16) rfl U146 (by kernel_rfl) rfl (by decide) rfl rfl S40.fr1 H13 ac ac ?_
  intro v21 w21 S41
  refine g5 ?_
  refine EL_int ((j : Int) + 1) rfl (r_addi (by exact e0) rfl (by omega)) ?_
  intro x0 hx209
  refine g3 ?_
  have q9 : (baseW e ++ wrapParts (e.wraps.take j)) ++ [(Any.int a0.who), (Any.bytes a0.box)] = baseW e ++ wrapParts (e.wraps.take (j + 1)) := wp_step (show e.wraps[j]? = _ from ha0)
  have S42 := S41.ax0 q9
  refine ⟨_, ?_, j + 1, v21, I11, rfl, (Eq.trans (show _ = Value.int .i64 x0 from rfl) (congrArg _ (by omega))), rfl, (by exact e2), (by exact e3), (by exact e4), (by exact e5), by omega, (by rw [List.length_append, wp_len, List.length_take]; simp; omega), (lT le10 le11), S42.dr1⟩
  first | omega | (simp; omega)
  refine g7 ?_
  have q10 : baseW e ++ wrapParts (e.wraps.take j) = e.parts := by rw [List.take_of_length_le (by omega)]; simp [Entry.parts, hk]
  have S43 := S36.ax0 q10
  have hpl := parts_len hr
  skip
  refine g2 ?_
  have oH218 := (OwnX.one S43 0 rfl (by decide))
  obtain ⟨I12, le12, S44, H14⟩ := S43.fx0 (by decide)
  refine yR (Put_c _ _ _ _ _ S44 H14 au) ?_
  rintro _ w22 ⟨v22, rfl, S45⟩
  refine g7 ?_
  refine f2 Tryz.results48 ?_
  have q11 : putB e.parts = e.encB := by rw [Entry.encB, if_pos hr]
  have S46 := S45.ab0 q11
  exact ⟨v22, I12, (lT (lT (lT le0 le9) le10) le12), (by rw [Entry.encE, if_pos hr]), S46.dr1⟩

end Go.Proofs.YtanpinfhlbbjkaaGreat
