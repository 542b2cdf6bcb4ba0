import Derived.Test.YtoajodjcmeijgaaGreatQSealedPlaysEntE
set_option linter.unusedVariables false
set_option linter.unusedSimpArgs false
namespace Go.Proofs.YtoajodjcmeijgaaGreat
open Go.RowKit Go.Ecal

set_option maxRecDepth 100000 in
set_option maxHeartbeats 4000000 in
theorem Encode_c (ce : List Value) (e : Entry) (I : Gh) (R : List HP) (w : World) (S : Sat w I (R)) (he : entR.r I ce e) : Ret Tryz.prog 29 [.agg ce.toArray] w fun v w' => ∃ v1 : Value, ∃ J : Gh, Gh.le I J ∧ .tuple #[v1, .int .i64 e.encE] = v ∧ Sat w' J (OwnB v1 e.encB :: R) := by
  obtain ⟨v14, v17, v23, rfl, r11, r12, r13, ⟨o15, H16⟩, ⟨o18, H19⟩, r20, r21, r22, ⟨o24, H25⟩⟩ := he
  refine ret_E Tryz.func29 rfl Tryz.ntmps29 (by simp) ?_
  refine EC_seq (EC_reg ?_)
  refine EL_box (entRC e v14 v17 v23) rfl rfl rfl ?_
  intro b26 w27 k28 A29 B30 z31
  have S32 := S.newB B30 A29 k28
  refine vA (.slice none 0 0) rfl rfl (vA (.int .i64 0) rfl rfl (EL_nil (thn_n (EC_seq (EC_seq ?_)))))
  refine EC_reg (vl (.agg ((entRC e v14 v17 v23)).toArray) rfl (r_loadAll rfl (S32.arr 0 rfl) U38 rfl (by kernel_rfl)) ?_)
  refine eR rfl F71 rfl (Right_c (entRC e v14 v17 v23) e I _ _ S32 ⟨v14, v17, v23, rfl, (by first | assumption | (dsimp only; omega)), (by first | assumption | (dsimp only; omega)), (by first | assumption | (dsimp only; omega)), ⟨o15, H16⟩, ⟨o18, H19⟩, (by first | assumption | (dsimp only; omega)), (by first | assumption | (dsimp only; omega)), (by first | assumption | (dsimp only; omega)), ⟨o24, H25⟩⟩) ?_
  rintro _ w33 ⟨I35, le36, rfl, S34⟩
  refine vl (.bool !e.right) rfl (r_not rfl) (EL_nil (thn_n ?_))
  refine EC_cond (t := !e.right) rfl (fun h37 => ?_) (fun h37 => ?_)
  have hr : e.right = false := (Bool.not_eq_true' _).mp h37
  refine EC_seq (EC_reg (vA (.slice none 0 0) rfl rfl (vA (.int .i64 10) rfl rfl (EL_nil (thn_n ?_)))))
  refine EC_ret (thn_r ?_)
  refine fin2 Tryz.results29 (show _ = .slice none 0 0 from rfl) (show _ = .int .i64 10 from rfl) ⟨_, rfl, ?_⟩
  rw [show e.encB = [] from by rw [Entry.encB, hr]; rfl]
  have S39 : Sat w33 I35 (OwnB (.slice none 0 0) ([] : List UInt8) :: Blk b26 38 (entRC e v14 v17 v23) :: R) := S34.nil 5 1
  have S40 := S39.dr1
  exact ⟨(.slice none 0 0), I35, le36, (by rw [Entry.encE, hr]; rfl), S40⟩
  have hr : e.right = true := (Bool.not_eq_false' _).mp h37
  refine EC_skip (thn_n (EC_seq (EC_reg (vl (ptr b26 0) rfl (fP 0 rfl U38 (by kernel_rfl)) (vL (.int .i64 e.kind) rfl rfl (S34.arr 0 rfl) rfl U3 rfl ?_)))))
  refine vl (.iface 3 (.int .i64 e.kind)) rfl (r_iface rfl U3 rfl) (vl (ptr b26 1) rfl (fP 0 rfl U38 (by kernel_rfl)) (vL (.int .i64 e.writer) rfl rfl (S34.arr 0 rfl) rfl U3 rfl (vl (.iface 3 (.int .i64 e.writer)) rfl (r_iface rfl U3 rfl) (vl (ptr b26 2) rfl (fP 0 rfl U38 (by kernel_rfl)) (vL (.int .i64 e.seq) rfl rfl (S34.arr 0 rfl) rfl U3 rfl ?_)))))
  refine vl (.iface 3 (.int .i64 e.seq)) rfl (r_iface rfl U3 rfl) ?_
  refine EL_lit1 (l := [(0, .iface 3 (.int .i64 e.kind)), (1, .iface 3 (.int .i64 e.writer)), (2, .iface 3 (.int .i64 e.seq))]) w33.heap.size [.iface 3 (.int .i64 e.kind), .iface 3 (.int .i64 e.writer), .iface 3 (.int .i64 e.seq)] el_112 rfl (by decide) rfl (Nat.le_refl _) (parts3 rfl rfl rfl) (Eq.trans (show Instr.fill _ _ [(0, .iface 3 (.int .i64 e.kind)), (1, .iface 3 (.int .i64 e.writer)), (2, .iface 3 (.int .i64 e.seq))] = _ from (fill_one rfl rfl (by kernel_rfl) (fill_one rfl rfl (by kernel_rfl) (fill_one rfl rfl (by kernel_rfl) fill_end)))) (by kernel_rfl)) ?_
  intro v41 w42 O43 B44 k45
  have S46 : Sat w42 I35 (OwnX 20 anyR v41 [(Any.int e.kind), (Any.int e.writer), (Any.int e.seq)] :: Blk b26 38 (entRC e v14 v17 v23) :: R) := OwnX.cls (xss := [[.iface 3 (.int .i64 e.kind)], [.iface 3 (.int .i64 e.writer)], [.iface 3 (.int .i64 e.seq)]]) (.cons ⟨rfl, (by first | assumption | omega)⟩ (.cons ⟨rfl, (by first | assumption | omega)⟩ (.cons ⟨rfl, (by first | assumption | omega)⟩ .nil))) (S34.newO B44 O43)
  refine vA v41 rfl rfl (EL_nil (thn_n (EC_seq (EC_seq ?_))))
  rcases (by have := right_kind hr; omega : e.kind = 1 ∨ e.kind = 2 ∨ e.kind = 3 ∨ e.kind = 4 ∨ e.kind = 5) with hk | hk | hk | hk | hk
  refine EC_reg (vl (ptr b26 0) rfl (fP 0 rfl U38 (by kernel_rfl)) (vL (.int .i64 e.kind) rfl rfl (S46.arr 1 rfl) rfl U3 rfl (EL_nil (thn_n (EC_block ?_)))))
  refine EC_seq (EC_reg (vl (.bool true) rfl (r_dec (show (decide (e.kind = 1)) = true from by rw [decide_eq_true_eq]; omega) (r_eql rfl rfl)) (vA (.bool true) rfl rfl (EL_nil (thn_n ?_)))))
  refine EC_cond_true rfl ?_
  refine EC_reg (vM v41 rfl rfl (vl (ptr b26 3) rfl (fP 0 rfl U38 (by kernel_rfl)) (vL v14 rfl rfl (S46.arr 1 rfl) rfl U22 rfl (vl (.iface 22 v14) rfl (r_iface rfl U22 rfl) (vl (ptr b26 4) rfl (fP 0 rfl U38 (by kernel_rfl)) ?_)))))
  refine vL v17 rfl rfl (S46.arr 1 rfl) rfl U22 rfl (vl (.iface 22 v17) rfl (r_iface rfl U22 rfl) ?_)
  refine EL_lit1 (l := [(0, .iface 22 v14), (1, .iface 22 v17)]) w42.heap.size [.iface 22 v14, .iface 22 v17] el_112 rfl (by decide) rfl (Nat.le_refl _) (parts2 rfl rfl) (Eq.trans (show Instr.fill _ _ [(0, .iface 22 v14), (1, .iface 22 v17)] = _ from (fill_one rfl rfl (by kernel_rfl) (fill_one rfl rfl (by kernel_rfl) fill_end))) (by kernel_rfl)) ?_
  intro v47 w48 O49 B50 k51
  have S52 : Sat w48 I35 (OwnX 20 anyR v47 [(Any.bytes e.name), (Any.bytes e.value)] :: OwnX 20 anyR v41 [(Any.int e.kind), (Any.int e.writer), (Any.int e.seq)] :: Blk b26 38 (entRC e v14 v17 v23) :: R) := OwnX.cls (xss := [[.iface 22 v14], [.iface 22 v17]]) (.cons ⟨_, rfl, o15, (H16.up le36)⟩ (.cons ⟨_, rfl, o18, (H19.up le36)⟩ .nil)) (S46.newO B50 O49)
  have oH59 := (OwnX.one S52 0 rfl (by decide))
  obtain ⟨I56, le57, S58, H59⟩ := S52.fx0 (by decide)
  refine EL_appX (z := (.nilIface)) (bytes := 16) rfl U112 (by kernel_rfl) rfl (by decide) rfl rfl S58 H59 (by first | omega | (simp; done) | (simp only [List.length_cons, List.length_nil]; omega) | (rw [List.length_append]; simp only [List.length_cons, List.length_nil]; omega) | (simp; omega)) (by first | omega | (simp; done) | (simp only [List.length_cons, List.length_nil]; omega) | (rw [List.length_append]; simp only [List.length_cons, List.length_nil]; omega) | (simp; omega)) ?_
  intro v53 w54 S55
  refine vA v53 rfl rfl (EL_nil (inB_n (thn_n (EC_seq ?_))))
  have q61 : [(Any.int e.kind), (Any.int e.writer), (Any.int e.seq)] ++ [(Any.bytes e.name), (Any.bytes e.value)] = e.parts := by simp [Entry.parts, hk]
  have S60 := S55.ax0 q61
  have hpl := parts_len hr
  skip
  refine EC_reg (vM v53 rfl rfl ?_)
  have oH65 := (OwnX.one S60 0 rfl (by decide))
  obtain ⟨I62, le63, S64, H65⟩ := S60.fx0 (by decide)
  refine eR rfl F31 rfl (Put_c v53 e.parts I62 _ _ S64 H65 (by first | assumption | omega | (simp; done) | (simp; omega))) ?_
  rintro _ w66 ⟨v68, rfl, S67⟩
  refine vX v68 rfl rfl rfl (vX (.int .i64 (putE e.parts)) rfl rfl rfl (vA v68 rfl rfl (vA (.int .i64 (putE e.parts)) rfl rfl (EL_nil (thn_n ?_)))))
  refine EC_ret ?_
  refine fin2 Tryz.results29 (show _ = v68 from rfl) (show _ = .int .i64 (putE e.parts) from rfl) ⟨_, rfl, ?_⟩
  have q70 : putB e.parts = e.encB := by rw [Entry.encB, if_pos hr]
  have S69 := S67.ab0 q70
  have S71 := S69.dr1
  exact ⟨v68, I62, (lT (lT le36 le57) le63), (by rw [Entry.encE, if_pos hr]), S71⟩
  refine EC_reg (vl (ptr b26 0) rfl (fP 0 rfl U38 (by kernel_rfl)) (vL (.int .i64 e.kind) rfl rfl (S46.arr 1 rfl) rfl U3 rfl (EL_nil (thn_n (EC_block ?_)))))
  refine EC_seq (EC_reg (vl (.bool false) rfl (r_dec (show (decide (e.kind = 1)) = false from by rw [decide_eq_false_iff_not]; omega) (r_eql rfl rfl)) (vA (.bool false) rfl rfl (EL_nil (thn_n ?_)))))
  refine EC_cond_false rfl ?_
  refine EC_seq (EC_reg (vl (.bool true) rfl (r_dec (show (decide (e.kind = 2)) = true from by rw [decide_eq_true_eq]; omega) (r_eql rfl rfl)) (vA (.bool true) rfl rfl (EL_nil (thn_n ?_)))))
  refine EC_cond_true rfl ?_
  refine EC_reg (vM v41 rfl rfl (vl (ptr b26 3) rfl (fP 0 rfl U38 (by kernel_rfl)) (vL v14 rfl rfl (S46.arr 1 rfl) rfl U22 rfl (vl (.iface 22 v14) rfl (r_iface rfl U22 rfl) ?_))))
  refine EL_lit1 (l := [(0, .iface 22 v14)]) w42.heap.size [.iface 22 v14] el_112 rfl (by decide) rfl (Nat.le_refl _) (parts1 rfl) (Eq.trans (show Instr.fill _ _ [(0, .iface 22 v14)] = _ from (fill_one rfl rfl (by kernel_rfl) fill_end)) (by kernel_rfl)) ?_
  intro v72 w73 O74 B75 k76
  have S77 : Sat w73 I35 (OwnX 20 anyR v72 [(Any.bytes e.name)] :: OwnX 20 anyR v41 [(Any.int e.kind), (Any.int e.writer), (Any.int e.seq)] :: Blk b26 38 (entRC e v14 v17 v23) :: R) := OwnX.cls (xss := [[.iface 22 v14]]) (.cons ⟨_, rfl, o15, (H16.up le36)⟩ .nil) (S46.newO B75 O74)
  have oH84 := (OwnX.one S77 0 rfl (by decide))
  obtain ⟨I81, le82, S83, H84⟩ := S77.fx0 (by decide)
  refine EL_appX (z := (.nilIface)) (bytes := 16) rfl U112 (by kernel_rfl) rfl (by decide) rfl rfl S83 H84 (by first | omega | (simp; done) | (simp only [List.length_cons, List.length_nil]; omega) | (rw [List.length_append]; simp only [List.length_cons, List.length_nil]; omega) | (simp; omega)) (by first | omega | (simp; done) | (simp only [List.length_cons, List.length_nil]; omega) | (rw [List.length_append]; simp only [List.length_cons, List.length_nil]; omega) | (simp; omega)) ?_
  intro v78 w79 S80
  refine vA v78 rfl rfl (EL_nil (inB_n (thn_n (EC_seq ?_))))
  have q86 : [(Any.int e.kind), (Any.int e.writer), (Any.int e.seq)] ++ [(Any.bytes e.name)] = e.parts := by simp [Entry.parts, hk]
  have S85 := S80.ax0 q86
  have hpl := parts_len hr
  skip
  refine EC_reg (vM v78 rfl rfl ?_)
  have oH90 := (OwnX.one S85 0 rfl (by decide))
  obtain ⟨I87, le88, S89, H90⟩ := S85.fx0 (by decide)
  refine eR rfl F31 rfl (Put_c v78 e.parts I87 _ _ S89 H90 (by first | assumption | omega | (simp; done) | (simp; omega))) ?_
  rintro _ w91 ⟨v93, rfl, S92⟩
  refine vX v93 rfl rfl rfl (vX (.int .i64 (putE e.parts)) rfl rfl rfl (vA v93 rfl rfl (vA (.int .i64 (putE e.parts)) rfl rfl (EL_nil (thn_n ?_)))))
  refine EC_ret ?_
  refine fin2 Tryz.results29 (show _ = v93 from rfl) (show _ = .int .i64 (putE e.parts) from rfl) ⟨_, rfl, ?_⟩
  have q95 : putB e.parts = e.encB := by rw [Entry.encB, if_pos hr]
  have S94 := S92.ab0 q95
  have S96 := S94.dr1
  exact ⟨v93, I87, (lT (lT le36 le82) le88), (by rw [Entry.encE, if_pos hr]), S96⟩
  refine EC_reg (vl (ptr b26 0) rfl (fP 0 rfl U38 (by kernel_rfl)) (vL (.int .i64 e.kind) rfl rfl (S46.arr 1 rfl) rfl U3 rfl (EL_nil (thn_n (EC_block ?_)))))
  refine EC_seq (EC_reg (vl (.bool false) rfl (r_dec (show (decide (e.kind = 1)) = false from by rw [decide_eq_false_iff_not]; omega) (r_eql rfl rfl)) (vA (.bool false) rfl rfl (EL_nil (thn_n ?_)))))
  refine EC_cond_false rfl ?_
  refine EC_seq (EC_reg (vl (.bool false) rfl (r_dec (show (decide (e.kind = 2)) = false from by rw [decide_eq_false_iff_not]; omega) (r_eql rfl rfl)) (vA (.bool false) rfl rfl (EL_nil (thn_n ?_)))))
  refine EC_cond_false rfl ?_
  refine EC_seq (EC_reg (vl (.bool true) rfl (r_dec (show (decide (e.kind = 3)) = true from by rw [decide_eq_true_eq]; omega) (r_eql rfl rfl)) (vA (.bool true) rfl rfl (EL_nil (thn_n ?_)))))
  refine EC_cond_true rfl ?_
  refine EC_reg (vM v41 rfl rfl (vl (ptr b26 5) rfl (fP 0 rfl U38 (by kernel_rfl)) (vL (.int .i64 e.who) rfl rfl (S46.arr 1 rfl) rfl U3 rfl (vl (.iface 3 (.int .i64 e.who)) rfl (r_iface rfl U3 rfl) (vl (ptr b26 6) rfl (fP 0 rfl U38 (by kernel_rfl)) ?_)))))
  refine vL (.int .i64 e.rights) rfl rfl (S46.arr 1 rfl) rfl U3 rfl (vl (.iface 3 (.int .i64 e.rights)) rfl (r_iface rfl U3 rfl) ?_)
  refine EL_lit1 (l := [(0, .iface 3 (.int .i64 e.who)), (1, .iface 3 (.int .i64 e.rights))]) w42.heap.size [.iface 3 (.int .i64 e.who), .iface 3 (.int .i64 e.rights)] el_112 rfl (by decide) rfl (Nat.le_refl _) (parts2 rfl rfl) (Eq.trans (show Instr.fill _ _ [(0, .iface 3 (.int .i64 e.who)), (1, .iface 3 (.int .i64 e.rights))] = _ from (fill_one rfl rfl (by kernel_rfl) (fill_one rfl rfl (by kernel_rfl) fill_end))) (by kernel_rfl)) ?_
  intro v97 w98 O99 B100 k101
  have S102 : Sat w98 I35 (OwnX 20 anyR v97 [(Any.int e.who), (Any.int e.rights)] :: OwnX 20 anyR v41 [(Any.int e.kind), (Any.int e.writer), (Any.int e.seq)] :: Blk b26 38 (entRC e v14 v17 v23) :: R) := OwnX.cls (xss := [[.iface 3 (.int .i64 e.who)], [.iface 3 (.int .i64 e.rights)]]) (.cons ⟨rfl, (by first | assumption | omega)⟩ (.cons ⟨rfl, (by first | assumption | omega)⟩ .nil)) (S46.newO B100 O99)
  have oH109 := (OwnX.one S102 0 rfl (by decide))
  obtain ⟨I106, le107, S108, H109⟩ := S102.fx0 (by decide)
  refine EL_appX (z := (.nilIface)) (bytes := 16) rfl U112 (by kernel_rfl) rfl (by decide) rfl rfl S108 H109 (by first | omega | (simp; done) | (simp only [List.length_cons, List.length_nil]; omega) | (rw [List.length_append]; simp only [List.length_cons, List.length_nil]; omega) | (simp; omega)) (by first | omega | (simp; done) | (simp only [List.length_cons, List.length_nil]; omega) | (rw [List.length_append]; simp only [List.length_cons, List.length_nil]; omega) | (simp; omega)) ?_
  intro v103 w104 S105
  refine vA v103 rfl rfl (EL_nil (inB_n (thn_n (EC_seq ?_))))
  have q111 : [(Any.int e.kind), (Any.int e.writer), (Any.int e.seq)] ++ [(Any.int e.who), (Any.int e.rights)] = e.parts := by simp [Entry.parts, hk]
  have S110 := S105.ax0 q111
  have hpl := parts_len hr
  skip
  refine EC_reg (vM v103 rfl rfl ?_)
  have oH115 := (OwnX.one S110 0 rfl (by decide))
  obtain ⟨I112, le113, S114, H115⟩ := S110.fx0 (by decide)
  refine eR rfl F31 rfl (Put_c v103 e.parts I112 _ _ S114 H115 (by first | assumption | omega | (simp; done) | (simp; omega))) ?_
  rintro _ w116 ⟨v118, rfl, S117⟩
  refine vX v118 rfl rfl rfl (vX (.int .i64 (putE e.parts)) rfl rfl rfl (vA v118 rfl rfl (vA (.int .i64 (putE e.parts)) rfl rfl (EL_nil (thn_n ?_)))))
  refine EC_ret ?_
  refine fin2 Tryz.results29 (show _ = v118 from rfl) (show _ = .int .i64 (putE e.parts) from rfl) ⟨_, rfl, ?_⟩
  have q120 : putB e.parts = e.encB := by rw [Entry.encB, if_pos hr]
  have S119 := S117.ab0 q120
  have S121 := S119.dr1
  exact ⟨v118, I112, (lT (lT le36 le107) le113), (by rw [Entry.encE, if_pos hr]), S121⟩
  refine EC_reg (vl (ptr b26 0) rfl (fP 0 rfl U38 (by kernel_rfl)) (vL (.int .i64 e.kind) rfl rfl (S46.arr 1 rfl) rfl U3 rfl (EL_nil (thn_n (EC_block ?_)))))
  refine EC_seq (EC_reg (vl (.bool false) rfl (r_dec (show (decide (e.kind = 1)) = false from by rw [decide_eq_false_iff_not]; omega) (r_eql rfl rfl)) (vA (.bool false) rfl rfl (EL_nil (thn_n ?_)))))
  refine EC_cond_false rfl ?_
  refine EC_seq (EC_reg (vl (.bool false) rfl (r_dec (show (decide (e.kind = 2)) = false from by rw [decide_eq_false_iff_not]; omega) (r_eql rfl rfl)) (vA (.bool false) rfl rfl (EL_nil (thn_n ?_)))))
  refine EC_cond_false rfl ?_
  refine EC_seq (EC_reg (vl (.bool false) rfl (r_dec (show (decide (e.kind = 3)) = false from by rw [decide_eq_false_iff_not]; omega) (r_eql rfl rfl)) (vA (.bool false) rfl rfl (EL_nil (thn_n ?_)))))
  refine EC_cond_false rfl ?_
  refine EC_seq (EC_reg (vl (.bool true) rfl (r_dec (show (decide (e.kind = 4)) = true from by rw [decide_eq_true_eq]; omega) (r_eql rfl rfl)) (vA (.bool true) rfl rfl (EL_nil (thn_n ?_)))))
  refine EC_cond_true rfl ?_
  refine EC_reg (vM v41 rfl rfl (vl (ptr b26 5) rfl (fP 0 rfl U38 (by kernel_rfl)) (vL (.int .i64 e.who) rfl rfl (S46.arr 1 rfl) rfl U3 rfl (vl (.iface 3 (.int .i64 e.who)) rfl (r_iface rfl U3 rfl) ?_))))
  refine EL_lit1 (l := [(0, .iface 3 (.int .i64 e.who))]) w42.heap.size [.iface 3 (.int .i64 e.who)] el_112 rfl (by decide) rfl (Nat.le_refl _) (parts1 rfl) (Eq.trans (show Instr.fill _ _ [(0, .iface 3 (.int .i64 e.who))] = _ from (fill_one rfl rfl (by kernel_rfl) fill_end)) (by kernel_rfl)) ?_
  intro v122 w123 O124 B125 k126
  have S127 : Sat w123 I35 (OwnX 20 anyR v122 [(Any.int e.who)] :: OwnX 20 anyR v41 [(Any.int e.kind), (Any.int e.writer), (Any.int e.seq)] :: Blk b26 38 (entRC e v14 v17 v23) :: R) := OwnX.cls (xss := [[.iface 3 (.int .i64 e.who)]]) (.cons ⟨rfl, (by first | assumption | omega)⟩ .nil) (S46.newO B125 O124)
  have oH134 := (OwnX.one S127 0 rfl (by decide))
  obtain ⟨I131, le132, S133, H134⟩ := S127.fx0 (by decide)
  refine EL_appX (z := (.nilIface)) (bytes := 16) rfl U112 (by kernel_rfl) rfl (by decide) rfl rfl S133 H134 (by first | omega | (simp; done) | (simp only [List.length_cons, List.length_nil]; omega) | (rw [List.length_append]; simp only [List.length_cons, List.length_nil]; omega) | (simp; omega)) (by first | omega | (simp; done) | (simp only [List.length_cons, List.length_nil]; omega) | (rw [List.length_append]; simp only [List.length_cons, List.length_nil]; omega) | (simp; omega)) ?_
  intro v128 w129 S130
  refine vA v128 rfl rfl (EL_nil (inB_n (thn_n (EC_seq ?_))))
  have q136 : [(Any.int e.kind), (Any.int e.writer), (Any.int e.seq)] ++ [(Any.int e.who)] = e.parts := by simp [Entry.parts, hk]
  have S135 := S130.ax0 q136
  have hpl := parts_len hr
  skip
  refine EC_reg (vM v128 rfl rfl ?_)
  have oH140 := (OwnX.one S135 0 rfl (by decide))
  obtain ⟨I137, le138, S139, H140⟩ := S135.fx0 (by decide)
  refine eR rfl F31 rfl (Put_c v128 e.parts I137 _ _ S139 H140 (by first | assumption | omega | (simp; done) | (simp; omega))) ?_
  rintro _ w141 ⟨v143, rfl, S142⟩
  refine vX v143 rfl rfl rfl (vX (.int .i64 (putE e.parts)) rfl rfl rfl (vA v143 rfl rfl (vA (.int .i64 (putE e.parts)) rfl rfl (EL_nil (thn_n ?_)))))
  refine EC_ret ?_
  refine fin2 Tryz.results29 (show _ = v143 from rfl) (show _ = .int .i64 (putE e.parts) from rfl) ⟨_, rfl, ?_⟩
  have q145 : putB e.parts = e.encB := by rw [Entry.encB, if_pos hr]
  have S144 := S142.ab0 q145
  have S146 := S144.dr1
  exact ⟨v143, I137, (lT (lT le36 le132) le138), (by rw [Entry.encE, if_pos hr]), S146⟩
  have hw16 := right_wraps hr
  refine EC_reg (vl (ptr b26 0) rfl (fP 0 rfl U38 (by kernel_rfl)) (vL (.int .i64 e.kind) rfl rfl (S46.arr 1 rfl) rfl U3 rfl (EL_nil (thn_n (EC_block ?_)))))
  refine EC_seq (EC_reg (vl (.bool false) rfl (r_dec (show (decide (e.kind = 1)) = false from by rw [decide_eq_false_iff_not]; omega) (r_eql rfl rfl)) (vA (.bool false) rfl rfl (EL_nil (thn_n ?_)))))
  refine EC_cond_false rfl ?_
  refine EC_seq (EC_reg (vl (.bool false) rfl (r_dec (show (decide (e.kind = 2)) = false from by rw [decide_eq_false_iff_not]; omega) (r_eql rfl rfl)) (vA (.bool false) rfl rfl (EL_nil (thn_n ?_)))))
  refine EC_cond_false rfl ?_
  refine EC_seq (EC_reg (vl (.bool false) rfl (r_dec (show (decide (e.kind = 3)) = false from by rw [decide_eq_false_iff_not]; omega) (r_eql rfl rfl)) (vA (.bool false) rfl rfl (EL_nil (thn_n ?_)))))
  refine EC_cond_false rfl ?_
  refine EC_seq (EC_reg (vl (.bool false) rfl (r_dec (show (decide (e.kind = 4)) = false from by rw [decide_eq_false_iff_not]; omega) (r_eql rfl rfl)) (vA (.bool false) rfl rfl (EL_nil (thn_n ?_)))))
  refine EC_cond_false rfl ?_
  refine EC_seq (EC_reg (vl (.bool true) rfl (r_dec (show (decide (e.kind = 5)) = true from by rw [decide_eq_true_eq]; omega) (r_eql rfl rfl)) (vA (.bool true) rfl rfl (EL_nil (thn_n ?_)))))
  refine EC_cond_true rfl ?_
  refine EC_seq (EC_reg (vM v41 rfl rfl (vl (ptr b26 7) rfl (fP 0 rfl U38 (by kernel_rfl)) (vL (.int .i64 e.epoch) rfl rfl (S46.arr 1 rfl) rfl U3 rfl (vl (.iface 3 (.int .i64 e.epoch)) rfl (r_iface rfl U3 rfl) ?_)))))
  refine vl (ptr b26 8) rfl (fP 0 rfl U38 (by kernel_rfl)) (vL v23 rfl rfl (S46.arr 1 rfl) rfl U36 rfl (vl (.int .i64 (e.wraps.length : Int)) rfl (r_lenX rfl (H25.row (lT le36 S46.le)) U36) (vl (.iface 3 (.int .i64 (e.wraps.length : Int))) rfl (r_iface rfl U3 rfl) ?_)))
  refine EL_lit1 (l := [(0, .iface 3 (.int .i64 e.epoch)), (1, .iface 3 (.int .i64 (e.wraps.length : Int)))]) w42.heap.size [.iface 3 (.int .i64 e.epoch), .iface 3 (.int .i64 (e.wraps.length : Int))] el_112 rfl (by decide) rfl (Nat.le_refl _) (parts2 rfl rfl) (Eq.trans (show Instr.fill _ _ [(0, .iface 3 (.int .i64 e.epoch)), (1, .iface 3 (.int .i64 (e.wraps.length : Int)))] = _ from (fill_one rfl rfl (by kernel_rfl) (fill_one rfl rfl (by kernel_rfl) fill_end))) (by kernel_rfl)) ?_
  intro v147 w148 O149 B150 k151
  have S152 : Sat w148 I35 (OwnX 20 anyR v147 [(Any.int e.epoch), (Any.int (e.wraps.length : Int))] :: OwnX 20 anyR v41 [(Any.int e.kind), (Any.int e.writer), (Any.int e.seq)] :: Blk b26 38 (entRC e v14 v17 v23) :: R) := OwnX.cls (xss := [[.iface 3 (.int .i64 e.epoch)], [.iface 3 (.int .i64 (e.wraps.length : Int))]]) (.cons ⟨rfl, (by first | assumption | omega)⟩ (.cons ⟨rfl, (by first | assumption | omega)⟩ .nil)) (S46.newO B150 O149)
  have oH159 := (OwnX.one S152 0 rfl (by decide))
  obtain ⟨I156, le157, S158, H159⟩ := S152.fx0 (by decide)
  refine EL_appX (z := (.nilIface)) (bytes := 16) rfl U112 (by kernel_rfl) rfl (by decide) rfl rfl S158 H159 (by first | omega | (simp; done) | (simp only [List.length_cons, List.length_nil]; omega) | (rw [List.length_append]; simp only [List.length_cons, List.length_nil]; omega) | (simp; omega)) (by first | omega | (simp; done) | (simp only [List.length_cons, List.length_nil]; omega) | (rw [List.length_append]; simp only [List.length_cons, List.length_nil]; omega) | (simp; omega)) ?_
  intro v153 w154 S155
  refine vA v153 rfl rfl (EL_nil (thn_n (EC_seq (EC_reg (vl (ptr b26 8) rfl (fP 0 rfl U38 (by kernel_rfl)) ?_)))))
  refine vL v23 rfl rfl (S155.arr 1 rfl) rfl U36 rfl (vl (.int .i64 (e.wraps.length : Int)) rfl (r_lenX rfl (H25.row (lT (lT le36 le157) S155.le)) U36) (vM (.int .i64 0) rfl rfl (EL_nil (thn_n (EC_block ?_)))))
  have q161 : [(Any.int e.kind), (Any.int e.writer), (Any.int e.seq)] ++ [(Any.int e.epoch), (Any.int (e.wraps.length : Int))] = baseW e ++ wrapParts (e.wraps.take 0) := by simp [wrapParts]
  have S160 := S155.ax0 q161
  refine EC_loop (fun m' E' w' => ∃ j : Nat, ∃ qv : Value, ∃ J : Gh, m' = e.wraps.length - j ∧ E' 75 = .int .i64 (j : Int) ∧ E' 4 = qv ∧ E' 2 = .slice none 0 0 ∧ E' 3 = .int .i64 0 ∧ E' 73 = v23 ∧ E' 74 = .int .i64 (e.wraps.length : Int) ∧ (j ≤ e.wraps.length) ∧ ((baseW e ++ wrapParts (e.wraps.take j)).length ≤ 40) ∧ Gh.le I156 J ∧ Sat w' J (OwnX 20 anyR qv (baseW e ++ wrapParts (e.wraps.take j)) :: Blk b26 38 (entRC e v14 v17 v23) :: R)) _ ⟨0, v153, I156, rfl, rfl, rfl, rfl, rfl, rfl, rfl, Nat.zero_le _, (by simp [wrapParts]), (Gh.le_refl _), S160⟩ ?_
  rintro _ E162 w163 ⟨j, qv, I164, rfl, e165, e166, e167, e168, e169, e170, hj, hln, le171, S172⟩
  refine EC_seq (EC_reg (vl (.bool (decide ((j : Int) < (e.wraps.length : Int)))) rfl (r_lss (by exact e165) (by exact e170)) (EL_nil (thn_n (EC_seq ?_)))))
  refine EC_if (p := (j : Int) < (e.wraps.length : Int)) rfl (fun h173 => ?_) (fun h173 => ?_)
  refine EC_skip (thn_n (EC_seq (EC_block (EC_seq (EC_reg ?_)))))
  refine vl (ptr (blkOf v23) (offOf v23 + ((j : Int) : Int).toNat * 2)) rfl (r_indexX (by exact e169) (H25.row (lT (lT (lT le36 le157) le171) S172.le)) (by exact e165) (by omega) (by first | omega | (simp; omega) | simp) U36 (by kernel_rfl)) ?_
  obtain ⟨a174, ha175⟩ := get_some (l := e.wraps) (j := ((j : Int) : Int).toNat) (by first | omega | (simp; omega) | simp)
  obtain ⟨cs176, hc177, he178⟩ := H25.el ha175
  obtain ⟨v180, rfl, r179, ⟨o181, H182⟩⟩ := hc177
  refine vl (.agg ([.int .i64 a174.who, v180]).toArray) rfl (r_loadR (cs := [.int .i64 a174.who, v180]) rfl (he178 _ (lT (lT (lT le36 le157) le171) S172.le)) U80 rfl (by kernel_rfl)) ?_
  refine EL_alloc (z := .agg #[.int .i64 0, .slice none 0 0]) [.int .i64 0, .slice none 0 0] rfl (by kernel_rfl) rfl ?_
  intro b183 w184 k185 A186 B187 z188
  have S189 := S172.newB B187 A186 k185
  refine sA [.int .i64 a174.who, v180] rfl rfl (S189.arr 0 rfl) rfl (by kernel_rfl) (ones_cons rfl (ones_cons o181 (fun _ h => nomatch h))) ?_
  intro w190 A191 K192 z193
  have S194 := S189.wr0 (ds := [.int .i64 a174.who, v180]) K192 A191
  refine EL_nil (thn_n (EC_reg (vM qv rfl e166 (vl (ptr b183 0) rfl (fP 0 rfl U80 (by kernel_rfl)) (vL (.int .i64 a174.who) rfl rfl (S194.arr 0 rfl) rfl U3 rfl ?_)))))
  refine vl (.iface 3 (.int .i64 a174.who)) rfl (r_iface rfl U3 rfl) (vl (ptr b183 1) rfl (fP 0 rfl U80 (by kernel_rfl)) (vL v180 rfl rfl (S194.arr 0 rfl) rfl U22 rfl (vl (.iface 22 v180) rfl (r_iface rfl U22 rfl) ?_)))
  refine EL_lit1 (l := [(0, .iface 3 (.int .i64 a174.who)), (1, .iface 22 v180)]) w190.heap.size [.iface 3 (.int .i64 a174.who), .iface 22 v180] el_112 rfl (by decide) rfl (Nat.le_refl _) (parts2 rfl rfl) (Eq.trans (show Instr.fill _ _ [(0, .iface 3 (.int .i64 a174.who)), (1, .iface 22 v180)] = _ from (fill_one rfl rfl (by kernel_rfl) (fill_one rfl rfl (by kernel_rfl) fill_end))) (by kernel_rfl)) ?_
  intro v195 w196 O197 B198 k199
  have S200 : Sat w196 I164 (OwnX 20 anyR v195 [(Any.int a174.who), (Any.bytes a174.box)] :: Blk b183 80 [.int .i64 a174.who, v180] :: OwnX 20 anyR qv (baseW e ++ wrapParts (e.wraps.take j)) :: Blk b26 38 (entRC e v14 v17 v23) :: R) := OwnX.cls (xss := [[.iface 3 (.int .i64 a174.who)], [.iface 22 v180]]) (.cons ⟨rfl, (by first | assumption | omega)⟩ (.cons ⟨_, rfl, o181, (H182.up (lT (lT le36 le157) le171))⟩ .nil)) (S194.newO B198 O197)
  have oH207 := (OwnX.one S200 0 rfl (by decide))
  obtain ⟨I204, le205, S206, H207⟩ := S200.fx0 (by decide)
  have S208 := S206.fr1
  refine EL_appX (z := (.nilIface)) (bytes := 16) rfl U112 (by kernel_rfl) rfl (by decide) rfl rfl S208 H207 (by first | omega | (simp; done) | (simp only [List.length_cons, List.length_nil]; omega) | (rw [List.length_append]; simp only [List.length_cons, List.length_nil]; omega) | (simp; omega)) (by first | omega | (simp; done) | (simp only [List.length_cons, List.length_nil]; omega) | (rw [List.length_append]; simp only [List.length_cons, List.length_nil]; omega) | (simp; omega)) ?_
  intro v201 w202 S203
  refine vA v201 rfl rfl (EL_nil (inB_n (thn_n (EC_reg ?_))))
  refine EL_int ((j : Int) + 1) rfl (r_addi (by exact e165) rfl (by omega)) ?_
  intro x209 hx209
  refine vM (.int .i64 x209) rfl rfl (EL_nil (thn_n ?_))
  have q211 : (baseW e ++ wrapParts (e.wraps.take j)) ++ [(Any.int a174.who), (Any.bytes a174.box)] = baseW e ++ wrapParts (e.wraps.take (j + 1)) := wp_step (show e.wraps[j]? = _ from ha175)
  have S210 := S203.ax0 q211
  have S212 := S210.dr1
  refine ⟨_, ?_, j + 1, v201, I204, rfl, (Eq.trans (show _ = Value.int .i64 x209 from rfl) (congrArg _ (by omega))), rfl, (by exact e167), (by exact e168), (by exact e169), (by exact e170), by omega, (by rw [List.length_append, wp_len, List.length_take]; simp; omega), (lT le171 le205), S212⟩
  first | omega | (simp; omega)
  refine EC_exit (thn_x (thn_x (inB_hit (inB_n (thn_n ?_)))))
  refine EC_seq ?_
  have q214 : baseW e ++ wrapParts (e.wraps.take j) = e.parts := by rw [List.take_of_length_le (by omega)]; simp [Entry.parts, hk]
  have S213 := S172.ax0 q214
  have hpl := parts_len hr
  skip
  refine EC_reg (vM qv rfl e166 ?_)
  have oH218 := (OwnX.one S213 0 rfl (by decide))
  obtain ⟨I215, le216, S217, H218⟩ := S213.fx0 (by decide)
  refine eR rfl F31 rfl (Put_c qv e.parts I215 _ _ S217 H218 (by first | assumption | omega | (simp; done) | (simp; omega))) ?_
  rintro _ w219 ⟨v221, rfl, S220⟩
  refine vX v221 rfl rfl rfl (vX (.int .i64 (putE e.parts)) rfl rfl rfl (vA v221 rfl rfl (vA (.int .i64 (putE e.parts)) rfl rfl (EL_nil (thn_n ?_)))))
  refine EC_ret ?_
  refine fin2 Tryz.results29 (show _ = v221 from rfl) (show _ = .int .i64 (putE e.parts) from rfl) ⟨_, rfl, ?_⟩
  have q223 : putB e.parts = e.encB := by rw [Entry.encB, if_pos hr]
  have S222 := S220.ab0 q223
  have S224 := S222.dr1
  exact ⟨v221, I215, (lT (lT (lT le36 le157) le171) le216), (by rw [Entry.encE, if_pos hr]), S224⟩

end Go.Proofs.YtoajodjcmeijgaaGreat
