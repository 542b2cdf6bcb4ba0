import Derived.Test.YtoajodjcmeijgaaGreatQSealedPlaysRing
import Derived.Test.YtoajodjcmeijgaaGreatQSealedPlaysCod
import Derived.Test.YtoajodjcmeijgaaGreatQSealedPlaysSuiC
set_option linter.unusedVariables false
set_option linter.unusedSimpArgs false
namespace Go.Proofs.YtoajodjcmeijgaaGreat
open Go.RowKit Go.Ecal

set_option maxRecDepth 100000 in
set_option maxHeartbeats 4000000 in
theorem derived_c (p : Value) (L : List Thing) (v0 : Value) (s : List UInt8) (use : List UInt8) (n : Int) (I : Gh) (R : List HP) (w : World) (S : Sat w I (Suite p L :: R)) (Q0 : RoB I v0 s) (hl : L.length ≤ 1000000) (hs : s.length ≤ 100000) (hu : use.length ≤ 100) (hn : 0 ≤ n ∧ n ≤ 1099511627776) : Ret Tryz.prog 98 [p, v0, .string (str use), .int .i64 n] w fun v w' => ∃ v1 : Value, ∃ J : Gh, Gh.le I J ∧ v1 = v ∧ Sat w' J (OwnB v1 (keyFor L s use n) :: Suite p (onceL (derT s use n) L) :: R) := by
  have lq0 := RoB.le Q0 S.le
  refine ret_E Tryz.func98 rfl Tryz.ntmps98 (by simp) ?_
  refine EC_seq (EC_reg (vA (.slice none 0 0) rfl rfl (EL_nil (thn_n (EC_seq ?_)))))
  refine EC_reg (vM (.int .i64 n) rfl rfl (vl (.iface 3 (.int .i64 n)) rfl (r_iface rfl U3 rfl) ?_))
  refine EL_lit1 (l := [(0, .iface 3 (.int .i64 n))]) w.heap.size [.iface 3 (.int .i64 n)] el_112 rfl (by decide) rfl (Nat.le_refl _) (parts1 rfl) (Eq.trans (show Instr.fill _ _ [(0, .iface 3 (.int .i64 n))] = _ from (fill_one rfl rfl (by kernel_rfl) fill_end)) (by kernel_rfl)) ?_
  intro v11 w12 O13 B14 k15
  have S16 : Sat w12 I (OwnX 20 anyR v11 [(Any.int n)] :: Suite p L :: R) := OwnX.cls (xss := [[.iface 3 (.int .i64 n)]]) (.cons ⟨rfl, (by first | assumption | omega)⟩ .nil) (S.newO B14 O13)
  have oH20 := (OwnX.one S16 0 rfl (by decide))
  obtain ⟨I17, le18, S19, H20⟩ := S16.fx0 (by decide)
  refine eR rfl F31 rfl (Put_c v11 [(Any.int n)] I17 _ _ S19 H20 (by simp)) ?_
  rintro _ w21 ⟨v23, rfl, S22⟩
  have q25 : putB [(Any.int n)] = be6 n := (put1 (by omega)).1
  have S24 := S22.ab0 q25
  refine vM (.tuple #[v23, .int .i64 (putE [(Any.int n)])]) rfl rfl (vX v23 rfl rfl rfl (vX (.int .i64 (putE [(Any.int n)])) rfl rfl rfl (vA v23 rfl rfl (vA (.int .i64 (putE [(Any.int n)])) rfl rfl (EL_nil ?_)))))
  refine thn_n (EC_seq (EC_reg (vM p rfl rfl (vM v0 rfl rfl (vM (.string (str use)) rfl rfl ?_)))))
  refine EL_bytes (l := use) rfl rfl U9 U22 U5 (by first | omega | (simp; omega)) ?_
  intro v26 w27 B28 V29 R30 V29l
  obtain ⟨I31, le32, S33, H34⟩ := S24.newR B28 V29 R30 V29l
  refine vM v23 rfl rfl ?_
  obtain ⟨I35, le36, S37, H38⟩ := S33.fb0
  refine EL_lit1 (l := [(0, v26), (1, v23)]) w27.heap.size [v26, v23] el_106 rfl (by decide) rfl (Nat.le_refl _) (parts2 rfl rfl) (Eq.trans (show Instr.fill _ _ [(0, v26), (1, v23)] = _ from (fill_one rfl (row_cells (H34 _ (lT le36 S37.le))) (by kernel_rfl) (fill_one rfl (row_cells (H38 _ S37.le)) (by kernel_rfl) fill_end))) (by kernel_rfl)) ?_
  intro v39 w40 O41 B42 k43
  have S44 : Sat w40 I35 (OwnX 22 bytesR v39 [use, be6 n] :: Suite p L :: R) := OwnX.cls (xss := [[v26], [v23]]) (.cons ⟨_, rfl, (row_one (H34 _ (lT le36 S37.le))), (H34.up le36)⟩ (.cons ⟨_, rfl, (row_one (H38 _ S37.le)), H38⟩ .nil)) (S37.newO B42 O41)
  have oH48 := (OwnX.one S44 0 rfl (by decide))
  obtain ⟨I45, le46, S47, H48⟩ := S44.fx0 (by decide)
  refine eR rfl F74 rfl (Code_c p L v0 s v39 [use, be6 n] I45 _ _ S47 (Q0.up (lT (lT (lT le18 le32) le36) le46)) H48 (by first | assumption | omega | (simp; done) | (simp; omega)) (by omega) (by simp [be6]; omega)) ?_
  rintro _ w49 ⟨v51, rfl, S50⟩
  have q53 : signOf 77 (onceN (tCode s [use, be6 n].flatten) L) = signOf 77 (onceN (derT s use n) L) := by simp only [derT, List.flatten_cons, List.flatten_nil, List.append_nil]
  have S52 := S50.ab0 q53
  have q55 : onceL (tCode s [use, be6 n].flatten) L = onceL (derT s use n) L := by simp only [derT, List.flatten_cons, List.flatten_nil, List.append_nil]
  have S54 := Sat.ah1 (Suite p) S52 q55
  refine vA v51 rfl rfl (EL_nil (thn_n (EC_ret ?_)))
  refine fin1 Tryz.results98 (show _ = v51 from rfl) ⟨_, rfl, ?_⟩
  exact ⟨v51, I45, (lT (lT (lT le18 le32) le36) le46), rfl, S54⟩

set_option maxRecDepth 100000 in
set_option maxHeartbeats 4000000 in
theorem right_c (n : Int) (w : World) : Ret Tryz.prog 97 [.int .i64 n] w fun v w' => .bool (rightW n) = v ∧ Below w.heap.size w w' := by
  have S := Sat.start w
  refine ret_E Tryz.func97 rfl Tryz.ntmps97 (by simp) ?_
  refine EC_seq (EC_reg (vA (.bool false) rfl rfl (EL_nil (thn_n (EC_seq ?_)))))
  refine EC_reg (vM (.int .i64 n) rfl rfl (vl (.bool (decide (1 ≤ n))) rfl (r_geq rfl rfl) (vM (.bool (decide (1 ≤ n))) rfl rfl (EL_gite 5 rfl rfl rfl (.int .i64 n) rfl (fun g11 => r_move rfl) (EL_gite 5 rfl rfl rfl (.bool (decide (n ≤ 16))) rfl (fun g12 => r_leq (cond_of g12 rfl) rfl) ?_)))))
  refine vl (.bool ((decide (1 ≤ n)) && (decide (n ≤ 16)))) rfl (r_and rfl rfl rfl) (vA (.bool ((decide (1 ≤ n)) && (decide (n ≤ 16)))) rfl rfl (EL_nil (thn_n (EC_ret ?_))))
  refine fin1 Tryz.results97 (show _ = .bool ((decide (1 ≤ n)) && (decide (n ≤ 16))) from rfl) ⟨_, rfl, ?_⟩
  exact ⟨rfl, (Below.refl _ _)⟩

set_option maxRecDepth 100000 in
set_option maxHeartbeats 4000000 in
theorem Writer_c (p : Value) (L : List Thing) (v0 : Value) (s : List UInt8) (n : Int) (I : Gh) (R : List HP) (w : World) (S : Sat w I (Suite p L :: R)) (Q0 : RoB I v0 s) (hl : L.length ≤ 1000000) (hs : s.length ≤ 100000) : Ret Tryz.prog 73 [p, v0, .int .i64 n] w fun v w' => ∃ v1 : Value, ∃ J : Gh, Gh.le I J ∧ .tuple #[v1, .int .i64 (rightE n)] = v ∧ Sat w' J (OwnB v1 (rightB L s uWriter n) :: Suite p (rightL L s uWriter n) :: R) := by
  have lq0 := RoB.le Q0 S.le
  refine ret_E Tryz.func73 rfl Tryz.ntmps73 (by simp) ?_
  refine EC_seq (EC_reg (vA (.slice none 0 0) rfl rfl (vA (.int .i64 0) rfl rfl (EL_nil (thn_n ?_)))))
  refine EC_seq (EC_seq (EC_reg (vM (.int .i64 n) rfl rfl ?_)))
  refine eR rfl F97 rfl (right_c n _) ?_
  rintro _ w12 ⟨rfl, B11⟩
  have S13 := S.below B11
  refine vl (.bool (!(rightW n))) rfl (r_not rfl) (EL_nil (thn_n ?_))
  refine EC_cond (t := !(rightW n)) rfl (fun h14 => ?_) (fun h14 => ?_)
  have hr : rightW n = false := (Bool.not_eq_true' _).mp h14
  refine EC_seq (EC_reg (vA (.slice none 0 0) rfl rfl (vA (.int .i64 12) rfl rfl (EL_nil (thn_n ?_)))))
  refine EC_ret (thn_r ?_)
  refine fin2 Tryz.results73 (show _ = .slice none 0 0 from rfl) (show _ = .int .i64 12 from rfl) ⟨_, rfl, ?_⟩
  rw [show rightB L s uWriter n = [] from by rw [rightB, hr]; rfl, show rightL L s uWriter n = L from by rw [rightL, hr]; rfl]
  have S16 : Sat w12 I (OwnB (.slice none 0 0) ([] : List UInt8) :: Suite p L :: R) := S13.nil 5 1
  exact ⟨(.slice none 0 0), I, (Gh.le_refl _), (by rw [rightE, hr]; rfl), S16⟩
  have hr : rightW n = true := (Bool.not_eq_false' _).mp h14
  have hri := rightW_iff.1 hr
  refine EC_skip (thn_n (EC_seq (EC_reg (vM p rfl rfl (vM v0 rfl rfl ?_)))))
  refine vM (.int .i64 n) rfl rfl ?_
  refine eR rfl F98 rfl (derived_c p L v0 s uWriter n I _ _ S13 Q0 (by first | assumption | omega | (simp; done) | (simp; omega)) (by first | assumption | omega | (simp; done) | (simp; omega)) (by decide) (by first | assumption | omega | (simp; done) | (simp; omega))) ?_
  rintro _ w17 ⟨v19, I20, le21, rfl, S18⟩
  refine vA v19 rfl rfl (vA (.int .i64 0) rfl rfl (EL_nil (thn_n (EC_ret ?_))))
  refine fin2 Tryz.results73 (show _ = v19 from rfl) (show _ = .int .i64 0 from rfl) ⟨_, rfl, ?_⟩
  have q23 : keyFor L s uWriter n = rightB L s uWriter n := by rw [rightB, if_pos hr]
  have S22 := S18.ab0 q23
  have q25 : onceL (derT s uWriter n) L = rightL L s uWriter n := by rw [rightL, if_pos hr]
  have S24 := Sat.ah1 (Suite p) S22 q25
  exact ⟨v19, I20, le21, (by rw [rightE, if_pos hr]), S24⟩

set_option maxRecDepth 100000 in
set_option maxHeartbeats 4000000 in
theorem Nonce_c (a : Int) (b : Int) (I : Gh) (R : List HP) (w : World) (S : Sat w I (R)) : Ret Tryz.prog 35 [.int .i64 a, .int .i64 b] w fun v w' => ∃ v1 : Value, ∃ J : Gh, Gh.le I J ∧ .tuple #[v1, .int .i64 (nonceE a b)] = v ∧ Sat w' J (OwnB v1 (nonceB a b) :: R) := by
  refine ret_E Tryz.func35 rfl Tryz.ntmps35 (by simp) ?_
  refine EC_seq (EC_reg (vA (.slice none 0 0) rfl rfl (vA (.int .i64 0) rfl rfl (EL_nil (thn_n ?_)))))
  refine EC_seq (EC_seq (EC_reg (vM (.int .i64 a) rfl rfl (vl (.bool (decide (a < 0))) rfl (r_lss rfl rfl) (vM (.bool (decide (a < 0))) rfl rfl ?_)))))
  refine EL_gite 8 rfl rfl rfl (.int .i64 a) rfl (fun g11 => r_move rfl) (EL_gite 8 rfl rfl rfl (.bool (decide (4294967295 < a))) rfl (fun g12 => r_gtr (cond_of g12 rfl) rfl) (vl (.bool ((decide (a < 0)) || (decide (4294967295 < a)))) rfl (r_or rfl rfl rfl) (vM (.bool ((decide (a < 0)) || (decide (4294967295 < a)))) rfl rfl (EL_gite 12 rfl rfl rfl (.int .i64 b) rfl (fun g13 => r_move rfl) (EL_gite 12 rfl rfl rfl (.bool (decide (b < 0))) rfl (fun g14 => r_lss (cond_of g14 rfl) rfl) ?_)))))
  refine vl (.bool (((decide (a < 0)) || (decide (4294967295 < a))) || (decide (b < 0)))) rfl (r_or rfl rfl rfl) (vM (.bool (((decide (a < 0)) || (decide (4294967295 < a))) || (decide (b < 0)))) rfl rfl (EL_gite 16 rfl rfl rfl (.int .i64 b) rfl (fun g15 => r_move rfl) (EL_gite 16 rfl rfl rfl (.bool (decide (1099511627776 < b))) rfl (fun g16 => r_gtr (cond_of g16 rfl) rfl) (vl (.bool ((((decide (a < 0)) || (decide (4294967295 < a))) || (decide (b < 0))) || (decide (1099511627776 < b)))) rfl (r_or rfl rfl rfl) (EL_nil ?_)))))
  refine thn_n ?_
  refine EC_cond (t := (((decide (a < 0)) || (decide (4294967295 < a))) || (decide (b < 0))) || (decide (1099511627776 < b))) rfl (fun h17 => ?_) (fun h17 => ?_)
  have hr : nonceOk a b = false := by rw [← Bool.not_eq_true, nonceOk_iff]; simp at h17; omega
  refine EC_seq (EC_reg (vA (.slice none 0 0) rfl rfl (vA (.int .i64 12) rfl rfl (EL_nil (thn_n ?_)))))
  refine EC_ret (thn_r ?_)
  refine fin2 Tryz.results35 (show _ = .slice none 0 0 from rfl) (show _ = .int .i64 12 from rfl) ⟨_, rfl, ?_⟩
  rw [show nonceB a b = [] from by rw [nonceB, hr]; rfl]
  have S19 : Sat w I (OwnB (.slice none 0 0) ([] : List UInt8) :: R) := S.nil 5 1
  exact ⟨(.slice none 0 0), I, (Gh.le_refl _), (by rw [nonceE, hr]; rfl), S19⟩
  have hr : nonceOk a b = true := by rw [nonceOk_iff]; simp at h17; omega
  have hri := nonceOk_iff.1 hr
  refine EC_skip (thn_n (EC_seq (EC_reg (vM (.int .i64 a) rfl rfl (vl (.iface 3 (.int .i64 a)) rfl (r_iface rfl U3 rfl) ?_)))))
  refine vM (.int .i64 b) rfl rfl (vl (.iface 3 (.int .i64 b)) rfl (r_iface rfl U3 rfl) ?_)
  refine EL_lit1 (l := [(0, .iface 3 (.int .i64 a)), (1, .iface 3 (.int .i64 b))]) w.heap.size [.iface 3 (.int .i64 a), .iface 3 (.int .i64 b)] el_112 rfl (by decide) rfl (Nat.le_refl _) (parts2 rfl rfl) (Eq.trans (show Instr.fill _ _ [(0, .iface 3 (.int .i64 a)), (1, .iface 3 (.int .i64 b))] = _ from (fill_one rfl rfl (by kernel_rfl) (fill_one rfl rfl (by kernel_rfl) fill_end))) (by kernel_rfl)) ?_
  intro v20 w21 O22 B23 k24
  have S25 : Sat w21 I (OwnX 20 anyR v20 [(Any.int a), (Any.int b)] :: R) := OwnX.cls (xss := [[.iface 3 (.int .i64 a)], [.iface 3 (.int .i64 b)]]) (.cons ⟨rfl, (by first | assumption | omega)⟩ (.cons ⟨rfl, (by first | assumption | omega)⟩ .nil)) (S.newO B23 O22)
  have oH29 := (OwnX.one S25 0 rfl (by decide))
  obtain ⟨I26, le27, S28, H29⟩ := S25.fx0 (by decide)
  refine eR rfl F31 rfl (Put_c v20 [(Any.int a), (Any.int b)] I26 _ _ S28 H29 (by simp)) ?_
  rintro _ w30 ⟨v32, rfl, S31⟩
  have q34 : putB [(Any.int a), (Any.int b)] = be6 a ++ be6 b := (put2 (by omega) (by omega)).1
  have S33 := S31.ab0 q34
  refine vX v32 rfl rfl rfl (vX (.int .i64 (putE [(Any.int a), (Any.int b)])) rfl rfl rfl (vA v32 rfl rfl (vA (.int .i64 (putE [(Any.int a), (Any.int b)])) rfl rfl (EL_nil (thn_n ?_)))))
  refine EC_ret ?_
  refine fin2 Tryz.results35 (show _ = v32 from rfl) (show _ = .int .i64 (putE [(Any.int a), (Any.int b)]) from rfl) ⟨_, rfl, ?_⟩
  have q36 : be6 a ++ be6 b = nonceB a b := by rw [nonceB, if_pos hr]
  have S35 := S33.ab0 q36
  exact ⟨v32, I26, le27, (by rw [nonceE, if_pos hr, (put2 (n := a) (m := b) (by omega) (by omega)).2]), S35⟩

end Go.Proofs.YtoajodjcmeijgaaGreat
