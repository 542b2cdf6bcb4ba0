import Derived.Test.YtoajodjcmeijgaaGreatQSealedPlaysCode
import Derived.Test.YtoajodjcmeijgaaGreatQSealedPlaysBase
set_option linter.unusedVariables false
set_option linter.unusedSimpArgs false
namespace Go.Proofs.YtoajodjcmeijgaaGreat
open Go.RowKit Go.Ecal

set_option maxRecDepth 100000 in
set_option maxHeartbeats 4000000 in
theorem number_c (n : Int) (I : Gh) (R : List HP) (w : World) (S : Sat w I (R)) (hn : -9223372036854775808 ≤ n ∧ n ≤ 9223372036854775807) : Ret Tryz.prog 95 [.int .i64 n] w fun v w' => ∃ v1 : Value, .tuple #[v1, .int .i64 (numE n)] = v ∧ Sat w' I (OwnB v1 (numB n) :: R) := by
  refine ret_E Tryz.func95 rfl Tryz.ntmps95 (by simp) ?_
  refine EC_seq (EC_reg (vA (.slice none 0 0) rfl rfl (vA (.int .i64 0) rfl rfl (EL_nil (thn_n ?_)))))
  refine EC_seq (EC_seq (EC_reg (vM (.int .i64 n) rfl rfl (vl (.bool (decide (n < 0))) rfl (r_lss rfl rfl) (vM (.bool (decide (n < 0))) rfl rfl ?_)))))
  refine EL_gite 6 rfl rfl rfl (.int .i64 n) rfl (fun g11 => r_move rfl) (EL_gite 6 rfl rfl rfl (.bool (decide (1099511627776 < n))) rfl (fun g12 => r_gtr (cond_of g12 rfl) rfl) (vl (.bool ((decide (n < 0)) || (decide (1099511627776 < n)))) rfl (r_or rfl rfl rfl) (EL_nil (thn_n ?_))))
  refine EC_cond (t := (decide (n < 0)) || (decide (1099511627776 < n))) rfl (fun h13 => ?_) (fun h13 => ?_)
  simp only [Bool.and_eq_true, Bool.or_eq_true, Bool.not_eq_true', Bool.not_eq_false', decide_eq_true_eq, decide_eq_false_iff_not, Bool.and_eq_false_iff, Bool.or_eq_false_iff, Bool.not_eq_true, Bool.not_eq_false, bne_iff_ne, beq_iff_eq, beq_eq_false_iff_ne] at h13
  refine EC_seq (EC_reg (vA (.slice none 0 0) rfl rfl (vA (.int .i64 12) rfl rfl (EL_nil (thn_n ?_)))))
  refine EC_ret (thn_r ?_)
  refine fin2 Tryz.results95 (show _ = .slice none 0 0 from rfl) (show _ = .int .i64 12 from rfl) ⟨_, rfl, ?_⟩
  rw [show numB n = [] from by rw [numB, if_neg (by omega)]]
  have S15 : Sat w I (OwnB (.slice none 0 0) ([] : List UInt8) :: R) := S.nil 5 1
  exact ⟨(.slice none 0 0), (by rw [numE, if_neg (by omega)]), S15⟩
  simp only [Bool.and_eq_true, Bool.or_eq_true, Bool.not_eq_true', Bool.not_eq_false', decide_eq_true_eq, decide_eq_false_iff_not, Bool.and_eq_false_iff, Bool.or_eq_false_iff, Bool.not_eq_true, Bool.not_eq_false, bne_iff_ne, beq_iff_eq, beq_eq_false_iff_ne] at h13
  refine EC_skip (thn_n (EC_seq (EC_reg (vM (.int .i64 n) rfl rfl ?_))))
  refine EL_int (n / 1099511627776) rfl (r_shri (n := 40) rfl rfl rfl (by decide) (by decide)) ?_
  intro x16 hx16
  refine vl (.int .u8 (x16 % 256)) rfl (r_convb 3 5 rfl U3 U5) (vM (.int .i64 n) rfl rfl ?_)
  refine EL_int (n / 4294967296) rfl (r_shri (n := 32) rfl rfl rfl (by decide) (by decide)) ?_
  intro x17 hx17
  refine vl (.int .u8 (x17 % 256)) rfl (r_convb 3 5 rfl U3 U5) (vM (.int .i64 n) rfl rfl ?_)
  refine EL_int (n / 16777216) rfl (r_shri (n := 24) rfl rfl rfl (by decide) (by decide)) ?_
  intro x18 hx18
  refine vl (.int .u8 (x18 % 256)) rfl (r_convb 3 5 rfl U3 U5) (vM (.int .i64 n) rfl rfl ?_)
  refine EL_int (n / 65536) rfl (r_shri (n := 16) rfl rfl rfl (by decide) (by decide)) ?_
  intro x19 hx19
  refine vl (.int .u8 (x19 % 256)) rfl (r_convb 3 5 rfl U3 U5) (vM (.int .i64 n) rfl rfl ?_)
  refine EL_int (n / 256) rfl (r_shri (n := 8) rfl rfl rfl (by decide) (by decide)) ?_
  intro x20 hx20
  refine vl (.int .u8 (x20 % 256)) rfl (r_convb 3 5 rfl U3 U5) (vM (.int .i64 n) rfl rfl (vl (.int .u8 (n % 256)) rfl (r_convb 3 5 rfl U3 U5) ?_))
  refine EL_lit w.heap.size #[.int .u8 (x16 % 256), .int .u8 (x17 % 256), .int .u8 (x18 % 256), .int .u8 (x19 % 256), .int .u8 (x20 % 256), .int .u8 (n % 256)] elB rfl (by decide) rfl (Nat.le_refl _) (by kernel_rfl) ?_
  intro v21 w22 O23 B24 k25 z26
  have S27 : Sat w22 I (OwnB v21 [bof x16, bof x17, bof x18, bof x19, bof x20, bof n] :: R) := S.newO B24 (own_eq (l := [bof x16, bof x17, bof x18, bof x19, bof x20, bof n]) O23 (by simp [bof_val, byt]))
  refine vA v21 rfl rfl (vA (.int .i64 0) rfl rfl (EL_nil (thn_n (EC_ret ?_))))
  refine fin2 Tryz.results95 (show _ = v21 from rfl) (show _ = .int .i64 0 from rfl) ⟨_, rfl, ?_⟩
  have q29 : [bof x16, bof x17, bof x18, bof x19, bof x20, bof n] = numB n := by rw [numB_ok (by omega), be6, hx16, hx17, hx18, hx19, hx20]
  have S28 := S27.ab0 q29
  exact ⟨v21, (by rw [numE_ok (by omega)]), S28⟩

set_option maxRecDepth 100000 in
set_option maxHeartbeats 4000000 in
theorem text_c (v0 : Value) (l : List UInt8) (I : Gh) (R : List HP) (w : World) (S : Sat w I (R)) (Q0 : RoB I v0 l) : Ret Tryz.prog 96 [v0] w fun v w' => ∃ v1 : Value, .tuple #[v1, .int .i64 (textE l)] = v ∧ Sat w' I (OwnB v1 (textB l) :: R) := by
  have lq0 := RoB.le Q0 S.le
  refine ret_E Tryz.func96 rfl Tryz.ntmps96 (by simp) ?_
  refine EC_seq (EC_reg (vA (.slice none 0 0) rfl rfl (vA (.int .i64 0) rfl rfl (EL_nil (thn_n ?_)))))
  refine EC_seq (EC_seq (EC_reg (vM v0 rfl rfl (vl (.int .i64 (l.length : Int)) rfl (lenB (r_len rfl (Q0 _ S.le) U22)) (vl (.bool (decide (4096 < (l.length : Int)))) rfl (r_gtr rfl rfl) ?_)))))
  refine EL_nil (thn_n ?_)
  refine EC_if (p := 4096 < (l.length : Int)) rfl (fun h11 => ?_) (fun h11 => ?_)
  refine EC_seq (EC_reg (vA (.slice none 0 0) rfl rfl (vA (.int .i64 11) rfl rfl (EL_nil (thn_n ?_)))))
  refine EC_ret (thn_r ?_)
  refine fin2 Tryz.results96 (show _ = .slice none 0 0 from rfl) (show _ = .int .i64 11 from rfl) ⟨_, rfl, ?_⟩
  rw [show textB l = [] from by rw [textB, if_neg (by omega)]]
  have S13 : Sat w I (OwnB (.slice none 0 0) ([] : List UInt8) :: R) := S.nil 5 1
  exact ⟨(.slice none 0 0), (by rw [textE, if_neg (by omega)]), S13⟩
  refine EC_skip (thn_n (EC_seq (EC_reg (vM v0 rfl rfl (vl (.int .i64 (l.length : Int)) rfl (lenB (r_len rfl (Q0 _ S.le) U22)) ?_)))))
  refine EL_int ((l.length : Int) / 256) rfl (r_shri (n := 8) rfl rfl rfl (by decide) (by decide)) ?_
  intro x14 hx14
  refine vl (.int .u8 (x14 % 256)) rfl (r_convb 3 5 rfl U3 U5) (vM v0 rfl rfl (vl (.int .i64 (l.length : Int)) rfl (lenB (r_len rfl (Q0 _ S.le) U22)) (vl (.int .u8 ((l.length : Int) % 256)) rfl (r_convb 3 5 rfl U3 U5) ?_)))
  refine EL_lit w.heap.size #[.int .u8 (x14 % 256), .int .u8 ((l.length : Int) % 256)] elB rfl (by decide) rfl (Nat.le_refl _) (by kernel_rfl) ?_
  intro v15 w16 O17 B18 k19 z20
  have S21 : Sat w16 I (OwnB v15 [bof x14, bof (l.length : Int)] :: R) := S.newO B18 (own_eq (l := [bof x14, bof (l.length : Int)]) O17 (by simp [bof_val, byt]))
  refine vM v0 rfl rfl ?_
  refine EL_append (v := v15) (xs := [bof x14, bof (l.length : Int)].map byt) (ys := l.map byt) 0 elB rfl rfl rfl (own_len (S21.own 0 rfl)) (Q0 _ S21.le) (byt_one _) (by first | (simp only [List.length_map, List.length_nil, List.length_append]; omega) | (simp; done) | (simp; omega)) (by decide) (Nat.zero_le _) ?_
  intro v22 w23 O24 G25 A26
  have S27 := S21.gb0 G25 (own_app O24) A26
  refine vA v22 rfl rfl (vA (.int .i64 0) rfl rfl (EL_nil (thn_n (EC_ret ?_))))
  refine fin2 Tryz.results96 (show _ = v22 from rfl) (show _ = .int .i64 0 from rfl) ⟨_, rfl, ?_⟩
  have q29 : [bof x14, bof (l.length : Int)] ++ l = textB l := by rw [textB, if_pos (by omega), be2, hx14]
  have S28 := S27.ab0 q29
  exact ⟨v22, (by rw [textE, if_pos (by omega)]), S28⟩

set_option maxRecDepth 100000 in
set_option maxHeartbeats 4000000 in
theorem partI_c (n : Int) (I : Gh) (R : List HP) (w : World) (S : Sat w I (R)) (hn : -9223372036854775808 ≤ n ∧ n ≤ 9223372036854775807) : Ret Tryz.prog 72 [.iface 3 (.int .i64 n)] w fun v w' => ∃ v1 : Value, .tuple #[v1, .int .i64 (numE n)] = v ∧ Sat w' I (OwnB v1 (numB n) :: R) := by
  refine ret_E Tryz.func72 rfl Tryz.ntmps72 (by simp) ?_
  refine EC_seq (EC_reg (vA (.slice none 0 0) rfl rfl (vA (.int .i64 0) rfl rfl (EL_nil (thn_n ?_)))))
  refine EC_seq (EC_seq (EC_reg (vM (.iface 3 (.int .i64 n)) rfl rfl (EL_nil (thn_n ?_)))))
  refine EC_block (EC_seq (EC_reg (vl (.tuple #[.int .i64 n, .bool true]) rfl (r_assertT rfl U3 rfl) (vX (.bool true) rfl rfl rfl (vX (.int .i64 n) rfl rfl rfl ?_)))))
  refine EL_nil (thn_n ?_)
  refine EC_cond_true rfl ?_
  refine EC_seq (EC_reg (vA (.int .i64 n) rfl rfl (EL_nil (thn_n (EC_seq ?_)))))
  refine EC_reg (vM (.int .i64 n) rfl rfl ?_)
  refine eR rfl F95 rfl (number_c n I _ _ S (by first | assumption | omega | (simp; done) | (simp; omega))) ?_
  rintro _ w11 ⟨v13, rfl, S12⟩
  refine vX v13 rfl rfl rfl (vX (.int .i64 (numE n)) rfl rfl rfl (vA v13 rfl rfl (vA (.int .i64 (numE n)) rfl rfl (EL_nil (thn_n ?_)))))
  refine EC_ret (inB_r (thn_r ?_))
  refine fin2 Tryz.results72 (show _ = v13 from rfl) (show _ = .int .i64 (numE n) from rfl) ⟨_, rfl, ?_⟩
  exact ⟨v13, rfl, S12⟩

set_option maxRecDepth 100000 in
set_option maxHeartbeats 4000000 in
theorem partB_c (v0 : Value) (l : List UInt8) (I : Gh) (R : List HP) (w : World) (S : Sat w I (R)) (Q0 : RoB I v0 l) : Ret Tryz.prog 72 [.iface 22 v0] w fun v w' => ∃ v1 : Value, .tuple #[v1, .int .i64 (textE l)] = v ∧ Sat w' I (OwnB v1 (textB l) :: R) := by
  have lq0 := RoB.le Q0 S.le
  refine ret_E Tryz.func72 rfl Tryz.ntmps72 (by simp) ?_
  refine EC_seq (EC_reg (vA (.slice none 0 0) rfl rfl (vA (.int .i64 0) rfl rfl (EL_nil (thn_n ?_)))))
  refine EC_seq (EC_seq (EC_reg (vM (.iface 22 v0) rfl rfl (EL_nil (thn_n ?_)))))
  refine EC_block (EC_seq (EC_reg (vl (.tuple #[.int .i64 0, .bool false]) rfl (r_assertF (z := .int .i64 0) rfl rfl U3 rfl (by kernel_rfl)) (vX (.bool false) rfl rfl rfl (vX (.int .i64 0) rfl rfl rfl ?_)))))
  refine EL_nil (thn_n ?_)
  refine EC_cond_false rfl ?_
  refine EC_seq (EC_reg (vl (.tuple #[v0, .bool true]) rfl (r_assertT rfl U22 rfl) (vX (.bool true) rfl rfl rfl (vX v0 rfl rfl rfl (EL_nil ?_)))))
  refine thn_n ?_
  refine EC_cond_true rfl ?_
  refine EC_seq (EC_reg (vA v0 rfl rfl (EL_nil (thn_n (EC_seq ?_)))))
  refine EC_reg (vM v0 rfl rfl ?_)
  refine eR rfl F96 rfl (text_c v0 l I _ _ S Q0) ?_
  rintro _ w11 ⟨v13, rfl, S12⟩
  refine vX v13 rfl rfl rfl (vX (.int .i64 (textE l)) rfl rfl rfl (vA v13 rfl rfl (vA (.int .i64 (textE l)) rfl rfl (EL_nil (thn_n ?_)))))
  refine EC_ret (inB_r (thn_r ?_))
  refine fin2 Tryz.results72 (show _ = v13 from rfl) (show _ = .int .i64 (textE l) from rfl) ⟨_, rfl, ?_⟩
  exact ⟨v13, rfl, S12⟩

theorem part_c (u : Value) (a : Any) (I : Gh) (R : List HP) (w : World) (S : Sat w I R) (H : anyR.r I [u] a) : Ret Tryz.prog 72 [u] w fun v w' => ∃ v1 : Value, .tuple #[v1, .int .i64 (partE a)] = v ∧ Sat w' I (OwnB v1 (partB a) :: R) := by
  cases a with
  | int n => obtain ⟨h, r⟩ := H; simp only [List.cons.injEq, and_true] at h; subst h; exact partI_c n I R w S r
  | bytes l => obtain ⟨q, h, o, r⟩ := H; simp only [List.cons.injEq, and_true] at h; subst h; exact partB_c q l I R w S r

set_option maxRecDepth 100000 in
set_option maxHeartbeats 4000000 in
theorem Put_c (v0 : Value) (l : List Any) (I : Gh) (R : List HP) (w : World) (S : Sat w I (R)) (Q0 : RoX I v0 anyR l) (hl : l.length ≤ 1000) : Ret Tryz.prog 31 [v0] w fun v w' => ∃ v1 : Value, .tuple #[v1, .int .i64 (putE l)] = v ∧ Sat w' I (OwnB v1 (putB l) :: R) := by
  have lq0 := XRow.le (Q0.row S.le)
  refine ret_E Tryz.func31 rfl Tryz.ntmps31 (by simp) ?_
  refine EC_seq (EC_reg (vA (.slice none 0 0) rfl rfl (vA (.int .i64 0) rfl rfl (EL_nil (thn_n ?_)))))
  refine EC_seq (EC_reg (vA (.slice none 0 0) rfl rfl (EL_nil (thn_n (EC_seq ?_)))))
  refine EC_seq (EC_reg (vM v0 rfl rfl (vl (.int .i64 (l.length : Int)) rfl (r_lenX rfl (Q0.row S.le) U112) (vM (.int .i64 0) rfl rfl (EL_nil ?_)))))
  refine thn_n (EC_block ?_)
  have S12 : Sat w I (OwnB (.slice none 0 0) (((l.take 0).map partB).flatten) :: R) := S.nil 5 1
  refine EC_loop (fun m' E' w' => ∃ j : Nat, ∃ ov : Value, m' = l.length - j ∧ E' 4 = ov ∧ E' 11 = .int .i64 (j : Int) ∧ E' 9 = v0 ∧ E' 10 = .int .i64 (l.length : Int) ∧ (j ≤ l.length) ∧ (PutTo l j) ∧ Sat w' I (OwnB ov (((l.take j).map partB).flatten) :: R)) _ ⟨0, .slice none 0 0, rfl, rfl, rfl, rfl, rfl, Nat.zero_le _, PutTo.zero, S12⟩ ?_
  rintro _ E13 w14 ⟨j, ov, rfl, e15, e16, e17, e18, hj, hP, S19⟩
  refine EC_seq (EC_reg (vl (.bool (decide ((j : Int) < (l.length : Int)))) rfl (r_lss (by exact e16) (by exact e18)) (EL_nil (thn_n (EC_seq ?_)))))
  refine EC_if (p := (j : Int) < (l.length : Int)) rfl (fun h20 => ?_) (fun h20 => ?_)
  refine EC_skip (thn_n (EC_seq (EC_block (EC_seq (EC_reg ?_)))))
  refine vl (ptr (blkOf v0) (offOf v0 + ((j : Int) : Int).toNat * 1)) rfl (r_indexX (by exact e17) (Q0.row S19.le) (by exact e16) (by omega) (by first | omega | (simp; omega) | simp) U112 (by kernel_rfl)) ?_
  obtain ⟨a21, ha22⟩ := get_some (l := l) (j := ((j : Int) : Int).toNat) (by first | omega | (simp; omega) | simp)
  have pl := partB_le a21; have pm := put_le (l := l) j
  obtain ⟨cs23, hc24, he25⟩ := Q0.el ha22
  obtain ⟨u26, rfl, oH27, H27⟩ := any_open hc24
  refine vl u26 rfl (r_load0 rfl (he25 _ S19.le) U20 rfl) (vA u26 rfl rfl (EL_nil (thn_n (EC_seq (EC_reg ?_)))))
  refine vM u26 rfl rfl ?_
  refine eR rfl F72 rfl (part_c u26 a21 I _ _ S19 (anyR.mono (Gh.le_refl _) H27)) ?_
  rintro _ w28 ⟨v30, rfl, S29⟩
  refine vM (.tuple #[v30, .int .i64 (partE a21)]) rfl rfl (vX v30 rfl rfl rfl (vX (.int .i64 (partE a21)) rfl rfl rfl (vA v30 rfl rfl (vA (.int .i64 (partE a21)) rfl rfl (EL_nil ?_)))))
  refine thn_n (EC_seq (EC_seq (EC_reg (vM (.int .i64 (partE a21)) rfl rfl (vl (.bool (decide ((partE a21) ≠ 0))) rfl (r_neq rfl rfl) ?_)))))
  refine EL_nil (thn_n ?_)
  refine EC_if (p := (partE a21) ≠ 0) rfl (fun h31 => ?_) (fun h31 => ?_)
  have hst := hP.stop ha22 h31
  refine EC_seq (EC_reg (vM (.int .i64 (partE a21)) rfl rfl (vA (.slice none 0 0) rfl rfl (vA (.int .i64 (partE a21)) rfl rfl (EL_nil ?_)))))
  refine thn_n (EC_ret (thn_r (inB_r (thn_r (thn_r ?_)))))
  refine inB_r (thn_r ?_)
  refine fin2 Tryz.results31 (show _ = .slice none 0 0 from rfl) (show _ = .int .i64 (partE a21) from rfl) ⟨_, rfl, ?_⟩
  rw [show putB l = [] from by rw [putB, if_neg (by rw [hst]; assumption)]]
  have S33 : Sat w28 I (OwnB (.slice none 0 0) ([] : List UInt8) :: OwnB v30 (partB a21) :: OwnB ov (((l.take j).map partB).flatten) :: R) := S29.nil 5 1
  have S34 := S33.dr1
  have S35 := S34.dr1
  exact ⟨(.slice none 0 0), (by rw [hst]), S35⟩
  have hok : partE a21 = 0 := by simpa using h31
  refine EC_skip (thn_n (EC_reg (vM ov rfl e15 (vM v30 rfl rfl ?_))))
  refine EL_append (v := ov) (xs := (((l.take j).map partB).flatten).map byt) (ys := (partB a21).map byt) 0 elB rfl rfl rfl (own_len (S29.own 1 rfl)) (own_row (S29.own 0 rfl)) (byt_one _) (by first | (simp only [List.length_map, List.length_nil, List.length_append]; omega) | (simp; done) | (simp; omega)) (by decide) (Nat.zero_le _) ?_
  intro v36 w37 O38 G39 A40
  have S41 := S29.gb1 G39 (own_app O38) A40
  refine vA v36 rfl rfl (EL_nil (inB_n (thn_n (EC_reg ?_))))
  refine EL_int ((j : Int) + 1) rfl (r_addi (by exact e16) rfl (by omega)) ?_
  intro x42 hx42
  refine vM (.int .i64 x42) rfl rfl (EL_nil (thn_n ?_))
  have q44 : (((l.take j).map partB).flatten) ++ (partB a21) = ((l.take (j + 1)).map partB).flatten := put_step (j := j) ha22
  have S43 := S41.ab1 q44
  have S45 := S43.dr0
  refine ⟨_, ?_, j + 1, v36, rfl, rfl, (Eq.trans (show _ = Value.int .i64 x42 from rfl) (congrArg _ (by omega))), (by exact e17), (by exact e18), by omega, hP.next ha22 hok, S45⟩
  first | omega | (simp; omega)
  refine EC_exit (thn_x (thn_x (inB_hit (thn_n (EC_seq ?_)))))
  refine EC_reg (vM ov rfl e15 (vA ov rfl rfl (vA (.int .i64 0) rfl rfl (EL_nil (thn_n ?_)))))
  refine EC_ret ?_
  refine fin2 Tryz.results31 (show _ = ov from rfl) (show _ = .int .i64 0 from rfl) ⟨_, rfl, ?_⟩
  have hall := PutTo.all (show PutTo l l.length from by rwa [show l.length = j by omega])
  have q47 : ((l.take j).map partB).flatten = putB l := by rw [putB_ok hall, List.take_of_length_le (by omega)]
  have S46 := S19.ab0 q47
  exact ⟨ov, (by rw [hall]), S46⟩

end Go.Proofs.YtoajodjcmeijgaaGreat
