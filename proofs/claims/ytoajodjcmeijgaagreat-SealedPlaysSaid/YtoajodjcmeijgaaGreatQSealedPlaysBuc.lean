import Derived.Test.YtoajodjcmeijgaaGreatQSealedPlaysBucket
import Derived.Test.YtoajodjcmeijgaaGreatQSealedPlaysBase
set_option linter.unusedVariables false
set_option linter.unusedSimpArgs false
namespace Go.Proofs.YtoajodjcmeijgaaGreat
open Go.RowKit Go.Ecal

set_option maxRecDepth 100000 in
set_option maxHeartbeats 4000000 in
theorem Size_c (n : Int) (I : Gh) (R : List HP) (w : World) (S : Sat w I (R)) (hb : -9223372036854775808 ≤ n ∧ n ≤ 9223372036854775807) : Ret Tryz.prog 32 [.int .i64 n] w fun v w' => .tuple #[.int .i64 (bsize n), .int .i64 (bsizeE n)] = v ∧ Sat w' I (R) := by
  refine ret_E Tryz.func32 rfl Tryz.ntmps32 (by simp) ?_
  refine EC_seq (EC_reg (vA (.int .i64 0) rfl rfl (vA (.int .i64 0) rfl rfl (EL_nil (thn_n ?_)))))
  refine EC_scope (fun l' m' E' w' => (l' = 0 ∧ m' = 0 ∧ E' 0 = .int .i64 n ∧ (n < 0 ∨ 2046 < n) ∧ Sat w' I (R)) ∨ (l' = 1 ∧ ∃ z : Int, m' = (4096 - z).toNat ∧ E' 4 = .int .i64 z ∧ E' 0 = .int .i64 n ∧ (z = 64 ∨ (z = 128 ∧ 62 < n) ∨ (z = 256 ∧ 126 < n) ∨ (z = 512 ∧ 254 < n) ∨ (z = 1024 ∧ 510 < n) ∨ (z = 2048 ∧ 1022 < n)) ∧ (0 ≤ n ∧ n ≤ 2046) ∧ Sat w' I (R))) 5000 ?_ ?_
  refine EC_seq (EC_reg (vA (.int .i64 64) rfl rfl (EL_nil (thn_n (EC_seq ?_)))))
  refine EC_seq (EC_reg (vM (.int .i64 n) rfl rfl (vl (.bool (decide (n < 0))) rfl (r_lss rfl rfl) (vM (.bool (decide (n < 0))) rfl rfl (EL_gite 7 rfl rfl rfl (.int .i64 n) rfl (fun g11 => r_move rfl) ?_)))))
  refine EL_gite 7 rfl rfl rfl (.bool (decide (2046 < n))) rfl (fun g12 => r_gtr (cond_of g12 rfl) rfl) (vl (.bool ((decide (n < 0)) || (decide (2046 < n)))) rfl (r_or rfl rfl rfl) (EL_nil (thn_n ?_)))
  refine EC_cond (t := (decide (n < 0)) || (decide (2046 < n))) rfl (fun h13 => ?_) (fun h13 => ?_)
  have hno : n < 0 ∨ 2046 < n := by simp at h13; omega
  refine EC_goto ?_
  refine thn_g ?_
  refine jmp_g _ ?_ (.inl ⟨rfl, rfl, rfl, hno, S⟩)
  first | omega | (simp; omega)
  have hn : 0 ≤ n ∧ n ≤ 2046 := by simp at h13; omega
  refine EC_skip (thn_n (EC_seq ?_))
  refine EC_label ?_
  refine thn_n (EC_seq (EC_seq (EC_reg (vM (.int .i64 n) rfl rfl ?_))))
  refine EL_int (n + 2) rfl (r_addi rfl rfl (by omega)) ?_
  intro x14 hx14
  refine vM (.int .i64 64) rfl rfl (vl (.bool (decide (x14 ≤ 64))) rfl (r_leq rfl rfl) (EL_nil (thn_n ?_)))
  refine EC_if (p := x14 ≤ 64) rfl (fun h15 => ?_) (fun h15 => ?_)
  refine EC_seq (EC_reg (vM (.int .i64 64) rfl rfl (vA (.int .i64 64) rfl rfl (vA (.int .i64 0) rfl rfl (EL_nil ?_)))))
  refine thn_n (EC_ret (thn_r ?_))
  refine jmp_r ?_
  refine fin2 Tryz.results32 (show _ = .int .i64 64 from rfl) (show _ = .int .i64 0 from rfl) ⟨_, rfl, ?_⟩
  exact ⟨(by rw [show bsize n = 64 from bsize_at hn (by omega) (by omega), show bsizeE n = 0 from by rw [bsizeE, if_neg (by omega)]]), S⟩
  refine EC_skip (thn_n (EC_seq (EC_reg (vM (.int .i64 64) rfl rfl (vl (.int .i64 128) rfl (r_asn (by kernel_rfl) (r_mul rfl rfl)) ?_)))))
  refine vA (.int .i64 128) rfl rfl (EL_nil (thn_n (EC_seq ?_)))
  refine EC_goto ?_
  refine thn_g ?_
  refine jmp_g _ ?_ (.inr ⟨rfl, 128, rfl, rfl, rfl, (by omega), (by omega), S⟩)
  first | omega | (simp; omega)
  rintro _ _ E21 w22 (⟨rfl, rfl, e16, hno, S17⟩ | ⟨rfl, z, rfl, e18, e19, hz, hn, S20⟩)
  refine ⟨_, rfl, ?_⟩
  refine EC_seq (EC_skip (thn_n (EC_seq (EC_reg (vA (.int .i64 0) rfl rfl ?_)))))
  refine vA (.int .i64 11) rfl rfl (EL_nil (thn_n (EC_ret ?_)))
  refine jmp_r ?_
  refine fin2 Tryz.results32 (show _ = .int .i64 0 from rfl) (show _ = .int .i64 11 from rfl) ⟨_, rfl, ?_⟩
  exact ⟨(by rw [(bsize_no n hno).1, (bsize_no n hno).2]), S17⟩
  refine ⟨_, rfl, ?_⟩
  refine EC_seq (EC_skip (thn_n (EC_seq (EC_seq (EC_reg ?_)))))
  refine vM (.int .i64 n) rfl e19 ?_
  refine EL_int (n + 2) rfl (r_addi rfl rfl (by omega)) ?_
  intro x23 hx23
  refine vM (.int .i64 z) rfl e18 (vl (.bool (decide (x23 ≤ z))) rfl (r_leq rfl rfl) (EL_nil (thn_n ?_)))
  refine EC_if (p := x23 ≤ z) rfl (fun h24 => ?_) (fun h24 => ?_)
  refine EC_seq (EC_reg (vM (.int .i64 z) rfl e18 (vA (.int .i64 z) rfl rfl (vA (.int .i64 0) rfl rfl (EL_nil ?_)))))
  refine thn_n (EC_ret (thn_r ?_))
  refine jmp_r ?_
  refine fin2 Tryz.results32 (show _ = .int .i64 z from rfl) (show _ = .int .i64 0 from rfl) ⟨_, rfl, ?_⟩
  exact ⟨(by rw [show bsize n = z from bsize_at hn (by omega) (by omega), show bsizeE n = 0 from by rw [bsizeE, if_neg (by omega)]]), S20⟩
  refine EC_skip (thn_n (EC_seq (EC_reg (vM (.int .i64 z) rfl e18 ?_))))
  refine EL_int (z * 2) rfl (r_muli rfl rfl (by omega)) ?_
  intro x25 hx25
  refine vA (.int .i64 x25) rfl rfl (EL_nil (thn_n (EC_seq ?_)))
  refine EC_goto ?_
  refine thn_g ?_
  refine jmp_g _ ?_ (.inr ⟨rfl, x25, rfl, rfl, (by exact e19), (by omega), (by omega), S20⟩)
  first | omega | (simp; omega)

set_option maxRecDepth 100000 in
set_option maxHeartbeats 4000000 in
theorem Pad_c (v0 : Value) (l : List UInt8) (I : Gh) (R : List HP) (w : World) (S : Sat w I (R)) (Q0 : RoB I v0 l) : Ret Tryz.prog 34 [v0] w fun v w' => ∃ v1 : Value, .tuple #[v1, .int .i64 (bsizeE (l.length : Int))] = v ∧ Sat w' I (OwnB v1 (padB l) :: R) := by
  have lq0 := RoB.le Q0 S.le
  refine ret_E Tryz.func34 rfl Tryz.ntmps34 (by simp) ?_
  refine EC_seq (EC_reg (vA (.slice none 0 0) rfl rfl (vA (.int .i64 0) rfl rfl (EL_nil (thn_n ?_)))))
  refine EC_seq (EC_reg (vM v0 rfl rfl (vl (.int .i64 (l.length : Int)) rfl (lenB (r_len rfl (Q0 _ S.le) U22)) ?_)))
  refine eR rfl F32 rfl (Size_c (l.length : Int) I _ _ S (by first | assumption | omega | (simp; done) | (simp; omega))) ?_
  rintro _ w11 ⟨rfl, S12⟩
  refine vM (.tuple #[.int .i64 (bsize (l.length : Int)), .int .i64 (bsizeE (l.length : Int))]) rfl rfl (vX (.int .i64 (bsize (l.length : Int))) rfl rfl rfl (vX (.int .i64 (bsizeE (l.length : Int))) rfl rfl rfl (vA (.int .i64 (bsize (l.length : Int))) rfl rfl (vA (.int .i64 (bsizeE (l.length : Int))) rfl rfl (EL_nil ?_)))))
  refine thn_n (EC_seq (EC_seq ?_))
  rcases (by omega : l.length ≤ 2046 ∨ 2046 < l.length) with hp | hp
  obtain ⟨z, hz, hz0, hz1, hz2, hz3, hz4⟩ := bsize_facts l.length (by omega) (by omega)
  subst hz
  refine EC_reg (vM (.int .i64 (bsizeE (l.length : Int))) rfl rfl (vl (.bool false) rfl (r_dec (show (decide ((bsizeE (l.length : Int)) ≠ 0)) = false from by simp [hz0]) (r_neq rfl rfl)) (EL_nil (thn_n ?_))))
  refine EC_cond_false rfl ?_
  refine EC_skip (thn_n (EC_seq (EC_reg (vM (.int .i64 (bsize (l.length : Int))) rfl rfl ?_))))
  refine EL_make w11.heap.size elB rfl rfl rfl rfl (by omega) (by omega) (by omega) (by omega) (Nat.le_refl _) ?_
  intro v13 w14 O15 B16 k17 z18
  have S19 : Sat w14 I (OwnB v13 (List.replicate ((bsize (l.length : Int) : Int).toNat) (0 : UInt8)) :: R) := S12.newO B16 (own_rep O15)
  refine vA v13 rfl rfl (EL_nil (thn_n (EC_seq (EC_reg (vM v13 rfl rfl ?_)))))
  refine vM v13 rfl rfl (vM v0 rfl rfl (vl (.int .i64 (l.length : Int)) rfl (lenB (r_len rfl (Q0 _ S19.le) U22)) ?_))
  refine EL_int ((l.length : Int) / 256) rfl (r_shri (n := 8) rfl rfl rfl (by decide) (by decide)) ?_
  intro x20 hx20
  refine vl (.int .u8 (x20 % 256)) rfl (r_convb 3 5 rfl U3 U5) (vM v0 rfl rfl (vl (.int .i64 (l.length : Int)) rfl (lenB (r_len rfl (Q0 _ S19.le) U22)) (vl (.int .u8 ((l.length : Int) % 256)) rfl (r_convb 3 5 rfl U3 U5) (vl (.pointer (some (at_ v13 ((0 : Int).toNat)))) rfl (r_index rfl (own_row (S19.own 0 rfl)) rfl (by omega) (by first | omega | (simp; omega) | simp) U22 (by kernel_rfl)) ?_))))
  refine EL_store (u := byt (bof x20)) rfl (Eq.trans (show _ = Value.int .u8 (x20 % 256) from rfl) (bof_val _)) (S19.own 0 rfl) (by first | omega | (simp; done) | (simp; omega)) rfl (by kernel_rfl) ?_
  intro w21 O22 G23 z24
  have S25 := S19.gb0 G23 (own_set O22) (.inl rfl)
  refine vl (.pointer (some (at_ v13 ((1 : Int).toNat)))) rfl (r_index rfl (own_row (S25.own 0 rfl)) rfl (by omega) (by first | omega | (simp; omega) | simp) U22 (by kernel_rfl)) ?_
  refine EL_store (u := byt (bof (l.length : Int))) rfl (Eq.trans (show _ = Value.int .u8 ((l.length : Int) % 256) from rfl) (bof_val _)) (S25.own 0 rfl) (by first | omega | (simp; done) | (simp; omega)) rfl (by kernel_rfl) ?_
  intro w26 O27 G28 z29
  have S30 := S25.gb0 G28 (own_set O27) (.inl rfl)
  refine EL_nil (thn_n (EC_seq (EC_reg (vM v13 rfl rfl (vl (cutV v13 2 ((((List.replicate ((bsize (l.length : Int) : Int).toNat) (0 : UInt8)).set ((0 : Int).toNat) (bof x20)).set ((1 : Int).toNat) (bof (l.length : Int))).map byt).length) rfl (r_slice rfl (own_row (S30.own 0 rfl)) U22 (by kernel_rfl) 2 ((((List.replicate ((bsize (l.length : Int) : Int).toNat) (0 : UInt8)).set ((0 : Int).toNat) (bof x20)).set ((1 : Int).toNat) (bof (l.length : Int))).map byt).length (by first | omega | (simp; omega) | simp) (by first | omega | (simp; omega) | simp) (.inr ⟨_, _, rfl, rfl⟩) (.inl ⟨rfl, rfl⟩)) ?_)))))
  refine vM v0 rfl rfl ?_
  refine EL_copy (ys := l.map byt) rfl (show _ = (cutV v13 2 ((((List.replicate ((bsize (l.length : Int) : Int).toNat) (0 : UInt8)).set ((0 : Int).toNat) (bof x20)).set ((1 : Int).toNat) (bof (l.length : Int))).map byt).length) from rfl) rfl (S30.own 0 rfl) (Q0 _ S30.le) (by simp; omega) (by first | (simp; done) | (simp; omega)) (by simp; omega) U22 (by kernel_rfl) (byt_one _) ?_
  intro w31 O32 G33 z34
  have S35 := S30.gb0 G33 (own_cpy O32) (.inl rfl)
  refine EL_nil (thn_n (EC_seq (EC_reg (vM v13 rfl rfl (vA v13 rfl rfl ?_)))))
  refine vA (.int .i64 0) rfl rfl (EL_nil (thn_n (EC_ret ?_)))
  refine fin2 Tryz.results34 (show _ = v13 from rfl) (show _ = .int .i64 0 from rfl) ⟨_, rfl, ?_⟩
  have q37 : (((List.replicate ((bsize (l.length : Int) : Int).toNat) (0 : UInt8)).set ((0 : Int).toNat) (bof x20)).set ((1 : Int).toNat) (bof (l.length : Int))).take 2 ++ l ++ (((List.replicate ((bsize (l.length : Int) : Int).toNat) (0 : UInt8)).set ((0 : Int).toNat) (bof x20)).set ((1 : Int).toNat) (bof (l.length : Int))).drop (2 + l.length) = padB l := by rw [padB, if_pos hp]; exact bpad_list l _ rfl _ _ (by first | rfl | rw [hx20]) (by first | rfl | rw [hx20]) hz2
  have S36 := S35.ab0 q37
  exact ⟨v13, (by rw [hz0]), S36⟩
  obtain ⟨hz, hz0⟩ := bsize_no l.length (by omega)
  refine EC_reg (vM (.int .i64 (bsizeE (l.length : Int))) rfl rfl (vl (.bool true) rfl (r_dec (show (decide ((bsizeE (l.length : Int)) ≠ 0)) = true from by simp [hz0]) (r_neq rfl rfl)) (EL_nil (thn_n ?_))))
  refine EC_cond_true rfl ?_
  refine EC_seq (EC_reg (vM (.int .i64 (bsizeE (l.length : Int))) rfl rfl (vA (.slice none 0 0) rfl rfl (vA (.int .i64 (bsizeE (l.length : Int))) rfl rfl (EL_nil ?_)))))
  refine thn_n (EC_ret (thn_r ?_))
  refine fin2 Tryz.results34 (show _ = .slice none 0 0 from rfl) (show _ = .int .i64 (bsizeE (l.length : Int)) from rfl) ⟨_, rfl, ?_⟩
  rw [show padB l = [] from by rw [padB, if_neg (by omega)]]
  have S39 : Sat w11 I (OwnB (.slice none 0 0) ([] : List UInt8) :: R) := S12.nil 5 1
  exact ⟨(.slice none 0 0), (by rw [hz0]), S39⟩

set_option maxRecDepth 100000 in
set_option maxHeartbeats 4000000 in
theorem MacEqual_c (v0 : Value) (l : List UInt8) (v1 : Value) (m : List UInt8) (I : Gh) (R : List HP) (w : World) (S : Sat w I (R)) (Q0 : RoB I v0 l) (Q1 : RoB I v1 m) : Ret Tryz.prog 50 [v0, v1] w fun v w' => .bool (decide (l = m)) = v ∧ Sat w' I (R) := by
  have lq0 := RoB.le Q0 S.le
  have lq1 := RoB.le Q1 S.le
  refine ret_E Tryz.func50 rfl Tryz.ntmps50 (by simp) ?_
  refine EC_seq (EC_reg (vA (.bool false) rfl rfl (EL_nil (thn_n (EC_seq ?_)))))
  refine EC_seq (EC_reg (vM v0 rfl rfl (vl (.int .i64 (l.length : Int)) rfl (lenB (r_len rfl (Q0 _ S.le) U22)) (vM v1 rfl rfl (vl (.int .i64 (m.length : Int)) rfl (lenB (r_len rfl (Q1 _ S.le) U22)) ?_)))))
  refine vl (.bool (decide ((l.length : Int) ≠ (m.length : Int)))) rfl (r_neq rfl rfl) (EL_nil (thn_n ?_))
  refine EC_if (p := (l.length : Int) ≠ (m.length : Int)) rfl (fun h11 => ?_) (fun h11 => ?_)
  have hne : ¬ l.length = m.length := by simp at h11; omega
  refine EC_seq (EC_reg (vA (.bool false) rfl rfl (EL_nil (thn_n (EC_ret ?_)))))
  refine thn_r ?_
  refine fin1 Tryz.results50 (show _ = .bool false from rfl) ⟨_, rfl, ?_⟩
  exact ⟨(by rw [decide_eq_false (fun h => hne (by rw [h]))]), S⟩
  have hle : l.length = m.length := by simp at h11; omega
  refine EC_skip (thn_n (EC_seq (EC_reg (vA (.int .u8 0) rfl rfl (EL_nil ?_)))))
  refine thn_n (EC_seq (EC_seq (EC_reg (vM v0 rfl rfl (vl (.int .i64 (l.length : Int)) rfl (lenB (r_len rfl (Q0 _ S.le) U22)) ?_)))))
  refine vM (.int .i64 0) rfl rfl (EL_nil (thn_n (EC_block ?_)))
  refine EC_loop (fun m' E' w' => ∃ j : Nat, ∃ x : UInt8, m' = l.length - j ∧ E' 14 = .int .i64 (j : Int) ∧ E' 5 = .int .u8 (x.toNat : Int) ∧ E' 0 = v0 ∧ E' 1 = v1 ∧ E' 4 = .bool false ∧ E' 13 = .int .i64 (l.length : Int) ∧ (j ≤ l.length) ∧ (x = 0 ↔ l.take j = m.take j) ∧ Sat w' I (R)) _ ⟨0, 0, rfl, rfl, rfl, rfl, rfl, rfl, rfl, Nat.zero_le _, by simp, S⟩ ?_
  rintro _ E12 w13 ⟨j, x, rfl, e14, e15, e16, e17, e18, e19, hj, hx, S20⟩
  refine EC_seq (EC_reg (vl (.bool (decide ((j : Int) < (l.length : Int)))) rfl (r_lss (by exact e14) (by exact e19)) (EL_nil (thn_n (EC_seq ?_)))))
  refine EC_if (p := (j : Int) < (l.length : Int)) rfl (fun h21 => ?_) (fun h21 => ?_)
  refine EC_skip (thn_n (EC_seq (EC_block (EC_seq (EC_reg ?_)))))
  refine vM (.int .i64 (j : Int)) rfl e14 (vA (.int .i64 (j : Int)) rfl rfl (EL_nil (thn_n ?_)))
  refine EC_quietB (by kernel_rfl) (by kernel_rfl) ?_
  refine EQ_val (.int .u8 (x.toNat : Int)) rfl (fun _ hw => r_move (by exact e15)) (EQ_val v0 rfl (fun _ hw => r_move (by exact e16)) (qM (.int .i64 (j : Int)) rfl rfl (EQ_val (.pointer (some (at_ v0 (((j : Int) : Int).toNat)))) rfl (fun _ hw => r_index rfl ((Q0 _ S20.le).below hw) rfl (by omega) (by first | omega | (simp; omega) | simp) U22 (by kernel_rfl)) ?_)))
  obtain ⟨b22, hb23⟩ := get_some (l := l) (j := ((j : Int) : Int).toNat) (by first | omega | (simp; omega) | simp)
  have hb24 := b22.toNat_lt
  refine EQ_val (.int .u8 (b22.toNat : Int)) rfl (fun _ hw => r_load rfl (((Q0 _ S20.le).below hw).cell (bs_get hb23)) U5 rfl) (EQ_val v1 rfl (fun _ hw => r_move (by exact e17)) (qM (.int .i64 (j : Int)) rfl rfl (EQ_val (.pointer (some (at_ v1 (((j : Int) : Int).toNat)))) rfl (fun _ hw => r_index rfl ((Q1 _ S20.le).below hw) rfl (by omega) (by first | omega | (simp; omega) | simp) U22 (by kernel_rfl)) ?_)))
  obtain ⟨b25, hb26⟩ := get_some (l := m) (j := ((j : Int) : Int).toNat) (by first | omega | (simp; omega) | simp)
  have hb27 := b25.toNat_lt
  refine EQ_val (.int .u8 (b25.toNat : Int)) rfl (fun _ hw => r_load rfl (((Q1 _ S20.le).below hw).cell (bs_get hb26)) U5 rfl) (EQ_val (.int .u8 ((b22 ^^^ b25).toNat : Int)) rfl (fun _ hw => r_xorb (a := b22) (b := b25) rfl rfl) (EQ_val (.int .u8 ((x ||| (b22 ^^^ b25)).toNat : Int)) rfl (fun _ hw => r_orb (a := x) (b := (b22 ^^^ b25)) rfl rfl) (qA (.int .u8 ((x ||| (b22 ^^^ b25)).toNat : Int)) rfl rfl ?_)))
  refine EQ_nil ?_
  intro w28 B29
  have S30 := S20.below B29
  refine inB_n (thn_n (EC_reg ?_))
  refine EL_int ((j : Int) + 1) rfl (r_addi (by exact e14) rfl (by omega)) ?_
  intro x31 hx31
  refine vM (.int .i64 x31) rfl rfl (EL_nil (thn_n ?_))
  refine ⟨_, ?_, j + 1, (x ||| (b22 ^^^ b25)), rfl, (Eq.trans (show _ = Value.int .i64 x31 from rfl) (congrArg _ (by omega))), rfl, (by exact e16), (by exact e17), (by exact e18), (by exact e19), by omega, (mq_next hx (show l[j]? = _ from hb23) (show m[j]? = _ from hb26)), S30⟩
  first | omega | (simp; omega)
  refine EC_exit (thn_x (thn_x (inB_hit (thn_n (EC_seq ?_)))))
  refine EC_reg (vM (.int .u8 (x.toNat : Int)) rfl e15 (vl (.bool (decide ((x.toNat : Int) = 0))) rfl (r_eql rfl rfl) (vA (.bool (decide ((x.toNat : Int) = 0))) rfl rfl (EL_nil (thn_n ?_)))))
  refine EC_ret ?_
  refine fin1 Tryz.results50 (show _ = .bool (decide ((x.toNat : Int) = 0)) from rfl) ⟨_, rfl, ?_⟩
  exact ⟨(congrArg Value.bool (decide_eq_decide.2 (mq_fin hx (by omega) (by omega)))), S20⟩

set_option maxRecDepth 100000 in
set_option maxHeartbeats 4000000 in
theorem Strip_c (v0 : Value) (l : List UInt8) (I : Gh) (R : List HP) (w : World) (S : Sat w I (R)) (Q0 : RoB I v0 l) (hl : l.length ≤ 1000000000) : Ret Tryz.prog 45 [v0] w fun v w' => ∃ v1 : Value, .tuple #[v1, .int .i64 (stripE l)] = v ∧ Sat w' I (OwnB v1 (stripB l) :: R) := by
  have lq0 := RoB.le Q0 S.le
  refine ret_E Tryz.func45 rfl Tryz.ntmps45 (by simp) ?_
  refine EC_seq (EC_reg (vA (.slice none 0 0) rfl rfl (vA (.int .i64 0) rfl rfl (EL_nil (thn_n ?_)))))
  refine EC_seq (EC_seq (EC_reg (vM v0 rfl rfl (vl (.int .i64 (l.length : Int)) rfl (lenB (r_len rfl (Q0 _ S.le) U22)) (vl (.bool (decide ((l.length : Int) < 64))) rfl (r_lss rfl rfl) ?_)))))
  refine EL_nil (thn_n ?_)
  refine EC_if (p := (l.length : Int) < 64) rfl (fun h11 => ?_) (fun h11 => ?_)
  refine EC_seq (EC_reg (vA (.slice none 0 0) rfl rfl (vA (.int .i64 10) rfl rfl (EL_nil (thn_n ?_)))))
  refine EC_ret (thn_r ?_)
  refine fin2 Tryz.results45 (show _ = .slice none 0 0 from rfl) (show _ = .int .i64 10 from rfl) ⟨_, rfl, ?_⟩
  have hsn : bstrip l = none := strip_short (by omega)
  rw [show stripB l = [] from by rw [stripB, hsn]; rfl]
  have S13 : Sat w I (OwnB (.slice none 0 0) ([] : List UInt8) :: R) := S.nil 5 1
  exact ⟨(.slice none 0 0), (by rw [stripE, hsn]; rfl), S13⟩
  refine EC_skip (thn_n (EC_seq ?_))
  refine EC_quietB (by kernel_rfl) (by kernel_rfl) ?_
  refine qM v0 rfl rfl (EQ_val (.pointer (some (at_ v0 ((0 : Int).toNat)))) rfl (fun _ hw => r_index rfl ((Q0 _ S.le).below hw) rfl (by omega) (by first | omega | (simp; omega) | simp) U22 (by kernel_rfl)) ?_)
  obtain ⟨b14, hb15⟩ := get_some (l := l) (j := (0 : Int).toNat) (by first | omega | (simp; omega) | simp)
  have hb16 := b14.toNat_lt
  refine EQ_val (.int .u8 (b14.toNat : Int)) rfl (fun _ hw => r_load rfl (((Q0 _ S.le).below hw).cell (bs_get hb15)) U5 rfl) (EQ_val (.int .i64 (b14.toNat : Int)) rfl (fun _ hw => r_convi 5 3 rfl U5 U3 (by omega)) ?_)
  refine EQ_int ((b14.toNat : Int) * 256) rfl (fun _ hw => r_shli (n := 8) rfl rfl rfl (by decide) (by decide) (by omega)) ?_
  intro x17 hx17
  refine qM v0 rfl rfl (EQ_val (.pointer (some (at_ v0 ((1 : Int).toNat)))) rfl (fun _ hw => r_index rfl ((Q0 _ S.le).below hw) rfl (by omega) (by first | omega | (simp; omega) | simp) U22 (by kernel_rfl)) ?_)
  obtain ⟨b18, hb19⟩ := get_some (l := l) (j := (1 : Int).toNat) (by first | omega | (simp; omega) | simp)
  have hb20 := b18.toNat_lt
  refine EQ_val (.int .u8 (b18.toNat : Int)) rfl (fun _ hw => r_load rfl (((Q0 _ S.le).below hw).cell (bs_get hb19)) U5 rfl) (EQ_val (.int .i64 (b18.toNat : Int)) rfl (fun _ hw => r_convi 5 3 rfl U5 U3 (by omega)) ?_)
  refine EQ_int (x17 + (b18.toNat : Int)) rfl (fun _ hw => r_ori b14.toNat b18.toNat 8 rfl rfl (by omega) (by omega) (by omega) rfl (by omega)) ?_
  intro x21 hx21
  refine qA (.int .i64 x21) rfl rfl ?_
  refine EQ_nil ?_
  intro w22 B23
  have S24 := S.below B23
  refine thn_n (EC_seq (EC_seq ?_))
  have hn : x21 = bnum l := by rw [bnum_eq hb15 hb19]; omega
  have hn0 : 0 ≤ x21 ∧ x21 < 65536 := by omega
  rcases (by by_cases h1 : bsizeE x21 = 0 <;> by_cases h2 : bsize x21 = l.length <;> simp [h1, h2] : (bsizeE x21 ≠ 0) ∨ (bsizeE x21 = 0 ∧ bsize x21 ≠ l.length) ∨ (bsizeE x21 = 0 ∧ bsize x21 = l.length)) with hs | hs | hs
  refine EC_reg (vM (.int .i64 x21) rfl rfl ?_)
  refine eR rfl F32 rfl (Size_c x21 I _ _ S24 (by first | assumption | omega | (simp; done) | (simp; omega))) ?_
  rintro _ w25 ⟨rfl, S26⟩
  refine vM (.tuple #[.int .i64 (bsize x21), .int .i64 (bsizeE x21)]) rfl rfl (vX (.int .i64 (bsize x21)) rfl rfl rfl (vX (.int .i64 (bsizeE x21)) rfl rfl rfl (vA (.int .i64 (bsize x21)) rfl rfl (vA (.int .i64 (bsizeE x21)) rfl rfl (EL_nil ?_)))))
  refine thn_n (EC_seq (EC_reg (vM (.int .i64 (bsizeE x21)) rfl rfl (vl (.bool true) rfl (r_dec (show (decide ((bsizeE x21) ≠ 0)) = true from by simpa using hs) (r_neq rfl rfl)) (vM (.bool true) rfl rfl ?_)))))
  refine EL_pass 29 rfl rfl rfl rfl rfl (EL_pass 29 rfl rfl rfl rfl rfl (EL_pass 29 rfl rfl rfl rfl rfl (EL_pass 29 rfl rfl rfl rfl rfl (vT (.bool true) rfl rfl rfl (EL_nil ?_)))))
  refine thn_n ?_
  refine EC_cond_true rfl ?_
  refine EC_seq (EC_reg (vA (.slice none 0 0) rfl rfl (vA (.int .i64 10) rfl rfl (EL_nil (thn_n ?_)))))
  refine EC_ret (thn_r ?_)
  refine fin2 Tryz.results45 (show _ = .slice none 0 0 from rfl) (show _ = .int .i64 10 from rfl) ⟨_, rfl, ?_⟩
  have hsn : bstrip l = none := strip_size hn (.inl hs)
  rw [show stripB l = [] from by rw [stripB, hsn]; rfl]
  have S28 : Sat w25 I (OwnB (.slice none 0 0) ([] : List UInt8) :: R) := S26.nil 5 1
  exact ⟨(.slice none 0 0), (by rw [stripE, hsn]; rfl), S28⟩
  refine EC_reg (vM (.int .i64 x21) rfl rfl ?_)
  refine eR rfl F32 rfl (Size_c x21 I _ _ S24 (by first | assumption | omega | (simp; done) | (simp; omega))) ?_
  rintro _ w29 ⟨rfl, S30⟩
  refine vM (.tuple #[.int .i64 (bsize x21), .int .i64 (bsizeE x21)]) rfl rfl (vX (.int .i64 (bsize x21)) rfl rfl rfl (vX (.int .i64 (bsizeE x21)) rfl rfl rfl (vA (.int .i64 (bsize x21)) rfl rfl (vA (.int .i64 (bsizeE x21)) rfl rfl (EL_nil ?_)))))
  refine thn_n (EC_seq (EC_reg (vM (.int .i64 (bsizeE x21)) rfl rfl (vl (.bool false) rfl (r_dec (show (decide ((bsizeE x21) ≠ 0)) = false from by simp [hs.1]) (r_neq rfl rfl)) (vM (.bool false) rfl rfl ?_)))))
  refine gM  29 rfl rfl rfl rfl (.int .i64 (bsize x21)) rfl rfl (gM  29 rfl rfl rfl rfl v0 rfl rfl (gl  29 rfl rfl rfl rfl (.int .i64 (l.length : Int)) rfl (lenB (r_len rfl (Q0 _ S30.le) U22)) (gl  29 rfl rfl rfl rfl (.bool true) rfl (r_dec (show (decide ((bsize x21) ≠ (l.length : Int))) = true from by simpa using hs.2) (r_neq rfl rfl)) (vF (.bool true) rfl rfl rfl (EL_nil ?_)))))
  refine thn_n ?_
  refine EC_cond_true rfl ?_
  refine EC_seq (EC_reg (vA (.slice none 0 0) rfl rfl (vA (.int .i64 10) rfl rfl (EL_nil (thn_n ?_)))))
  refine EC_ret (thn_r ?_)
  refine fin2 Tryz.results45 (show _ = .slice none 0 0 from rfl) (show _ = .int .i64 10 from rfl) ⟨_, rfl, ?_⟩
  have hsn : bstrip l = none := strip_size hn (.inr hs.2)
  rw [show stripB l = [] from by rw [stripB, hsn]; rfl]
  have S32 : Sat w29 I (OwnB (.slice none 0 0) ([] : List UInt8) :: R) := S30.nil 5 1
  exact ⟨(.slice none 0 0), (by rw [stripE, hsn]; rfl), S32⟩
  have hft := size_fits hn0.1 (by omega) hs.1 hs.2
  refine EC_reg (vM (.int .i64 x21) rfl rfl ?_)
  refine eR rfl F32 rfl (Size_c x21 I _ _ S24 (by first | assumption | omega | (simp; done) | (simp; omega))) ?_
  rintro _ w33 ⟨rfl, S34⟩
  refine vM (.tuple #[.int .i64 (bsize x21), .int .i64 (bsizeE x21)]) rfl rfl (vX (.int .i64 (bsize x21)) rfl rfl rfl (vX (.int .i64 (bsizeE x21)) rfl rfl rfl (vA (.int .i64 (bsize x21)) rfl rfl (vA (.int .i64 (bsizeE x21)) rfl rfl (EL_nil ?_)))))
  refine thn_n (EC_seq (EC_reg (vM (.int .i64 (bsizeE x21)) rfl rfl (vl (.bool false) rfl (r_dec (show (decide ((bsizeE x21) ≠ 0)) = false from by simp [hs.1]) (r_neq rfl rfl)) (vM (.bool false) rfl rfl ?_)))))
  refine gM  29 rfl rfl rfl rfl (.int .i64 (bsize x21)) rfl rfl (gM  29 rfl rfl rfl rfl v0 rfl rfl (gl  29 rfl rfl rfl rfl (.int .i64 (l.length : Int)) rfl (lenB (r_len rfl (Q0 _ S34.le) U22)) (gl  29 rfl rfl rfl rfl (.bool false) rfl (r_dec (show (decide ((bsize x21) ≠ (l.length : Int))) = false from by simp [hs.2]) (r_neq rfl rfl)) (vF (.bool false) rfl rfl rfl (EL_nil ?_)))))
  refine thn_n ?_
  refine EC_cond_false rfl ?_
  refine EC_skip (thn_n (EC_seq (EC_seq (EC_reg (vM v0 rfl rfl ?_)))))
  refine vM (.int .i64 x21) rfl rfl ?_
  refine EL_int (2 + x21) rfl (r_addi rfl rfl (by omega)) ?_
  intro x35 hx35
  refine vl (cutV v0 ((x35 : Int).toNat) ((l.map byt).length)) rfl (r_slice rfl (Q0 _ S34.le) U22 (by kernel_rfl) ((x35 : Int).toNat) ((l.map byt).length) (by first | omega | (simp; omega) | simp) (by first | omega | (simp; omega) | simp) (.inr ⟨_, _, rfl, (show _ = Value.int .i64 ((x35 : Int).toNat : Int) from by rw [Int.toNat_of_nonneg (by omega)]; exact rfl)⟩) (.inl ⟨rfl, rfl⟩)) ?_
  have H36 : RoB I (cutV v0 ((x35 : Int).toNat) ((l.map byt).length)) (l.drop ((x35 : Int).toNat)) := rob_as (RoB.cut Q0 ((x35 : Int).toNat) ((l.map byt).length) (by first | omega | (simp; omega) | simp) (by first | omega | (simp; omega) | simp)) (by simp)
  have L37 : (l.drop ((x35 : Int).toNat)).length = l.length - ((x35 : Int).toNat) := by first | (simp; done) | (simp; omega)
  refine vl (.int .i64 ((l.drop ((x35 : Int).toNat)).length : Int)) rfl (lenB (r_len rfl (H36 _ S34.le) U22)) (vM (.int .i64 0) rfl rfl (EL_nil (thn_n (EC_block ?_))))
  have H38 : RoB I (cutV v0 ((x35 : Int).toNat) ((l.map byt).length)) (l.drop (2 + bnum l)) := rob_as H36 (by congr 1; omega)
  have hdl : (l.drop (2 + bnum l)).length = l.length - (2 + bnum l) := List.length_drop ..
  refine EC_loop (fun m' E' w' => ∃ j : Nat, m' = l.length - (2 + bnum l) - j ∧ E' 40 = .int .i64 (j : Int) ∧ E' 0 = v0 ∧ E' 4 = .int .i64 x21 ∧ E' 38 = (cutV v0 ((x35 : Int).toNat) ((l.map byt).length)) ∧ E' 39 = .int .i64 ((l.drop ((x35 : Int).toNat)).length : Int) ∧ (j ≤ l.length - (2 + bnum l)) ∧ (((l.drop (2 + bnum l)).take j).all (· == 0) = true) ∧ Sat w' I (R)) _ ⟨0, rfl, rfl, rfl, rfl, rfl, rfl, Nat.zero_le _, by simp, S34⟩ ?_
  rintro _ E39 w40 ⟨j, rfl, e41, e42, e43, e44, e45, hj, hall, S46⟩
  refine EC_seq (EC_reg (vl (.bool (decide ((j : Int) < ((l.drop ((x35 : Int).toNat)).length : Int)))) rfl (r_lss (by exact e41) (by exact e45)) (EL_nil (thn_n (EC_seq ?_)))))
  refine EC_if (p := (j : Int) < ((l.drop ((x35 : Int).toNat)).length : Int)) rfl (fun h47 => ?_) (fun h47 => ?_)
  refine EC_skip (thn_n (EC_seq (EC_block (EC_seq (EC_reg ?_)))))
  refine vl (.pointer (some (at_ (cutV v0 ((x35 : Int).toNat) ((l.map byt).length)) (((j : Int) : Int).toNat)))) rfl (r_index (by exact e44) (H38 _ S46.le) (by exact e41) (by omega) (by first | omega | (simp; omega) | simp) U22 (by kernel_rfl)) ?_
  obtain ⟨b48, hb49⟩ := get_some (l := l.drop (2 + bnum l)) (j := ((j : Int) : Int).toNat) (by first | omega | (simp; omega) | simp)
  have hb50 := b48.toNat_lt
  refine vl (.int .u8 (b48.toNat : Int)) rfl (r_load rfl ((H38 _ S46.le).cell (bs_get hb49)) U5 rfl) (vA (.int .u8 (b48.toNat : Int)) rfl rfl (EL_nil (thn_n (EC_seq (EC_reg ?_)))))
  refine vM (.int .u8 (b48.toNat : Int)) rfl rfl (vl (.bool (decide ((b48.toNat : Int) ≠ 0))) rfl (r_neq rfl rfl) (EL_nil (thn_n ?_)))
  refine EC_if (p := (b48.toNat : Int) ≠ 0) rfl (fun h51 => ?_) (fun h51 => ?_)
  have hc0 : (b48.toNat : Int) ≠ 0 := h51
  refine EC_seq (EC_reg (vA (.slice none 0 0) rfl rfl (vA (.int .i64 10) rfl rfl (EL_nil (thn_n ?_)))))
  refine EC_ret (inB_r (thn_r (thn_r (inB_r (thn_r ?_)))))
  refine fin2 Tryz.results45 (show _ = .slice none 0 0 from rfl) (show _ = .int .i64 10 from rfl) ⟨_, rfl, ?_⟩
  have hsn : bstrip l = none := strip_tail rfl (show (l.drop (2 + bnum l))[j]? = _ from hb49) hc0
  rw [show stripB l = [] from by rw [stripB, hsn]; rfl]
  have S53 : Sat w40 I (OwnB (.slice none 0 0) ([] : List UInt8) :: R) := S46.nil 5 1
  exact ⟨(.slice none 0 0), (by rw [stripE, hsn]; rfl), S53⟩
  have hc0 : ¬ (b48.toNat : Int) ≠ 0 := h51
  refine EC_skip (inB_n (thn_n (EC_reg ?_)))
  refine EL_int ((j : Int) + 1) rfl (r_addi (by exact e41) rfl (by omega)) ?_
  intro x54 hx54
  refine vM (.int .i64 x54) rfl rfl (EL_nil (thn_n ?_))
  refine ⟨_, ?_, j + 1, rfl, (Eq.trans (show _ = Value.int .i64 x54 from rfl) (congrArg _ (by omega))), (by exact e42), (by exact e43), (by exact e44), (by exact e45), by omega, (strip_next hall (show (l.drop (2 + bnum l))[j]? = _ from hb49) hc0), S46⟩
  first | omega | (simp; omega)
  refine EC_exit (thn_x (thn_x (inB_hit (thn_n (EC_seq ?_)))))
  refine EC_reg (vM v0 rfl e42 (vM (.int .i64 x21) rfl e43 ?_))
  refine EL_int (2 + x21) rfl (r_addi rfl rfl (by omega)) ?_
  intro x55 hx55
  refine vl (cutV v0 2 ((x55 : Int).toNat)) rfl (r_slice rfl (Q0 _ S46.le) U22 (by kernel_rfl) 2 ((x55 : Int).toNat) (by first | omega | (simp; omega) | simp) (by first | omega | (simp; omega) | simp) (.inr ⟨_, _, rfl, rfl⟩) (.inr ⟨_, _, rfl, (show _ = Value.int .i64 ((x55 : Int).toNat : Int) from by rw [Int.toNat_of_nonneg (by omega)]; exact rfl)⟩)) ?_
  have H56 : RoB I (cutV v0 2 ((x55 : Int).toNat)) ((l.take ((x55 : Int).toNat)).drop 2) := rob_as (RoB.cut Q0 2 ((x55 : Int).toNat) (by first | omega | (simp; omega) | simp) (by first | omega | (simp; omega) | simp)) (by simp)
  have L57 : ((l.take ((x55 : Int).toNat)).drop 2).length = ((x55 : Int).toNat) - 2 := by first | (simp; done) | (simp; omega)
  have S63 : Sat w40 I (OwnB (.slice none 0 0) ([] : List UInt8) :: R) := S46.nil 5 1
  refine EL_append (v := .slice none 0 0) (xs := ([] : List UInt8).map byt) (ys := ((l.take ((x55 : Int).toNat)).drop 2).map byt) 0 elB rfl rfl rfl (own_len (S63.own 0 rfl)) (H56 _ S63.le) (byt_one _) (by first | (simp only [List.length_map, List.length_nil, List.length_append]; omega) | (simp; done) | (simp; omega)) (by decide) (Nat.zero_le _) ?_
  intro v58 w59 O60 G61 A62
  have S64 := S63.gb0 G61 (own_app O60) A62
  refine vA v58 rfl rfl (vA (.int .i64 0) rfl rfl (EL_nil (thn_n (EC_ret ?_))))
  refine fin2 Tryz.results45 (show _ = v58 from rfl) (show _ = .int .i64 0 from rfl) ⟨_, rfl, ?_⟩
  have hsn : bstrip l = some ((l.drop 2).take (bnum l)) := strip_good (n := x21) (i := (j : Int)) hn (by omega) hs.2 rfl (by omega) hall
  have q66 : ([] : List UInt8) ++ ((l.take ((x55 : Int).toNat)).drop 2) = stripB l := by rw [stripB, hsn, List.nil_append, List.drop_take, show (x55 : Int).toNat - 2 = bnum l by omega]; rfl
  have S65 := S64.ab0 q66
  exact ⟨v58, (by rw [stripE, hsn]; rfl), S65⟩

end Go.Proofs.YtoajodjcmeijgaaGreat
