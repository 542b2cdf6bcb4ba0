import Derived.Test.YtoajodjcmeijgaaGreatQSealedPlaysSuite
import Derived.Test.YtoajodjcmeijgaaGreatQSealedPlaysBase
set_option linter.unusedVariables false
set_option linter.unusedSimpArgs false
namespace Go.Proofs.YtoajodjcmeijgaaGreat
open Go.RowKit Go.Ecal

set_option maxRecDepth 100000 in
set_option maxHeartbeats 4000000 in
theorem put_c (v0 : Value) (l : List UInt8) (n : Int) (I : Gh) (R : List HP) (w : World) (S : Sat w I (OwnB v0 l :: R)) (hl : 8 ≤ l.length ∧ l.length ≤ 1000000000) (hn : 0 ≤ n ∧ n ≤ 9223372036854775807) : Ret Tryz.prog 25 [v0, .int .i64 n] w fun v w' => v0 = v ∧ Sat w' I (OwnB v0 (l.take (l.length - 8) ++ be8 n) :: R) := by
  refine ret_E Tryz.func25 rfl Tryz.ntmps25 (by simp) ?_
  refine EC_seq (EC_reg (vA (.slice none 0 0) rfl rfl (EL_nil (thn_n (EC_seq ?_)))))
  refine EC_seq (EC_reg (vA (.int .i64 1) rfl rfl (EL_nil (thn_n (EC_block ?_)))))
  refine EC_for 9 ?_
  refine U_step ?_
  refine EC_seq (EC_seq (EC_reg (vM (.int .i64 1) rfl rfl (vl (.bool true) rfl (r_dec (by decide) (r_leq rfl rfl)) (EL_nil ?_)))))
  refine thn_n ?_
  refine EC_cond_true rfl ?_
  refine EC_skip (thn_n (EC_seq (EC_block (EC_reg (vM v0 rfl rfl ?_)))))
  refine vM v0 rfl rfl (vl (.int .i64 (l.length : Int)) rfl (r_asn (by simp) (lenB (r_len rfl (own_row (S.own 0 rfl)) U22))) (vM (.int .i64 1) rfl rfl ?_))
  refine EL_int ((l.length : Int) - 1) rfl (r_subi rfl rfl (by omega)) ?_
  intro x11 hx11
  refine vM (.int .i64 n) rfl rfl (vM (.int .i64 1) rfl rfl (vl (.int .i64 0) rfl (r_asn (by kernel_rfl) (r_sub rfl rfl)) (vl (.int .i64 0) rfl (r_asn (by kernel_rfl) (r_mul rfl rfl)) ?_)))
  refine EL_int (n / 1) rfl (r_shri (n := 0) rfl rfl rfl (by decide) (by decide)) ?_
  intro x12 hx12
  refine vl (.int .u8 (x12 % 256)) rfl (r_convb 3 5 rfl U3 U5) (vl (.pointer (some (at_ v0 ((x11 : Int).toNat)))) rfl (r_index rfl (own_row (S.own 0 rfl)) rfl (by omega) (by first | omega | (simp; omega) | simp) U22 (by kernel_rfl)) ?_)
  refine EL_store (u := byt (bof x12)) rfl (Eq.trans (show _ = Value.int .u8 (x12 % 256) from rfl) (bof_val _)) (S.own 0 rfl) (by first | omega | (simp; done) | (simp; omega)) rfl (by kernel_rfl) ?_
  intro w13 O14 G15 z16
  have S17 := S.gb0 G15 (own_set O14) (.inl rfl)
  refine EL_nil (inB_n (thn_n (EC_reg (vM (.int .i64 1) rfl rfl (vl (.int .i64 2) rfl (r_asn (by kernel_rfl) (r_add rfl rfl)) ?_)))))
  refine vA (.int .i64 2) rfl rfl (EL_nil (thn_n ?_))
  refine U_step ?_
  refine EC_seq (EC_seq (EC_reg (vM (.int .i64 2) rfl rfl (vl (.bool true) rfl (r_dec (by decide) (r_leq rfl rfl)) (EL_nil ?_)))))
  refine thn_n ?_
  refine EC_cond_true rfl ?_
  refine EC_skip (thn_n (EC_seq (EC_block (EC_reg (vM v0 rfl rfl ?_)))))
  refine vM v0 rfl rfl (vl (.int .i64 (l.length : Int)) rfl (r_asn (by simp) (lenB (r_len rfl (own_row (S17.own 0 rfl)) U22))) (vM (.int .i64 2) rfl rfl ?_))
  refine EL_int ((l.length : Int) - 2) rfl (r_subi rfl rfl (by omega)) ?_
  intro x18 hx18
  refine vM (.int .i64 n) rfl rfl (vM (.int .i64 2) rfl rfl (vl (.int .i64 1) rfl (r_asn (by kernel_rfl) (r_sub rfl rfl)) (vl (.int .i64 8) rfl (r_asn (by kernel_rfl) (r_mul rfl rfl)) ?_)))
  refine EL_int (n / 256) rfl (r_shri (n := 8) rfl rfl rfl (by decide) (by decide)) ?_
  intro x19 hx19
  refine vl (.int .u8 (x19 % 256)) rfl (r_convb 3 5 rfl U3 U5) (vl (.pointer (some (at_ v0 ((x18 : Int).toNat)))) rfl (r_index rfl (own_row (S17.own 0 rfl)) rfl (by omega) (by first | omega | (simp; omega) | simp) U22 (by kernel_rfl)) ?_)
  refine EL_store (u := byt (bof x19)) rfl (Eq.trans (show _ = Value.int .u8 (x19 % 256) from rfl) (bof_val _)) (S17.own 0 rfl) (by first | omega | (simp; done) | (simp; omega)) rfl (by kernel_rfl) ?_
  intro w20 O21 G22 z23
  have S24 := S17.gb0 G22 (own_set O21) (.inl rfl)
  refine EL_nil (inB_n (thn_n (EC_reg (vM (.int .i64 2) rfl rfl (vl (.int .i64 3) rfl (r_asn (by kernel_rfl) (r_add rfl rfl)) ?_)))))
  refine vA (.int .i64 3) rfl rfl (EL_nil (thn_n ?_))
  refine U_step ?_
  refine EC_seq (EC_seq (EC_reg (vM (.int .i64 3) rfl rfl (vl (.bool true) rfl (r_dec (by decide) (r_leq rfl rfl)) (EL_nil ?_)))))
  refine thn_n ?_
  refine EC_cond_true rfl ?_
  refine EC_skip (thn_n (EC_seq (EC_block (EC_reg (vM v0 rfl rfl ?_)))))
  refine vM v0 rfl rfl (vl (.int .i64 (l.length : Int)) rfl (r_asn (by simp) (lenB (r_len rfl (own_row (S24.own 0 rfl)) U22))) (vM (.int .i64 3) rfl rfl ?_))
  refine EL_int ((l.length : Int) - 3) rfl (r_subi rfl rfl (by omega)) ?_
  intro x25 hx25
  refine vM (.int .i64 n) rfl rfl (vM (.int .i64 3) rfl rfl (vl (.int .i64 2) rfl (r_asn (by kernel_rfl) (r_sub rfl rfl)) (vl (.int .i64 16) rfl (r_asn (by kernel_rfl) (r_mul rfl rfl)) ?_)))
  refine EL_int (n / 65536) rfl (r_shri (n := 16) rfl rfl rfl (by decide) (by decide)) ?_
  intro x26 hx26
  refine vl (.int .u8 (x26 % 256)) rfl (r_convb 3 5 rfl U3 U5) (vl (.pointer (some (at_ v0 ((x25 : Int).toNat)))) rfl (r_index rfl (own_row (S24.own 0 rfl)) rfl (by omega) (by first | omega | (simp; omega) | simp) U22 (by kernel_rfl)) ?_)
  refine EL_store (u := byt (bof x26)) rfl (Eq.trans (show _ = Value.int .u8 (x26 % 256) from rfl) (bof_val _)) (S24.own 0 rfl) (by first | omega | (simp; done) | (simp; omega)) rfl (by kernel_rfl) ?_
  intro w27 O28 G29 z30
  have S31 := S24.gb0 G29 (own_set O28) (.inl rfl)
  refine EL_nil (inB_n (thn_n (EC_reg (vM (.int .i64 3) rfl rfl (vl (.int .i64 4) rfl (r_asn (by kernel_rfl) (r_add rfl rfl)) ?_)))))
  refine vA (.int .i64 4) rfl rfl (EL_nil (thn_n ?_))
  refine U_step ?_
  refine EC_seq (EC_seq (EC_reg (vM (.int .i64 4) rfl rfl (vl (.bool true) rfl (r_dec (by decide) (r_leq rfl rfl)) (EL_nil ?_)))))
  refine thn_n ?_
  refine EC_cond_true rfl ?_
  refine EC_skip (thn_n (EC_seq (EC_block (EC_reg (vM v0 rfl rfl ?_)))))
  refine vM v0 rfl rfl (vl (.int .i64 (l.length : Int)) rfl (r_asn (by simp) (lenB (r_len rfl (own_row (S31.own 0 rfl)) U22))) (vM (.int .i64 4) rfl rfl ?_))
  refine EL_int ((l.length : Int) - 4) rfl (r_subi rfl rfl (by omega)) ?_
  intro x32 hx32
  refine vM (.int .i64 n) rfl rfl (vM (.int .i64 4) rfl rfl (vl (.int .i64 3) rfl (r_asn (by kernel_rfl) (r_sub rfl rfl)) (vl (.int .i64 24) rfl (r_asn (by kernel_rfl) (r_mul rfl rfl)) ?_)))
  refine EL_int (n / 16777216) rfl (r_shri (n := 24) rfl rfl rfl (by decide) (by decide)) ?_
  intro x33 hx33
  refine vl (.int .u8 (x33 % 256)) rfl (r_convb 3 5 rfl U3 U5) (vl (.pointer (some (at_ v0 ((x32 : Int).toNat)))) rfl (r_index rfl (own_row (S31.own 0 rfl)) rfl (by omega) (by first | omega | (simp; omega) | simp) U22 (by kernel_rfl)) ?_)
  refine EL_store (u := byt (bof x33)) rfl (Eq.trans (show _ = Value.int .u8 (x33 % 256) from rfl) (bof_val _)) (S31.own 0 rfl) (by first | omega | (simp; done) | (simp; omega)) rfl (by kernel_rfl) ?_
  intro w34 O35 G36 z37
  have S38 := S31.gb0 G36 (own_set O35) (.inl rfl)
  refine EL_nil (inB_n (thn_n (EC_reg (vM (.int .i64 4) rfl rfl (vl (.int .i64 5) rfl (r_asn (by kernel_rfl) (r_add rfl rfl)) ?_)))))
  refine vA (.int .i64 5) rfl rfl (EL_nil (thn_n ?_))
  refine U_step ?_
  refine EC_seq (EC_seq (EC_reg (vM (.int .i64 5) rfl rfl (vl (.bool true) rfl (r_dec (by decide) (r_leq rfl rfl)) (EL_nil ?_)))))
  refine thn_n ?_
  refine EC_cond_true rfl ?_
  refine EC_skip (thn_n (EC_seq (EC_block (EC_reg (vM v0 rfl rfl ?_)))))
  refine vM v0 rfl rfl (vl (.int .i64 (l.length : Int)) rfl (r_asn (by simp) (lenB (r_len rfl (own_row (S38.own 0 rfl)) U22))) (vM (.int .i64 5) rfl rfl ?_))
  refine EL_int ((l.length : Int) - 5) rfl (r_subi rfl rfl (by omega)) ?_
  intro x39 hx39
  refine vM (.int .i64 n) rfl rfl (vM (.int .i64 5) rfl rfl (vl (.int .i64 4) rfl (r_asn (by kernel_rfl) (r_sub rfl rfl)) (vl (.int .i64 32) rfl (r_asn (by kernel_rfl) (r_mul rfl rfl)) ?_)))
  refine EL_int (n / 4294967296) rfl (r_shri (n := 32) rfl rfl rfl (by decide) (by decide)) ?_
  intro x40 hx40
  refine vl (.int .u8 (x40 % 256)) rfl (r_convb 3 5 rfl U3 U5) (vl (.pointer (some (at_ v0 ((x39 : Int).toNat)))) rfl (r_index rfl (own_row (S38.own 0 rfl)) rfl (by omega) (by first | omega | (simp; omega) | simp) U22 (by kernel_rfl)) ?_)
  refine EL_store (u := byt (bof x40)) rfl (Eq.trans (show _ = Value.int .u8 (x40 % 256) from rfl) (bof_val _)) (S38.own 0 rfl) (by first | omega | (simp; done) | (simp; omega)) rfl (by kernel_rfl) ?_
  intro w41 O42 G43 z44
  have S45 := S38.gb0 G43 (own_set O42) (.inl rfl)
  refine EL_nil (inB_n (thn_n (EC_reg (vM (.int .i64 5) rfl rfl (vl (.int .i64 6) rfl (r_asn (by kernel_rfl) (r_add rfl rfl)) ?_)))))
  refine vA (.int .i64 6) rfl rfl (EL_nil (thn_n ?_))
  refine U_step ?_
  refine EC_seq (EC_seq (EC_reg (vM (.int .i64 6) rfl rfl (vl (.bool true) rfl (r_dec (by decide) (r_leq rfl rfl)) (EL_nil ?_)))))
  refine thn_n ?_
  refine EC_cond_true rfl ?_
  refine EC_skip (thn_n (EC_seq (EC_block (EC_reg (vM v0 rfl rfl ?_)))))
  refine vM v0 rfl rfl (vl (.int .i64 (l.length : Int)) rfl (r_asn (by simp) (lenB (r_len rfl (own_row (S45.own 0 rfl)) U22))) (vM (.int .i64 6) rfl rfl ?_))
  refine EL_int ((l.length : Int) - 6) rfl (r_subi rfl rfl (by omega)) ?_
  intro x46 hx46
  refine vM (.int .i64 n) rfl rfl (vM (.int .i64 6) rfl rfl (vl (.int .i64 5) rfl (r_asn (by kernel_rfl) (r_sub rfl rfl)) (vl (.int .i64 40) rfl (r_asn (by kernel_rfl) (r_mul rfl rfl)) ?_)))
  refine EL_int (n / 1099511627776) rfl (r_shri (n := 40) rfl rfl rfl (by decide) (by decide)) ?_
  intro x47 hx47
  refine vl (.int .u8 (x47 % 256)) rfl (r_convb 3 5 rfl U3 U5) (vl (.pointer (some (at_ v0 ((x46 : Int).toNat)))) rfl (r_index rfl (own_row (S45.own 0 rfl)) rfl (by omega) (by first | omega | (simp; omega) | simp) U22 (by kernel_rfl)) ?_)
  refine EL_store (u := byt (bof x47)) rfl (Eq.trans (show _ = Value.int .u8 (x47 % 256) from rfl) (bof_val _)) (S45.own 0 rfl) (by first | omega | (simp; done) | (simp; omega)) rfl (by kernel_rfl) ?_
  intro w48 O49 G50 z51
  have S52 := S45.gb0 G50 (own_set O49) (.inl rfl)
  refine EL_nil (inB_n (thn_n (EC_reg (vM (.int .i64 6) rfl rfl (vl (.int .i64 7) rfl (r_asn (by kernel_rfl) (r_add rfl rfl)) ?_)))))
  refine vA (.int .i64 7) rfl rfl (EL_nil (thn_n ?_))
  refine U_step ?_
  refine EC_seq (EC_seq (EC_reg (vM (.int .i64 7) rfl rfl (vl (.bool true) rfl (r_dec (by decide) (r_leq rfl rfl)) (EL_nil ?_)))))
  refine thn_n ?_
  refine EC_cond_true rfl ?_
  refine EC_skip (thn_n (EC_seq (EC_block (EC_reg (vM v0 rfl rfl ?_)))))
  refine vM v0 rfl rfl (vl (.int .i64 (l.length : Int)) rfl (r_asn (by simp) (lenB (r_len rfl (own_row (S52.own 0 rfl)) U22))) (vM (.int .i64 7) rfl rfl ?_))
  refine EL_int ((l.length : Int) - 7) rfl (r_subi rfl rfl (by omega)) ?_
  intro x53 hx53
  refine vM (.int .i64 n) rfl rfl (vM (.int .i64 7) rfl rfl (vl (.int .i64 6) rfl (r_asn (by kernel_rfl) (r_sub rfl rfl)) (vl (.int .i64 48) rfl (r_asn (by kernel_rfl) (r_mul rfl rfl)) ?_)))
  refine EL_int (n / 281474976710656) rfl (r_shri (n := 48) rfl rfl rfl (by decide) (by decide)) ?_
  intro x54 hx54
  refine vl (.int .u8 (x54 % 256)) rfl (r_convb 3 5 rfl U3 U5) (vl (.pointer (some (at_ v0 ((x53 : Int).toNat)))) rfl (r_index rfl (own_row (S52.own 0 rfl)) rfl (by omega) (by first | omega | (simp; omega) | simp) U22 (by kernel_rfl)) ?_)
  refine EL_store (u := byt (bof x54)) rfl (Eq.trans (show _ = Value.int .u8 (x54 % 256) from rfl) (bof_val _)) (S52.own 0 rfl) (by first | omega | (simp; done) | (simp; omega)) rfl (by kernel_rfl) ?_
  intro w55 O56 G57 z58
  have S59 := S52.gb0 G57 (own_set O56) (.inl rfl)
  refine EL_nil (inB_n (thn_n (EC_reg (vM (.int .i64 7) rfl rfl (vl (.int .i64 8) rfl (r_asn (by kernel_rfl) (r_add rfl rfl)) ?_)))))
  refine vA (.int .i64 8) rfl rfl (EL_nil (thn_n ?_))
  refine U_step ?_
  refine EC_seq (EC_seq (EC_reg (vM (.int .i64 8) rfl rfl (vl (.bool true) rfl (r_dec (by decide) (r_leq rfl rfl)) (EL_nil ?_)))))
  refine thn_n ?_
  refine EC_cond_true rfl ?_
  refine EC_skip (thn_n (EC_seq (EC_block (EC_reg (vM v0 rfl rfl ?_)))))
  refine vM v0 rfl rfl (vl (.int .i64 (l.length : Int)) rfl (r_asn (by simp) (lenB (r_len rfl (own_row (S59.own 0 rfl)) U22))) (vM (.int .i64 8) rfl rfl ?_))
  refine EL_int ((l.length : Int) - 8) rfl (r_subi rfl rfl (by omega)) ?_
  intro x60 hx60
  refine vM (.int .i64 n) rfl rfl (vM (.int .i64 8) rfl rfl (vl (.int .i64 7) rfl (r_asn (by kernel_rfl) (r_sub rfl rfl)) (vl (.int .i64 56) rfl (r_asn (by kernel_rfl) (r_mul rfl rfl)) ?_)))
  refine EL_int (n / 72057594037927936) rfl (r_shri (n := 56) rfl rfl rfl (by decide) (by decide)) ?_
  intro x61 hx61
  refine vl (.int .u8 (x61 % 256)) rfl (r_convb 3 5 rfl U3 U5) (vl (.pointer (some (at_ v0 ((x60 : Int).toNat)))) rfl (r_index rfl (own_row (S59.own 0 rfl)) rfl (by omega) (by first | omega | (simp; omega) | simp) U22 (by kernel_rfl)) ?_)
  refine EL_store (u := byt (bof x61)) rfl (Eq.trans (show _ = Value.int .u8 (x61 % 256) from rfl) (bof_val _)) (S59.own 0 rfl) (by first | omega | (simp; done) | (simp; omega)) rfl (by kernel_rfl) ?_
  intro w62 O63 G64 z65
  have S66 := S59.gb0 G64 (own_set O63) (.inl rfl)
  refine EL_nil (inB_n (thn_n (EC_reg (vM (.int .i64 8) rfl rfl (vl (.int .i64 9) rfl (r_asn (by kernel_rfl) (r_add rfl rfl)) ?_)))))
  refine vA (.int .i64 9) rfl rfl (EL_nil (thn_n ?_))
  refine U_step ?_
  refine EC_seq (EC_seq (EC_reg (vM (.int .i64 9) rfl rfl (vl (.bool false) rfl (r_dec (by decide) (r_leq rfl rfl)) (EL_nil ?_)))))
  refine thn_n ?_
  refine EC_cond_false rfl ?_
  refine EC_exit (thn_x (thn_x (inB_hit (thn_n (EC_seq ?_)))))
  refine EC_reg (vM v0 rfl rfl (vA v0 rfl rfl (EL_nil (thn_n (EC_ret ?_)))))
  refine fin1 Tryz.results25 (show _ = v0 from rfl) ⟨_, rfl, ?_⟩
  have ef : (((((((l.set ((x11 : Int).toNat) (bof x12)).set ((x18 : Int).toNat) (bof x19)).set ((x25 : Int).toNat) (bof x26)).set ((x32 : Int).toNat) (bof x33)).set ((x39 : Int).toNat) (bof x40)).set ((x46 : Int).toNat) (bof x47)).set ((x53 : Int).toNat) (bof x54)).set ((x60 : Int).toNat) (bof x61) = l.take (l.length - 8) ++ be8 n := by
    rw [show (x11 : Int).toNat = l.length - 1 from by omega, show (x18 : Int).toNat = l.length - 2 from by omega, show (x25 : Int).toNat = l.length - 3 from by omega, show (x32 : Int).toNat = l.length - 4 from by omega, show (x39 : Int).toNat = l.length - 5 from by omega, show (x46 : Int).toNat = l.length - 6 from by omega, show (x53 : Int).toNat = l.length - 7 from by omega, show (x60 : Int).toNat = l.length - 8 from by omega]
    rw [put_sets hl.1, be8, hx12, hx19, hx26, hx33, hx40, hx47, hx54, hx61, Int.ediv_one]
  rw [ef] at S66
  exact ⟨rfl, S66⟩

set_option maxRecDepth 100000 in
set_option maxHeartbeats 4000000 in
theorem signed_c (c : UInt8) (n : Int) (I : Gh) (R : List HP) (w : World) (S : Sat w I (R)) (hn : 0 ≤ n ∧ n ≤ 9223372036854775807) : Ret Tryz.prog 26 [.int .u8 (c.toNat : Int), .int .i64 n] w fun v w' => ∃ v1 : Value, v1 = v ∧ Sat w' I (OwnB v1 (signOf c n) :: R) := by
  refine ret_E Tryz.func26 rfl Tryz.ntmps26 (by simp) ?_
  refine EC_seq (EC_reg (vA (.slice none 0 0) rfl rfl (EL_nil (thn_n (EC_seq ?_)))))
  refine EC_reg ?_
  refine EL_make w.heap.size elB rfl rfl rfl rfl (by omega) (by omega) (by omega) (by omega) (Nat.le_refl _) ?_
  intro v11 w12 O13 B14 k15 z16
  have S17 : Sat w12 I (OwnB v11 (List.replicate 32 (0 : UInt8)) :: R) := S.newO B14 (own_rep O13)
  refine vA v11 rfl rfl (EL_nil (thn_n (EC_seq (EC_reg (vM v11 rfl rfl ?_)))))
  refine vM v11 rfl rfl (vM (.int .u8 (c.toNat : Int)) rfl rfl (vl (.pointer (some (at_ v11 ((0 : Int).toNat)))) rfl (r_index rfl (own_row (S17.own 0 rfl)) rfl (by omega) (by first | omega | (simp; omega) | simp) U22 (by kernel_rfl)) ?_))
  refine EL_store (u := byt (83 : UInt8)) rfl rfl (S17.own 0 rfl) (by first | omega | (simp; done) | (simp; omega)) rfl (by kernel_rfl) ?_
  intro w18 O19 G20 z21
  have S22 := S17.gb0 G20 (own_set O19) (.inl rfl)
  refine vl (.pointer (some (at_ v11 ((1 : Int).toNat)))) rfl (r_index rfl (own_row (S22.own 0 rfl)) rfl (by omega) (by first | omega | (simp; omega) | simp) U22 (by kernel_rfl)) ?_
  refine EL_store (u := byt c) rfl rfl (S22.own 0 rfl) (by first | omega | (simp; done) | (simp; omega)) rfl (by kernel_rfl) ?_
  intro w23 O24 G25 z26
  have S27 := S22.gb0 G25 (own_set O24) (.inl rfl)
  refine EL_nil (thn_n (EC_seq (EC_reg (vM v11 rfl rfl (vM (.int .i64 n) rfl rfl ?_)))))
  refine eR rfl F25 rfl (put_c v11 (((List.replicate 32 (0 : UInt8)).set ((0 : Int).toNat) (83 : UInt8)).set ((1 : Int).toNat) c) n I _ _ S27 (by first | assumption | omega | (simp; done) | (simp; omega)) (by first | assumption | omega | (simp; done) | (simp; omega))) ?_
  rintro _ w28 ⟨rfl, S29⟩
  refine vA v11 rfl rfl (EL_nil (thn_n (EC_ret ?_)))
  refine fin1 Tryz.results26 (show _ = v11 from rfl) ⟨_, rfl, ?_⟩
  rw [show (((List.replicate 32 (0 : UInt8)).set ((0 : Int).toNat) (83 : UInt8)).set ((1 : Int).toNat) c).take ((((List.replicate 32 (0 : UInt8)).set ((0 : Int).toNat) (83 : UInt8)).set ((1 : Int).toNat) c).length - 8) ++ be8 n = signOf c n from rfl] at S29
  exact ⟨v11, rfl, S29⟩

set_option maxRecDepth 100000 in
set_option maxHeartbeats 4000000 in
theorem box_c (n : Int) (m : Int) (I : Gh) (R : List HP) (w : World) (S : Sat w I (R)) (hn : 0 ≤ n ∧ n ≤ 9223372036854775807) (hm : 0 ≤ m ∧ m ≤ 900000000) : Ret Tryz.prog 60 [.int .i64 n, .int .i64 m] w fun v w' => ∃ v1 : Value, v1 = v ∧ Sat w' I (OwnB v1 (boxOf n m.toNat) :: R) := by
  refine ret_E Tryz.func60 rfl Tryz.ntmps60 (by simp) ?_
  refine EC_seq (EC_reg (vA (.slice none 0 0) rfl rfl (EL_nil (thn_n (EC_seq ?_)))))
  refine EC_reg (vM (.int .i64 m) rfl rfl ?_)
  refine EL_int (m + 16) rfl (r_addi rfl rfl (by omega)) ?_
  intro x11 hx11
  refine EL_make w.heap.size elB rfl rfl rfl rfl (by omega) (by omega) (by omega) (by omega) (Nat.le_refl _) ?_
  intro v12 w13 O14 B15 k16 z17
  have S18 : Sat w13 I (OwnB v12 (List.replicate ((x11 : Int).toNat) (0 : UInt8)) :: R) := S.newO B15 (own_rep O14)
  refine vA v12 rfl rfl (EL_nil (thn_n (EC_seq (EC_reg (vM v12 rfl rfl ?_)))))
  refine vl (.pointer (some (at_ v12 ((0 : Int).toNat)))) rfl (r_index rfl (own_row (S18.own 0 rfl)) rfl (by omega) (by first | omega | (simp; omega) | simp) U22 (by kernel_rfl)) ?_
  refine EL_store (u := byt (66 : UInt8)) rfl rfl (S18.own 0 rfl) (by first | omega | (simp; done) | (simp; omega)) rfl (by kernel_rfl) ?_
  intro w19 O20 G21 z22
  have S23 := S18.gb0 G21 (own_set O20) (.inl rfl)
  refine EL_nil (thn_n (EC_seq (EC_reg (vM v12 rfl rfl (vM (.int .i64 n) rfl rfl ?_)))))
  refine eR rfl F25 rfl (put_c v12 ((List.replicate ((x11 : Int).toNat) (0 : UInt8)).set ((0 : Int).toNat) (66 : UInt8)) n I _ _ S23 (by first | assumption | omega | (simp; done) | (simp; omega)) (by first | assumption | omega | (simp; done) | (simp; omega))) ?_
  rintro _ w24 ⟨rfl, S25⟩
  refine vA v12 rfl rfl (EL_nil (thn_n (EC_ret ?_)))
  refine fin1 Tryz.results60 (show _ = v12 from rfl) ⟨_, rfl, ?_⟩
  have ef : ((List.replicate ((x11 : Int).toNat) (0 : UInt8)).set ((0 : Int).toNat) (66 : UInt8)).take (((List.replicate ((x11 : Int).toNat) (0 : UInt8)).set ((0 : Int).toNat) (66 : UInt8)).length - 8) ++ be8 n = boxOf n m.toNat := box_eq (k := ((x11 : Int).toNat)) (by omega) rfl
  rw [ef] at S25
  exact ⟨v12, rfl, S25⟩

set_option maxRecDepth 100000 in
set_option maxHeartbeats 4000000 in
theorem joined_c (v0 : Value) (ls : List (List UInt8)) (I : Gh) (R : List HP) (w : World) (S : Sat w I (R)) (Q0 : RoX I v0 bytesR ls) (hb : ls.flatten.length ≤ 1000000000) : Ret Tryz.prog 100 [v0] w fun v w' => .string (str ls.flatten) = v ∧ Sat w' I (R) := by
  have lq0 := XRow.le (Q0.row S.le)
  refine ret_E Tryz.func100 rfl Tryz.ntmps100 (by simp) ?_
  refine EC_seq (EC_reg (vA (.string (str ([] : List UInt8))) rfl rfl (EL_nil (thn_n (EC_seq ?_)))))
  refine EC_reg (vA (.slice none 0 0) rfl rfl (EL_nil (thn_n (EC_seq (EC_seq ?_)))))
  refine EC_reg (vM v0 rfl rfl (vl (.int .i64 (ls.length : Int)) rfl (r_lenX rfl (Q0.row S.le) U106) (vM (.int .i64 0) rfl rfl (EL_nil (thn_n ?_)))))
  refine EC_block ?_
  have S12 : Sat w I (OwnB (.slice none 0 0) ((ls.take 0).flatten) :: R) := S.nil 5 1
  refine EC_loop (fun m' E' w' => ∃ ov : Value, ∃ j : Nat, m' = ls.length - j ∧ E' 3 = ov ∧ E' 8 = .int .i64 (j : Int) ∧ E' 2 = .string (str ([] : List UInt8)) ∧ E' 6 = v0 ∧ E' 7 = .int .i64 (ls.length : Int) ∧ (j ≤ ls.length) ∧ Sat w' I (OwnB ov ((ls.take j).flatten) :: R)) _ ⟨.slice none 0 0, 0, rfl, rfl, rfl, rfl, rfl, rfl, Nat.zero_le _, S12⟩ ?_
  rintro _ E13 w14 ⟨ov, j, rfl, e15, e16, e17, e18, e19, hj, S20⟩
  refine EC_seq (EC_reg (vl (.bool (decide ((j : Int) < (ls.length : Int)))) rfl (r_lss (by exact e16) (by exact e19)) (EL_nil (thn_n (EC_seq ?_)))))
  refine EC_if (p := (j : Int) < (ls.length : Int)) rfl (fun h21 => ?_) (fun h21 => ?_)
  refine EC_skip (thn_n (EC_seq (EC_block (EC_seq (EC_reg ?_)))))
  refine vl (ptr (blkOf v0) (offOf v0 + ((j : Int) : Int).toNat * 1)) rfl (r_indexX (by exact e18) (Q0.row S20.le) (by exact e16) (by omega) (by first | omega | (simp; omega) | simp) U106 (by kernel_rfl)) ?_
  obtain ⟨a22, ha23⟩ := get_some (l := ls) (j := ((j : Int) : Int).toNat) (by first | omega | (simp; omega) | simp)
  have fl := flat_le (j := j) ha23
  obtain ⟨cs24, hc25, he26⟩ := Q0.el ha23
  obtain ⟨v27, rfl, o28, H29⟩ := hc25
  refine vl v27 rfl (r_load0 rfl (he26 _ S20.le) U22 rfl) (vA v27 rfl rfl (EL_nil (thn_n (EC_reg (vM ov rfl e15 ?_)))))
  refine vM v27 rfl rfl ?_
  refine EL_append (v := ov) (xs := ((ls.take j).flatten).map byt) (ys := a22.map byt) 0 elB rfl rfl rfl (own_len (S20.own 0 rfl)) (H29 _ S20.le) (byt_one _) (by first | (simp only [List.length_map, List.length_nil, List.length_append]; omega) | (simp; done) | (simp; omega)) (by decide) (Nat.zero_le _) ?_
  intro v30 w31 O32 G33 A34
  have S35 := S20.gb0 G33 (own_app O32) A34
  refine vA v30 rfl rfl (EL_nil (inB_n (thn_n (EC_reg ?_))))
  refine EL_int ((j : Int) + 1) rfl (r_addi (by exact e16) rfl (by omega)) ?_
  intro x36 hx36
  refine vM (.int .i64 x36) rfl rfl (EL_nil (thn_n ?_))
  rw [take_flat (j := j) ha23] at S35
  refine ⟨_, ?_, v30, j + 1, rfl, rfl, (Eq.trans (show _ = Value.int .i64 x36 from rfl) (congrArg _ (by omega))), (by exact e17), (by exact e18), (by exact e19), by omega, S35⟩
  first | omega | (simp; omega)
  refine EC_exit (thn_x (thn_x (inB_hit (thn_n (EC_seq ?_)))))
  refine EC_reg (vM ov rfl e15 (vl (.string (str ((ls.take j).flatten))) rfl (r_str rfl (own_row (S20.own 0 rfl)) U22 U5 U9) (vA (.string (str ((ls.take j).flatten))) rfl rfl (EL_nil (thn_n ?_)))))
  refine EC_ret ?_
  refine fin1 Tryz.results100 (show _ = .string (str ((ls.take j).flatten)) from rfl) ⟨_, rfl, ?_⟩
  have ej : j = ls.length := by omega
  subst ej
  have S37 := S20.dr0
  exact ⟨(by simp), S37⟩

end Go.Proofs.YtoajodjcmeijgaaGreat
