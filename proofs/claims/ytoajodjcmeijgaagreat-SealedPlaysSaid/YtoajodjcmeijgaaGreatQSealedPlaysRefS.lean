import Derived.Test.YtoajodjcmeijgaaGreatQSealedPlaysRefSuite
import Derived.Test.YtoajodjcmeijgaaGreatQSealedPlaysSuiC
set_option linter.unusedVariables false
set_option linter.unusedSimpArgs false
namespace Go.Proofs.YtoajodjcmeijgaaGreat
open Go.RowKit Go.Ecal

set_option maxRecDepth 100000 in
set_option maxHeartbeats 4000000 in
theorem eight_c (n : Int) (m : Int) (I : Gh) (R : List HP) (w : World) (S : Sat w I (R)) (hn : 0 ≤ n ∧ n ≤ 9223372036854775807) (hm : 8 ≤ m ∧ m ≤ 1000000000) : Ret Tryz.prog 70 [.int .i64 n, .int .i64 m] w fun v w' => ∃ v1 : Value, v1 = v ∧ Sat w' I (OwnB v1 ((List.replicate m.toNat (0 : UInt8)).take (m.toNat - 8) ++ be8 n) :: R) := by
  refine ret_E Tryz.func70 rfl Tryz.ntmps70 (by simp) ?_
  refine EC_seq (EC_reg (vA (.slice none 0 0) rfl rfl (EL_nil (thn_n (EC_seq ?_)))))
  refine EC_reg (vM (.int .i64 m) rfl rfl ?_)
  refine EL_make w.heap.size elB rfl rfl rfl rfl (by omega) (by omega) (by omega) (by omega) (Nat.le_refl _) ?_
  intro v11 w12 O13 B14 k15 z16
  have S17 : Sat w12 I (OwnB v11 (List.replicate ((m : Int).toNat) (0 : UInt8)) :: R) := S.newO B14 (own_rep O13)
  refine vA v11 rfl rfl (EL_nil (thn_n (EC_seq (EC_seq (EC_reg ?_)))))
  refine vM (.int .i64 m) rfl rfl ?_
  refine EL_int (m - 1) rfl (r_subi rfl rfl (by omega)) ?_
  intro x18 hx18
  refine vA (.int .i64 x18) rfl rfl (EL_nil (thn_n (EC_block ?_)))
  have q20 : List.replicate ((m : Int).toNat) (0 : UInt8) = eightL n m.toNat 0 := eight_zero n m.toNat
  have S19 := S17.ab0 q20
  refine EC_loop (fun m' E' w' => ∃ j : Nat, ∃ q : Int, m' = 9 - j ∧ E' 6 = .int .i64 (m - 1 - (j : Int)) ∧ E' 0 = .int .i64 q ∧ E' 1 = .int .i64 m ∧ E' 4 = .slice none 0 0 ∧ E' 5 = v11 ∧ (j ≤ 8) ∧ (q = n / 256 ^ j) ∧ (0 ≤ q ∧ q ≤ 9223372036854775807) ∧ Sat w' I (OwnB v11 (eightL n m.toNat j) :: R)) _ ⟨0, n, rfl, (Eq.trans (show _ = Value.int .i64 x18 from rfl) (congrArg _ (by omega))), rfl, rfl, rfl, rfl, by omega, by simp, by omega, S19⟩ ?_
  rintro _ E21 w22 ⟨j, q, rfl, e23, e24, e25, e26, e27, hj, hq, hr, S28⟩
  refine EC_seq (EC_seq (EC_reg (vM (.int .i64 (m - 1 - (j : Int))) rfl e23 (vM (.int .i64 m) rfl e25 ?_))))
  refine EL_int (m - 8) rfl (r_subi rfl rfl (by omega)) ?_
  intro x29 hx29
  refine vl (.bool (decide (x29 ≤ (m - 1 - (j : Int))))) rfl (r_geq rfl rfl) (EL_nil (thn_n ?_))
  refine EC_if (p := x29 ≤ (m - 1 - (j : Int))) rfl (fun h30 => ?_) (fun h30 => ?_)
  refine EC_skip (thn_n (EC_seq (EC_block (EC_seq (EC_reg ?_)))))
  refine vM v11 rfl e27 (vM (.int .i64 (m - 1 - (j : Int))) rfl e23 (vM (.int .i64 q) rfl e24 ?_))
  refine EL_int (q % 256) rfl (r_remi rfl rfl (by omega) (by omega)) ?_
  intro x31 hx31
  refine vl (.int .u8 (x31 % 256)) rfl (r_convb 3 5 rfl U3 U5) ?_
  have hl8 := eight_len (n := n) (m := m.toNat) (j := j) (by omega) (by omega)
  refine vl (.pointer (some (at_ v11 ((m - 1 - (j : Int) : Int).toNat)))) rfl (r_index rfl (own_row (S28.own 0 rfl)) rfl (by omega) (by first | omega | (simp; omega) | simp) U22 (by kernel_rfl)) ?_
  refine EL_store (u := byt (bof x31)) rfl (Eq.trans (show _ = Value.int .u8 (x31 % 256) from rfl) (bof_val _)) (S28.own 0 rfl) (by first | omega | (simp; done) | (simp; omega)) rfl (by kernel_rfl) ?_
  intro w32 O33 G34 z35
  have S36 := S28.gb0 G34 (own_set O33) (.inl rfl)
  refine EL_nil (thn_n (EC_reg (vM (.int .i64 q) rfl e24 ?_)))
  refine EL_int (q / 256) rfl (r_quoi rfl rfl (by omega) (by omega)) ?_
  intro x37 hx37
  refine vA (.int .i64 x37) rfl rfl (EL_nil (inB_n (thn_n (EC_reg (vM (.int .i64 (m - 1 - (j : Int))) rfl e23 ?_)))))
  refine EL_int ((m - 1 - (j : Int)) - 1) rfl (r_subi rfl rfl (by omega)) ?_
  intro x38 hx38
  refine vA (.int .i64 x38) rfl rfl (EL_nil (thn_n ?_))
  have hx9 : bof x31 = bof (n / 256 ^ j) := by rw [hx31, bof_mod, hq]
  have q40 : (eightL n m.toNat j).set ((m - 1 - (j : Int) : Int).toNat) (bof x31) = eightL n m.toNat (j + 1) := by rw [hx9]; exact eight_set (by omega) (by omega) (by omega)
  have S39 := S36.ab0 q40
  refine ⟨_, ?_, j + 1, x37, rfl, (Eq.trans (show _ = Value.int .i64 x38 from rfl) (congrArg _ (by omega))), rfl, (by exact e25), (by exact e26), (by exact e27), by omega, by rw [hx37]; exact div_next n q j hq, by omega, S39⟩
  first | omega | (simp; omega)
  refine EC_exit (thn_x (thn_x (inB_hit (thn_n (EC_seq ?_)))))
  refine EC_reg (vM v11 rfl e27 (vA v11 rfl rfl (EL_nil (thn_n (EC_ret ?_)))))
  refine fin1 Tryz.results70 (show _ = v11 from rfl) ⟨_, rfl, ?_⟩
  have ej : j = 8 := by omega
  subst ej
  rw [eight_end (by omega)] at S28
  exact ⟨v11, rfl, S28⟩

set_option maxRecDepth 100000 in
set_option maxHeartbeats 4000000 in
theorem rSign_c (c : UInt8) (n : Int) (I : Gh) (R : List HP) (w : World) (S : Sat w I (R)) (hn : 0 ≤ n ∧ n ≤ 9223372036854775807) : Ret Tryz.prog 28 [.int .i64 (c.toNat : Int), .int .i64 n] w fun v w' => ∃ v1 : Value, v1 = v ∧ Sat w' I (OwnB v1 (signOf c n) :: R) := by
  refine ret_E Tryz.func28 rfl Tryz.ntmps28 (by simp) ?_
  refine EC_seq (EC_reg (vA (.slice none 0 0) rfl rfl (EL_nil (thn_n (EC_seq ?_)))))
  refine EC_reg (vM (.int .i64 n) rfl rfl ?_)
  refine eR rfl F70 rfl (eight_c n 32 I _ _ S (by first | assumption | omega | (simp; done) | (simp; omega)) (by first | assumption | omega | (simp; done) | (simp; omega))) ?_
  rintro _ w11 ⟨v13, rfl, S12⟩
  refine vA v13 rfl rfl (EL_nil (thn_n (EC_seq (EC_reg (vM v13 rfl rfl ?_)))))
  refine vl (.pointer (some (at_ v13 ((0 : Int).toNat)))) rfl (r_index rfl (own_row (S12.own 0 rfl)) rfl (by omega) (by first | omega | (simp; omega) | simp) U22 (by kernel_rfl)) ?_
  refine EL_store (u := byt (83 : UInt8)) rfl rfl (S12.own 0 rfl) (by first | omega | (simp; done) | (simp; omega)) rfl (by kernel_rfl) ?_
  intro w14 O15 G16 z17
  have S18 := S12.gb0 G16 (own_set O15) (.inl rfl)
  refine EL_nil (thn_n (EC_seq (EC_reg (vM v13 rfl rfl (vM (.int .i64 (c.toNat : Int)) rfl rfl ?_)))))
  refine vl (.int .u8 ((c.toNat : Int) % 256)) rfl (r_convb 3 5 rfl U3 U5) (vl (.pointer (some (at_ v13 ((1 : Int).toNat)))) rfl (r_index rfl (own_row (S18.own 0 rfl)) rfl (by omega) (by first | omega | (simp; omega) | simp) U22 (by kernel_rfl)) ?_)
  refine EL_store (u := byt (bof (c.toNat : Int))) rfl (Eq.trans (show _ = Value.int .u8 ((c.toNat : Int) % 256) from rfl) (bof_val _)) (S18.own 0 rfl) (by first | omega | (simp; done) | (simp; omega)) rfl (by kernel_rfl) ?_
  intro w19 O20 G21 z22
  have S23 := S18.gb0 G21 (own_set O20) (.inl rfl)
  refine EL_nil (thn_n (EC_seq (EC_reg (vM v13 rfl rfl (vA v13 rfl rfl ?_)))))
  refine EL_nil (thn_n (EC_ret ?_))
  refine fin1 Tryz.results28 (show _ = v13 from rfl) ⟨_, rfl, ?_⟩
  rw [show (((List.replicate (32 : Int).toNat (0 : UInt8)).take ((32 : Int).toNat - 8) ++ be8 n).set ((0 : Int).toNat) (83 : UInt8)).set ((1 : Int).toNat) (bof (c.toNat : Int)) = signOf c n from sign_ref c n] at S23
  exact ⟨v13, rfl, S23⟩

set_option maxRecDepth 100000 in
set_option maxHeartbeats 4000000 in
theorem rbox_c (n : Int) (m : Int) (I : Gh) (R : List HP) (w : World) (S : Sat w I (R)) (hn : 0 ≤ n ∧ n ≤ 9223372036854775807) (hm : 0 ≤ m ∧ m ≤ 900000000) : Ret Tryz.prog 61 [.int .i64 n, .int .i64 m] w fun v w' => ∃ v1 : Value, v1 = v ∧ Sat w' I (OwnB v1 (boxOf n m.toNat) :: R) := by
  refine ret_E Tryz.func61 rfl Tryz.ntmps61 (by simp) ?_
  refine EC_seq (EC_reg (vA (.slice none 0 0) rfl rfl (EL_nil (thn_n (EC_seq ?_)))))
  refine EC_reg (vM (.int .i64 n) rfl rfl (vM (.int .i64 m) rfl rfl ?_))
  refine EL_int (m + 16) rfl (r_addi rfl rfl (by omega)) ?_
  intro x11 hx11
  refine eR rfl F70 rfl (eight_c n x11 I _ _ S (by first | assumption | omega | (simp; done) | (simp; omega)) (by first | assumption | omega | (simp; done) | (simp; omega))) ?_
  rintro _ w12 ⟨v14, rfl, S13⟩
  refine vA v14 rfl rfl (EL_nil (thn_n (EC_seq (EC_reg (vM v14 rfl rfl ?_)))))
  refine vl (.pointer (some (at_ v14 ((0 : Int).toNat)))) rfl (r_index rfl (own_row (S13.own 0 rfl)) rfl (by omega) (by first | omega | (simp; omega) | simp) U22 (by kernel_rfl)) ?_
  refine EL_store (u := byt (66 : UInt8)) rfl rfl (S13.own 0 rfl) (by first | omega | (simp; done) | (simp; omega)) rfl (by kernel_rfl) ?_
  intro w15 O16 G17 z18
  have S19 := S13.gb0 G17 (own_set O16) (.inl rfl)
  refine EL_nil (thn_n (EC_seq (EC_reg (vM v14 rfl rfl (vA v14 rfl rfl ?_)))))
  refine EL_nil (thn_n (EC_ret ?_))
  refine fin1 Tryz.results61 (show _ = v14 from rfl) ⟨_, rfl, ?_⟩
  rw [show ((List.replicate x11.toNat (0 : UInt8)).take (x11.toNat - 8) ++ be8 n).set ((0 : Int).toNat) (66 : UInt8) = boxOf n m.toNat from box_ref n (by omega)] at S19
  exact ⟨v14, rfl, S19⟩

set_option maxRecDepth 100000 in
set_option maxHeartbeats 4000000 in
theorem ronce_c (p : Value) (L : List Thing) (tc : List Value) (t : Thing) (I : Gh) (R : List HP) (w : World) (S : Sat w I (RefT p L :: R)) (ht : thR.r I tc t) (hl : L.length ≤ 1000000) (hP : Plain L) (ho : t.once = true) (hno : t.nonce = [] ∧ t.other = []) : Ret Tryz.prog 101 [p, .agg tc.toArray] w fun v w' => ∃ J : Gh, Gh.le I J ∧ .int .i64 (onceN t L : Int) = v ∧ Sat w' J (RefT p (onceL t L) :: R) := by
  obtain ⟨b, lv, rfl, S0⟩ := RefT.opn S
  obtain ⟨v11, v14, v17, v20, rfl, ⟨o12, H13⟩, ⟨o15, H16⟩, ⟨o18, H19⟩, ⟨o21, H22⟩⟩ := ht
  refine ret_E Tryz.func101 rfl Tryz.ntmps101 (by simp) ?_
  refine EC_seq (EC_reg ?_)
  refine EL_box [.int .i64 (t.sort.toNat : Int), v11, v14, v17, v20] rfl rfl rfl ?_
  intro b23 w24 k25 A26 B27 z28
  have S29 := S0.newB B27 A26 k25
  refine vA (.int .i64 0) rfl rfl (EL_nil (thn_n (EC_seq (EC_seq (EC_reg ?_)))))
  refine vA (.int .i64 0) rfl rfl (EL_nil (thn_n (EC_block ?_)))
  refine EC_loop (fun m' E' w' => ∃ j : Nat, m' = L.length - j ∧ E' 5 = .int .i64 (j : Int) ∧ E' 0 = ptr b ∧ E' 3 = ptr b23 ∧ (j ≤ L.length) ∧ (Not t L j) ∧ Sat w' I (Blk b23 78 [.int .i64 (t.sort.toNat : Int), v11, v14, v17, v20] :: Blk b 30 [lv] :: OwnX 78 thR lv L :: R)) _ ⟨0, rfl, rfl, rfl, rfl, Nat.zero_le _, Not.zero, S29⟩ ?_
  rintro _ E30 w31 ⟨j, rfl, e32, e33, e34, hj, hN, S35⟩
  refine EC_seq (EC_seq (EC_reg (vM (.int .i64 (j : Int)) rfl e32 (vM (ptr b) rfl e33 (vl (ptr b) rfl (r_nil rfl) ?_)))))
  refine vl (ptr b 0) rfl (fP 0 rfl U30 (by kernel_rfl)) (vL lv rfl rfl (S35.arr 1 rfl) rfl U28 rfl (vl (.int .i64 (L.length : Int)) rfl (r_lenX rfl (OwnX.row S35 2 rfl (by decide)).1 U28) (vl (.bool (decide ((j : Int) < (L.length : Int)))) rfl (r_lss rfl rfl) (EL_nil (thn_n ?_)))))
  refine EC_if (p := (j : Int) < (L.length : Int)) rfl (fun h36 => ?_) (fun h36 => ?_)
  refine EC_skip (thn_n (EC_seq (EC_block (EC_seq (EC_reg ?_)))))
  refine vM (ptr b) rfl e33 (vl (ptr b) rfl (r_nil rfl) (vl (ptr b 0) rfl (fP 0 rfl U30 (by kernel_rfl)) (vL lv rfl rfl (S35.arr 1 rfl) rfl U28 rfl (vM (.int .i64 (j : Int)) rfl e32 (vl (ptr (blkOf lv) (offOf lv + ((j : Int) : Int).toNat * 5)) rfl (r_indexX rfl (OwnX.row S35 2 rfl (by decide)).1 rfl (by omega) (by first | omega | (simp; omega) | simp) U28 (by kernel_rfl)) ?_)))))
  obtain ⟨a37, ha38⟩ := get_some (l := L) (j := ((j : Int) : Int).toNat) (by first | omega | (simp; omega) | simp)
  obtain ⟨cs39, hc40, he41⟩ := (OwnX.row S35 2 rfl (by decide)).2 _ _ ha38
  obtain ⟨v42, v45, v48, v51, rfl, ⟨o43, H44⟩, ⟨o46, H47⟩, ⟨o49, H50⟩, ⟨o52, H53⟩⟩ := hc40
  refine vl (.agg ([.int .i64 (a37.sort.toNat : Int), v42, v45, v48, v51]).toArray) rfl (r_loadR (cs := [.int .i64 (a37.sort.toNat : Int), v42, v45, v48, v51]) rfl he41 U78 rfl (by kernel_rfl)) ?_
  refine EL_alloc (z := .agg #[.int .i64 0, .slice none 0 0, .slice none 0 0, .slice none 0 0, .slice none 0 0]) [.int .i64 0, .slice none 0 0, .slice none 0 0, .slice none 0 0, .slice none 0 0] rfl (by kernel_rfl) rfl ?_
  intro b54 w55 k56 A57 B58 z59
  have S60 := S35.newB B58 A57 k56
  refine sA [.int .i64 (a37.sort.toNat : Int), v42, v45, v48, v51] rfl rfl (S60.arr 0 rfl) rfl (by kernel_rfl) (ones_cons rfl (ones_cons o43 (ones_cons o46 (ones_cons o49 (ones_cons o52 (fun _ h => nomatch h)))))) ?_
  intro w61 A62 K63 z64
  have S65 := S60.wr0 (ds := [.int .i64 (a37.sort.toNat : Int), v42, v45, v48, v51]) K63 A62
  refine EL_nil (thn_n (EC_seq (EC_reg (vl (ptr b54 0) rfl (fP 0 rfl U78 (by kernel_rfl)) (vL (.int .i64 (a37.sort.toNat : Int)) rfl rfl (S65.arr 0 rfl) rfl U3 rfl ?_)))))
  refine vl (ptr b23 0) rfl (fP 0 (by exact e34) U78 (by kernel_rfl)) (vL (.int .i64 (t.sort.toNat : Int)) rfl rfl (S65.arr 1 rfl) rfl U3 rfl (vl (.bool (decide ((a37.sort.toNat : Int) = (t.sort.toNat : Int)))) rfl (r_eql rfl rfl) (vM (.bool (decide ((a37.sort.toNat : Int) = (t.sort.toNat : Int)))) rfl rfl (EL_gite 28 rfl rfl rfl (ptr b54 1) rfl (fun g66 => fP 0 rfl U78 (by kernel_rfl)) (EL_gite 28 rfl rfl rfl v42 rfl (fun g67 => r_loadA (cond_of g67 rfl) (S65.arr 0 rfl) (u := v42) rfl U22 rfl) ?_)))))
  refine EL_gite 28 rfl rfl rfl (.string (str a37.key)) rfl (fun g68 => r_str (cond_of g68 rfl) (H44 _ S65.le) U22 U5 U9) (EL_gite 28 rfl rfl rfl (ptr b23 1) rfl (fun g69 => fP 0 (by exact e34) U78 (by kernel_rfl)) (EL_gite 28 rfl rfl rfl v11 rfl (fun g70 => r_loadA (cond_of g70 rfl) (S65.arr 1 rfl) (u := v11) rfl U22 rfl) (EL_gite 28 rfl rfl rfl (.string (str t.key)) rfl (fun g71 => r_str (cond_of g71 rfl) (H13 _ S65.le) U22 U5 U9) (EL_gite 28 rfl rfl rfl (.bool (decide (a37.key = t.key))) rfl (fun g72 => r_eqls (cond_of g72 rfl) (cond_of g72 rfl)) (vl (.bool ((decide ((a37.sort.toNat : Int) = (t.sort.toNat : Int))) && (decide (a37.key = t.key)))) rfl (r_and rfl rfl rfl) ?_)))))
  refine vM (.bool ((decide ((a37.sort.toNat : Int) = (t.sort.toNat : Int))) && (decide (a37.key = t.key)))) rfl rfl (EL_gite 37 rfl rfl rfl (ptr b54 4) rfl (fun g73 => fP 0 rfl U78 (by kernel_rfl)) (EL_gite 37 rfl rfl rfl v51 rfl (fun g74 => r_loadA (cond_of g74 rfl) (S65.arr 0 rfl) (u := v51) rfl U22 rfl) (EL_gite 37 rfl rfl rfl (.string (str a37.text)) rfl (fun g75 => r_str (cond_of g75 rfl) (H53 _ S65.le) U22 U5 U9) (EL_gite 37 rfl rfl rfl (ptr b23 4) rfl (fun g76 => fP 0 (by exact e34) U78 (by kernel_rfl)) (EL_gite 37 rfl rfl rfl v20 rfl (fun g77 => r_loadA (cond_of g77 rfl) (S65.arr 1 rfl) (u := v20) rfl U22 rfl) ?_)))))
  refine EL_gite 37 rfl rfl rfl (.string (str t.text)) rfl (fun g78 => r_str (cond_of g78 rfl) (H22 _ S65.le) U22 U5 U9) (EL_gite 37 rfl rfl rfl (.bool (decide (a37.text = t.text))) rfl (fun g79 => r_eqls (cond_of g79 rfl) (cond_of g79 rfl)) (vl (.bool (((decide ((a37.sort.toNat : Int) = (t.sort.toNat : Int))) && (decide (a37.key = t.key))) && (decide (a37.text = t.text)))) rfl (r_and rfl rfl rfl) (EL_nil (thn_n ?_))))
  refine EC_cond (t := ((decide ((a37.sort.toNat : Int) = (t.sort.toNat : Int))) && (decide (a37.key = t.key))) && (decide (a37.text = t.text))) rfl (fun h80 => ?_) (fun h80 => ?_)
  have hat : a37 = t := (same_thing hP (List.mem_of_getElem? ha38) ho hno).1 (by simpa [and_assoc] using h80)
  rw [hat] at ha38
  have hix := idx_here hN ha38
  refine EC_seq (EC_reg (vM (.int .i64 (j : Int)) rfl e32 ?_))
  refine EL_int ((j : Int) + 1) rfl (r_addi rfl rfl (by omega)) ?_
  intro x81 hx81
  refine vA (.int .i64 x81) rfl rfl (EL_nil (thn_n (EC_ret (inB_r (thn_r ?_)))))
  refine thn_r (inB_r (thn_r ?_))
  refine fin1 Tryz.results101 (show _ = .int .i64 x81 from rfl) ⟨_, rfl, ?_⟩
  have S82 := S65.fr3
  have S83 := S82.fr3
  have S84 : Sat w61 I (RefT (ptr b) L :: Blk b54 78 [.int .i64 (a37.sort.toNat : Int), v42, v45, v48, v51] :: Blk b23 78 [.int .i64 (t.sort.toNat : Int), v11, v14, v17, v20] :: R) := RefT.cls S83
  rw [onceL_of hix]
  have S85 := S84.dr1
  have S86 := S85.dr1
  exact ⟨I, (Gh.le_refl _), (by rw [onceN_of hix]; congr 1; omega), S86⟩
  have hat : a37 ≠ t := fun e => by have := (same_thing hP (List.mem_of_getElem? ha38) ho hno).2 e; simp_all
  refine EC_skip (inB_n (thn_n (EC_reg (vM (.int .i64 (j : Int)) rfl e32 ?_))))
  refine EL_int ((j : Int) + 1) rfl (r_addi rfl rfl (by omega)) ?_
  intro x87 hx87
  refine vA (.int .i64 x87) rfl rfl (EL_nil (thn_n ?_))
  have S88 := S65.dr0
  refine ⟨_, ?_, j + 1, rfl, (Eq.trans (show _ = Value.int .i64 x87 from rfl) (congrArg _ (by omega))), (by exact e33), (by exact e34), by omega, hN.next ha38 hat, S88⟩
  first | omega | (simp; omega)
  refine EC_exit (thn_x (thn_x (inB_hit (thn_n (EC_seq ?_)))))
  refine EC_any 10 (fun w' => Gh.le I (gh w')) (fun w' => Arr w' b 30 [lv] ∧ Arr w' b23 78 [.int .i64 (t.sort.toNat : Int), v11, v14, v17, v20]) (by kernel_rfl) ?_
  intro w89 B90
  have S91 := S35.below B90
  refine jT 0 rfl (by kernel_rfl) (ptr b) rfl (fun _ hw ht => r_move (by exact e33)) ⟨S91.le, fun h => ⟨S91.arr 1 rfl, S91.arr 0 rfl⟩⟩ ?_
  refine jT 1 rfl (by kernel_rfl) (ptr b) rfl (fun _ hw ht => r_move (by exact e33)) ⟨S91.le, fun h => ⟨S91.arr 1 rfl, S91.arr 0 rfl⟩⟩ ?_
  refine jT 2 rfl (by kernel_rfl) (ptr b) rfl (fun _ hw ht => r_nil rfl) ⟨S91.le, fun h => ⟨S91.arr 1 rfl, S91.arr 0 rfl⟩⟩ ?_
  refine jT 3 rfl (by kernel_rfl) (ptr b 0) rfl (fun _ hw ht => fP 0 rfl U30 (by kernel_rfl)) ⟨S91.le, fun h => ⟨S91.arr 1 rfl, S91.arr 0 rfl⟩⟩ ?_
  refine jT 4 rfl (by kernel_rfl) lv rfl (fun _ hw ht => r_loadA rfl ht.1 (u := lv) rfl U28 rfl) ⟨S91.le, fun h => ⟨S91.arr 1 rfl, S91.arr 0 rfl⟩⟩ ?_
  refine jT 5 rfl (by kernel_rfl) (.agg ([.int .i64 (t.sort.toNat : Int), v11, v14, v17, v20]).toArray) rfl (fun _ hw ht => r_loadAll (by exact e34) ht.2 U78 rfl (by kernel_rfl)) ⟨S91.le, fun h => ⟨S91.arr 1 rfl, S91.arr 0 rfl⟩⟩ ?_
  refine EJ_one 6 (by kernel_rfl) ⟨_, rfl, ?_⟩
  refine EL_litW (z := #[.int .i64 0, .slice none 0 0, .slice none 0 0, .slice none 0 0, .slice none 0 0]) (cs := ([.int .i64 (t.sort.toNat : Int), v11, v14, v17, v20]).toArray) (sz := 5) (l := [(0, .agg ([.int .i64 (t.sort.toNat : Int), v11, v14, v17, v20]).toArray)]) rfl U28 (by kernel_rfl) (parts1 rfl) (by kernel_rfl) rfl (by decide) ?_
  intro v92 w93 O94 B95 k96
  have S97 : Sat w93 I (OwnX 78 thR v92 [t] :: Blk b23 78 [.int .i64 (t.sort.toNat : Int), v11, v14, v17, v20] :: Blk b 30 [lv] :: OwnX 78 thR lv L :: R) := OwnX.cls (xss := [[.int .i64 (t.sort.toNat : Int), v11, v14, v17, v20]]) (.cons ⟨v11, v14, v17, v20, rfl, ⟨o12, H13⟩, ⟨o15, H16⟩, ⟨o18, H19⟩, ⟨o21, H22⟩⟩ .nil) (S91.newO B95 O94)
  refine EL_nil ?_
  refine ⟨rfl, ⟨S97.le, fun h => ⟨S97.arr 2 rfl, S97.arr 1 rfl⟩⟩, ?_⟩
  refine EJ_one 7 (by kernel_rfl) ⟨_, rfl, ?_⟩
  have oH104 := (OwnX.one S97 0 rfl (by decide))
  obtain ⟨I101, le102, S103, H104⟩ := S97.fx0 (by decide)
  have S105 := S103.fr2
  refine EL_appX (z := (.agg #[.int .i64 0, .slice none 0 0, .slice none 0 0, .slice none 0 0, .slice none 0 0])) (bytes := 104) rfl U28 (by kernel_rfl) rfl (by decide) rfl rfl S105 H104 (by first | omega | (simp; done) | (simp only [List.length_cons, List.length_nil]; omega) | (rw [List.length_append]; simp only [List.length_cons, List.length_nil]; omega) | (simp; omega)) (by first | omega | (simp; done) | (simp only [List.length_cons, List.length_nil]; omega) | (rw [List.length_append]; simp only [List.length_cons, List.length_nil]; omega) | (simp; omega)) ?_
  intro v98 w99 S100
  refine EL_nil ?_
  refine ⟨rfl, ⟨(lT le102 S100.le), fun h => ⟨S100.arr 2 rfl, S100.arr 1 rfl⟩⟩, ?_⟩
  refine EJ_strong (fun w' => Gh.le I101 (gh w')) _ (fun w' hw => lT le102 hw) (fun w' _ ht => ht) ?_
  refine jT 8 rfl (by kernel_rfl) (ptr b) rfl (fun _ hw ht => r_nil rfl) ⟨S100.le, fun h => ⟨S100.arr 2 rfl, S100.arr 1 rfl⟩⟩ ?_
  refine jT 9 rfl (by kernel_rfl) (ptr b 0) rfl (fun _ hw ht => fP 0 rfl U30 (by kernel_rfl)) ⟨S100.le, fun h => ⟨S100.arr 2 rfl, S100.arr 1 rfl⟩⟩ ?_
  refine EJ_one 10 (by kernel_rfl) ⟨_, rfl, ?_⟩
  refine EL_storeA (j := 0) (u := v98) rfl rfl (S100.arr 2 rfl) (by first | decide | (simp; omega) | simp) (OwnX.one S100 0 rfl (by decide)) (by kernel_rfl) ?_
  intro w106 A107 K108 z109
  have S110 := S100.wr2 (ds := [v98]) K108 A107
  refine EL_nil ?_
  refine ⟨rfl, ⟨S110.le, fun h => by cases h⟩, ?_⟩
  refine EJ_done (by kernel_rfl) ?_
  refine thn_n (EC_seq (EC_reg (vM (ptr b) rfl e33 (vl (ptr b) rfl (r_nil rfl) (vl (ptr b 0) rfl (fP 0 rfl U30 (by kernel_rfl)) ?_)))))
  refine vL v98 rfl rfl (S110.arr 2 rfl) rfl U28 rfl (vl (.int .i64 ((L ++ [t]).length : Int)) rfl (r_lenX rfl (OwnX.row S110 0 rfl (by decide)).1 U28) (vA (.int .i64 ((L ++ [t]).length : Int)) rfl rfl (EL_nil (thn_n (EC_ret ?_)))))
  refine fin1 Tryz.results101 (show _ = .int .i64 ((L ++ [t]).length : Int) from rfl) ⟨_, rfl, ?_⟩
  have hnw : idx t L = none := idx_nowhere (show Not t L L.length from by rwa [show L.length = j by omega])
  have S111 := S110.fr2
  have S112 : Sat w106 I101 (RefT (ptr b) (L ++ [t]) :: Blk b23 78 [.int .i64 (t.sort.toNat : Int), v11, v14, v17, v20] :: R) := RefT.cls S111
  rw [(once_no hnw).2]
  have S113 := S112.dr1
  exact ⟨I101, le102, (by rw [(once_no hnw).1]; simp), S113⟩

set_option maxRecDepth 100000 in
set_option maxHeartbeats 4000000 in
theorem rCode_c (p : Value) (L : List Thing) (v0 : Value) (k : List UInt8) (v1 : Value) (x : List UInt8) (I : Gh) (R : List HP) (w : World) (S : Sat w I (RefT p L :: R)) (Q0 : RoB I v0 k) (Q1 : RoB I v1 x) (hl : L.length ≤ 1000000) (hP : Plain L) : Ret Tryz.prog 79 [p, v0, v1] w fun v w' => ∃ v2 : Value, ∃ J : Gh, Gh.le I J ∧ v2 = v ∧ Sat w' J (OwnB v2 (signOf 77 (onceN (tCode k x) L)) :: RefT p (onceL (tCode k x) L) :: R) := by
  have lq0 := RoB.le Q0 S.le
  have lq1 := RoB.le Q1 S.le
  obtain ⟨b, lv, rfl, S0⟩ := RefT.opn S
  refine ret_E Tryz.func79 rfl Tryz.ntmps79 (by simp) ?_
  refine EC_seq (EC_reg (vA (.slice none 0 0) rfl rfl (EL_nil (thn_n (EC_seq ?_)))))
  refine EC_reg (vM (ptr b) rfl rfl (vM v0 rfl rfl (vM v1 rfl rfl (vl (.agg ([.int .i64 77, v0, .slice none 0 0, .slice none 0 0, v1]).toArray) rfl (r_buildS (l := [(0, .int .i64 77), (1, v0), (4, v1)]) st_78 (parts3 rfl rfl rfl) (Eq.trans (show Instr.fill _ _ [(0, .int .i64 77), (1, v0), (4, v1)] = _ from (fill_one rfl rfl rfl (fill_one rfl (row_cells (Q0 _ S0.le)) rfl (fill_one rfl (row_cells (Q1 _ S0.le)) rfl fill_end)))) (by kernel_rfl))) ?_))))
  have S11 : Sat w I (RefT (ptr b) L :: R) := RefT.cls S0
  refine eR rfl F101 rfl (ronce_c (ptr b) L [.int .i64 77, v0, .slice none 0 0, .slice none 0 0, v1] (⟨77, k, [], x, []⟩ : Thing) I _ _ S11 ⟨v0, (.slice none 0 0), (.slice none 0 0), v1, rfl, ⟨(row_one (Q0 _ S11.le)), Q0⟩, ⟨rfl, Ro.nil⟩, ⟨rfl, Ro.nil⟩, ⟨(row_one (Q1 _ S11.le)), Q1⟩⟩ (by first | assumption | omega | (simp; done) | (simp; omega)) (by first | assumption | omega | (simp; done) | (simp; omega)) rfl ⟨rfl, rfl⟩) ?_
  rintro _ w12 ⟨I14, le15, rfl, S13⟩
  refine eR rfl F28 rfl (rSign_c (77 : UInt8) (onceN (⟨77, k, [], x, []⟩ : Thing) L : Int) I14 _ _ S13 (by have := onceN_le (⟨77, k, [], x, []⟩ : Thing) L; omega)) ?_
  rintro _ w16 ⟨v18, rfl, S17⟩
  refine vA v18 rfl rfl (EL_nil (thn_n (EC_ret ?_)))
  refine fin1 Tryz.results79 (show _ = v18 from rfl) ⟨_, rfl, ?_⟩
  exact ⟨v18, I14, le15, rfl, S17⟩

set_option maxRecDepth 100000 in
set_option maxHeartbeats 4000000 in
theorem rKey_c (p : Value) (L : List Thing) (I : Gh) (R : List HP) (w : World) (S : Sat w I (RefT p L :: R)) (hl : L.length ≤ 1000000) : Ret Tryz.prog 7 [p] w fun v w' => ∃ v1 : Value, ∃ J : Gh, Gh.le I J ∧ v1 = v ∧ Sat w' J (OwnB v1 (signOf 75 ((L.length : Int) + 1)) :: RefT p (L ++ [tKey]) :: R) := by
  obtain ⟨b, lv, rfl, S0⟩ := RefT.opn S
  refine ret_E Tryz.func7 rfl Tryz.ntmps7 (by simp) ?_
  refine EC_seq (EC_reg (vA (.slice none 0 0) rfl rfl (EL_nil (thn_n (EC_seq ?_)))))
  refine EC_reg (vM (ptr b) rfl rfl (vM (ptr b) rfl rfl (vl (ptr b) rfl (r_nil rfl) (vl (ptr b 0) rfl (fP 0 rfl U30 (by kernel_rfl)) (vL lv rfl rfl (S0.arr 0 rfl) rfl U28 rfl ?_)))))
  refine vl (.agg ([.int .i64 75, .slice none 0 0, .slice none 0 0, .slice none 0 0, .slice none 0 0]).toArray) rfl (r_buildS (l := [(0, .int .i64 75)]) st_78 (parts1 rfl) (Eq.trans (show Instr.fill _ _ [(0, .int .i64 75)] = _ from (fill_one rfl rfl rfl fill_end)) (by kernel_rfl))) ?_
  refine EL_litW (z := #[.int .i64 0, .slice none 0 0, .slice none 0 0, .slice none 0 0, .slice none 0 0]) (cs := ([.int .i64 75, .slice none 0 0, .slice none 0 0, .slice none 0 0, .slice none 0 0]).toArray) (sz := 5) (l := [(0, .agg ([.int .i64 75, .slice none 0 0, .slice none 0 0, .slice none 0 0, .slice none 0 0]).toArray)]) rfl U28 (by kernel_rfl) (parts1 rfl) (by kernel_rfl) rfl (by decide) ?_
  intro v11 w12 O13 B14 k15
  have S16 : Sat w12 I (OwnX 78 thR v11 [(⟨75, [], [], [], []⟩ : Thing)] :: Blk b 30 [lv] :: OwnX 78 thR lv L :: R) := OwnX.cls (xss := [[.int .i64 75, .slice none 0 0, .slice none 0 0, .slice none 0 0, .slice none 0 0]]) (.cons ⟨(.slice none 0 0), (.slice none 0 0), (.slice none 0 0), (.slice none 0 0), rfl, ⟨rfl, Ro.nil⟩, ⟨rfl, Ro.nil⟩, ⟨rfl, Ro.nil⟩, ⟨rfl, Ro.nil⟩⟩ .nil) (S0.newO B14 O13)
  have oH23 := (OwnX.one S16 0 rfl (by decide))
  obtain ⟨I20, le21, S22, H23⟩ := S16.fx0 (by decide)
  have S24 := S22.fr1
  refine EL_appX (z := (.agg #[.int .i64 0, .slice none 0 0, .slice none 0 0, .slice none 0 0, .slice none 0 0])) (bytes := 104) rfl U28 (by kernel_rfl) rfl (by decide) rfl rfl S24 H23 (by first | omega | (simp; done) | (simp only [List.length_cons, List.length_nil]; omega) | (rw [List.length_append]; simp only [List.length_cons, List.length_nil]; omega) | (simp; omega)) (by first | omega | (simp; done) | (simp only [List.length_cons, List.length_nil]; omega) | (rw [List.length_append]; simp only [List.length_cons, List.length_nil]; omega) | (simp; omega)) ?_
  intro v17 w18 S19
  refine vl (ptr b) rfl (r_nil rfl) (vl (ptr b 0) rfl (fP 0 rfl U30 (by kernel_rfl)) ?_)
  refine EL_storeA (j := 0) (u := v17) rfl rfl (S19.arr 1 rfl) (by first | decide | (simp; omega) | simp) (OwnX.one S19 0 rfl (by decide)) (by kernel_rfl) ?_
  intro w25 A26 K27 z28
  have S29 := S19.wr1 (ds := [v17]) K27 A26
  refine EL_nil (thn_n (EC_seq (EC_reg (vM (ptr b) rfl rfl (vl (ptr b) rfl (r_nil rfl) ?_)))))
  refine vl (ptr b 0) rfl (fP 0 rfl U30 (by kernel_rfl)) (vL v17 rfl rfl (S29.arr 1 rfl) rfl U28 rfl (vl (.int .i64 ((L ++ [(⟨75, [], [], [], []⟩ : Thing)]).length : Int)) rfl (r_lenX rfl (OwnX.row S29 0 rfl (by decide)).1 U28) ?_))
  refine eR rfl F28 rfl (rSign_c (75 : UInt8) ((L ++ [(⟨75, [], [], [], []⟩ : Thing)]).length : Int) I20 _ _ S29 (by first | assumption | omega | (simp; done) | (simp; omega))) ?_
  rintro _ w30 ⟨v32, rfl, S31⟩
  refine vA v32 rfl rfl (EL_nil (thn_n (EC_ret ?_)))
  refine fin1 Tryz.results7 (show _ = v32 from rfl) ⟨_, rfl, ?_⟩
  have S33 := S31.fr1
  have S34 := S33.fr2
  have S35 : Sat w30 I20 (RefT (ptr b) (L ++ [(⟨75, [], [], [], []⟩ : Thing)]) :: OwnB v32 (signOf (75 : UInt8) ((L ++ [(⟨75, [], [], [], []⟩ : Thing)]).length : Int)) :: R) := RefT.cls S34
  have q37 : signOf (75 : UInt8) ((L ++ [(⟨75, [], [], [], []⟩ : Thing)]).length : Int) = signOf 75 ((L.length : Int) + 1) := by simp
  have S36 := S35.ab1 q37
  have q39 : L ++ [(⟨75, [], [], [], []⟩ : Thing)] = L ++ [tKey] := rfl
  have S38 := Sat.ah0 (RefT (ptr b)) S36 q39
  have S40 := S38.fr1
  exact ⟨v32, I20, le21, rfl, S40⟩

set_option maxRecDepth 100000 in
set_option maxHeartbeats 4000000 in
theorem rSeal_c (p : Value) (L : List Thing) (v0 : Value) (k : List UInt8) (v1 : Value) (n : List UInt8) (v2 : Value) (o : List UInt8) (v3 : Value) (x : List UInt8) (I : Gh) (R : List HP) (w : World) (S : Sat w I (RefT p L :: R)) (Q0 : RoB I v0 k) (Q1 : RoB I v1 n) (Q2 : RoB I v2 o) (Q3 : RoB I v3 x) (hl : L.length ≤ 1000000) (hk : k.length ≤ 1000000000) (hn : n.length ≤ 1000000000) (ho : o.length ≤ 1000000000) (hx : x.length ≤ 800000000) : Ret Tryz.prog 21 [p, v0, v1, v2, v3] w fun v w' => ∃ v4 : Value, ∃ J : Gh, Gh.le I J ∧ .tuple #[v4, .int .i64 (sealE k n)] = v ∧ Sat w' J (OwnB v4 (sealB L k n x) :: RefT p (sealL L k n o x) :: R) := by
  have lq0 := RoB.le Q0 S.le
  have lq1 := RoB.le Q1 S.le
  have lq2 := RoB.le Q2 S.le
  have lq3 := RoB.le Q3 S.le
  obtain ⟨b, lv, rfl, S0⟩ := RefT.opn S
  refine ret_E Tryz.func21 rfl Tryz.ntmps21 (by simp) ?_
  refine EC_seq (EC_reg (vA (.slice none 0 0) rfl rfl (vA (.int .i64 0) rfl rfl (EL_nil (thn_n ?_)))))
  refine EC_seq (EC_seq (EC_reg (vM v0 rfl rfl (vl (.int .i64 (k.length : Int)) rfl (lenB (r_len rfl (Q0 _ S0.le) U22)) (vl (.bool (decide ((k.length : Int) ≠ 32))) rfl (r_neq rfl rfl) ?_)))))
  refine vM (.bool (decide ((k.length : Int) ≠ 32))) rfl rfl (EL_gite 15 rfl rfl rfl v1 rfl (fun g11 => r_move rfl) (EL_gite 15 rfl rfl rfl (.int .i64 (n.length : Int)) rfl (fun g12 => lenB (r_len (cond_of g12 rfl) (Q1 _ S0.le) U22)) (EL_gite 15 rfl rfl rfl (.bool (decide ((n.length : Int) ≠ 12))) rfl (fun g13 => r_neq (cond_of g13 rfl) rfl) (vl (.bool ((decide ((k.length : Int) ≠ 32)) || (decide ((n.length : Int) ≠ 12)))) rfl (r_or rfl rfl rfl) (EL_nil ?_)))))
  refine thn_n ?_
  refine EC_cond (t := (decide ((k.length : Int) ≠ 32)) || (decide ((n.length : Int) ≠ 12))) rfl (fun h14 => ?_) (fun h14 => ?_)
  have hz : szOk k n = false := by rw [← Bool.not_eq_true, szOk_iff]; simp at h14; omega
  refine EC_seq (EC_reg (vA (.slice none 0 0) rfl rfl (vA (.int .i64 11) rfl rfl (EL_nil (thn_n ?_)))))
  refine EC_ret (thn_r ?_)
  refine fin2 Tryz.results21 (show _ = .slice none 0 0 from rfl) (show _ = .int .i64 11 from rfl) ⟨_, rfl, ?_⟩
  have S15 : Sat w I (RefT (ptr b) L :: R) := RefT.cls S0
  rw [show sealB L k n x = [] from by simp [sealB, hz], show sealL L k n o x = L from by simp [sealL, hz]]
  have S17 : Sat w I (OwnB (.slice none 0 0) ([] : List UInt8) :: RefT (ptr b) L :: R) := S15.nil 5 1
  exact ⟨(.slice none 0 0), I, (Gh.le_refl _), (by simp [sealE, hz]), S17⟩
  have hz : szOk k n = true := by rw [szOk_iff]; simp at h14; omega
  refine EC_skip (thn_n (EC_seq (EC_reg (vM (ptr b) rfl rfl (vM (ptr b) rfl rfl ?_)))))
  refine vl (ptr b) rfl (r_nil rfl) (vl (ptr b 0) rfl (fP 0 rfl U30 (by kernel_rfl)) (vL lv rfl rfl (S0.arr 0 rfl) rfl U28 rfl (vM v0 rfl rfl (vM v1 rfl rfl (vM v2 rfl rfl ?_)))))
  refine vM v3 rfl rfl (vl (.agg ([.int .i64 66, v0, v1, v2, v3]).toArray) rfl (r_buildS (l := [(0, .int .i64 66), (1, v0), (2, v1), (3, v2), (4, v3)]) st_78 (parts5 rfl rfl rfl rfl rfl) (Eq.trans (show Instr.fill _ _ [(0, .int .i64 66), (1, v0), (2, v1), (3, v2), (4, v3)] = _ from (fill_one rfl rfl rfl (fill_one rfl (row_cells (Q0 _ S0.le)) rfl (fill_one rfl (row_cells (Q1 _ S0.le)) rfl (fill_one rfl (row_cells (Q2 _ S0.le)) rfl (fill_one rfl (row_cells (Q3 _ S0.le)) rfl fill_end)))))) (by kernel_rfl))) ?_)
  refine EL_litW (z := #[.int .i64 0, .slice none 0 0, .slice none 0 0, .slice none 0 0, .slice none 0 0]) (cs := ([.int .i64 66, v0, v1, v2, v3]).toArray) (sz := 5) (l := [(0, .agg ([.int .i64 66, v0, v1, v2, v3]).toArray)]) rfl U28 (by kernel_rfl) (parts1 rfl) (by kernel_rfl) rfl (by decide) ?_
  intro v18 w19 O20 B21 k22
  have S23 : Sat w19 I (OwnX 78 thR v18 [(⟨66, k, n, x, o⟩ : Thing)] :: Blk b 30 [lv] :: OwnX 78 thR lv L :: R) := OwnX.cls (xss := [[.int .i64 66, v0, v1, v2, v3]]) (.cons ⟨v0, v1, v2, v3, rfl, ⟨(row_one (Q0 _ S0.le)), Q0⟩, ⟨(row_one (Q1 _ S0.le)), Q1⟩, ⟨(row_one (Q2 _ S0.le)), Q2⟩, ⟨(row_one (Q3 _ S0.le)), Q3⟩⟩ .nil) (S0.newO B21 O20)
  have oH30 := (OwnX.one S23 0 rfl (by decide))
  obtain ⟨I27, le28, S29, H30⟩ := S23.fx0 (by decide)
  have S31 := S29.fr1
  refine EL_appX (z := (.agg #[.int .i64 0, .slice none 0 0, .slice none 0 0, .slice none 0 0, .slice none 0 0])) (bytes := 104) rfl U28 (by kernel_rfl) rfl (by decide) rfl rfl S31 H30 (by first | omega | (simp; done) | (simp only [List.length_cons, List.length_nil]; omega) | (rw [List.length_append]; simp only [List.length_cons, List.length_nil]; omega) | (simp; omega)) (by first | omega | (simp; done) | (simp only [List.length_cons, List.length_nil]; omega) | (rw [List.length_append]; simp only [List.length_cons, List.length_nil]; omega) | (simp; omega)) ?_
  intro v24 w25 S26
  refine vl (ptr b) rfl (r_nil rfl) (vl (ptr b 0) rfl (fP 0 rfl U30 (by kernel_rfl)) ?_)
  refine EL_storeA (j := 0) (u := v24) rfl rfl (S26.arr 1 rfl) (by first | decide | (simp; omega) | simp) (OwnX.one S26 0 rfl (by decide)) (by kernel_rfl) ?_
  intro w32 A33 K34 z35
  have S36 := S26.wr1 (ds := [v24]) K34 A33
  refine EL_nil (thn_n (EC_seq (EC_reg (vM (ptr b) rfl rfl (vl (ptr b) rfl (r_nil rfl) ?_)))))
  refine vl (ptr b 0) rfl (fP 0 rfl U30 (by kernel_rfl)) (vL v24 rfl rfl (S36.arr 1 rfl) rfl U28 rfl (vl (.int .i64 ((L ++ [(⟨66, k, n, x, o⟩ : Thing)]).length : Int)) rfl (r_lenX rfl (OwnX.row S36 0 rfl (by decide)).1 U28) (vM v3 rfl rfl (vl (.int .i64 (x.length : Int)) rfl (lenB (r_len rfl (Q3 _ (lT le28 S36.le)) U22)) ?_))))
  refine eR rfl F61 rfl (rbox_c ((L ++ [(⟨66, k, n, x, o⟩ : Thing)]).length : Int) (x.length : Int) I27 _ _ S36 (by first | assumption | omega | (simp; done) | (simp; omega)) (by first | assumption | omega | (simp; done) | (simp; omega))) ?_
  rintro _ w37 ⟨v39, rfl, S38⟩
  refine vA v39 rfl rfl (vA (.int .i64 0) rfl rfl (EL_nil (thn_n (EC_ret ?_))))
  refine fin2 Tryz.results21 (show _ = v39 from rfl) (show _ = .int .i64 0 from rfl) ⟨_, rfl, ?_⟩
  have S40 := S38.fr1
  have S41 := S40.fr2
  have S42 : Sat w37 I27 (RefT (ptr b) (L ++ [(⟨66, k, n, x, o⟩ : Thing)]) :: OwnB v39 (boxOf ((L ++ [(⟨66, k, n, x, o⟩ : Thing)]).length : Int) (x.length : Int).toNat) :: R) := RefT.cls S41
  have q44 : boxOf ((L ++ [(⟨66, k, n, x, o⟩ : Thing)]).length : Int) (x.length : Int).toNat = sealB L k n x := by rw [sealB, hz]; simp
  have S43 := S42.ab1 q44
  have q46 : L ++ [(⟨66, k, n, x, o⟩ : Thing)] = sealL L k n o x := by rw [sealL, hz]; rfl
  have S45 := Sat.ah0 (RefT (ptr b)) S43 q46
  have S47 := S45.fr1
  exact ⟨v39, I27, le28, (by simp [sealE, hz]), S47⟩

set_option maxRecDepth 100000 in
set_option maxHeartbeats 4000000 in
theorem rOpen_c (p : Value) (L : List Thing) (v0 : Value) (k : List UInt8) (v1 : Value) (n : List UInt8) (v2 : Value) (o : List UInt8) (v3 : Value) (x : List UInt8) (I : Gh) (R : List HP) (w : World) (S : Sat w I (RefT p L :: R)) (Q0 : RoB I v0 k) (Q1 : RoB I v1 n) (Q2 : RoB I v2 o) (Q3 : RoB I v3 x) (hl : L.length ≤ 1000000) (hk : k.length ≤ 1000000000) (hn : n.length ≤ 1000000000) (ho : o.length ≤ 1000000000) (hx : x.length ≤ 800000000) (hT : ∀ t ∈ L, t.text.length ≤ 800000000) : Ret Tryz.prog 52 [p, v0, v1, v2, v3] w fun v w' => ∃ v4 : Value, ∃ J : Gh, Gh.le I J ∧ .tuple #[v4, .int .i64 (openE L k n o x)] = v ∧ RoB J v4 (openB L k n o x) ∧ Sat w' J (RefT p L :: R) := by
  have lq0 := RoB.le Q0 S.le
  have lq1 := RoB.le Q1 S.le
  have lq2 := RoB.le Q2 S.le
  have lq3 := RoB.le Q3 S.le
  obtain ⟨b, lv, rfl, S0⟩ := RefT.opn S
  refine ret_E Tryz.func52 rfl Tryz.ntmps52 (by simp) ?_
  refine EC_seq (EC_reg (vA (.slice none 0 0) rfl rfl (vA (.int .i64 0) rfl rfl (EL_nil (thn_n ?_)))))
  refine EC_seq (EC_seq (EC_reg (vM v0 rfl rfl (vl (.int .i64 (k.length : Int)) rfl (lenB (r_len rfl (Q0 _ S0.le) U22)) (vl (.bool (decide ((k.length : Int) ≠ 32))) rfl (r_neq rfl rfl) ?_)))))
  refine vM (.bool (decide ((k.length : Int) ≠ 32))) rfl rfl (EL_gite 17 rfl rfl rfl v1 rfl (fun g11 => r_move rfl) (EL_gite 17 rfl rfl rfl (.int .i64 (n.length : Int)) rfl (fun g12 => lenB (r_len (cond_of g12 rfl) (Q1 _ S0.le) U22)) (EL_gite 17 rfl rfl rfl (.bool (decide ((n.length : Int) ≠ 12))) rfl (fun g13 => r_neq (cond_of g13 rfl) rfl) (vl (.bool ((decide ((k.length : Int) ≠ 32)) || (decide ((n.length : Int) ≠ 12)))) rfl (r_or rfl rfl rfl) (EL_nil ?_)))))
  refine thn_n ?_
  refine EC_cond (t := (decide ((k.length : Int) ≠ 32)) || (decide ((n.length : Int) ≠ 12))) rfl (fun h14 => ?_) (fun h14 => ?_)
  have hz : szOk k n = false := by rw [← Bool.not_eq_true, szOk_iff]; simp at h14; omega
  refine EC_seq (EC_reg (vA (.slice none 0 0) rfl rfl (vA (.int .i64 11) rfl rfl (EL_nil (thn_n ?_)))))
  refine EC_ret (thn_r ?_)
  refine fin2 Tryz.results52 (show _ = .slice none 0 0 from rfl) (show _ = .int .i64 11 from rfl) ⟨_, rfl, ?_⟩
  have S15 : Sat w I (RefT (ptr b) L :: R) := RefT.cls S0
  rw [show openB L k n o x = [] from by simp [openB, hz]]
  exact ⟨(.slice none 0 0), I, (Gh.le_refl _), (by simp [openE, hz]), Ro.nil, S15⟩
  have hz : szOk k n = true := by rw [szOk_iff]; simp at h14; omega
  refine EC_skip (thn_n (EC_seq (EC_seq (EC_reg (vA (.int .i64 0) rfl rfl ?_)))))
  refine EL_nil (thn_n (EC_block ?_))
  refine EC_loop (fun m' E' w' => ∃ j : Nat, ∃ J : Gh, m' = L.length - j ∧ E' 12 = .int .i64 (j : Int) ∧ E' 0 = ptr b ∧ E' 1 = v0 ∧ E' 2 = v1 ∧ E' 3 = v2 ∧ E' 4 = v3 ∧ (j ≤ L.length) ∧ (NoBox k n o x L j) ∧ Gh.le I J ∧ Sat w' J (Blk b 30 [lv] :: OwnX 78 thR lv L :: R)) _ ⟨0, I, rfl, rfl, rfl, rfl, rfl, rfl, rfl, Nat.zero_le _, NoBox.zero, (Gh.le_refl _), S0⟩ ?_
  rintro _ E16 w17 ⟨j, I18, rfl, e19, e20, e21, e22, e23, e24, hj, hN, le25, S26⟩
  refine EC_seq (EC_seq (EC_reg (vM (.int .i64 (j : Int)) rfl e19 (vM (ptr b) rfl e20 (vl (ptr b) rfl (r_nil rfl) ?_)))))
  refine vl (ptr b 0) rfl (fP 0 rfl U30 (by kernel_rfl)) (vL lv rfl rfl (S26.arr 0 rfl) rfl U28 rfl (vl (.int .i64 (L.length : Int)) rfl (r_lenX rfl (OwnX.row S26 1 rfl (by decide)).1 U28) (vl (.bool (decide ((j : Int) < (L.length : Int)))) rfl (r_lss rfl rfl) (EL_nil (thn_n ?_)))))
  refine EC_if (p := (j : Int) < (L.length : Int)) rfl (fun h27 => ?_) (fun h27 => ?_)
  refine EC_skip (thn_n (EC_seq (EC_block (EC_seq (EC_reg ?_)))))
  refine vM (ptr b) rfl e20 (vl (ptr b) rfl (r_nil rfl) (vl (ptr b 0) rfl (fP 0 rfl U30 (by kernel_rfl)) (vL lv rfl rfl (S26.arr 0 rfl) rfl U28 rfl (vM (.int .i64 (j : Int)) rfl e19 (vl (ptr (blkOf lv) (offOf lv + ((j : Int) : Int).toNat * 5)) rfl (r_indexX rfl (OwnX.row S26 1 rfl (by decide)).1 rfl (by omega) (by first | omega | (simp; omega) | simp) U28 (by kernel_rfl)) ?_)))))
  obtain ⟨a28, ha29⟩ := get_some (l := L) (j := ((j : Int) : Int).toNat) (by first | omega | (simp; omega) | simp)
  obtain ⟨cs30, hc31, he32⟩ := (OwnX.row S26 1 rfl (by decide)).2 _ _ ha29
  obtain ⟨v33, v36, v39, v42, rfl, ⟨o34, H35⟩, ⟨o37, H38⟩, ⟨o40, H41⟩, ⟨o43, H44⟩⟩ := hc31
  refine vl (.agg ([.int .i64 (a28.sort.toNat : Int), v33, v36, v39, v42]).toArray) rfl (r_loadR (cs := [.int .i64 (a28.sort.toNat : Int), v33, v36, v39, v42]) rfl he32 U78 rfl (by kernel_rfl)) ?_
  refine EL_alloc (z := .agg #[.int .i64 0, .slice none 0 0, .slice none 0 0, .slice none 0 0, .slice none 0 0]) [.int .i64 0, .slice none 0 0, .slice none 0 0, .slice none 0 0, .slice none 0 0] rfl (by kernel_rfl) rfl ?_
  intro b45 w46 k47 A48 B49 z50
  have S51 := S26.newB B49 A48 k47
  refine sA [.int .i64 (a28.sort.toNat : Int), v33, v36, v39, v42] rfl rfl (S51.arr 0 rfl) rfl (by kernel_rfl) (ones_cons rfl (ones_cons o34 (ones_cons o37 (ones_cons o40 (ones_cons o43 (fun _ h => nomatch h)))))) ?_
  intro w52 A53 K54 z55
  have S56 := S51.wr0 (ds := [.int .i64 (a28.sort.toNat : Int), v33, v36, v39, v42]) K54 A53
  refine EL_nil (thn_n (EC_seq ?_))
  rcases Classical.em (a28.sort = 66) with hA | hA
  have htx := hT _ (List.mem_of_getElem? ha29)
  refine EC_any 9 (fun w' => Gh.le I18 (gh w')) (fun w' => Arr w' b45 78 [.int .i64 (a28.sort.toNat : Int), v33, v36, v39, v42]) (by kernel_rfl) ?_
  intro w57 B58
  have S59 := S56.below B58
  refine jT 0 rfl (by kernel_rfl) (ptr b45 0) rfl (fun _ hw ht => fP 0 rfl U78 (by kernel_rfl)) ⟨S59.le, fun h => S59.arr 0 rfl⟩ ?_
  refine jT 1 rfl (by kernel_rfl) (.int .i64 (a28.sort.toNat : Int)) rfl (fun _ hw ht => r_loadA rfl ht (u := (.int .i64 (a28.sort.toNat : Int))) rfl U3 rfl) ⟨S59.le, fun h => S59.arr 0 rfl⟩ ?_
  refine jT 2 rfl (by kernel_rfl) (.bool true) rfl (fun _ hw ht => r_dec (show (decide ((a28.sort.toNat : Int) = 66)) = true from (by rw [hA]; rfl)) (r_eql rfl rfl)) ⟨S59.le, fun h => S59.arr 0 rfl⟩ ?_
  refine jT 3 rfl (by kernel_rfl) (.bool true) rfl (fun _ hw ht => r_move rfl) ⟨S59.le, fun h => S59.arr 0 rfl⟩ ?_
  refine jG 4 rfl (by kernel_rfl) 41 rfl rfl rfl rfl (.int .i64 (j : Int)) rfl (fun _ hw ht => r_move (by exact e19)) ⟨S59.le, fun h => S59.arr 0 rfl⟩ ?_
  obtain ⟨x60, hx60⟩ : ∃ z : Int, z = (j : Int) + 1 := ⟨_, rfl⟩
  refine jG 5 rfl (by kernel_rfl) 41 rfl rfl rfl rfl (.int .i64 x60) rfl (fun _ hw ht => by rw [hx60]; exact r_addi rfl rfl (by omega)) ⟨S59.le, fun h => S59.arr 0 rfl⟩ ?_
  refine jG 6 rfl (by kernel_rfl) 41 rfl rfl rfl rfl (ptr b45 4) rfl (fun _ hw ht => fP 0 rfl U78 (by kernel_rfl)) ⟨S59.le, fun h => S59.arr 0 rfl⟩ ?_
  refine jG 7 rfl (by kernel_rfl) 41 rfl rfl rfl rfl v42 rfl (fun _ hw ht => r_loadA rfl ht (u := v42) rfl U22 rfl) ⟨S59.le, fun h => S59.arr 0 rfl⟩ ?_
  refine jG 8 rfl (by kernel_rfl) 41 rfl rfl rfl rfl (.int .i64 (a28.text.length : Int)) rfl (fun _ hw ht => lenB (r_len rfl (H44 _ hw) U22)) ⟨S59.le, fun h => S59.arr 0 rfl⟩ ?_
  refine EJ_gfloat 11 rfl (by kernel_rfl) (by kernel_rfl) (by kernel_rfl) rfl 41 rfl rfl rfl rfl v3 rfl (fun _ hw => r_move (by exact e24)) ⟨S59.le, fun h => S59.arr 0 rfl⟩ ?_
  refine EJ_gfloat 12 rfl (by kernel_rfl) (by kernel_rfl) (by kernel_rfl) rfl 41 rfl rfl rfl rfl (.string (str x)) rfl (fun _ hw => r_str rfl (Q3 _ (lT le25 hw)) U22 U5 U9) ⟨S59.le, fun h => S59.arr 0 rfl⟩ ?_
  refine EJ_one 9 (by kernel_rfl) ⟨_, rfl, ?_⟩
  refine eG 41 rfl rfl rfl rfl rfl F61 rfl (rbox_c x60 (a28.text.length : Int) I18 _ _ S59 (by first | assumption | omega | (simp; done) | (simp; omega)) (by first | assumption | omega | (simp; done) | (simp; omega))) ?_
  rintro _ w61 ⟨v63, rfl, S62⟩
  refine EL_nil ?_
  refine ⟨rfl, ⟨S62.le, fun h => by cases h⟩, ?_⟩
  obtain ⟨I64, le65, S66, H67⟩ := S62.fb0
  refine EJ_strong (fun w' => Gh.le I64 (gh w')) _ (fun w' hw => lT le65 hw) (fun w' _ ht => ht) ?_
  refine EJ_gfloat 10 rfl (by kernel_rfl) (by kernel_rfl) (by kernel_rfl) rfl 41 rfl rfl rfl rfl (.string (str (boxOf x60 (a28.text.length : Int).toNat))) rfl (fun _ hw => r_str rfl (H67 _ hw) U22 U5 U9) ⟨S66.le, fun h => by cases h⟩ ?_
  refine EJ_gfloat 13 rfl (by kernel_rfl) (by kernel_rfl) (by kernel_rfl) rfl 41 rfl rfl rfl rfl (.bool (decide ((boxOf x60 (a28.text.length : Int).toNat) = x))) rfl (fun _ hw => r_eqls rfl rfl) ⟨S66.le, fun h => by cases h⟩ ?_
  refine jF 14 rfl (by kernel_rfl) (.bool (decide ((boxOf x60 (a28.text.length : Int).toNat) = x))) rfl (fun _ hw => r_pickT rfl rfl) ⟨S66.le, fun h => by cases h⟩ ?_
  refine jF 15 rfl (by kernel_rfl) (.bool (decide ((boxOf x60 (a28.text.length : Int).toNat) = x))) rfl (fun _ hw => r_move rfl) ⟨S66.le, fun h => by cases h⟩ ?_
  refine EJ_gite 16 rfl (by kernel_rfl) (by kernel_rfl) (by kernel_rfl) rfl 53 rfl rfl rfl (ptr b45 1) rfl (fun g68 _ hw => fP 0 rfl U78 (by kernel_rfl)) ⟨S66.le, fun h => by cases h⟩ ?_
  obtain ⟨I69, le70, S71, H72⟩ := S66.fk0
  refine EJ_strong (fun w' => Gh.le I69 (gh w')) _ (fun w' hw => lT le70 hw) (fun w' _ ht => ht) ?_
  refine EJ_gite 17 rfl (by kernel_rfl) (by kernel_rfl) (by kernel_rfl) rfl 53 rfl rfl rfl v33 rfl (fun g73 _ hw => r_loadA (cond_of g73 rfl) (H72 _ hw) (u := v33) rfl U22 rfl) ⟨S71.le, fun h => by cases h⟩ ?_
  refine EJ_gite 18 rfl (by kernel_rfl) (by kernel_rfl) (by kernel_rfl) rfl 53 rfl rfl rfl (.string (str a28.key)) rfl (fun g74 _ hw => r_str (cond_of g74 rfl) (H35 _ (lT (lT le65 le70) hw)) U22 U5 U9) ⟨S71.le, fun h => by cases h⟩ ?_
  refine EJ_gite 19 rfl (by kernel_rfl) (by kernel_rfl) (by kernel_rfl) rfl 53 rfl rfl rfl v0 rfl (fun g75 _ hw => r_move (by exact e21)) ⟨S71.le, fun h => by cases h⟩ ?_
  refine EJ_gite 20 rfl (by kernel_rfl) (by kernel_rfl) (by kernel_rfl) rfl 53 rfl rfl rfl (.string (str k)) rfl (fun g76 _ hw => r_str (cond_of g76 rfl) (Q0 _ (lT (lT (lT le25 le65) le70) hw)) U22 U5 U9) ⟨S71.le, fun h => by cases h⟩ ?_
  refine EJ_gite 21 rfl (by kernel_rfl) (by kernel_rfl) (by kernel_rfl) rfl 53 rfl rfl rfl (.bool (decide (a28.key = k))) rfl (fun g77 _ hw => r_eqls (cond_of g77 rfl) (cond_of g77 rfl)) ⟨S71.le, fun h => by cases h⟩ ?_
  refine jF 22 rfl (by kernel_rfl) (.bool ((decide ((boxOf x60 (a28.text.length : Int).toNat) = x)) && (decide (a28.key = k)))) rfl (fun _ hw => r_and rfl rfl rfl) ⟨S71.le, fun h => by cases h⟩ ?_
  refine jF 23 rfl (by kernel_rfl) (.bool ((decide ((boxOf x60 (a28.text.length : Int).toNat) = x)) && (decide (a28.key = k)))) rfl (fun _ hw => r_move rfl) ⟨S71.le, fun h => by cases h⟩ ?_
  refine EJ_gite 24 rfl (by kernel_rfl) (by kernel_rfl) (by kernel_rfl) rfl 61 rfl rfl rfl (ptr b45 2) rfl (fun g78 _ hw => fP 0 rfl U78 (by kernel_rfl)) ⟨S71.le, fun h => by cases h⟩ ?_
  refine EJ_gite 25 rfl (by kernel_rfl) (by kernel_rfl) (by kernel_rfl) rfl 61 rfl rfl rfl v36 rfl (fun g79 _ hw => r_loadA (cond_of g79 rfl) (H72 _ hw) (u := v36) rfl U22 rfl) ⟨S71.le, fun h => by cases h⟩ ?_
  refine EJ_gite 26 rfl (by kernel_rfl) (by kernel_rfl) (by kernel_rfl) rfl 61 rfl rfl rfl (.string (str a28.nonce)) rfl (fun g80 _ hw => r_str (cond_of g80 rfl) (H38 _ (lT (lT le65 le70) hw)) U22 U5 U9) ⟨S71.le, fun h => by cases h⟩ ?_
  refine EJ_gite 27 rfl (by kernel_rfl) (by kernel_rfl) (by kernel_rfl) rfl 61 rfl rfl rfl v1 rfl (fun g81 _ hw => r_move (by exact e22)) ⟨S71.le, fun h => by cases h⟩ ?_
  refine EJ_gite 28 rfl (by kernel_rfl) (by kernel_rfl) (by kernel_rfl) rfl 61 rfl rfl rfl (.string (str n)) rfl (fun g82 _ hw => r_str (cond_of g82 rfl) (Q1 _ (lT (lT (lT le25 le65) le70) hw)) U22 U5 U9) ⟨S71.le, fun h => by cases h⟩ ?_
  refine EJ_gite 29 rfl (by kernel_rfl) (by kernel_rfl) (by kernel_rfl) rfl 61 rfl rfl rfl (.bool (decide (a28.nonce = n))) rfl (fun g83 _ hw => r_eqls (cond_of g83 rfl) (cond_of g83 rfl)) ⟨S71.le, fun h => by cases h⟩ ?_
  refine jF 30 rfl (by kernel_rfl) (.bool (((decide ((boxOf x60 (a28.text.length : Int).toNat) = x)) && (decide (a28.key = k))) && (decide (a28.nonce = n)))) rfl (fun _ hw => r_and rfl rfl rfl) ⟨S71.le, fun h => by cases h⟩ ?_
  refine jF 31 rfl (by kernel_rfl) (.bool (((decide ((boxOf x60 (a28.text.length : Int).toNat) = x)) && (decide (a28.key = k))) && (decide (a28.nonce = n)))) rfl (fun _ hw => r_move rfl) ⟨S71.le, fun h => by cases h⟩ ?_
  refine EJ_gite 32 rfl (by kernel_rfl) (by kernel_rfl) (by kernel_rfl) rfl 69 rfl rfl rfl (ptr b45 3) rfl (fun g84 _ hw => fP 0 rfl U78 (by kernel_rfl)) ⟨S71.le, fun h => by cases h⟩ ?_
  refine EJ_gite 33 rfl (by kernel_rfl) (by kernel_rfl) (by kernel_rfl) rfl 69 rfl rfl rfl v39 rfl (fun g85 _ hw => r_loadA (cond_of g85 rfl) (H72 _ hw) (u := v39) rfl U22 rfl) ⟨S71.le, fun h => by cases h⟩ ?_
  refine EJ_gite 34 rfl (by kernel_rfl) (by kernel_rfl) (by kernel_rfl) rfl 69 rfl rfl rfl (.string (str a28.other)) rfl (fun g86 _ hw => r_str (cond_of g86 rfl) (H41 _ (lT (lT le65 le70) hw)) U22 U5 U9) ⟨S71.le, fun h => by cases h⟩ ?_
  refine EJ_gite 35 rfl (by kernel_rfl) (by kernel_rfl) (by kernel_rfl) rfl 69 rfl rfl rfl v2 rfl (fun g87 _ hw => r_move (by exact e23)) ⟨S71.le, fun h => by cases h⟩ ?_
  refine EJ_gite 36 rfl (by kernel_rfl) (by kernel_rfl) (by kernel_rfl) rfl 69 rfl rfl rfl (.string (str o)) rfl (fun g88 _ hw => r_str (cond_of g88 rfl) (Q2 _ (lT (lT (lT le25 le65) le70) hw)) U22 U5 U9) ⟨S71.le, fun h => by cases h⟩ ?_
  refine EJ_gite 37 rfl (by kernel_rfl) (by kernel_rfl) (by kernel_rfl) rfl 69 rfl rfl rfl (.bool (decide (a28.other = o))) rfl (fun g89 _ hw => r_eqls (cond_of g89 rfl) (cond_of g89 rfl)) ⟨S71.le, fun h => by cases h⟩ ?_
  refine jF 38 rfl (by kernel_rfl) (.bool ((((decide ((boxOf x60 (a28.text.length : Int).toNat) = x)) && (decide (a28.key = k))) && (decide (a28.nonce = n))) && (decide (a28.other = o)))) rfl (fun _ hw => r_and rfl rfl rfl) ⟨S71.le, fun h => by cases h⟩ ?_
  refine EJ_done (by kernel_rfl) ?_
  refine thn_n ?_
  refine EC_cond (t := (((decide ((boxOf x60 (a28.text.length : Int).toNat) = x)) && (decide (a28.key = k))) && (decide (a28.nonce = n))) && (decide (a28.other = o))) rfl (fun h90 => ?_) (fun h90 => ?_)
  have hcc : boxOf ((j : Int) + 1) a28.text.length = x ∧ a28.key = k ∧ a28.nonce = n ∧ a28.other = o := by simpa [and_assoc, hx60] using h90
  have hix := open_fits ha29 (by omega) ⟨box_thing.1 ⟨hA, hcc.2⟩, hcc.1⟩
  refine EC_seq (EC_reg (vl (ptr b45 4) rfl (fP 0 rfl U78 (by kernel_rfl)) (vL v42 rfl rfl (H72 _ S71.le) rfl U22 rfl (vA v42 rfl rfl (vA (.int .i64 0) rfl rfl ?_)))))
  refine EL_nil (thn_n (EC_ret (inB_r (thn_r (thn_r ?_)))))
  refine inB_r (thn_r ?_)
  refine fin2 Tryz.results52 (show _ = v42 from rfl) (show _ = .int .i64 0 from rfl) ⟨_, rfl, ?_⟩
  have S91 : Sat w61 I69 (RefT (ptr b) L :: R) := RefT.cls S71
  rw [show openB L k n o x = a28.text from by simp [openB, hz, hix]]
  exact ⟨v42, I69, (lT (lT le25 le65) le70), (by simp [openE, hz, hix]), (H44.up (lT le65 le70)), S91⟩
  have hat : ¬ (a28 = tBox k n o a28.text ∧ boxOf ((j : Int) + 1) a28.text.length = x) := fun e => by have e2 := box_thing.2 e.1; have e3 : boxOf ((j : Int) + 1) a28.text.length = x ∧ a28.key = k ∧ a28.nonce = n ∧ a28.other = o := ⟨e.2, e2.2⟩; simp [hx60, e3] at h90
  refine EC_skip (inB_n (thn_n (EC_reg (vM (.int .i64 (j : Int)) rfl e19 ?_))))
  refine EL_int ((j : Int) + 1) rfl (r_addi rfl rfl (by omega)) ?_
  intro x92 hx92
  refine vA (.int .i64 x92) rfl rfl (EL_nil (thn_n ?_))
  refine ⟨_, ?_, j + 1, I69, rfl, (Eq.trans (show _ = Value.int .i64 x92 from rfl) (congrArg _ (by omega))), (by exact e20), (by exact e21), (by exact e22), (by exact e23), (by exact e24), by omega, hN.next ha29 hat, (lT (lT le25 le65) le70), S71⟩
  first | omega | (simp; omega)
  have hat : ¬ (a28 = tBox k n o a28.text ∧ boxOf ((j : Int) + 1) a28.text.length = x) := fun e => hA (by rw [e.1])
  refine EC_quietB (by kernel_rfl) (by kernel_rfl) ?_
  refine EQ_val (ptr b45 0) rfl (fun _ hw => fP 0 rfl U78 (by kernel_rfl)) (EQ_val (.int .i64 (a28.sort.toNat : Int)) rfl (fun _ hw => r_loadA rfl ((S56.arr 0 rfl).below hw) (u := (.int .i64 (a28.sort.toNat : Int))) rfl U3 rfl) (EQ_val (.bool false) rfl (fun _ hw => r_dec (show (decide ((a28.sort.toNat : Int) = 66)) = false from (sort_ne hA)) (r_eql rfl rfl)) (qM (.bool false) rfl rfl (EQ_pass 41 rfl rfl rfl rfl rfl (EQ_pass 41 rfl rfl rfl rfl rfl ?_)))))
  refine EQ_pass 41 rfl rfl rfl rfl rfl (EQ_pass 41 rfl rfl rfl rfl rfl (EQ_pass 41 rfl rfl rfl rfl rfl (EQ_pass 41 rfl rfl rfl rfl rfl (EQ_pass 41 rfl rfl rfl rfl rfl (EQ_pass 41 rfl rfl rfl rfl rfl ?_)))))
  refine EQ_pass 41 rfl rfl rfl rfl rfl (EQ_pass 41 rfl rfl rfl rfl rfl (EQ_val (.bool false) rfl (fun _ hw => r_pickF rfl rfl) (qM (.bool false) rfl rfl (EQ_pass 53 rfl rfl rfl rfl rfl (EQ_pass 53 rfl rfl rfl rfl rfl ?_)))))
  refine EQ_pass 53 rfl rfl rfl rfl rfl (EQ_pass 53 rfl rfl rfl rfl rfl (EQ_pass 53 rfl rfl rfl rfl rfl (EQ_pass 53 rfl rfl rfl rfl rfl (EQ_val (.bool false) rfl (fun _ hw => r_pickF rfl rfl) (qM (.bool false) rfl rfl ?_)))))
  refine EQ_pass 61 rfl rfl rfl rfl rfl (EQ_pass 61 rfl rfl rfl rfl rfl (EQ_pass 61 rfl rfl rfl rfl rfl (EQ_pass 61 rfl rfl rfl rfl rfl (EQ_pass 61 rfl rfl rfl rfl rfl (EQ_pass 61 rfl rfl rfl rfl rfl ?_)))))
  refine EQ_val (.bool false) rfl (fun _ hw => r_pickF rfl rfl) (qM (.bool false) rfl rfl (EQ_pass 69 rfl rfl rfl rfl rfl (EQ_pass 69 rfl rfl rfl rfl rfl (EQ_pass 69 rfl rfl rfl rfl rfl (EQ_pass 69 rfl rfl rfl rfl rfl ?_)))))
  refine EQ_pass 69 rfl rfl rfl rfl rfl (EQ_pass 69 rfl rfl rfl rfl rfl (EQ_val (.bool false) rfl (fun _ hw => r_pickF rfl rfl) ?_))
  refine EQ_nil ?_
  intro w93 B94
  have S95 := S56.below B94
  refine thn_n ?_
  refine EC_cond_false rfl ?_
  refine EC_skip (inB_n (thn_n (EC_reg (vM (.int .i64 (j : Int)) rfl e19 ?_))))
  refine EL_int ((j : Int) + 1) rfl (r_addi rfl rfl (by omega)) ?_
  intro x96 hx96
  refine vA (.int .i64 x96) rfl rfl (EL_nil (thn_n ?_))
  have S97 := S95.dr0
  refine ⟨_, ?_, j + 1, I18, rfl, (Eq.trans (show _ = Value.int .i64 x96 from rfl) (congrArg _ (by omega))), (by exact e20), (by exact e21), (by exact e22), (by exact e23), (by exact e24), by omega, hN.next ha29 hat, le25, S97⟩
  first | omega | (simp; omega)
  refine EC_exit (thn_x (thn_x (inB_hit (thn_n (EC_seq ?_)))))
  refine EC_reg (vA (.slice none 0 0) rfl rfl (vA (.int .i64 20) rfl rfl (EL_nil (thn_n (EC_ret ?_)))))
  refine fin2 Tryz.results52 (show _ = .slice none 0 0 from rfl) (show _ = .int .i64 20 from rfl) ⟨_, rfl, ?_⟩
  have S98 : Sat w17 I18 (RefT (ptr b) L :: R) := RefT.cls S26
  have hix : openOf L k n o x = none := open_no (by rwa [show L.length = j by omega])
  rw [show openB L k n o x = [] from by simp [openB, hz, hix]]
  exact ⟨(.slice none 0 0), I18, le25, (by simp [openE, hz, hix]), Ro.nil, S98⟩

end Go.Proofs.YtoajodjcmeijgaaGreat
