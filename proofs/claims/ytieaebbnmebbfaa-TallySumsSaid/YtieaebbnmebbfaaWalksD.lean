import Derived.Test.YtieaebbnmebbfaaWalksC
set_option linter.unusedVariables false
set_option linter.unusedSimpArgs false
set_option exponentiation.threshold 2000
namespace Go.Proofs.Ytieaebbnmebbfaa
open Go.RowKit Go.Ecal
def cv (p : Nat × Nat) : Value := .complex .f64 p.1 p.2
theorem cv_get {l : List (Nat × Nat)} {j : Nat} {p : Nat × Nat} (h : l[j]? = some p) : (l.map cv)[j]? = some (.complex .f64 p.1 p.2) := by simp [h, cv]
def StepsOf (l : List (Nat × Nat)) (ls : List (Int × Int)) : Prop := l.length = ls.length ∧ ∀ (j : Nat) (p : Nat × Nat), l[j]? = some p → ∃ q : Int × Int, ls[j]? = some q ∧ Fw p.1 q.1 ∧ Fw p.2 q.2 ∧ (-1099511627776 ≤ q.1 ∧ q.1 ≤ 1099511627776 ∧ -1099511627776 ≤ q.2 ∧ q.2 ≤ 1099511627776)
def smS (a b : Int) : List (Int × Int) → Option (Int × Int)
  | [] => some (a, b)
  | q :: l => if (0 : Int) ≤ a + q.1 ∧ a + q.1 ≤ 1099511627776 ∧ (0 : Int) ≤ b + q.2 ∧ b + q.2 ≤ 1099511627776 then smS (a + q.1) (b + q.2) l else none
theorem smS_step {ls : List (Int × Int)} {k : Nat} {q : Int × Int} {a b : Int} (h : ls[k]? = some q) (ht : (0 : Int) ≤ a + q.1 ∧ a + q.1 ≤ 1099511627776 ∧ (0 : Int) ≤ b + q.2 ∧ b + q.2 ≤ 1099511627776) : smS a b (ls.drop k) = smS (a + q.1) (b + q.2) (ls.drop (k + 1)) := by
  obtain ⟨hlt, rfl⟩ := List.getElem?_eq_some_iff.1 h
  rw [List.drop_eq_getElem_cons hlt, smS, if_pos ht]
theorem smS_none {ls : List (Int × Int)} {k : Nat} {q : Int × Int} {a b : Int} (h : ls[k]? = some q) (ht : ¬ ((0 : Int) ≤ a + q.1 ∧ a + q.1 ≤ 1099511627776 ∧ (0 : Int) ≤ b + q.2 ∧ b + q.2 ≤ 1099511627776)) : smS a b (ls.drop k) = none := by
  obtain ⟨hlt, rfl⟩ := List.getElem?_eq_some_iff.1 h
  rw [List.drop_eq_getElem_cons hlt, smS, if_neg ht]

set_option maxRecDepth 100000 in
set_option maxHeartbeats 4000000 in
theorem Sum_ok (x : Nat) (a : Int) (y : Nat) (b : Int) (v1 : Value) (l : List (Nat × Nat)) (ls : List (Int × Int)) (hl : StepsOf l ls) (w : World) (Fx : Fw x a) (Fy : Fw y b) (ba : a.natAbs < 9007199254740992) (bb : b.natAbs < 9007199254740992) (H1 : Row w v1 (l.map cv)) (h : (0 : Int) ≤ a ∧ a ≤ 1099511627776 ∧ (0 : Int) ≤ b ∧ b ≤ 1099511627776) (rx ry : Int) (hr : smS a b ls = some (rx, ry)) : Ret Try.prog 18 [.complex .f64 x y, v1] w fun v w' => ∃ z1 z2, v = .tuple #[.complex .f64 z1 z2, .int .i64 0] ∧ Fw z1 rx ∧ Fw z2 ry ∧ w = w' := by
  have hl1 := hl.1
  have hlen := H1.len_le
  simp only [List.length_map] at hlen
  have hmap : (l.map cv).length = l.length := by simp
  refine ret_E Try.func18 rfl Try.ntmps18 (by simp) ?_
  refine EC_seq ?_
  refine EC_reg ?_
  refine EL_val (.complex .f64 0 0) w rfl (r_assign rfl) ?_
  refine EL_val (.int .i64 0) w rfl (r_assign rfl) ?_
  refine EL_nil ?_
  refine thn_n ?_
  refine EC_scope (fun l' m' E' w' => (l' = 0 ∧ ∃ k : Int, ∃ u : Nat, ∃ v : Nat, ∃ ca : Int, ∃ cb : Int, m' = (l.length - k).toNat ∧ E' 8 = .int .i64 k ∧ E' 0 = .complex .f64 u v ∧ E' 1 = v1 ∧ (0 ≤ k ∧ k ≤ (l.length : Int)) ∧ (Fw u ca) ∧ (Fw v cb) ∧ ((0 : Int) ≤ ca ∧ ca ≤ 1099511627776 ∧ (0 : Int) ≤ cb ∧ cb ≤ 1099511627776) ∧ (smS ca cb (ls.drop k.toNat) = smS a b ls) ∧ w = w')) (l.length + 2) ?_ ?_
  · refine EC_seq ?_
    refine EC_seq ?_
    refine EC_reg ?_
    refine EL_val (.complex .f64 x y) w rfl (r_move rfl) ?_
    refine EL_ret [.complex .f64 x y] rfl Try.func21 rfl nm21 rfl (tally_c x a y b w Fx Fy (by omega) (by omega)) ?_
    rintro _ _ ⟨rfl, rfl⟩
    refine EL_val (.bool (!(decide ((0 : Int) ≤ a ∧ a ≤ 1099511627776 ∧ (0 : Int) ≤ b ∧ b ≤ 1099511627776)))) w rfl (r_not rfl) ?_
    refine EL_nil ?_
    refine thn_n ?_
    refine EC_cond_false (Eq.trans (show _ = Value.bool (!(decide ((0 : Int) ≤ a ∧ a ≤ 1099511627776 ∧ (0 : Int) ≤ b ∧ b ≤ 1099511627776))) from rfl) (congrArg Value.bool (show (!(decide ((0 : Int) ≤ a ∧ a ≤ 1099511627776 ∧ (0 : Int) ≤ b ∧ b ≤ 1099511627776))) = false from by simp; omega))) ?_
    refine EC_skip ?_
    refine thn_n ?_
    refine EC_seq ?_
    refine EC_seq ?_
    refine EC_reg ?_
    refine EL_val v1 w rfl (r_move rfl) ?_
    refine EL_val (.int .i64 ((l.map cv).length : Int)) w rfl (r_len rfl H1 Try.underlying40) ?_
    refine EL_val (.int .i64 0) w rfl (r_move rfl) ?_
    refine EL_nil ?_
    refine thn_n ?_
    refine EC_block ?_
    refine EC_loop (fun m' E' w' => ∃ i : Int, m' = (l.length - i).toNat ∧ E' 14 = .int .i64 i ∧ E' 0 = .complex .f64 x y ∧ E' 1 = v1 ∧ E' 9 = .complex .f64 x y ∧ E' 10 = .bool (decide ((0 : Int) ≤ a ∧ a ≤ 1099511627776 ∧ (0 : Int) ≤ b ∧ b ≤ 1099511627776)) ∧ E' 11 = .bool (!(decide ((0 : Int) ≤ a ∧ a ≤ 1099511627776 ∧ (0 : Int) ≤ b ∧ b ≤ 1099511627776))) ∧ E' 12 = v1 ∧ E' 13 = .int .i64 ((l.map cv).length : Int) ∧ (0 ≤ i ∧ i ≤ (l.length : Int)) ∧ w = w') _ ⟨0, rfl, rfl, rfl, rfl, rfl, rfl, rfl, rfl, rfl, by omega, rfl⟩ ?_
    rintro _ E11 w12 ⟨i, rfl, e13, e14, e15, e16, e17, e18, e19, e20, hi, rfl⟩
    refine EC_seq ?_
    refine EC_reg ?_
    refine EL_val (.bool (decide (i < ((l.map cv).length : Int)))) w rfl (r_lss (by exact e13) (by exact e20)) ?_
    refine EL_nil ?_
    refine thn_n ?_
    refine EC_seq ?_
    refine EC_if (p := i < ((l.map cv).length : Int)) rfl (fun h21 => ?_) (fun h21 => ?_)
    · refine EC_skip ?_
      refine thn_n ?_
      refine EC_seq ?_
      refine EC_block ?_
      refine EC_seq ?_
      refine EC_reg ?_
      refine EL_val (.pointer (some (at_ v1 ((i : Int).toNat)))) w rfl (r_index (by exact e19) H1 (by exact e13) (by omega) (by simp; omega) Try.underlying40 (by kernel_rfl)) ?_
      obtain ⟨p22, hp23⟩ := get_some (l := l) (j := (i : Int).toNat) (by omega)
      obtain ⟨q24, hq25, Fp27, Fq28, bd29⟩ := hl.2 _ _ hp23
      refine EL_val (.complex .f64 p22.1 p22.2) w rfl (r_load rfl (H1.cell (cv_get hp23)) Try.underlying25 rfl) ?_
      refine EL_val (.complex .f64 p22.1 p22.2) w rfl (r_assign rfl) ?_
      refine EL_nil ?_
      refine thn_n ?_
      refine EC_seq ?_
      refine EC_reg ?_
      refine EL_val (.complex .f64 p22.1 p22.2) w rfl (r_move rfl) ?_
      refine EL_ret [.complex .f64 p22.1 p22.2] rfl Try.func22 rfl nm22 rfl (step_c p22.1 q24.1 p22.2 q24.2 w Fp27 Fq28 (by omega) (by omega)) ?_
      rintro _ _ ⟨rfl, rfl⟩
      refine EL_val (.bool (!(decide ((-1099511627776 : Int) ≤ q24.1 ∧ q24.1 ≤ 1099511627776 ∧ (-1099511627776 : Int) ≤ q24.2 ∧ q24.2 ≤ 1099511627776)))) w rfl (r_not rfl) ?_
      refine EL_nil ?_
      refine thn_n ?_
      refine EC_cond_false (Eq.trans (show _ = Value.bool (!(decide ((-1099511627776 : Int) ≤ q24.1 ∧ q24.1 ≤ 1099511627776 ∧ (-1099511627776 : Int) ≤ q24.2 ∧ q24.2 ≤ 1099511627776))) from rfl) (congrArg Value.bool (show (!(decide ((-1099511627776 : Int) ≤ q24.1 ∧ q24.1 ≤ 1099511627776 ∧ (-1099511627776 : Int) ≤ q24.2 ∧ q24.2 ≤ 1099511627776))) = false from by simp; omega))) ?_
      refine EC_skip ?_
      refine inB_n ?_
      refine thn_n ?_
      refine EC_reg ?_
      refine EL_int (i + 1) rfl (r_addi (by exact e13) rfl (by omega)) ?_
      intro x30 hx30
      refine EL_val (.int .i64 x30) w rfl (r_move rfl) ?_
      refine EL_nil ?_
      refine thn_n ?_
      refine ⟨_, ?_, x30, rfl, rfl, (by exact e14), (by exact e15), (by exact e16), (by exact e17), (by exact e18), (by exact e19), (by exact e20), by omega, rfl⟩
      first | omega | (simp; omega)
    · refine EC_exit ?_
      refine thn_x ?_
      refine thn_x ?_
      refine inB_hit ?_
      refine thn_n ?_
      refine EC_seq ?_
      refine EC_reg ?_
      refine EL_val (.int .i64 0) w rfl (r_assign rfl) ?_
      refine EL_nil ?_
      refine thn_n ?_
      refine EC_seq ?_
      refine EC_label ?_
      refine thn_n ?_
      refine EC_seq ?_
      refine EC_seq ?_
      refine EC_reg ?_
      refine EL_val (.int .i64 0) w rfl (r_move rfl) ?_
      refine EL_val v1 w rfl (r_move (by exact e15)) ?_
      refine EL_val (.int .i64 ((l.map cv).length : Int)) w rfl (r_len rfl H1 Try.underlying40) ?_
      refine EL_val (.bool (decide (0 < ((l.map cv).length : Int)))) w rfl (r_lss rfl rfl) ?_
      refine EL_nil ?_
      refine thn_n ?_
      refine EC_if (p := 0 < ((l.map cv).length : Int)) rfl (fun h31 => ?_) (fun h31 => ?_)
      · refine EC_seq ?_
        refine EC_reg ?_
        refine EL_val (.complex .f64 x y) w rfl (r_move (by exact e14)) ?_
        refine EL_val v1 w rfl (r_move (by exact e15)) ?_
        refine EL_val (.int .i64 0) w rfl (r_move rfl) ?_
        refine EL_val (.pointer (some (at_ v1 ((0 : Int).toNat)))) w rfl (r_index rfl H1 rfl (by omega) (by simp; omega) Try.underlying40 (by kernel_rfl)) ?_
        obtain ⟨p32, hp33⟩ := get_some (l := l) (j := (0 : Int).toNat) (by omega)
        obtain ⟨q34, hq35, Fp37, Fq38, bd39⟩ := hl.2 _ _ hp33
        refine EL_val (.complex .f64 p32.1 p32.2) w rfl (r_load rfl (H1.cell (cv_get hp33)) Try.underlying25 rfl) ?_
        obtain ⟨z40, hz41, Fz42⟩ := fadd Fx Fp37 (by omega)
        obtain ⟨z43, hz44, Fz45⟩ := fadd Fy Fq38 (by omega)
        refine EL_val (.complex .f64 z40 z43) w rfl (r_csum (.inl rfl) rfl rfl hz41 hz44) ?_
        refine EL_val (.complex .f64 z40 z43) w rfl (r_assign rfl) ?_
        refine EL_nil ?_
        refine thn_n ?_
        refine EC_seq ?_
        refine EC_seq ?_
        refine EC_reg ?_
        refine EL_val (.int .i64 0) w rfl (r_move rfl) ?_
        refine EL_val (.int .i64 1) w rfl (r_asn (by kernel_rfl) (r_add rfl rfl)) ?_
        refine EL_val (.int .i64 1) w rfl (r_assign rfl) ?_
        refine EL_nil ?_
        refine thn_n ?_
        refine EC_seq ?_
        refine EC_reg ?_
        refine EL_val (.complex .f64 z40 z43) w rfl (r_move rfl) ?_
        refine EL_ret [.complex .f64 z40 z43] rfl Try.func21 rfl nm21 rfl (tally_c z40 (a + q34.1) z43 (b + q34.2) w Fz42 Fz45 (by omega) (by omega)) ?_
        rintro _ _ ⟨rfl, rfl⟩
        refine EL_nil ?_
        refine thn_n ?_
        refine EC_if (p := (0 : Int) ≤ (a + q34.1) ∧ (a + q34.1) ≤ 1099511627776 ∧ (0 : Int) ≤ (b + q34.2) ∧ (b + q34.2) ≤ 1099511627776) rfl (fun h46 => ?_) (fun h46 => ?_)
        · refine EC_goto ?_
          refine thn_g ?_
          refine thn_g ?_
          have es : smS (a + q34.1) (b + q34.2) (ls.drop (1 : Int).toNat) = smS a b ls := by
            rw [show smS a b ls = smS a b (ls.drop (0 : Int).toNat) from rfl, smS_step (k := (0 : Int).toNat) hq35 (by omega), show (0 : Int).toNat + 1 = (1 : Int).toNat from by omega]
          refine jmp_g _ ?_ ⟨rfl, 1, z40, z43, a + q34.1, b + q34.2, rfl, rfl, rfl, (by exact e15), by omega, Fz42, Fz45, by omega, es, rfl⟩
          first | omega | (simp; omega)
        · refine EC_skip ?_
          refine thn_n ?_
          refine EC_seq ?_
          refine EC_reg ?_
          refine EL_val (.complex .f64 0 0) w rfl (r_assign rfl) ?_
          refine EL_val (.int .i64 12) w rfl (r_assign rfl) ?_
          refine EL_nil ?_
          refine thn_n ?_
          refine EC_ret ?_
          refine thn_r ?_
          refine jmp_r ?_
          refine fin2 Try.results18 (show _ = .complex .f64 0 0 from rfl) (show _ = .int .i64 12 from rfl) ⟨_, rfl, ?_⟩
          have e9 : smS a b ls = none := by rw [show smS a b ls = smS a b (ls.drop (0 : Int).toNat) from rfl, smS_none (k := (0 : Int).toNat) hq35 (by omega)]
          rw [e9] at hr; cases hr
      · refine EC_skip ?_
        refine thn_n ?_
        refine EC_seq ?_
        refine EC_reg ?_
        refine EL_val (.complex .f64 x y) w rfl (r_move (by exact e14)) ?_
        refine EL_val (.complex .f64 x y) w rfl (r_assign rfl) ?_
        refine EL_val (.int .i64 0) w rfl (r_assign rfl) ?_
        refine EL_nil ?_
        refine thn_n ?_
        refine EC_ret ?_
        refine jmp_r ?_
        refine fin2 Try.results18 (show _ = .complex .f64 x y from rfl) (show _ = .int .i64 0 from rfl) ⟨_, rfl, ?_⟩
        have e9 : smS a b ls = some (a, b) := by rw [show ls = [] from List.eq_nil_of_length_eq_zero (by omega)]; rfl
        rw [e9] at hr; cases hr
        exact ⟨_, _, rfl, Fx, Fy, rfl⟩
  · rintro _ _ E50 w51 (⟨rfl, k, u, v, ca, cb, rfl, e47, e48, e49, hk, Fu, Fv, hT, hs, rfl⟩)
    · refine ⟨_, rfl, ?_⟩
      refine EC_seq ?_
      refine EC_skip ?_
      refine thn_n ?_
      refine EC_seq ?_
      refine EC_seq ?_
      refine EC_reg ?_
      refine EL_val (.int .i64 k) w rfl (r_move (by exact e47)) ?_
      refine EL_val v1 w rfl (r_move (by exact e49)) ?_
      refine EL_val (.int .i64 ((l.map cv).length : Int)) w rfl (r_len rfl H1 Try.underlying40) ?_
      refine EL_val (.bool (decide (k < ((l.map cv).length : Int)))) w rfl (r_lss rfl rfl) ?_
      refine EL_nil ?_
      refine thn_n ?_
      refine EC_if (p := k < ((l.map cv).length : Int)) rfl (fun h52 => ?_) (fun h52 => ?_)
      · refine EC_seq ?_
        refine EC_reg ?_
        refine EL_val (.complex .f64 u v) w rfl (r_move (by exact e48)) ?_
        refine EL_val v1 w rfl (r_move (by exact e49)) ?_
        refine EL_val (.int .i64 k) w rfl (r_move (by exact e47)) ?_
        refine EL_val (.pointer (some (at_ v1 ((k : Int).toNat)))) w rfl (r_index rfl H1 rfl (by omega) (by simp; omega) Try.underlying40 (by kernel_rfl)) ?_
        obtain ⟨p53, hp54⟩ := get_some (l := l) (j := (k : Int).toNat) (by omega)
        obtain ⟨q55, hq56, Fp58, Fq59, bd60⟩ := hl.2 _ _ hp54
        refine EL_val (.complex .f64 p53.1 p53.2) w rfl (r_load rfl (H1.cell (cv_get hp54)) Try.underlying25 rfl) ?_
        obtain ⟨z61, hz62, Fz63⟩ := fadd Fu Fp58 (by omega)
        obtain ⟨z64, hz65, Fz66⟩ := fadd Fv Fq59 (by omega)
        refine EL_val (.complex .f64 z61 z64) w rfl (r_csum (.inl rfl) rfl rfl hz62 hz65) ?_
        refine EL_val (.complex .f64 z61 z64) w rfl (r_assign rfl) ?_
        refine EL_nil ?_
        refine thn_n ?_
        refine EC_seq ?_
        refine EC_seq ?_
        refine EC_reg ?_
        refine EL_val (.int .i64 k) w rfl (r_move (by exact e47)) ?_
        refine EL_int (k + 1) rfl (r_addi rfl rfl (by omega)) ?_
        intro x67 hx67
        refine EL_val (.int .i64 x67) w rfl (r_assign rfl) ?_
        refine EL_nil ?_
        refine thn_n ?_
        refine EC_seq ?_
        refine EC_reg ?_
        refine EL_val (.complex .f64 z61 z64) w rfl (r_move rfl) ?_
        refine EL_ret [.complex .f64 z61 z64] rfl Try.func21 rfl nm21 rfl (tally_c z61 (ca + q55.1) z64 (cb + q55.2) w Fz63 Fz66 (by omega) (by omega)) ?_
        rintro _ _ ⟨rfl, rfl⟩
        refine EL_nil ?_
        refine thn_n ?_
        refine EC_if (p := (0 : Int) ≤ (ca + q55.1) ∧ (ca + q55.1) ≤ 1099511627776 ∧ (0 : Int) ≤ (cb + q55.2) ∧ (cb + q55.2) ≤ 1099511627776) rfl (fun h68 => ?_) (fun h68 => ?_)
        · refine EC_goto ?_
          refine thn_g ?_
          refine thn_g ?_
          have es : smS (ca + q55.1) (cb + q55.2) (ls.drop (x67 : Int).toNat) = smS a b ls := by
            rw [← hs, smS_step (k := k.toNat) hq56 (by omega), show k.toNat + 1 = (x67 : Int).toNat from by omega]
          refine jmp_g _ ?_ ⟨rfl, x67, z61, z64, ca + q55.1, cb + q55.2, rfl, rfl, rfl, (by exact e49), by omega, Fz63, Fz66, by omega, es, rfl⟩
          first | omega | (simp; omega)
        · refine EC_skip ?_
          refine thn_n ?_
          refine EC_seq ?_
          refine EC_reg ?_
          refine EL_val (.complex .f64 0 0) w rfl (r_assign rfl) ?_
          refine EL_val (.int .i64 12) w rfl (r_assign rfl) ?_
          refine EL_nil ?_
          refine thn_n ?_
          refine EC_ret ?_
          refine thn_r ?_
          refine jmp_r ?_
          refine fin2 Try.results18 (show _ = .complex .f64 0 0 from rfl) (show _ = .int .i64 12 from rfl) ⟨_, rfl, ?_⟩
          have e9 : smS a b ls = none := by rw [← hs, smS_none (k := k.toNat) hq56 (by omega)]
          rw [e9] at hr; cases hr
      · refine EC_skip ?_
        refine thn_n ?_
        refine EC_seq ?_
        refine EC_reg ?_
        refine EL_val (.complex .f64 u v) w rfl (r_move (by exact e48)) ?_
        refine EL_val (.complex .f64 u v) w rfl (r_assign rfl) ?_
        refine EL_val (.int .i64 0) w rfl (r_assign rfl) ?_
        refine EL_nil ?_
        refine thn_n ?_
        refine EC_ret ?_
        refine jmp_r ?_
        refine fin2 Try.results18 (show _ = .complex .f64 u v from rfl) (show _ = .int .i64 0 from rfl) ⟨_, rfl, ?_⟩
        have e9 : smS a b ls = some (ca, cb) := by rw [← hs, List.drop_eq_nil_of_le (by omega)]; rfl
        rw [e9] at hr; cases hr
        exact ⟨_, _, rfl, Fu, Fv, rfl⟩

set_option maxRecDepth 100000 in
set_option maxHeartbeats 4000000 in
theorem Sum_no (x : Nat) (a : Int) (y : Nat) (b : Int) (v1 : Value) (l : List (Nat × Nat)) (ls : List (Int × Int)) (hl : StepsOf l ls) (w : World) (Fx : Fw x a) (Fy : Fw y b) (ba : a.natAbs < 9007199254740992) (bb : b.natAbs < 9007199254740992) (H1 : Row w v1 (l.map cv)) (h : (0 : Int) ≤ a ∧ a ≤ 1099511627776 ∧ (0 : Int) ≤ b ∧ b ≤ 1099511627776) (hr : smS a b ls = none) : Ret Try.prog 18 [.complex .f64 x y, v1] w fun v w' => v = .tuple #[.complex .f64 0 0, .int .i64 12] ∧ w = w' := by
  have hl1 := hl.1
  have hlen := H1.len_le
  simp only [List.length_map] at hlen
  have hmap : (l.map cv).length = l.length := by simp
  refine ret_E Try.func18 rfl Try.ntmps18 (by simp) ?_
  refine EC_seq ?_
  refine EC_reg ?_
  refine EL_val (.complex .f64 0 0) w rfl (r_assign rfl) ?_
  refine EL_val (.int .i64 0) w rfl (r_assign rfl) ?_
  refine EL_nil ?_
  refine thn_n ?_
  refine EC_scope (fun l' m' E' w' => (l' = 0 ∧ ∃ k : Int, ∃ u : Nat, ∃ v : Nat, ∃ ca : Int, ∃ cb : Int, m' = (l.length - k).toNat ∧ E' 8 = .int .i64 k ∧ E' 0 = .complex .f64 u v ∧ E' 1 = v1 ∧ (0 ≤ k ∧ k ≤ (l.length : Int)) ∧ (Fw u ca) ∧ (Fw v cb) ∧ ((0 : Int) ≤ ca ∧ ca ≤ 1099511627776 ∧ (0 : Int) ≤ cb ∧ cb ≤ 1099511627776) ∧ (smS ca cb (ls.drop k.toNat) = smS a b ls) ∧ w = w')) (l.length + 2) ?_ ?_
  · refine EC_seq ?_
    refine EC_seq ?_
    refine EC_reg ?_
    refine EL_val (.complex .f64 x y) w rfl (r_move rfl) ?_
    refine EL_ret [.complex .f64 x y] rfl Try.func21 rfl nm21 rfl (tally_c x a y b w Fx Fy (by omega) (by omega)) ?_
    rintro _ _ ⟨rfl, rfl⟩
    refine EL_val (.bool (!(decide ((0 : Int) ≤ a ∧ a ≤ 1099511627776 ∧ (0 : Int) ≤ b ∧ b ≤ 1099511627776)))) w rfl (r_not rfl) ?_
    refine EL_nil ?_
    refine thn_n ?_
    refine EC_cond_false (Eq.trans (show _ = Value.bool (!(decide ((0 : Int) ≤ a ∧ a ≤ 1099511627776 ∧ (0 : Int) ≤ b ∧ b ≤ 1099511627776))) from rfl) (congrArg Value.bool (show (!(decide ((0 : Int) ≤ a ∧ a ≤ 1099511627776 ∧ (0 : Int) ≤ b ∧ b ≤ 1099511627776))) = false from by simp; omega))) ?_
    refine EC_skip ?_
    refine thn_n ?_
    refine EC_seq ?_
    refine EC_seq ?_
    refine EC_reg ?_
    refine EL_val v1 w rfl (r_move rfl) ?_
    refine EL_val (.int .i64 ((l.map cv).length : Int)) w rfl (r_len rfl H1 Try.underlying40) ?_
    refine EL_val (.int .i64 0) w rfl (r_move rfl) ?_
    refine EL_nil ?_
    refine thn_n ?_
    refine EC_block ?_
    refine EC_loop (fun m' E' w' => ∃ i : Int, m' = (l.length - i).toNat ∧ E' 14 = .int .i64 i ∧ E' 0 = .complex .f64 x y ∧ E' 1 = v1 ∧ E' 9 = .complex .f64 x y ∧ E' 10 = .bool (decide ((0 : Int) ≤ a ∧ a ≤ 1099511627776 ∧ (0 : Int) ≤ b ∧ b ≤ 1099511627776)) ∧ E' 11 = .bool (!(decide ((0 : Int) ≤ a ∧ a ≤ 1099511627776 ∧ (0 : Int) ≤ b ∧ b ≤ 1099511627776))) ∧ E' 12 = v1 ∧ E' 13 = .int .i64 ((l.map cv).length : Int) ∧ (0 ≤ i ∧ i ≤ (l.length : Int)) ∧ w = w') _ ⟨0, rfl, rfl, rfl, rfl, rfl, rfl, rfl, rfl, rfl, by omega, rfl⟩ ?_
    rintro _ E11 w12 ⟨i, rfl, e13, e14, e15, e16, e17, e18, e19, e20, hi, rfl⟩
    refine EC_seq ?_
    refine EC_reg ?_
    refine EL_val (.bool (decide (i < ((l.map cv).length : Int)))) w rfl (r_lss (by exact e13) (by exact e20)) ?_
    refine EL_nil ?_
    refine thn_n ?_
    refine EC_seq ?_
    refine EC_if (p := i < ((l.map cv).length : Int)) rfl (fun h21 => ?_) (fun h21 => ?_)
    · refine EC_skip ?_
      refine thn_n ?_
      refine EC_seq ?_
      refine EC_block ?_
      refine EC_seq ?_
      refine EC_reg ?_
      refine EL_val (.pointer (some (at_ v1 ((i : Int).toNat)))) w rfl (r_index (by exact e19) H1 (by exact e13) (by omega) (by simp; omega) Try.underlying40 (by kernel_rfl)) ?_
      obtain ⟨p22, hp23⟩ := get_some (l := l) (j := (i : Int).toNat) (by omega)
      obtain ⟨q24, hq25, Fp27, Fq28, bd29⟩ := hl.2 _ _ hp23
      refine EL_val (.complex .f64 p22.1 p22.2) w rfl (r_load rfl (H1.cell (cv_get hp23)) Try.underlying25 rfl) ?_
      refine EL_val (.complex .f64 p22.1 p22.2) w rfl (r_assign rfl) ?_
      refine EL_nil ?_
      refine thn_n ?_
      refine EC_seq ?_
      refine EC_reg ?_
      refine EL_val (.complex .f64 p22.1 p22.2) w rfl (r_move rfl) ?_
      refine EL_ret [.complex .f64 p22.1 p22.2] rfl Try.func22 rfl nm22 rfl (step_c p22.1 q24.1 p22.2 q24.2 w Fp27 Fq28 (by omega) (by omega)) ?_
      rintro _ _ ⟨rfl, rfl⟩
      refine EL_val (.bool (!(decide ((-1099511627776 : Int) ≤ q24.1 ∧ q24.1 ≤ 1099511627776 ∧ (-1099511627776 : Int) ≤ q24.2 ∧ q24.2 ≤ 1099511627776)))) w rfl (r_not rfl) ?_
      refine EL_nil ?_
      refine thn_n ?_
      refine EC_cond_false (Eq.trans (show _ = Value.bool (!(decide ((-1099511627776 : Int) ≤ q24.1 ∧ q24.1 ≤ 1099511627776 ∧ (-1099511627776 : Int) ≤ q24.2 ∧ q24.2 ≤ 1099511627776))) from rfl) (congrArg Value.bool (show (!(decide ((-1099511627776 : Int) ≤ q24.1 ∧ q24.1 ≤ 1099511627776 ∧ (-1099511627776 : Int) ≤ q24.2 ∧ q24.2 ≤ 1099511627776))) = false from by simp; omega))) ?_
      refine EC_skip ?_
      refine inB_n ?_
      refine thn_n ?_
      refine EC_reg ?_
      refine EL_int (i + 1) rfl (r_addi (by exact e13) rfl (by omega)) ?_
      intro x30 hx30
      refine EL_val (.int .i64 x30) w rfl (r_move rfl) ?_
      refine EL_nil ?_
      refine thn_n ?_
      refine ⟨_, ?_, x30, rfl, rfl, (by exact e14), (by exact e15), (by exact e16), (by exact e17), (by exact e18), (by exact e19), (by exact e20), by omega, rfl⟩
      first | omega | (simp; omega)
    · refine EC_exit ?_
      refine thn_x ?_
      refine thn_x ?_
      refine inB_hit ?_
      refine thn_n ?_
      refine EC_seq ?_
      refine EC_reg ?_
      refine EL_val (.int .i64 0) w rfl (r_assign rfl) ?_
      refine EL_nil ?_
      refine thn_n ?_
      refine EC_seq ?_
      refine EC_label ?_
      refine thn_n ?_
      refine EC_seq ?_
      refine EC_seq ?_
      refine EC_reg ?_
      refine EL_val (.int .i64 0) w rfl (r_move rfl) ?_
      refine EL_val v1 w rfl (r_move (by exact e15)) ?_
      refine EL_val (.int .i64 ((l.map cv).length : Int)) w rfl (r_len rfl H1 Try.underlying40) ?_
      refine EL_val (.bool (decide (0 < ((l.map cv).length : Int)))) w rfl (r_lss rfl rfl) ?_
      refine EL_nil ?_
      refine thn_n ?_
      refine EC_if (p := 0 < ((l.map cv).length : Int)) rfl (fun h31 => ?_) (fun h31 => ?_)
      · refine EC_seq ?_
        refine EC_reg ?_
        refine EL_val (.complex .f64 x y) w rfl (r_move (by exact e14)) ?_
        refine EL_val v1 w rfl (r_move (by exact e15)) ?_
        refine EL_val (.int .i64 0) w rfl (r_move rfl) ?_
        refine EL_val (.pointer (some (at_ v1 ((0 : Int).toNat)))) w rfl (r_index rfl H1 rfl (by omega) (by simp; omega) Try.underlying40 (by kernel_rfl)) ?_
        obtain ⟨p32, hp33⟩ := get_some (l := l) (j := (0 : Int).toNat) (by omega)
        obtain ⟨q34, hq35, Fp37, Fq38, bd39⟩ := hl.2 _ _ hp33
        refine EL_val (.complex .f64 p32.1 p32.2) w rfl (r_load rfl (H1.cell (cv_get hp33)) Try.underlying25 rfl) ?_
        obtain ⟨z40, hz41, Fz42⟩ := fadd Fx Fp37 (by omega)
        obtain ⟨z43, hz44, Fz45⟩ := fadd Fy Fq38 (by omega)
        refine EL_val (.complex .f64 z40 z43) w rfl (r_csum (.inl rfl) rfl rfl hz41 hz44) ?_
        refine EL_val (.complex .f64 z40 z43) w rfl (r_assign rfl) ?_
        refine EL_nil ?_
        refine thn_n ?_
        refine EC_seq ?_
        refine EC_seq ?_
        refine EC_reg ?_
        refine EL_val (.int .i64 0) w rfl (r_move rfl) ?_
        refine EL_val (.int .i64 1) w rfl (r_asn (by kernel_rfl) (r_add rfl rfl)) ?_
        refine EL_val (.int .i64 1) w rfl (r_assign rfl) ?_
        refine EL_nil ?_
        refine thn_n ?_
        refine EC_seq ?_
        refine EC_reg ?_
        refine EL_val (.complex .f64 z40 z43) w rfl (r_move rfl) ?_
        refine EL_ret [.complex .f64 z40 z43] rfl Try.func21 rfl nm21 rfl (tally_c z40 (a + q34.1) z43 (b + q34.2) w Fz42 Fz45 (by omega) (by omega)) ?_
        rintro _ _ ⟨rfl, rfl⟩
        refine EL_nil ?_
        refine thn_n ?_
        refine EC_if (p := (0 : Int) ≤ (a + q34.1) ∧ (a + q34.1) ≤ 1099511627776 ∧ (0 : Int) ≤ (b + q34.2) ∧ (b + q34.2) ≤ 1099511627776) rfl (fun h46 => ?_) (fun h46 => ?_)
        · refine EC_goto ?_
          refine thn_g ?_
          refine thn_g ?_
          have es : smS (a + q34.1) (b + q34.2) (ls.drop (1 : Int).toNat) = smS a b ls := by
            rw [show smS a b ls = smS a b (ls.drop (0 : Int).toNat) from rfl, smS_step (k := (0 : Int).toNat) hq35 (by omega), show (0 : Int).toNat + 1 = (1 : Int).toNat from by omega]
          refine jmp_g _ ?_ ⟨rfl, 1, z40, z43, a + q34.1, b + q34.2, rfl, rfl, rfl, (by exact e15), by omega, Fz42, Fz45, by omega, es, rfl⟩
          first | omega | (simp; omega)
        · refine EC_skip ?_
          refine thn_n ?_
          refine EC_seq ?_
          refine EC_reg ?_
          refine EL_val (.complex .f64 0 0) w rfl (r_assign rfl) ?_
          refine EL_val (.int .i64 12) w rfl (r_assign rfl) ?_
          refine EL_nil ?_
          refine thn_n ?_
          refine EC_ret ?_
          refine thn_r ?_
          refine jmp_r ?_
          refine fin2 Try.results18 (show _ = .complex .f64 0 0 from rfl) (show _ = .int .i64 12 from rfl) ⟨_, rfl, ?_⟩
          have e9 : smS a b ls = none := by rw [show smS a b ls = smS a b (ls.drop (0 : Int).toNat) from rfl, smS_none (k := (0 : Int).toNat) hq35 (by omega)]
          exact ⟨rfl, rfl⟩
      · refine EC_skip ?_
        refine thn_n ?_
        refine EC_seq ?_
        refine EC_reg ?_
        refine EL_val (.complex .f64 x y) w rfl (r_move (by exact e14)) ?_
        refine EL_val (.complex .f64 x y) w rfl (r_assign rfl) ?_
        refine EL_val (.int .i64 0) w rfl (r_assign rfl) ?_
        refine EL_nil ?_
        refine thn_n ?_
        refine EC_ret ?_
        refine jmp_r ?_
        refine fin2 Try.results18 (show _ = .complex .f64 x y from rfl) (show _ = .int .i64 0 from rfl) ⟨_, rfl, ?_⟩
        have e9 : smS a b ls = some (a, b) := by rw [show ls = [] from List.eq_nil_of_length_eq_zero (by omega)]; rfl
        rw [e9] at hr; cases hr
  · rintro _ _ E50 w51 (⟨rfl, k, u, v, ca, cb, rfl, e47, e48, e49, hk, Fu, Fv, hT, hs, rfl⟩)
    · refine ⟨_, rfl, ?_⟩
      refine EC_seq ?_
      refine EC_skip ?_
      refine thn_n ?_
      refine EC_seq ?_
      refine EC_seq ?_
      refine EC_reg ?_
      refine EL_val (.int .i64 k) w rfl (r_move (by exact e47)) ?_
      refine EL_val v1 w rfl (r_move (by exact e49)) ?_
      refine EL_val (.int .i64 ((l.map cv).length : Int)) w rfl (r_len rfl H1 Try.underlying40) ?_
      refine EL_val (.bool (decide (k < ((l.map cv).length : Int)))) w rfl (r_lss rfl rfl) ?_
      refine EL_nil ?_
      refine thn_n ?_
      refine EC_if (p := k < ((l.map cv).length : Int)) rfl (fun h52 => ?_) (fun h52 => ?_)
      · refine EC_seq ?_
        refine EC_reg ?_
        refine EL_val (.complex .f64 u v) w rfl (r_move (by exact e48)) ?_
        refine EL_val v1 w rfl (r_move (by exact e49)) ?_
        refine EL_val (.int .i64 k) w rfl (r_move (by exact e47)) ?_
        refine EL_val (.pointer (some (at_ v1 ((k : Int).toNat)))) w rfl (r_index rfl H1 rfl (by omega) (by simp; omega) Try.underlying40 (by kernel_rfl)) ?_
        obtain ⟨p53, hp54⟩ := get_some (l := l) (j := (k : Int).toNat) (by omega)
        obtain ⟨q55, hq56, Fp58, Fq59, bd60⟩ := hl.2 _ _ hp54
        refine EL_val (.complex .f64 p53.1 p53.2) w rfl (r_load rfl (H1.cell (cv_get hp54)) Try.underlying25 rfl) ?_
        obtain ⟨z61, hz62, Fz63⟩ := fadd Fu Fp58 (by omega)
        obtain ⟨z64, hz65, Fz66⟩ := fadd Fv Fq59 (by omega)
        refine EL_val (.complex .f64 z61 z64) w rfl (r_csum (.inl rfl) rfl rfl hz62 hz65) ?_
        refine EL_val (.complex .f64 z61 z64) w rfl (r_assign rfl) ?_
        refine EL_nil ?_
        refine thn_n ?_
        refine EC_seq ?_
        refine EC_seq ?_
        refine EC_reg ?_
        refine EL_val (.int .i64 k) w rfl (r_move (by exact e47)) ?_
        refine EL_int (k + 1) rfl (r_addi rfl rfl (by omega)) ?_
        intro x67 hx67
        refine EL_val (.int .i64 x67) w rfl (r_assign rfl) ?_
        refine EL_nil ?_
        refine thn_n ?_
        refine EC_seq ?_
        refine EC_reg ?_
        refine EL_val (.complex .f64 z61 z64) w rfl (r_move rfl) ?_
        refine EL_ret [.complex .f64 z61 z64] rfl Try.func21 rfl nm21 rfl (tally_c z61 (ca + q55.1) z64 (cb + q55.2) w Fz63 Fz66 (by omega) (by omega)) ?_
        rintro _ _ ⟨rfl, rfl⟩
        refine EL_nil ?_
        refine thn_n ?_
        refine EC_if (p := (0 : Int) ≤ (ca + q55.1) ∧ (ca + q55.1) ≤ 1099511627776 ∧ (0 : Int) ≤ (cb + q55.2) ∧ (cb + q55.2) ≤ 1099511627776) rfl (fun h68 => ?_) (fun h68 => ?_)
        · refine EC_goto ?_
          refine thn_g ?_
          refine thn_g ?_
          have es : smS (ca + q55.1) (cb + q55.2) (ls.drop (x67 : Int).toNat) = smS a b ls := by
            rw [← hs, smS_step (k := k.toNat) hq56 (by omega), show k.toNat + 1 = (x67 : Int).toNat from by omega]
          refine jmp_g _ ?_ ⟨rfl, x67, z61, z64, ca + q55.1, cb + q55.2, rfl, rfl, rfl, (by exact e49), by omega, Fz63, Fz66, by omega, es, rfl⟩
          first | omega | (simp; omega)
        · refine EC_skip ?_
          refine thn_n ?_
          refine EC_seq ?_
          refine EC_reg ?_
          refine EL_val (.complex .f64 0 0) w rfl (r_assign rfl) ?_
          refine EL_val (.int .i64 12) w rfl (r_assign rfl) ?_
          refine EL_nil ?_
          refine thn_n ?_
          refine EC_ret ?_
          refine thn_r ?_
          refine jmp_r ?_
          refine fin2 Try.results18 (show _ = .complex .f64 0 0 from rfl) (show _ = .int .i64 12 from rfl) ⟨_, rfl, ?_⟩
          have e9 : smS a b ls = none := by rw [← hs, smS_none (k := k.toNat) hq56 (by omega)]
          exact ⟨rfl, rfl⟩
      · refine EC_skip ?_
        refine thn_n ?_
        refine EC_seq ?_
        refine EC_reg ?_
        refine EL_val (.complex .f64 u v) w rfl (r_move (by exact e48)) ?_
        refine EL_val (.complex .f64 u v) w rfl (r_assign rfl) ?_
        refine EL_val (.int .i64 0) w rfl (r_assign rfl) ?_
        refine EL_nil ?_
        refine thn_n ?_
        refine EC_ret ?_
        refine jmp_r ?_
        refine fin2 Try.results18 (show _ = .complex .f64 u v from rfl) (show _ = .int .i64 0 from rfl) ⟨_, rfl, ?_⟩
        have e9 : smS a b ls = some (ca, cb) := by rw [← hs, List.drop_eq_nil_of_le (by omega)]; rfl
        rw [e9] at hr; cases hr

end Go.Proofs.Ytieaebbnmebbfaa
