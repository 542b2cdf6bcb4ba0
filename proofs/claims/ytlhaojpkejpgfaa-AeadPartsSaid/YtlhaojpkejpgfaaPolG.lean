import Derived.Test.YtlhaojpkejpgfaaPolF
set_option linter.unusedVariables false
set_option linter.unusedSimpArgs false
namespace Go.Proofs.Ytlhaojpkejpgfaa
open Go.RowKit Go.Ecal

set_option maxRecDepth 100000 in
set_option maxHeartbeats 4000000 in
theorem rless_c (v0 : Value) (a : List Int) (w : World) (H0 : Row w v0 (a.map (Value.int .i64))) (ha : dig a) (la : a.length ≤ 3000000) : Ret Try.prog 46 [v0] w fun v w' => ∃ o, Row w' v (o.map (Value.int .i64)) ∧ Below w.heap.size w w' ∧ dig o ∧ val o < 1361129467683753853853498429727072845824 ∧ val o % 1361129467683753853853498429727072845819 = val a % 1361129467683753853853498429727072845819 ∧ (o.length ≤ a.length ∨ o.length ≤ 18) := by
  refine ret_E Try.func46 rfl Try.ntmps46 (by simp) ?_
  refine EC_seq ?_
  refine EC_reg ?_
  refine EL_val (.slice none 0 0) w rfl (r_assign rfl) ?_
  refine EL_nil ?_
  refine thn_n ?_
  refine EC_seq ?_
  refine EC_block ?_
  refine EC_loop (fun m' E' w' => ∃ av : Value, ∃ al : List Int, m' = (val al).toNat ∧ E' 0 = av ∧ E' 2 = .slice none 0 0 ∧ (dig al) ∧ (val al % 1361129467683753853853498429727072845819 = val a % 1361129467683753853853498429727072845819) ∧ (al.length ≤ a.length ∨ al.length ≤ 18) ∧ Below w.heap.size w w' ∧ Row w' av ((al).map (Value.int .i64))) _ ⟨v0, a, rfl, rfl, rfl, ha, rfl, by omega, (Below.refl _ _), H0⟩ ?_
  rintro _ E11 w12 ⟨av, al, rfl, e13, e14, hd, hc, hl, B15, R16⟩
  refine EC_seq ?_
  refine EC_seq ?_
  refine EC_reg ?_
  refine EL_val av w12 rfl (r_move (by exact e13)) ?_
  refine EL_ret [av] rfl Try.func47 rfl nm47 rfl (rhigh_c av al w12 R16 hd) ?_
  rintro _ _ ⟨rfl, rfl⟩
  refine EL_nil ?_
  refine thn_n ?_
  refine EC_if (p := (1361129467683753853853498429727072845824 : Int) ≤ val al) rfl (fun h17 => ?_) (fun h17 => ?_)
  · have hl16 := high_len hd h17
    refine EC_skip ?_
    refine thn_n ?_
    refine EC_block ?_
    refine EC_seq ?_
    refine EC_reg ?_
    refine EL_lit w12.heap.size #[] el_i64 rfl (by decide) rfl (Nat.le_refl _) (by kernel_rfl) ?_
    intro v18 w19 O20 B21 k22 z23
    have B24 : Below w.heap.size w w19 := below_full B15 B15.size B21
    have B25 : Below w12.heap.size w12 w19 := B21
    have O20' := own_eqF (f := Value.int .i64) (l := ([] : List Int)) O20 rfl
    refine EL_val av w19 rfl (r_move (by exact e13)) ?_
    refine EL_val (cutV av 0 16) w19 rfl (r_slice rfl (R16.below B25) Try.underlying66 (by kernel_rfl) 0 16 (by first | omega | (simp; omega) | simp) (by first | omega | (simp; omega) | simp) (.inl ⟨rfl, rfl⟩) (.inr ⟨_, _, rfl, rfl⟩)) ?_
    have R26 : Row w12 (cutV av 0 16) ((al.take 16).map (Value.int .i64)) := FRow.upto R16 16 (by first | omega | (simp; omega) | simp)
    refine EL_append (v := v18) (xs := ([] : List Int).map (Value.int .i64)) (ys := (al.take 16).map (Value.int .i64)) w12.heap.size el_i64 rfl rfl rfl (by simpa using O20') (R26.below B25) (int_one _) (by first | (simp only [List.length_map, List.length_nil]; omega) | (simp only [List.length_map, List.length_cons, List.length_nil]; omega) | (simp; done) | (simp; omega)) (by decide) B25.size ?_
    intro v27 w28 O29 G30 A31
    have O29' := own_appF O29
    have B32 : Below w.heap.size w w28 := below_grew B24 G30 O20' B15.size (B24.size)
    have B33 : Below w12.heap.size w12 w28 := below_grew B25 G30 O20' (Nat.le_refl _) (B25.size)
    refine EL_val v27 w28 rfl (r_assign rfl) ?_
    refine EL_nil ?_
    refine thn_n ?_
    refine EC_seq ?_
    refine EC_reg ?_
    refine EL_val v27 w28 rfl (r_move rfl) ?_
    refine EL_val av w28 rfl (r_move (by exact e13)) ?_
    refine EL_val (.pointer (some (at_ av ((16 : Int).toNat)))) w28 rfl (r_index rfl (R16.below B33) rfl (by omega) (by first | omega | (simp; omega) | simp) Try.underlying66 (by kernel_rfl)) ?_
    obtain ⟨x35, hx36⟩ := get_some (l := al) (j := (16 : Int).toNat) (by first | omega | (simp; omega) | simp)
    have dhx36 := dig_get hd hx36
    refine EL_val (.int .i64 x35) w28 rfl (r_load rfl ((R16.below B33).cell (int_get hx36)) Try.underlying3 rfl) ?_
    refine EL_int (x35 % 4) rfl (r_remi rfl rfl (by omega) (by omega)) ?_
    intro x37 hx37
    refine EL_lit w28.heap.size #[.int .i64 x37] el_i64 rfl (by decide) rfl (Nat.le_refl _) (by kernel_rfl) ?_
    intro v38 w39 O40 B41 k42 z43
    have B44 : Below w.heap.size w w39 := below_full B32 B32.size B41
    have B45 : Below w12.heap.size w12 w39 := below_full B33 B33.size B41
    have B46 : Below w28.heap.size w28 w39 := B41
    have O40' := own_eqF (f := Value.int .i64) (l := [x37]) O40 rfl
    refine EL_append (v := v27) (xs := (([] : List Int) ++ (al.take 16)).map (Value.int .i64)) (ys := [x37].map (Value.int .i64)) w12.heap.size el_i64 rfl rfl rfl (by simpa using (own_below O29' B46)) (own_row O40') (int_one _) (by first | (simp only [List.length_map, List.length_nil]; omega) | (simp only [List.length_map, List.length_cons, List.length_nil]; omega) | (simp; done) | (simp; omega)) (by decide) B45.size ?_
    intro v47 w48 O49 G50 A51
    have O49' := own_appF O49
    have B52 : Below w.heap.size w w48 := below_grew B44 G50 (own_below O29' B46) B15.size (B44.size)
    have B53 : Below w12.heap.size w12 w48 := below_grew B45 G50 (own_below O29' B46) (Nat.le_refl _) (B45.size)
    refine EL_val v47 w48 rfl (r_assign rfl) ?_
    refine EL_nil ?_
    refine thn_n ?_
    refine EC_seq ?_
    refine EC_reg ?_
    refine EL_val (.slice none 0 0) w48 rfl (r_assign rfl) ?_
    refine EL_nil ?_
    refine thn_n ?_
    refine EC_seq ?_
    refine EC_seq ?_
    refine EC_reg ?_
    refine EL_val (.int .i64 16) w48 rfl (r_assign rfl) ?_
    refine EL_nil ?_
    refine thn_n ?_
    refine EC_block ?_
    refine EC_loop (fun m' E' w' => ∃ i : Int, ∃ uv : Value, ∃ ul : List Int, m' = (al.length - i).toNat ∧ E' 5 = .int .i64 i ∧ E' 4 = uv ∧ E' 0 = av ∧ E' 2 = .slice none 0 0 ∧ E' 3 = v47 ∧ (16 ≤ i ∧ i ≤ al.length) ∧ ((ul.length : Int) = i - 16) ∧ (dig ul) ∧ (val ul + 256 ^ (i.toNat - 16) * (val (al.drop i.toNat) / 4) = val (al.drop 16) / 4) ∧ Below w.heap.size w w' ∧ Below w12.heap.size w12 w' ∧ Below w48.heap.size w48 w' ∧ w'.ownsRow w48.heap.size 3 1 uv (ul).length ((ul).map (Value.int .i64))) _ ⟨16, .slice none 0 0, [], rfl, rfl, rfl, (by exact e13), (by exact e14), rfl, by omega, by simp, dig_nil, by simp [val], B52, B53, (Below.refl _ _), (World.ownsRow_nil _ _ _ _)⟩ ?_
    rintro _ E56 w57 ⟨i, uv, ul, rfl, e58, e59, e60, e61, e62, hi, hul, hud, huv, B63, B64, B65, O66⟩
    refine EC_seq ?_
    refine EC_seq ?_
    refine EC_reg ?_
    refine EL_val (.int .i64 i) w57 rfl (r_move (by exact e58)) ?_
    refine EL_val av w57 rfl (r_move (by exact e60)) ?_
    refine EL_val (.int .i64 (al.length : Int)) w57 rfl (lenF (r_len rfl (R16.below B64) Try.underlying66)) ?_
    refine EL_val (.bool (decide (i < (al.length : Int)))) w57 rfl (r_lss rfl rfl) ?_
    refine EL_nil ?_
    refine thn_n ?_
    refine EC_if (p := i < (al.length : Int)) rfl (fun h67 => ?_) (fun h67 => ?_)
    · refine EC_skip ?_
      refine thn_n ?_
      refine EC_seq ?_
      refine EC_block ?_
      refine EC_seq ?_
      refine EC_reg ?_
      refine EL_val av w57 rfl (r_move (by exact e60)) ?_
      refine EL_val (.int .i64 i) w57 rfl (r_move (by exact e58)) ?_
      refine EL_val (.pointer (some (at_ av ((i : Int).toNat)))) w57 rfl (r_index rfl (R16.below B64) rfl (by omega) (by first | omega | (simp; omega) | simp) Try.underlying66 (by kernel_rfl)) ?_
      obtain ⟨x68, hx69⟩ := get_some (l := al) (j := (i : Int).toNat) (by first | omega | (simp; omega) | simp)
      have dhx69 := dig_get hd hx69
      refine EL_val (.int .i64 x68) w57 rfl (r_load rfl ((R16.below B64).cell (int_get hx69)) Try.underlying3 rfl) ?_
      refine EL_int (x68 / 4) rfl (r_quoi rfl rfl (by omega) (by omega)) ?_
      intro x70 hx70
      refine EL_val (.int .i64 x70) w57 rfl (r_assign rfl) ?_
      refine EL_nil ?_
      refine thn_n ?_
      refine EC_seq ?_
      refine EC_seq ?_
      refine EC_reg ?_
      refine EL_val (.int .i64 i) w57 rfl (r_move (by exact e58)) ?_
      refine EL_int (i + 1) rfl (r_addi rfl rfl (by omega)) ?_
      intro x71 hx71
      refine EL_val av w57 rfl (r_move (by exact e60)) ?_
      refine EL_val (.int .i64 (al.length : Int)) w57 rfl (lenF (r_len rfl (R16.below B64) Try.underlying66)) ?_
      refine EL_val (.bool (decide (x71 < (al.length : Int)))) w57 rfl (r_lss rfl rfl) ?_
      refine EL_nil ?_
      refine thn_n ?_
      refine EC_if (p := x71 < (al.length : Int)) rfl (fun h72 => ?_) (fun h72 => ?_)
      · refine EC_reg ?_
        refine EL_val (.int .i64 x70) w57 rfl (r_move rfl) ?_
        refine EL_val av w57 rfl (r_move (by exact e60)) ?_
        refine EL_val (.int .i64 i) w57 rfl (r_move (by exact e58)) ?_
        refine EL_int (i + 1) rfl (r_addi rfl rfl (by omega)) ?_
        intro x73 hx73
        refine EL_val (.pointer (some (at_ av ((x73 : Int).toNat)))) w57 rfl (r_index rfl (R16.below B64) rfl (by omega) (by first | omega | (simp; omega) | simp) Try.underlying66 (by kernel_rfl)) ?_
        obtain ⟨x74, hx75⟩ := get_some (l := al) (j := (x73 : Int).toNat) (by first | omega | (simp; omega) | simp)
        have dhx75 := dig_get hd hx75
        refine EL_val (.int .i64 x74) w57 rfl (r_load rfl ((R16.below B64).cell (int_get hx75)) Try.underlying3 rfl) ?_
        refine EL_int (x74 % 4) rfl (r_remi rfl rfl (by omega) (by omega)) ?_
        intro x76 hx76
        refine EL_int (x76 * 64) rfl (r_muli rfl rfl (by omega)) ?_
        intro x77 hx77
        refine EL_int (x70 + x77) rfl (r_addi rfl rfl (by omega)) ?_
        intro x78 hx78
        refine EL_val (.int .i64 x78) w57 rfl (r_assign rfl) ?_
        refine EL_nil ?_
        refine thn_n ?_
        refine EC_reg ?_
        refine EL_val uv w57 rfl (r_move (by exact e59)) ?_
        refine EL_val (.int .i64 x78) w57 rfl (r_move rfl) ?_
        refine EL_lit w57.heap.size #[.int .i64 x78] el_i64 rfl (by decide) rfl (Nat.le_refl _) (by kernel_rfl) ?_
        intro v79 w80 O81 B82 k83 z84
        have B85 : Below w.heap.size w w80 := below_full B63 B63.size B82
        have B86 : Below w12.heap.size w12 w80 := below_full B64 B64.size B82
        have B87 : Below w48.heap.size w48 w80 := below_full B65 B65.size B82
        have B88 : Below w57.heap.size w57 w80 := B82
        have O81' := own_eqF (f := Value.int .i64) (l := [x78]) O81 rfl
        refine EL_append (v := uv) (xs := ul.map (Value.int .i64)) (ys := [x78].map (Value.int .i64)) w48.heap.size el_i64 rfl rfl rfl (by simpa using (own_below O66 B88)) (own_row O81') (int_one _) (by first | (simp only [List.length_map, List.length_nil]; omega) | (simp only [List.length_map, List.length_cons, List.length_nil]; omega) | (simp; done) | (simp; omega)) (by decide) B87.size ?_
        intro v89 w90 O91 G92 A93
        have O91' := own_appF O91
        have B94 : Below w.heap.size w w90 := below_grew B85 G92 (own_below O66 B88) B52.size (B85.size)
        have B95 : Below w12.heap.size w12 w90 := below_grew B86 G92 (own_below O66 B88) B53.size (B86.size)
        have B96 : Below w48.heap.size w48 w90 := below_grew B87 G92 (own_below O66 B88) (Nat.le_refl _) (B87.size)
        refine EL_val v89 w90 rfl (r_assign rfl) ?_
        refine EL_nil ?_
        refine inB_n ?_
        refine thn_n ?_
        refine EC_reg ?_
        refine EL_val (.int .i64 i) w90 rfl (r_move (by exact e58)) ?_
        refine EL_int (i + 1) rfl (r_addi rfl rfl (by omega)) ?_
        intro x99 hx99
        refine EL_val (.int .i64 x99) w90 rfl (r_assign rfl) ?_
        refine EL_nil ?_
        refine thn_n ?_
        have g2 := getD_of (show al[i.toNat + 1]? = some x74 from by rw [← hx75]; congr 1; omega)
        have inv := up_inv (n := x78) (by omega) (by omega) huv (by rw [getD_of hx69, g2]; omega)
        rw [show i.toNat + 1 = (x99 : Int).toNat from by omega] at inv
        refine ⟨_, ?_, x99, v89, ul ++ [x78], rfl, rfl, rfl, (by exact e60), (by exact e61), (by exact e62), by omega, by simp; omega, dig_app hud (dig_one (by omega)), inv, B94, B95, B96, O91'⟩
        first | omega | (simp; omega)
      · refine EC_skip ?_
        refine thn_n ?_
        refine EC_reg ?_
        refine EL_val uv w57 rfl (r_move (by exact e59)) ?_
        refine EL_val (.int .i64 x70) w57 rfl (r_move rfl) ?_
        refine EL_lit w57.heap.size #[.int .i64 x70] el_i64 rfl (by decide) rfl (Nat.le_refl _) (by kernel_rfl) ?_
        intro v100 w101 O102 B103 k104 z105
        have B106 : Below w.heap.size w w101 := below_full B63 B63.size B103
        have B107 : Below w12.heap.size w12 w101 := below_full B64 B64.size B103
        have B108 : Below w48.heap.size w48 w101 := below_full B65 B65.size B103
        have B109 : Below w57.heap.size w57 w101 := B103
        have O102' := own_eqF (f := Value.int .i64) (l := [x70]) O102 rfl
        refine EL_append (v := uv) (xs := ul.map (Value.int .i64)) (ys := [x70].map (Value.int .i64)) w48.heap.size el_i64 rfl rfl rfl (by simpa using (own_below O66 B109)) (own_row O102') (int_one _) (by first | (simp only [List.length_map, List.length_nil]; omega) | (simp only [List.length_map, List.length_cons, List.length_nil]; omega) | (simp; done) | (simp; omega)) (by decide) B108.size ?_
        intro v110 w111 O112 G113 A114
        have O112' := own_appF O112
        have B115 : Below w.heap.size w w111 := below_grew B106 G113 (own_below O66 B109) B52.size (B106.size)
        have B116 : Below w12.heap.size w12 w111 := below_grew B107 G113 (own_below O66 B109) B53.size (B107.size)
        have B117 : Below w48.heap.size w48 w111 := below_grew B108 G113 (own_below O66 B109) (Nat.le_refl _) (B108.size)
        refine EL_val v110 w111 rfl (r_assign rfl) ?_
        refine EL_nil ?_
        refine inB_n ?_
        refine thn_n ?_
        refine EC_reg ?_
        refine EL_val (.int .i64 i) w111 rfl (r_move (by exact e58)) ?_
        refine EL_int (i + 1) rfl (r_addi rfl rfl (by omega)) ?_
        intro x120 hx120
        refine EL_val (.int .i64 x120) w111 rfl (r_assign rfl) ?_
        refine EL_nil ?_
        refine thn_n ?_
        have g2 := getD_no (show al.length ≤ i.toNat + 1 from by omega)
        have inv := up_inv (n := x70) (by omega) (by omega) huv (by rw [getD_of hx69, g2]; omega)
        rw [show i.toNat + 1 = (x120 : Int).toNat from by omega] at inv
        refine ⟨_, ?_, x120, v110, ul ++ [x70], rfl, rfl, rfl, (by exact e60), (by exact e61), (by exact e62), by omega, by simp; omega, dig_app hud (dig_one (by omega)), inv, B115, B116, B117, O112'⟩
        first | omega | (simp; omega)
    · refine EC_exit ?_
      refine thn_x ?_
      refine thn_x ?_
      refine inB_hit ?_
      refine thn_n ?_
      refine EC_reg ?_
      have l5 : ([5] : List Int).length = 1 := rfl
      have elen : i.toNat = al.length := by omega
      rw [elen, val_drop0 (Nat.le_refl _)] at huv
      have elow : (([] : List Int) ++ (al.take 16)) ++ [x37] = al.take 16 ++ [x35 % 4] := by rw [hx37]; simp
      have lb := low_bd hd (by omega) x35
      have lv := less_val (u := ul) hx36 (by simpa using huv)
      rw [← elow] at lb lv
      have dlow : dig ((([] : List Int) ++ (al.take 16)) ++ [x37]) := by rw [elow]; exact dig_app (dig_take hd 16) (dig_one (by omega))
      refine EL_val v47 w57 rfl (r_move (by exact e62)) ?_
      refine EL_val uv w57 rfl (r_move (by exact e59)) ?_
      refine EL_lit w57.heap.size #[.int .i64 5] el_i64 rfl (by decide) rfl (Nat.le_refl _) (by kernel_rfl) ?_
      intro v121 w122 O123 B124 k125 z126
      have B127 : Below w.heap.size w w122 := below_full B63 B63.size B124
      have B128 : Below w12.heap.size w12 w122 := below_full B64 B64.size B124
      have B129 : Below w48.heap.size w48 w122 := below_full B65 B65.size B124
      have B130 : Below w57.heap.size w57 w122 := B124
      have O123' := own_eqF (f := Value.int .i64) (l := [5]) O123 rfl
      refine EL_ret [uv, v121] rfl Try.func42 rfl nm42 rfl (rtimes_c uv ul v121 [5] w122 ((own_row O66).below B130) (own_row O123') hud (dig_one (by decide)) (by first | omega | (simp; done) | (simp; omega)) (by first | omega | (simp; done) | (simp; omega))) ?_
      rintro p135 w138 ⟨o131, O136, B137, d132, v133, l134⟩
      have B139 : Below w.heap.size w w138 := below_full B127 B127.size B137
      have B140 : Below w12.heap.size w12 w138 := below_full B128 B128.size B137
      have B141 : Below w48.heap.size w48 w138 := below_full B129 B129.size B137
      have B142 : Below w57.heap.size w57 w138 := below_full B130 B130.size B137
      have B143 : Below w122.heap.size w122 w138 := B137
      refine EL_ret [v47, p135] rfl Try.func43 rfl nm43 rfl (radd_c v47 ((([] : List Int) ++ (al.take 16)) ++ [x37]) p135 o131 w138 ((own_row O49').below B141) (own_row O136) dlow d132 (by first | omega | (simp; done) | (simp; omega)) (by first | omega | (simp; done) | (simp; omega))) ?_
      rintro p150 w153 ⟨o144, O151, B152, d145, v146, l147, l148, l149⟩
      have B154 : Below w.heap.size w w153 := below_full B139 B139.size B152
      have B155 : Below w12.heap.size w12 w153 := below_full B140 B140.size B152
      have B156 : Below w48.heap.size w48 w153 := below_full B141 B141.size B152
      have B157 : Below w57.heap.size w57 w153 := below_full B142 B142.size B152
      have B158 : Below w122.heap.size w122 w153 := below_full B143 B143.size B152
      have B159 : Below w138.heap.size w138 w153 := B152
      refine EL_val p150 w153 rfl (r_assign rfl) ?_
      refine EL_nil ?_
      refine inB_n ?_
      refine thn_n ?_
      have e5 : val o131 = val ul * 5 := by rw [v133]; rfl
      have elw : ((([] : List Int) ++ (al.take 16)) ++ [x37]).length = 17 := by simp; omega
      refine ⟨_, ?_, p150, o144, rfl, rfl, (by exact e61), d145, by omega, by omega, B154, (own_row O151)⟩
      first | omega | (simp; omega)
  · refine EC_exit ?_
    refine thn_x ?_
    refine thn_x ?_
    refine inB_hit ?_
    refine thn_n ?_
    refine EC_seq ?_
    refine EC_reg ?_
    refine EL_val av w12 rfl (r_move (by exact e13)) ?_
    refine EL_val av w12 rfl (r_assign rfl) ?_
    refine EL_nil ?_
    refine thn_n ?_
    refine EC_ret ?_
    refine fin1 Try.results46 (show _ = av from rfl) ⟨_, rfl, ?_⟩
    exact ⟨al, R16, B15, hd, by omega, hc, hl⟩

set_option maxRecDepth 100000 in
set_option maxHeartbeats 4000000 in
theorem rleast_c (v0 : Value) (a : List Int) (w : World) (H0 : Row w v0 (a.map (Value.int .i64))) (ha : dig a) (la : a.length ≤ 3000000) : Ret Try.prog 41 [v0] w fun v w' => ∃ o, Row w' v (o.map (Value.int .i64)) ∧ Below w.heap.size w w' ∧ dig o ∧ val o = val a % 1361129467683753853853498429727072845819 ∧ (o.length ≤ a.length + 1 ∨ o.length ≤ 19) := by
  refine ret_E Try.func41 rfl Try.ntmps41 (by simp) ?_
  refine EC_seq ?_
  refine EC_reg ?_
  refine EL_val (.slice none 0 0) w rfl (r_assign rfl) ?_
  refine EL_nil ?_
  refine thn_n ?_
  refine EC_seq ?_
  refine EC_reg ?_
  refine EL_val v0 w rfl (r_move rfl) ?_
  refine EL_ret [v0] rfl Try.func46 rfl nm46 rfl (rless_c v0 a w H0 ha (by first | omega | (simp; done) | (simp; omega))) ?_
  rintro p15 w19 ⟨o11, R13, B14, d12, l16, l17, l18⟩
  have B20 : Below w.heap.size w w19 := B14
  refine EL_val p15 w19 rfl (r_assign rfl) ?_
  refine EL_nil ?_
  refine thn_n ?_
  refine EC_seq ?_
  refine EC_reg ?_
  refine EL_val p15 w19 rfl (r_move rfl) ?_
  refine EL_lit w19.heap.size #[.int .i64 5] el_i64 rfl (by decide) rfl (Nat.le_refl _) (by kernel_rfl) ?_
  intro v21 w22 O23 B24 k25 z26
  have B27 : Below w.heap.size w w22 := below_full B20 B20.size B24
  have B28 : Below w19.heap.size w19 w22 := B24
  have O23' := own_eqF (f := Value.int .i64) (l := [5]) O23 rfl
  refine EL_ret [p15, v21] rfl Try.func43 rfl nm43 rfl (radd_c p15 o11 v21 [5] w22 (R13.below B28) (own_row O23') d12 (dig_one (by decide)) (by first | omega | (simp; done) | (simp; omega)) (by first | omega | (simp; done) | (simp; omega))) ?_
  rintro p35 w38 ⟨o29, O36, B37, d30, v31, l32, l33, l34⟩
  have B39 : Below w.heap.size w w38 := below_full B27 B27.size B37
  have B40 : Below w19.heap.size w19 w38 := below_full B28 B28.size B37
  have B41 : Below w22.heap.size w22 w38 := B37
  refine EL_val p35 w38 rfl (r_assign rfl) ?_
  refine EL_nil ?_
  refine thn_n ?_
  refine EC_seq ?_
  refine EC_seq ?_
  refine EC_reg ?_
  refine EL_val p35 w38 rfl (r_move rfl) ?_
  refine EL_ret [p35] rfl Try.func47 rfl nm47 rfl (rhigh_c p35 o29 w38 (own_row O36) d30) ?_
  rintro _ _ ⟨rfl, rfl⟩
  refine EL_nil ?_
  refine thn_n ?_
  refine EC_if (p := (1361129467683753853853498429727072845824 : Int) ≤ val o29) rfl (fun h42 => ?_) (fun h42 => ?_)
  · have h9 := h42
    have h16 := high_len d30 h42
    refine EC_seq ?_
    refine EC_reg ?_
    refine EL_val p35 w38 rfl (r_move rfl) ?_
    refine EL_val (.pointer (some (at_ p35 ((16 : Int).toNat)))) w38 rfl (r_index rfl (own_row O36) rfl (by omega) (by first | omega | (simp; omega) | simp) Try.underlying66 (by kernel_rfl)) ?_
    obtain ⟨x43, hx44⟩ := get_some (l := o29) (j := (16 : Int).toNat) (by first | omega | (simp; omega) | simp)
    have dx := dig_get d30 hx44
    obtain ⟨e4, ev⟩ := least_hit d30 v31 l16 h9 hx44
    refine EL_val (.int .i64 x43) w38 rfl (r_load rfl ((own_row O36).cell (int_get hx44)) Try.underlying3 rfl) ?_
    refine EL_int (x43 - 4) rfl (r_subi rfl rfl (by omega)) ?_
    intro x45 hx45
    refine EL_val (.pointer (some (at_ p35 ((16 : Int).toNat)))) w38 rfl (r_index rfl (own_row O36) rfl (by omega) (by first | omega | (simp; omega) | simp) Try.underlying66 (by kernel_rfl)) ?_
    refine EL_store (u := .int .i64 x45) rfl rfl O36 (by first | omega | (simp; omega)) rfl (by kernel_rfl) ?_
    intro w46 O47 G48 z49
    have O47' := own_setF O47
    have B50 : Below w.heap.size w w46 := below_grew B39 G48 O36 B27.size (B39.size)
    have B51 : Below w19.heap.size w19 w46 := below_grew B40 G48 O36 B28.size (B40.size)
    have B52 : Below w22.heap.size w22 w46 := below_grew B41 G48 O36 (Nat.le_refl _) (B41.size)
    refine EL_nil ?_
    refine thn_n ?_
    refine EC_seq ?_
    refine EC_reg ?_
    refine EL_val p35 w46 rfl (r_move rfl) ?_
    refine EL_val p35 w46 rfl (r_assign rfl) ?_
    refine EL_nil ?_
    refine thn_n ?_
    refine EC_ret ?_
    refine thn_r ?_
    refine fin1 Try.results41 (show _ = p35 from rfl) ⟨_, rfl, ?_⟩
    have b5 : ([5] : List Int).length = 1 := rfl
    have el : o29.set ((16 : Int).toNat) x45 = o29.set 16 (x43 - 4) := by rw [hx45]; rfl
    exact ⟨_, (own_row O47'), B50, by rw [el]; exact dig_set d30 16 (by omega), by rw [el, ev]; exact l17, by rw [el]; simp only [List.length_set]; omega⟩
  · have h9 := h42
    refine EC_skip ?_
    refine thn_n ?_
    refine EC_seq ?_
    refine EC_reg ?_
    refine EL_val p15 w38 rfl (r_move rfl) ?_
    refine EL_val p15 w38 rfl (r_assign rfl) ?_
    refine EL_nil ?_
    refine thn_n ?_
    refine EC_ret ?_
    refine fin1 Try.results41 (show _ = p15 from rfl) ⟨_, rfl, ?_⟩
    have b5 : ([5] : List Int).length = 1 := rfl
    have nn := (val_bd d12).1
    have v5 : val [5] = 5 := rfl
    have vb := v31
    exact ⟨_, (R13.below B40), B39, d12, by omega, by omega⟩

end Go.Proofs.Ytlhaojpkejpgfaa
