import Derived.Test.YtlhaojpkejpgfaaPolC
set_option linter.unusedVariables false
set_option linter.unusedSimpArgs false
namespace Go.Proofs.Ytlhaojpkejpgfaa
open Go.RowKit Go.Ecal
theorem r_sliceAh {P : Program} {E : Env} {w : World} {dst : Option Tmp} {ty : TypeId} {pos : String} {aft : Array Edge} {gd : Option (Nat × Bool)} {t e : TypeId} {x o : Operand} {b n j : Nat} {k : IntKind}
    (hx : ev E x = ptr b) (ht : P.underlying t = some (.array n e)) (hs : (P.info? e).map (·.size) = some 1) (hj : j ≤ n) (hh : ev E o = .int k (j : Int)) : Gives P E w ⟨dst, .slice t x none (some o) none, ty, pos, aft, gd⟩ (.slice (some ⟨b, 0, none⟩) j n) w := by
  obtain ⟨inf, hinf, hsz⟩ := Option.map_eq_some_iff.1 hs
  simp only [Gives, execOp, hx, ptr]
  simp [Instr.sliceAt, Instr.sureAddr, run_underlying ht, Instr.sliceBounds, Instr.sliceBound, asIntOf, sizeOf, typeInfo, hinf, hsz, hh, hj, Addr.add]
theorem arr_upto {w : World} {b j : Nat} {T : TypeId} {cs : List Value} (h : Arr w b T cs) (hj : j ≤ cs.length) (hn : cs.length ≤ 1000000) : Row w (.slice (some ⟨b, 0, none⟩) j cs.length) (cs.take j) := by
  have hl : (cs.take j).length = j := by simp; omega
  refine ⟨some ⟨b, 0, none⟩, cs.length, by rw [hl], by omega, by omega, (fun h => by cases h), fun hp => ⟨b, 0, rfl, fun i hi => ?_⟩⟩
  rw [hl] at hi
  rw [Nat.zero_add, h.cell (List.getElem?_eq_getElem (by omega)), List.getElem?_take, if_pos hi, List.getElem?_eq_getElem (by omega)]
theorem mul_wide (a b c d e : Int) : (a + b * 18446744073709551616 + c * 340282366920938463463374607431768211456) * (d + e * 18446744073709551616 + 0 * 340282366920938463463374607431768211456) =
    a * d + (a * e + b * d) * 18446744073709551616 + (b * e + c * d) * 340282366920938463463374607431768211456 + (c * e) * 6277101735386680763835789423207666416102355444464034512896 := by grind
set_option maxRecDepth 100000 in
set_option maxHeartbeats 4000000 in
theorem wtimes_c (m r : Int) (w : World) (hm : 0 ≤ m ∧ m < 2722258935367507707706996859454145691648) (hr : 0 ≤ r ∧ r < 21267647932558653966460912964485513216) : Ret Try.prog 27 [.agg ((wof m).map (Value.int .u64)).toArray, .agg ((wof r).map (Value.int .u64)).toArray] w fun v w' => v = .agg ((wof (m * r % 1361129467683753853853498429727072845824 + 5 * (m * r / 1361129467683753853853498429727072845824))).map (Value.int .u64)).toArray ∧ Below w.heap.size w w' := by
  obtain ⟨a0, a1, a2, aw, ab0, ab1, ab2, av⟩ := wof_ex (n := m) (by omega) (by omega)
  obtain ⟨b0, b1, b2, bw, bb0, bb1, bb2, bv⟩ := wof_ex (n := r) (by omega) (by omega)
  rw [aw, bw]
  have ha2 : a2 < 8 := by omega
  have hb2 : b2 = 0 := by omega
  have hb1 : b1 < 1152921504606846976 := by omega
  refine ret_E Try.func27 rfl Try.ntmps27 (by simp) ?_
  refine EC_seq ?_
  refine EC_reg ?_
  refine EL_box (([a0, a1, a2] : List Int).map (Value.int .u64)) rfl rfl rfl ?_
  intro b11 w12 k13 A14 B15 z16
  have B17 : Below w.heap.size w w12 := B15
  have A14' : Arr w12 b11 49 (([a0, a1, a2] : List Int).map (Value.int .u64)) := A14
  refine EL_box (([b0, b1, b2] : List Int).map (Value.int .u64)) rfl rfl rfl ?_
  intro b18 w19 k20 A21 B22 z23
  have ne24 : b11 < b18 := by have := (A14').lt; omega
  have B25 : Below w.heap.size w w19 := below_full B17 B17.size B22
  have B26 : Below w12.heap.size w12 w19 := B22
  have A21' : Arr w19 b18 49 (([b0, b1, b2] : List Int).map (Value.int .u64)) := A21
  refine EL_alloc (z := .agg #[.int .u64 0, .int .u64 0, .int .u64 0]) (List.replicate 3 (.int .u64 0)) rfl (by kernel_rfl) rfl ?_
  intro b27 w28 k29 A30 B31 z32
  have ne33 : b11 < b27 := by have := ((A14'.below B26)).lt; omega
  have ne34 : b18 < b27 := by have := (A21').lt; omega
  have B35 : Below w.heap.size w w28 := below_full B25 B25.size B31
  have B36 : Below w12.heap.size w12 w28 := below_full B26 B26.size B31
  have B37 : Below w19.heap.size w19 w28 := B31
  have A30' : Arr w28 b27 49 ((List.replicate 3 0).map (Value.int .u64)) := A30
  refine EL_nil ?_
  refine thn_n ?_
  refine EC_seq ?_
  refine EC_reg ?_
  refine EL_alloc (z := .agg #[.int .u64 0, .int .u64 0, .int .u64 0, .int .u64 0, .int .u64 0]) (List.replicate 5 (.int .u64 0)) rfl (by kernel_rfl) rfl ?_
  intro b38 w39 k40 A41 B42 z43
  have ne44 : b11 < b38 := by have := ((A14'.below B36)).lt; omega
  have ne45 : b18 < b38 := by have := ((A21'.below B37)).lt; omega
  have ne46 : b27 < b38 := by have := (A30').lt; omega
  have B47 : Below w.heap.size w w39 := below_full B35 B35.size B42
  have B48 : Below w12.heap.size w12 w39 := below_full B36 B36.size B42
  have B49 : Below w19.heap.size w19 w39 := below_full B37 B37.size B42
  have B50 : Below w28.heap.size w28 w39 := B42
  have A41' : Arr w39 b38 63 ((List.replicate 5 0).map (Value.int .u64)) := A41
  refine EL_nil ?_
  refine thn_n ?_
  refine EC_seq ?_
  refine EC_seq ?_
  refine EC_reg ?_
  refine EL_val (.agg (([a0, a1, a2] : List Int).map (Value.int .u64)).toArray) w39 rfl (r_loadAll rfl (A14'.below B48) Try.underlying49 rfl (Eq.trans (show _ = some 3 from by kernel_rfl) (congrArg some (by first | (simp; done) | (simp; omega) | rfl)))) ?_
  refine EL_val (.int .i64 0) w39 rfl (r_move rfl) ?_
  refine EL_nil ?_
  refine thn_n ?_
  refine EC_block ?_
  refine EC_for 4 ?_
  refine U_step ?_
  refine EC_seq ?_
  refine EC_reg ?_
  refine EL_val (.bool true) w39 rfl (r_dec (by decide) (r_lss rfl rfl)) ?_
  refine EL_nil ?_
  refine thn_n ?_
  refine EC_seq ?_
  refine EC_cond_true rfl ?_
  refine EC_skip ?_
  refine thn_n ?_
  refine EC_seq ?_
  refine EC_block ?_
  refine EC_seq ?_
  refine EC_reg ?_
  refine EL_val (.int .i64 0) w39 rfl (r_move rfl) ?_
  refine EL_val (.int .u64 a0) w39 rfl (r_indexV (k := .i64) rfl rfl (by omega) (by omega) (by rfl) Try.underlying49 (by kernel_rfl) Try.underlying47 rfl) ?_
  refine EL_val (.int .i64 0) w39 rfl (r_assign rfl) ?_
  refine EL_val (.int .u64 a0) w39 rfl (r_assign rfl) ?_
  refine EL_nil ?_
  refine thn_n ?_
  refine EC_seq ?_
  refine EC_reg ?_
  refine EL_val (.int .u64 0) w39 rfl (r_assign rfl) ?_
  refine EL_nil ?_
  refine thn_n ?_
  refine EC_seq ?_
  refine EC_seq ?_
  refine EC_reg ?_
  refine EL_val (.slice (some ⟨b18, 0, none⟩) 2 3) w39 rfl (r_sliceAh rfl Try.underlying49 (by kernel_rfl) (j := 2) (by decide) rfl) ?_
  have R51 : Row w39 (.slice (some ⟨b18, 0, none⟩) 2 3) (([b0, b1] : List Int).map (Value.int .u64)) := arr_upto (A21'.below B49) (j := 2) (by simp) (by simp)
  refine EL_val (.int .i64 2) w39 rfl (r_asn (by rfl) (lenF (r_len rfl (show Row w39 (.slice (some ⟨b18, 0, none⟩) 2 3) (([b0, b1] : List Int).map (Value.int .u64)) from arr_upto (A21'.below B49) (j := 2) (by simp) (by simp)) Try.underlying64))) ?_
  refine EL_val (.int .i64 0) w39 rfl (r_move rfl) ?_
  refine EL_nil ?_
  refine thn_n ?_
  refine EC_block ?_
  refine EC_for 3 ?_
  refine U_step ?_
  refine EC_seq ?_
  refine EC_reg ?_
  refine EL_val (.bool true) w39 rfl (r_dec (by decide) (r_lss rfl rfl)) ?_
  refine EL_nil ?_
  refine thn_n ?_
  refine EC_seq ?_
  refine EC_cond_true rfl ?_
  refine EC_skip ?_
  refine thn_n ?_
  refine EC_seq ?_
  refine EC_block ?_
  refine EC_seq ?_
  refine EC_reg ?_
  refine EL_val (.int .i64 0) w39 rfl (r_move rfl) ?_
  refine EL_val (.pointer (some (at_ (.slice (some ⟨b18, 0, none⟩) 2 3) ((0 : Int).toNat)))) w39 rfl (r_index rfl (show Row w39 (.slice (some ⟨b18, 0, none⟩) 2 3) (([b0, b1] : List Int).map (Value.int .u64)) from arr_upto (A21'.below B49) (j := 2) (by simp) (by simp)) rfl (by omega) (by first | omega | (simp; omega) | simp) Try.underlying64 (by kernel_rfl)) ?_
  refine EL_val (.int .u64 b0) w39 rfl (r_load rfl ((show Row w39 (.slice (some ⟨b18, 0, none⟩) 2 3) (([b0, b1] : List Int).map (Value.int .u64)) from arr_upto (A21'.below B49) (j := 2) (by simp) (by simp)).cell (u := .int .u64 b0) rfl) Try.underlying47 rfl) ?_
  refine EL_val (.int .i64 0) w39 rfl (r_assign rfl) ?_
  refine EL_val (.int .u64 b0) w39 rfl (r_assign rfl) ?_
  refine EL_nil ?_
  refine thn_n ?_
  refine EC_seq ?_
  refine EC_reg ?_
  refine EL_val (.int .u64 a0) w39 rfl (r_move rfl) ?_
  refine EL_val (.int .u64 b0) w39 rfl (r_move rfl) ?_
  have q55 := mul_bd (B := 18446744073709551615) (C := 18446744073709551615) (x := a0) (y := b0) (by omega) (by omega)
  obtain ⟨x52, hx52⟩ : ∃ z : Int, z = a0 * b0 / 18446744073709551616 := ⟨_, rfl⟩
  obtain ⟨x53, hx53⟩ : ∃ z : Int, z = a0 * b0 % 18446744073709551616 := ⟨_, rfl⟩
  have hc54 := mul64_c a0 b0 w39 (by omega) (by omega)
  rw [← hx52, ← hx53] at hc54
  refine EL_ret [.int .u64 a0, .int .u64 b0] rfl Try.func37 rfl nm37 rfl (hc54) ?_
  rintro _ _ ⟨rfl, rfl⟩
  refine EL_val (.tuple #[.int .u64 x52, .int .u64 x53]) w39 rfl (r_move rfl) ?_
  refine EL_val (.int .u64 x52) w39 rfl (r_extract rfl rfl) ?_
  refine EL_val (.int .u64 x53) w39 rfl (r_extract rfl rfl) ?_
  refine EL_val (.int .u64 x52) w39 rfl (r_assign rfl) ?_
  refine EL_val (.int .u64 x53) w39 rfl (r_assign rfl) ?_
  refine EL_nil ?_
  refine thn_n ?_
  refine EC_seq ?_
  refine EC_reg ?_
  refine EL_val (.int .u64 0) w39 rfl (r_assign rfl) ?_
  refine EL_nil ?_
  refine thn_n ?_
  refine EC_seq ?_
  refine EC_reg ?_
  refine EL_val (.int .u64 x53) w39 rfl (r_move rfl) ?_
  refine EL_val (.int .i64 0) w39 rfl (r_move rfl) ?_
  refine EL_val (.int .i64 0) w39 rfl (r_move rfl) ?_
  refine EL_val (.int .i64 0) w39 rfl (r_asn (by kernel_rfl) (r_add rfl rfl)) ?_
  refine EL_val (ptr b38 0) w39 rfl (r_indexA (i := 0) rfl rfl (by omega) (by omega) Try.underlying63 (by kernel_rfl)) ?_
  refine EL_val (.int .u64 0) w39 rfl (r_loadA rfl A41' (u := .int .u64 0) rfl Try.underlying47 rfl) ?_
  obtain ⟨x56, hx56⟩ : ∃ z : Int, z = (x53 + 0 + 0) % 18446744073709551616 := ⟨_, rfl⟩
  obtain ⟨x57, hx57⟩ : ∃ z : Int, z = (x53 + 0 + 0) / 18446744073709551616 := ⟨_, rfl⟩
  refine EL_val (.tuple #[.int .u64 x56, .int .u64 x57]) w39 rfl (by rw [hx56, hx57]; exact r_add64 Try.func36 nm36 (by kernel_rfl) (by kernel_rfl) (by kernel_rfl) rfl rfl rfl (by omega) (by omega) (by omega) (by omega)) ?_
  refine EL_val (.tuple #[.int .u64 x56, .int .u64 x57]) w39 rfl (r_move rfl) ?_
  refine EL_val (.int .u64 x56) w39 rfl (r_extract rfl rfl) ?_
  refine EL_val (.int .u64 x57) w39 rfl (r_extract rfl rfl) ?_
  refine EL_val (.int .u64 x56) w39 rfl (r_assign rfl) ?_
  refine EL_val (.int .u64 x57) w39 rfl (r_assign rfl) ?_
  refine EL_nil ?_
  refine thn_n ?_
  refine EC_seq ?_
  refine EC_reg ?_
  refine EL_val (.int .u64 x52) w39 rfl (r_move rfl) ?_
  refine EL_val (.int .u64 x57) w39 rfl (r_move rfl) ?_
  refine EL_int (x52 + x57) rfl (r_asn (by omega) (r_addq rfl rfl)) ?_
  intro x58 hx58
  refine EL_val (.int .u64 x58) w39 rfl (r_assign rfl) ?_
  refine EL_nil ?_
  refine thn_n ?_
  refine EC_seq ?_
  refine EC_reg ?_
  refine EL_val (.int .u64 x56) w39 rfl (r_move rfl) ?_
  refine EL_val (.int .u64 0) w39 rfl (r_move rfl) ?_
  obtain ⟨x59, hx59⟩ : ∃ z : Int, z = (x56 + 0 + 0) % 18446744073709551616 := ⟨_, rfl⟩
  obtain ⟨x60, hx60⟩ : ∃ z : Int, z = (x56 + 0 + 0) / 18446744073709551616 := ⟨_, rfl⟩
  refine EL_val (.tuple #[.int .u64 x59, .int .u64 x60]) w39 rfl (by rw [hx59, hx60]; exact r_add64 Try.func36 nm36 (by kernel_rfl) (by kernel_rfl) (by kernel_rfl) rfl rfl rfl (by omega) (by omega) (by omega) (by omega)) ?_
  refine EL_val (.tuple #[.int .u64 x59, .int .u64 x60]) w39 rfl (r_move rfl) ?_
  refine EL_val (.int .u64 x59) w39 rfl (r_extract rfl rfl) ?_
  refine EL_val (.int .u64 x60) w39 rfl (r_extract rfl rfl) ?_
  refine EL_val (.int .u64 x59) w39 rfl (r_assign rfl) ?_
  refine EL_val (.int .u64 x60) w39 rfl (r_assign rfl) ?_
  refine EL_nil ?_
  refine thn_n ?_
  refine EC_reg ?_
  refine EL_val (.int .i64 0) w39 rfl (r_move rfl) ?_
  refine EL_val (.int .i64 0) w39 rfl (r_move rfl) ?_
  refine EL_val (.int .i64 0) w39 rfl (r_asn (by kernel_rfl) (r_add rfl rfl)) ?_
  refine EL_val (.int .u64 x59) w39 rfl (r_move rfl) ?_
  refine EL_val (.int .u64 x58) w39 rfl (r_move rfl) ?_
  refine EL_val (.int .u64 x60) w39 rfl (r_move rfl) ?_
  have mq1 : 0 ≤ x58 + x60 ∧ x58 + x60 < 18446744073709551616 := by omega
  refine EL_int (x58 + x60) rfl (r_asn (by omega) (r_addq rfl rfl)) ?_
  intro x61 hx61
  have mac1 : x59 + 18446744073709551616 * x61 = a0 * b0 + 0 + 0 ∧ (0 ≤ x59 ∧ x59 < 18446744073709551616) ∧ 0 ≤ x61 ∧ x61 < 18446744073709551616 := by omega
  obtain ⟨mac1, mlo1, mca1⟩ := mac1
  clear hx61 hx60 hx59 hx58 hx57 hx56 hc54 hx53 hx52 q55
  clear mq1
  refine EL_val (ptr b38 0) w39 rfl (r_indexA (i := 0) rfl rfl (by omega) (by omega) Try.underlying63 (by kernel_rfl)) ?_
  refine EL_storeA (j := 0) (u := .int .u64 x59) rfl rfl A41' (by first | (simp; omega) | simp) rfl (by kernel_rfl) ?_
  intro w62 A63 K64 z65
  have A63' : Arr w62 b38 63 ((([x59, 0, 0, 0, 0] : List Int)).map (Value.int .u64)) := A63
  have B66 : Below w.heap.size w w62 := below_kept B47 K64 (Nat.le_trans B35.size (Nat.le_of_eq k40.symm)) (B47.size)
  have B67 : Below w12.heap.size w12 w62 := below_kept B48 K64 (Nat.le_trans B36.size (Nat.le_of_eq k40.symm)) (B48.size)
  have B68 : Below w19.heap.size w19 w62 := below_kept B49 K64 (Nat.le_trans B37.size (Nat.le_of_eq k40.symm)) (B49.size)
  have B69 : Below w28.heap.size w28 w62 := below_kept B50 K64 (Nat.le_trans (Nat.le_refl _) (Nat.le_of_eq k40.symm)) (B50.size)
  have A70 : Arr w62 b11 49 (([a0, a1, a2] : List Int).map (Value.int .u64)) := (A14'.below B48).grew K64 (by simp; omega)
  have A71 : Arr w62 b18 49 (([b0, b1, b2] : List Int).map (Value.int .u64)) := (A21'.below B49).grew K64 (by simp; omega)
  have A72 : Arr w62 b27 49 ((List.replicate 3 0).map (Value.int .u64)) := (A30'.below B50).grew K64 (by simp; omega)
  refine EL_val (.int .u64 x61) w62 rfl (r_assign rfl) ?_
  refine EL_nil ?_
  refine inB_n ?_
  refine thn_n ?_
  refine EC_reg ?_
  refine EL_val (.int .i64 1) w62 rfl (r_asn (by kernel_rfl) (r_add rfl rfl)) ?_
  refine EL_val (.int .i64 1) w62 rfl (r_move rfl) ?_
  refine EL_nil ?_
  refine thn_n ?_
  refine U_step ?_
  refine EC_seq ?_
  refine EC_reg ?_
  refine EL_val (.bool true) w62 rfl (r_dec (by decide) (r_lss rfl rfl)) ?_
  refine EL_nil ?_
  refine thn_n ?_
  refine EC_seq ?_
  refine EC_cond_true rfl ?_
  refine EC_skip ?_
  refine thn_n ?_
  refine EC_seq ?_
  refine EC_block ?_
  refine EC_seq ?_
  refine EC_reg ?_
  refine EL_val (.int .i64 1) w62 rfl (r_move rfl) ?_
  refine EL_val (.pointer (some (at_ (.slice (some ⟨b18, 0, none⟩) 2 3) ((1 : Int).toNat)))) w62 rfl (r_index rfl (show Row w62 (.slice (some ⟨b18, 0, none⟩) 2 3) (([b0, b1] : List Int).map (Value.int .u64)) from arr_upto A71 (j := 2) (by simp) (by simp)) rfl (by omega) (by first | omega | (simp; omega) | simp) Try.underlying64 (by kernel_rfl)) ?_
  refine EL_val (.int .u64 b1) w62 rfl (r_load rfl ((show Row w62 (.slice (some ⟨b18, 0, none⟩) 2 3) (([b0, b1] : List Int).map (Value.int .u64)) from arr_upto A71 (j := 2) (by simp) (by simp)).cell (u := .int .u64 b1) rfl) Try.underlying47 rfl) ?_
  refine EL_val (.int .i64 1) w62 rfl (r_assign rfl) ?_
  refine EL_val (.int .u64 b1) w62 rfl (r_assign rfl) ?_
  refine EL_nil ?_
  refine thn_n ?_
  refine EC_seq ?_
  refine EC_reg ?_
  refine EL_val (.int .u64 a0) w62 rfl (r_move rfl) ?_
  refine EL_val (.int .u64 b1) w62 rfl (r_move rfl) ?_
  have q76 := mul_bd (B := 18446744073709551615) (C := 18446744073709551615) (x := a0) (y := b1) (by omega) (by omega)
  obtain ⟨x73, hx73⟩ : ∃ z : Int, z = a0 * b1 / 18446744073709551616 := ⟨_, rfl⟩
  obtain ⟨x74, hx74⟩ : ∃ z : Int, z = a0 * b1 % 18446744073709551616 := ⟨_, rfl⟩
  have hc75 := mul64_c a0 b1 w62 (by omega) (by omega)
  rw [← hx73, ← hx74] at hc75
  refine EL_ret [.int .u64 a0, .int .u64 b1] rfl Try.func37 rfl nm37 rfl (hc75) ?_
  rintro _ _ ⟨rfl, rfl⟩
  refine EL_val (.tuple #[.int .u64 x73, .int .u64 x74]) w62 rfl (r_move rfl) ?_
  refine EL_val (.int .u64 x73) w62 rfl (r_extract rfl rfl) ?_
  refine EL_val (.int .u64 x74) w62 rfl (r_extract rfl rfl) ?_
  refine EL_val (.int .u64 x73) w62 rfl (r_assign rfl) ?_
  refine EL_val (.int .u64 x74) w62 rfl (r_assign rfl) ?_
  refine EL_nil ?_
  refine thn_n ?_
  refine EC_seq ?_
  refine EC_reg ?_
  refine EL_val (.int .u64 0) w62 rfl (r_assign rfl) ?_
  refine EL_nil ?_
  refine thn_n ?_
  refine EC_seq ?_
  refine EC_reg ?_
  refine EL_val (.int .u64 x74) w62 rfl (r_move rfl) ?_
  refine EL_val (.int .i64 0) w62 rfl (r_move rfl) ?_
  refine EL_val (.int .i64 1) w62 rfl (r_move rfl) ?_
  refine EL_val (.int .i64 1) w62 rfl (r_asn (by kernel_rfl) (r_add rfl rfl)) ?_
  refine EL_val (ptr b38 1) w62 rfl (r_indexA (i := 1) rfl rfl (by omega) (by omega) Try.underlying63 (by kernel_rfl)) ?_
  refine EL_val (.int .u64 0) w62 rfl (r_loadA rfl A63' (u := .int .u64 0) rfl Try.underlying47 rfl) ?_
  obtain ⟨x77, hx77⟩ : ∃ z : Int, z = (x74 + 0 + 0) % 18446744073709551616 := ⟨_, rfl⟩
  obtain ⟨x78, hx78⟩ : ∃ z : Int, z = (x74 + 0 + 0) / 18446744073709551616 := ⟨_, rfl⟩
  refine EL_val (.tuple #[.int .u64 x77, .int .u64 x78]) w62 rfl (by rw [hx77, hx78]; exact r_add64 Try.func36 nm36 (by kernel_rfl) (by kernel_rfl) (by kernel_rfl) rfl rfl rfl (by omega) (by omega) (by omega) (by omega)) ?_
  refine EL_val (.tuple #[.int .u64 x77, .int .u64 x78]) w62 rfl (r_move rfl) ?_
  refine EL_val (.int .u64 x77) w62 rfl (r_extract rfl rfl) ?_
  refine EL_val (.int .u64 x78) w62 rfl (r_extract rfl rfl) ?_
  refine EL_val (.int .u64 x77) w62 rfl (r_assign rfl) ?_
  refine EL_val (.int .u64 x78) w62 rfl (r_assign rfl) ?_
  refine EL_nil ?_
  refine thn_n ?_
  refine EC_seq ?_
  refine EC_reg ?_
  refine EL_val (.int .u64 x73) w62 rfl (r_move rfl) ?_
  refine EL_val (.int .u64 x78) w62 rfl (r_move rfl) ?_
  refine EL_int (x73 + x78) rfl (r_asn (by omega) (r_addq rfl rfl)) ?_
  intro x79 hx79
  refine EL_val (.int .u64 x79) w62 rfl (r_assign rfl) ?_
  refine EL_nil ?_
  refine thn_n ?_
  refine EC_seq ?_
  refine EC_reg ?_
  refine EL_val (.int .u64 x77) w62 rfl (r_move rfl) ?_
  refine EL_val (.int .u64 x61) w62 rfl (r_move rfl) ?_
  obtain ⟨x80, hx80⟩ : ∃ z : Int, z = (x77 + x61 + 0) % 18446744073709551616 := ⟨_, rfl⟩
  obtain ⟨x81, hx81⟩ : ∃ z : Int, z = (x77 + x61 + 0) / 18446744073709551616 := ⟨_, rfl⟩
  refine EL_val (.tuple #[.int .u64 x80, .int .u64 x81]) w62 rfl (by rw [hx80, hx81]; exact r_add64 Try.func36 nm36 (by kernel_rfl) (by kernel_rfl) (by kernel_rfl) rfl rfl rfl (by omega) (by omega) (by omega) (by omega)) ?_
  refine EL_val (.tuple #[.int .u64 x80, .int .u64 x81]) w62 rfl (r_move rfl) ?_
  refine EL_val (.int .u64 x80) w62 rfl (r_extract rfl rfl) ?_
  refine EL_val (.int .u64 x81) w62 rfl (r_extract rfl rfl) ?_
  refine EL_val (.int .u64 x80) w62 rfl (r_assign rfl) ?_
  refine EL_val (.int .u64 x81) w62 rfl (r_assign rfl) ?_
  refine EL_nil ?_
  refine thn_n ?_
  refine EC_reg ?_
  refine EL_val (.int .i64 0) w62 rfl (r_move rfl) ?_
  refine EL_val (.int .i64 1) w62 rfl (r_move rfl) ?_
  refine EL_val (.int .i64 1) w62 rfl (r_asn (by kernel_rfl) (r_add rfl rfl)) ?_
  refine EL_val (.int .u64 x80) w62 rfl (r_move rfl) ?_
  refine EL_val (.int .u64 x79) w62 rfl (r_move rfl) ?_
  refine EL_val (.int .u64 x81) w62 rfl (r_move rfl) ?_
  have mq2 : 0 ≤ x79 + x81 ∧ x79 + x81 < 18446744073709551616 := by omega
  refine EL_int (x79 + x81) rfl (r_asn (by omega) (r_addq rfl rfl)) ?_
  intro x82 hx82
  have mac2 : x80 + 18446744073709551616 * x82 = a0 * b1 + 0 + x61 ∧ (0 ≤ x80 ∧ x80 < 18446744073709551616) ∧ 0 ≤ x82 ∧ x82 < 18446744073709551616 := by omega
  obtain ⟨mac2, mlo2, mca2⟩ := mac2
  clear hx82 hx81 hx80 hx79 hx78 hx77 hc75 hx74 hx73 q76
  clear mq2
  refine EL_val (ptr b38 1) w62 rfl (r_indexA (i := 1) rfl rfl (by omega) (by omega) Try.underlying63 (by kernel_rfl)) ?_
  refine EL_storeA (j := 1) (u := .int .u64 x80) rfl rfl A63' (by first | (simp; omega) | simp) rfl (by kernel_rfl) ?_
  intro w83 A84 K85 z86
  have A84' : Arr w83 b38 63 ((([x59, x80, 0, 0, 0] : List Int)).map (Value.int .u64)) := A84
  have B87 : Below w.heap.size w w83 := below_kept B66 K85 (Nat.le_trans B35.size (Nat.le_of_eq k40.symm)) (B66.size)
  have B88 : Below w12.heap.size w12 w83 := below_kept B67 K85 (Nat.le_trans B36.size (Nat.le_of_eq k40.symm)) (B67.size)
  have B89 : Below w19.heap.size w19 w83 := below_kept B68 K85 (Nat.le_trans B37.size (Nat.le_of_eq k40.symm)) (B68.size)
  have B90 : Below w28.heap.size w28 w83 := below_kept B69 K85 (Nat.le_trans (Nat.le_refl _) (Nat.le_of_eq k40.symm)) (B69.size)
  have A91 : Arr w83 b11 49 (([a0, a1, a2] : List Int).map (Value.int .u64)) := A70.grew K85 (by simp; omega)
  have A92 : Arr w83 b18 49 (([b0, b1, b2] : List Int).map (Value.int .u64)) := A71.grew K85 (by simp; omega)
  have A93 : Arr w83 b27 49 ((List.replicate 3 0).map (Value.int .u64)) := A72.grew K85 (by simp; omega)
  refine EL_val (.int .u64 x82) w83 rfl (r_assign rfl) ?_
  refine EL_nil ?_
  refine inB_n ?_
  refine thn_n ?_
  refine EC_reg ?_
  refine EL_val (.int .i64 2) w83 rfl (r_asn (by kernel_rfl) (r_add rfl rfl)) ?_
  refine EL_val (.int .i64 2) w83 rfl (r_move rfl) ?_
  refine EL_nil ?_
  refine thn_n ?_
  refine U_step ?_
  refine EC_seq ?_
  refine EC_reg ?_
  refine EL_val (.bool false) w83 rfl (r_dec (by decide) (r_lss rfl rfl)) ?_
  refine EL_nil ?_
  refine thn_n ?_
  refine EC_seq ?_
  refine EC_cond_false rfl ?_
  refine EC_exit ?_
  refine thn_x ?_
  refine thn_x ?_
  refine inB_hit ?_
  refine thn_n ?_
  refine EC_reg ?_
  refine EL_val (.int .i64 0) w83 rfl (r_move rfl) ?_
  refine EL_val (.int .i64 2) w83 rfl (r_asn (by kernel_rfl) (r_add rfl rfl)) ?_
  refine EL_val (ptr b38 2) w83 rfl (r_indexA (i := 2) rfl rfl (by omega) (by omega) Try.underlying63 (by kernel_rfl)) ?_
  refine EL_val (.int .u64 0) w83 rfl (r_loadA rfl A84' (u := .int .u64 0) rfl Try.underlying47 rfl) ?_
  refine EL_val (.int .u64 x82) w83 rfl (r_move rfl) ?_
  refine EL_val (.int .u64 x82) w83 rfl (r_asn (by omega) (r_addq rfl rfl)) ?_
  refine EL_val (ptr b38 2) w83 rfl (r_indexA (i := 2) rfl rfl (by omega) (by omega) Try.underlying63 (by kernel_rfl)) ?_
  refine EL_storeA (j := 2) (u := .int .u64 x82) rfl rfl A84' (by first | (simp; omega) | simp) rfl (by kernel_rfl) ?_
  intro w94 A95 K96 z97
  have A95' : Arr w94 b38 63 ((([x59, x80, x82, 0, 0] : List Int)).map (Value.int .u64)) := A95
  have B98 : Below w.heap.size w w94 := below_kept B87 K96 (Nat.le_trans B35.size (Nat.le_of_eq k40.symm)) (B87.size)
  have B99 : Below w12.heap.size w12 w94 := below_kept B88 K96 (Nat.le_trans B36.size (Nat.le_of_eq k40.symm)) (B88.size)
  have B100 : Below w19.heap.size w19 w94 := below_kept B89 K96 (Nat.le_trans B37.size (Nat.le_of_eq k40.symm)) (B89.size)
  have B101 : Below w28.heap.size w28 w94 := below_kept B90 K96 (Nat.le_trans (Nat.le_refl _) (Nat.le_of_eq k40.symm)) (B90.size)
  have A102 : Arr w94 b11 49 (([a0, a1, a2] : List Int).map (Value.int .u64)) := A91.grew K96 (by simp; omega)
  have A103 : Arr w94 b18 49 (([b0, b1, b2] : List Int).map (Value.int .u64)) := A92.grew K96 (by simp; omega)
  have A104 : Arr w94 b27 49 ((List.replicate 3 0).map (Value.int .u64)) := A93.grew K96 (by simp; omega)
  refine EL_nil ?_
  refine inB_n ?_
  refine thn_n ?_
  refine EC_reg ?_
  refine EL_val (.int .i64 1) w94 rfl (r_asn (by kernel_rfl) (r_add rfl rfl)) ?_
  refine EL_val (.int .i64 1) w94 rfl (r_move rfl) ?_
  refine EL_nil ?_
  refine thn_n ?_
  refine U_step ?_
  refine EC_seq ?_
  refine EC_reg ?_
  refine EL_val (.bool true) w94 rfl (r_dec (by decide) (r_lss rfl rfl)) ?_
  refine EL_nil ?_
  refine thn_n ?_
  refine EC_seq ?_
  refine EC_cond_true rfl ?_
  refine EC_skip ?_
  refine thn_n ?_
  refine EC_seq ?_
  refine EC_block ?_
  refine EC_seq ?_
  refine EC_reg ?_
  refine EL_val (.int .i64 1) w94 rfl (r_move rfl) ?_
  refine EL_val (.int .u64 a1) w94 rfl (r_indexV (k := .i64) rfl rfl (by omega) (by omega) (by rfl) Try.underlying49 (by kernel_rfl) Try.underlying47 rfl) ?_
  refine EL_val (.int .i64 1) w94 rfl (r_assign rfl) ?_
  refine EL_val (.int .u64 a1) w94 rfl (r_assign rfl) ?_
  refine EL_nil ?_
  refine thn_n ?_
  refine EC_seq ?_
  refine EC_reg ?_
  refine EL_val (.int .u64 0) w94 rfl (r_assign rfl) ?_
  refine EL_nil ?_
  refine thn_n ?_
  refine EC_seq ?_
  refine EC_seq ?_
  refine EC_reg ?_
  refine EL_val (.slice (some ⟨b18, 0, none⟩) 2 3) w94 rfl (r_sliceAh rfl Try.underlying49 (by kernel_rfl) (j := 2) (by decide) rfl) ?_
  have R105 : Row w94 (.slice (some ⟨b18, 0, none⟩) 2 3) (([b0, b1] : List Int).map (Value.int .u64)) := arr_upto A103 (j := 2) (by simp) (by simp)
  refine EL_val (.int .i64 2) w94 rfl (r_asn (by rfl) (lenF (r_len rfl (show Row w94 (.slice (some ⟨b18, 0, none⟩) 2 3) (([b0, b1] : List Int).map (Value.int .u64)) from arr_upto A103 (j := 2) (by simp) (by simp)) Try.underlying64))) ?_
  refine EL_val (.int .i64 0) w94 rfl (r_move rfl) ?_
  refine EL_nil ?_
  refine thn_n ?_
  refine EC_block ?_
  refine EC_for 3 ?_
  refine U_step ?_
  refine EC_seq ?_
  refine EC_reg ?_
  refine EL_val (.bool true) w94 rfl (r_dec (by decide) (r_lss rfl rfl)) ?_
  refine EL_nil ?_
  refine thn_n ?_
  refine EC_seq ?_
  refine EC_cond_true rfl ?_
  refine EC_skip ?_
  refine thn_n ?_
  refine EC_seq ?_
  refine EC_block ?_
  refine EC_seq ?_
  refine EC_reg ?_
  refine EL_val (.int .i64 0) w94 rfl (r_move rfl) ?_
  refine EL_val (.pointer (some (at_ (.slice (some ⟨b18, 0, none⟩) 2 3) ((0 : Int).toNat)))) w94 rfl (r_index rfl (show Row w94 (.slice (some ⟨b18, 0, none⟩) 2 3) (([b0, b1] : List Int).map (Value.int .u64)) from arr_upto A103 (j := 2) (by simp) (by simp)) rfl (by omega) (by first | omega | (simp; omega) | simp) Try.underlying64 (by kernel_rfl)) ?_
  refine EL_val (.int .u64 b0) w94 rfl (r_load rfl ((show Row w94 (.slice (some ⟨b18, 0, none⟩) 2 3) (([b0, b1] : List Int).map (Value.int .u64)) from arr_upto A103 (j := 2) (by simp) (by simp)).cell (u := .int .u64 b0) rfl) Try.underlying47 rfl) ?_
  refine EL_val (.int .i64 0) w94 rfl (r_assign rfl) ?_
  refine EL_val (.int .u64 b0) w94 rfl (r_assign rfl) ?_
  refine EL_nil ?_
  refine thn_n ?_
  refine EC_seq ?_
  refine EC_reg ?_
  refine EL_val (.int .u64 a1) w94 rfl (r_move rfl) ?_
  refine EL_val (.int .u64 b0) w94 rfl (r_move rfl) ?_
  have q109 := mul_bd (B := 18446744073709551615) (C := 18446744073709551615) (x := a1) (y := b0) (by omega) (by omega)
  obtain ⟨x106, hx106⟩ : ∃ z : Int, z = a1 * b0 / 18446744073709551616 := ⟨_, rfl⟩
  obtain ⟨x107, hx107⟩ : ∃ z : Int, z = a1 * b0 % 18446744073709551616 := ⟨_, rfl⟩
  have hc108 := mul64_c a1 b0 w94 (by omega) (by omega)
  rw [← hx106, ← hx107] at hc108
  refine EL_ret [.int .u64 a1, .int .u64 b0] rfl Try.func37 rfl nm37 rfl (hc108) ?_
  rintro _ _ ⟨rfl, rfl⟩
  refine EL_val (.tuple #[.int .u64 x106, .int .u64 x107]) w94 rfl (r_move rfl) ?_
  refine EL_val (.int .u64 x106) w94 rfl (r_extract rfl rfl) ?_
  refine EL_val (.int .u64 x107) w94 rfl (r_extract rfl rfl) ?_
  refine EL_val (.int .u64 x106) w94 rfl (r_assign rfl) ?_
  refine EL_val (.int .u64 x107) w94 rfl (r_assign rfl) ?_
  refine EL_nil ?_
  refine thn_n ?_
  refine EC_seq ?_
  refine EC_reg ?_
  refine EL_val (.int .u64 0) w94 rfl (r_assign rfl) ?_
  refine EL_nil ?_
  refine thn_n ?_
  refine EC_seq ?_
  refine EC_reg ?_
  refine EL_val (.int .u64 x107) w94 rfl (r_move rfl) ?_
  refine EL_val (.int .i64 1) w94 rfl (r_move rfl) ?_
  refine EL_val (.int .i64 0) w94 rfl (r_move rfl) ?_
  refine EL_val (.int .i64 1) w94 rfl (r_asn (by kernel_rfl) (r_add rfl rfl)) ?_
  refine EL_val (ptr b38 1) w94 rfl (r_indexA (i := 1) rfl rfl (by omega) (by omega) Try.underlying63 (by kernel_rfl)) ?_
  refine EL_val (.int .u64 x80) w94 rfl (r_loadA rfl A95' (u := .int .u64 x80) rfl Try.underlying47 rfl) ?_
  obtain ⟨x110, hx110⟩ : ∃ z : Int, z = (x107 + x80 + 0) % 18446744073709551616 := ⟨_, rfl⟩
  obtain ⟨x111, hx111⟩ : ∃ z : Int, z = (x107 + x80 + 0) / 18446744073709551616 := ⟨_, rfl⟩
  refine EL_val (.tuple #[.int .u64 x110, .int .u64 x111]) w94 rfl (by rw [hx110, hx111]; exact r_add64 Try.func36 nm36 (by kernel_rfl) (by kernel_rfl) (by kernel_rfl) rfl rfl rfl (by omega) (by omega) (by omega) (by omega)) ?_
  refine EL_val (.tuple #[.int .u64 x110, .int .u64 x111]) w94 rfl (r_move rfl) ?_
  refine EL_val (.int .u64 x110) w94 rfl (r_extract rfl rfl) ?_
  refine EL_val (.int .u64 x111) w94 rfl (r_extract rfl rfl) ?_
  refine EL_val (.int .u64 x110) w94 rfl (r_assign rfl) ?_
  refine EL_val (.int .u64 x111) w94 rfl (r_assign rfl) ?_
  refine EL_nil ?_
  refine thn_n ?_
  refine EC_seq ?_
  refine EC_reg ?_
  refine EL_val (.int .u64 x106) w94 rfl (r_move rfl) ?_
  refine EL_val (.int .u64 x111) w94 rfl (r_move rfl) ?_
  refine EL_int (x106 + x111) rfl (r_asn (by omega) (r_addq rfl rfl)) ?_
  intro x112 hx112
  refine EL_val (.int .u64 x112) w94 rfl (r_assign rfl) ?_
  refine EL_nil ?_
  refine thn_n ?_
  refine EC_seq ?_
  refine EC_reg ?_
  refine EL_val (.int .u64 x110) w94 rfl (r_move rfl) ?_
  refine EL_val (.int .u64 0) w94 rfl (r_move rfl) ?_
  obtain ⟨x113, hx113⟩ : ∃ z : Int, z = (x110 + 0 + 0) % 18446744073709551616 := ⟨_, rfl⟩
  obtain ⟨x114, hx114⟩ : ∃ z : Int, z = (x110 + 0 + 0) / 18446744073709551616 := ⟨_, rfl⟩
  refine EL_val (.tuple #[.int .u64 x113, .int .u64 x114]) w94 rfl (by rw [hx113, hx114]; exact r_add64 Try.func36 nm36 (by kernel_rfl) (by kernel_rfl) (by kernel_rfl) rfl rfl rfl (by omega) (by omega) (by omega) (by omega)) ?_
  refine EL_val (.tuple #[.int .u64 x113, .int .u64 x114]) w94 rfl (r_move rfl) ?_
  refine EL_val (.int .u64 x113) w94 rfl (r_extract rfl rfl) ?_
  refine EL_val (.int .u64 x114) w94 rfl (r_extract rfl rfl) ?_
  refine EL_val (.int .u64 x113) w94 rfl (r_assign rfl) ?_
  refine EL_val (.int .u64 x114) w94 rfl (r_assign rfl) ?_
  refine EL_nil ?_
  refine thn_n ?_
  refine EC_reg ?_
  refine EL_val (.int .i64 1) w94 rfl (r_move rfl) ?_
  refine EL_val (.int .i64 0) w94 rfl (r_move rfl) ?_
  refine EL_val (.int .i64 1) w94 rfl (r_asn (by kernel_rfl) (r_add rfl rfl)) ?_
  refine EL_val (.int .u64 x113) w94 rfl (r_move rfl) ?_
  refine EL_val (.int .u64 x112) w94 rfl (r_move rfl) ?_
  refine EL_val (.int .u64 x114) w94 rfl (r_move rfl) ?_
  have mq3 : 0 ≤ x112 + x114 ∧ x112 + x114 < 18446744073709551616 := by omega
  refine EL_int (x112 + x114) rfl (r_asn (by omega) (r_addq rfl rfl)) ?_
  intro x115 hx115
  have mac3 : x113 + 18446744073709551616 * x115 = a1 * b0 + x80 + 0 ∧ (0 ≤ x113 ∧ x113 < 18446744073709551616) ∧ 0 ≤ x115 ∧ x115 < 18446744073709551616 := by omega
  obtain ⟨mac3, mlo3, mca3⟩ := mac3
  clear hx115 hx114 hx113 hx112 hx111 hx110 hc108 hx107 hx106 q109
  clear mq3
  refine EL_val (ptr b38 1) w94 rfl (r_indexA (i := 1) rfl rfl (by omega) (by omega) Try.underlying63 (by kernel_rfl)) ?_
  refine EL_storeA (j := 1) (u := .int .u64 x113) rfl rfl A95' (by first | (simp; omega) | simp) rfl (by kernel_rfl) ?_
  intro w116 A117 K118 z119
  have A117' : Arr w116 b38 63 ((([x59, x113, x82, 0, 0] : List Int)).map (Value.int .u64)) := A117
  have B120 : Below w.heap.size w w116 := below_kept B98 K118 (Nat.le_trans B35.size (Nat.le_of_eq k40.symm)) (B98.size)
  have B121 : Below w12.heap.size w12 w116 := below_kept B99 K118 (Nat.le_trans B36.size (Nat.le_of_eq k40.symm)) (B99.size)
  have B122 : Below w19.heap.size w19 w116 := below_kept B100 K118 (Nat.le_trans B37.size (Nat.le_of_eq k40.symm)) (B100.size)
  have B123 : Below w28.heap.size w28 w116 := below_kept B101 K118 (Nat.le_trans (Nat.le_refl _) (Nat.le_of_eq k40.symm)) (B101.size)
  have A124 : Arr w116 b11 49 (([a0, a1, a2] : List Int).map (Value.int .u64)) := A102.grew K118 (by simp; omega)
  have A125 : Arr w116 b18 49 (([b0, b1, b2] : List Int).map (Value.int .u64)) := A103.grew K118 (by simp; omega)
  have A126 : Arr w116 b27 49 ((List.replicate 3 0).map (Value.int .u64)) := A104.grew K118 (by simp; omega)
  refine EL_val (.int .u64 x115) w116 rfl (r_assign rfl) ?_
  refine EL_nil ?_
  refine inB_n ?_
  refine thn_n ?_
  refine EC_reg ?_
  refine EL_val (.int .i64 1) w116 rfl (r_asn (by kernel_rfl) (r_add rfl rfl)) ?_
  refine EL_val (.int .i64 1) w116 rfl (r_move rfl) ?_
  refine EL_nil ?_
  refine thn_n ?_
  refine U_step ?_
  refine EC_seq ?_
  refine EC_reg ?_
  refine EL_val (.bool true) w116 rfl (r_dec (by decide) (r_lss rfl rfl)) ?_
  refine EL_nil ?_
  refine thn_n ?_
  refine EC_seq ?_
  refine EC_cond_true rfl ?_
  refine EC_skip ?_
  refine thn_n ?_
  refine EC_seq ?_
  refine EC_block ?_
  refine EC_seq ?_
  refine EC_reg ?_
  refine EL_val (.int .i64 1) w116 rfl (r_move rfl) ?_
  refine EL_val (.pointer (some (at_ (.slice (some ⟨b18, 0, none⟩) 2 3) ((1 : Int).toNat)))) w116 rfl (r_index rfl (show Row w116 (.slice (some ⟨b18, 0, none⟩) 2 3) (([b0, b1] : List Int).map (Value.int .u64)) from arr_upto A125 (j := 2) (by simp) (by simp)) rfl (by omega) (by first | omega | (simp; omega) | simp) Try.underlying64 (by kernel_rfl)) ?_
  refine EL_val (.int .u64 b1) w116 rfl (r_load rfl ((show Row w116 (.slice (some ⟨b18, 0, none⟩) 2 3) (([b0, b1] : List Int).map (Value.int .u64)) from arr_upto A125 (j := 2) (by simp) (by simp)).cell (u := .int .u64 b1) rfl) Try.underlying47 rfl) ?_
  refine EL_val (.int .i64 1) w116 rfl (r_assign rfl) ?_
  refine EL_val (.int .u64 b1) w116 rfl (r_assign rfl) ?_
  refine EL_nil ?_
  refine thn_n ?_
  refine EC_seq ?_
  refine EC_reg ?_
  refine EL_val (.int .u64 a1) w116 rfl (r_move rfl) ?_
  refine EL_val (.int .u64 b1) w116 rfl (r_move rfl) ?_
  have q130 := mul_bd (B := 18446744073709551615) (C := 18446744073709551615) (x := a1) (y := b1) (by omega) (by omega)
  obtain ⟨x127, hx127⟩ : ∃ z : Int, z = a1 * b1 / 18446744073709551616 := ⟨_, rfl⟩
  obtain ⟨x128, hx128⟩ : ∃ z : Int, z = a1 * b1 % 18446744073709551616 := ⟨_, rfl⟩
  have hc129 := mul64_c a1 b1 w116 (by omega) (by omega)
  rw [← hx127, ← hx128] at hc129
  refine EL_ret [.int .u64 a1, .int .u64 b1] rfl Try.func37 rfl nm37 rfl (hc129) ?_
  rintro _ _ ⟨rfl, rfl⟩
  refine EL_val (.tuple #[.int .u64 x127, .int .u64 x128]) w116 rfl (r_move rfl) ?_
  refine EL_val (.int .u64 x127) w116 rfl (r_extract rfl rfl) ?_
  refine EL_val (.int .u64 x128) w116 rfl (r_extract rfl rfl) ?_
  refine EL_val (.int .u64 x127) w116 rfl (r_assign rfl) ?_
  refine EL_val (.int .u64 x128) w116 rfl (r_assign rfl) ?_
  refine EL_nil ?_
  refine thn_n ?_
  refine EC_seq ?_
  refine EC_reg ?_
  refine EL_val (.int .u64 0) w116 rfl (r_assign rfl) ?_
  refine EL_nil ?_
  refine thn_n ?_
  refine EC_seq ?_
  refine EC_reg ?_
  refine EL_val (.int .u64 x128) w116 rfl (r_move rfl) ?_
  refine EL_val (.int .i64 1) w116 rfl (r_move rfl) ?_
  refine EL_val (.int .i64 1) w116 rfl (r_move rfl) ?_
  refine EL_val (.int .i64 2) w116 rfl (r_asn (by kernel_rfl) (r_add rfl rfl)) ?_
  refine EL_val (ptr b38 2) w116 rfl (r_indexA (i := 2) rfl rfl (by omega) (by omega) Try.underlying63 (by kernel_rfl)) ?_
  refine EL_val (.int .u64 x82) w116 rfl (r_loadA rfl A117' (u := .int .u64 x82) rfl Try.underlying47 rfl) ?_
  obtain ⟨x131, hx131⟩ : ∃ z : Int, z = (x128 + x82 + 0) % 18446744073709551616 := ⟨_, rfl⟩
  obtain ⟨x132, hx132⟩ : ∃ z : Int, z = (x128 + x82 + 0) / 18446744073709551616 := ⟨_, rfl⟩
  refine EL_val (.tuple #[.int .u64 x131, .int .u64 x132]) w116 rfl (by rw [hx131, hx132]; exact r_add64 Try.func36 nm36 (by kernel_rfl) (by kernel_rfl) (by kernel_rfl) rfl rfl rfl (by omega) (by omega) (by omega) (by omega)) ?_
  refine EL_val (.tuple #[.int .u64 x131, .int .u64 x132]) w116 rfl (r_move rfl) ?_
  refine EL_val (.int .u64 x131) w116 rfl (r_extract rfl rfl) ?_
  refine EL_val (.int .u64 x132) w116 rfl (r_extract rfl rfl) ?_
  refine EL_val (.int .u64 x131) w116 rfl (r_assign rfl) ?_
  refine EL_val (.int .u64 x132) w116 rfl (r_assign rfl) ?_
  refine EL_nil ?_
  refine thn_n ?_
  refine EC_seq ?_
  refine EC_reg ?_
  refine EL_val (.int .u64 x127) w116 rfl (r_move rfl) ?_
  refine EL_val (.int .u64 x132) w116 rfl (r_move rfl) ?_
  refine EL_int (x127 + x132) rfl (r_asn (by omega) (r_addq rfl rfl)) ?_
  intro x133 hx133
  refine EL_val (.int .u64 x133) w116 rfl (r_assign rfl) ?_
  refine EL_nil ?_
  refine thn_n ?_
  refine EC_seq ?_
  refine EC_reg ?_
  refine EL_val (.int .u64 x131) w116 rfl (r_move rfl) ?_
  refine EL_val (.int .u64 x115) w116 rfl (r_move rfl) ?_
  obtain ⟨x134, hx134⟩ : ∃ z : Int, z = (x131 + x115 + 0) % 18446744073709551616 := ⟨_, rfl⟩
  obtain ⟨x135, hx135⟩ : ∃ z : Int, z = (x131 + x115 + 0) / 18446744073709551616 := ⟨_, rfl⟩
  refine EL_val (.tuple #[.int .u64 x134, .int .u64 x135]) w116 rfl (by rw [hx134, hx135]; exact r_add64 Try.func36 nm36 (by kernel_rfl) (by kernel_rfl) (by kernel_rfl) rfl rfl rfl (by omega) (by omega) (by omega) (by omega)) ?_
  refine EL_val (.tuple #[.int .u64 x134, .int .u64 x135]) w116 rfl (r_move rfl) ?_
  refine EL_val (.int .u64 x134) w116 rfl (r_extract rfl rfl) ?_
  refine EL_val (.int .u64 x135) w116 rfl (r_extract rfl rfl) ?_
  refine EL_val (.int .u64 x134) w116 rfl (r_assign rfl) ?_
  refine EL_val (.int .u64 x135) w116 rfl (r_assign rfl) ?_
  refine EL_nil ?_
  refine thn_n ?_
  refine EC_reg ?_
  refine EL_val (.int .i64 1) w116 rfl (r_move rfl) ?_
  refine EL_val (.int .i64 1) w116 rfl (r_move rfl) ?_
  refine EL_val (.int .i64 2) w116 rfl (r_asn (by kernel_rfl) (r_add rfl rfl)) ?_
  refine EL_val (.int .u64 x134) w116 rfl (r_move rfl) ?_
  refine EL_val (.int .u64 x133) w116 rfl (r_move rfl) ?_
  refine EL_val (.int .u64 x135) w116 rfl (r_move rfl) ?_
  have mq4 : 0 ≤ x133 + x135 ∧ x133 + x135 < 18446744073709551616 := by omega
  refine EL_int (x133 + x135) rfl (r_asn (by omega) (r_addq rfl rfl)) ?_
  intro x136 hx136
  have mac4 : x134 + 18446744073709551616 * x136 = a1 * b1 + x82 + x115 ∧ (0 ≤ x134 ∧ x134 < 18446744073709551616) ∧ 0 ≤ x136 ∧ x136 < 18446744073709551616 := by omega
  obtain ⟨mac4, mlo4, mca4⟩ := mac4
  clear hx136 hx135 hx134 hx133 hx132 hx131 hc129 hx128 hx127 q130
  clear mq4
  refine EL_val (ptr b38 2) w116 rfl (r_indexA (i := 2) rfl rfl (by omega) (by omega) Try.underlying63 (by kernel_rfl)) ?_
  refine EL_storeA (j := 2) (u := .int .u64 x134) rfl rfl A117' (by first | (simp; omega) | simp) rfl (by kernel_rfl) ?_
  intro w137 A138 K139 z140
  have A138' : Arr w137 b38 63 ((([x59, x113, x134, 0, 0] : List Int)).map (Value.int .u64)) := A138
  have B141 : Below w.heap.size w w137 := below_kept B120 K139 (Nat.le_trans B35.size (Nat.le_of_eq k40.symm)) (B120.size)
  have B142 : Below w12.heap.size w12 w137 := below_kept B121 K139 (Nat.le_trans B36.size (Nat.le_of_eq k40.symm)) (B121.size)
  have B143 : Below w19.heap.size w19 w137 := below_kept B122 K139 (Nat.le_trans B37.size (Nat.le_of_eq k40.symm)) (B122.size)
  have B144 : Below w28.heap.size w28 w137 := below_kept B123 K139 (Nat.le_trans (Nat.le_refl _) (Nat.le_of_eq k40.symm)) (B123.size)
  have A145 : Arr w137 b11 49 (([a0, a1, a2] : List Int).map (Value.int .u64)) := A124.grew K139 (by simp; omega)
  have A146 : Arr w137 b18 49 (([b0, b1, b2] : List Int).map (Value.int .u64)) := A125.grew K139 (by simp; omega)
  have A147 : Arr w137 b27 49 ((List.replicate 3 0).map (Value.int .u64)) := A126.grew K139 (by simp; omega)
  refine EL_val (.int .u64 x136) w137 rfl (r_assign rfl) ?_
  refine EL_nil ?_
  refine inB_n ?_
  refine thn_n ?_
  refine EC_reg ?_
  refine EL_val (.int .i64 2) w137 rfl (r_asn (by kernel_rfl) (r_add rfl rfl)) ?_
  refine EL_val (.int .i64 2) w137 rfl (r_move rfl) ?_
  refine EL_nil ?_
  refine thn_n ?_
  refine U_step ?_
  refine EC_seq ?_
  refine EC_reg ?_
  refine EL_val (.bool false) w137 rfl (r_dec (by decide) (r_lss rfl rfl)) ?_
  refine EL_nil ?_
  refine thn_n ?_
  refine EC_seq ?_
  refine EC_cond_false rfl ?_
  refine EC_exit ?_
  refine thn_x ?_
  refine thn_x ?_
  refine inB_hit ?_
  refine thn_n ?_
  refine EC_reg ?_
  refine EL_val (.int .i64 1) w137 rfl (r_move rfl) ?_
  refine EL_val (.int .i64 3) w137 rfl (r_asn (by kernel_rfl) (r_add rfl rfl)) ?_
  refine EL_val (ptr b38 3) w137 rfl (r_indexA (i := 3) rfl rfl (by omega) (by omega) Try.underlying63 (by kernel_rfl)) ?_
  refine EL_val (.int .u64 0) w137 rfl (r_loadA rfl A138' (u := .int .u64 0) rfl Try.underlying47 rfl) ?_
  refine EL_val (.int .u64 x136) w137 rfl (r_move rfl) ?_
  refine EL_val (.int .u64 x136) w137 rfl (r_asn (by omega) (r_addq rfl rfl)) ?_
  refine EL_val (ptr b38 3) w137 rfl (r_indexA (i := 3) rfl rfl (by omega) (by omega) Try.underlying63 (by kernel_rfl)) ?_
  refine EL_storeA (j := 3) (u := .int .u64 x136) rfl rfl A138' (by first | (simp; omega) | simp) rfl (by kernel_rfl) ?_
  intro w148 A149 K150 z151
  have A149' : Arr w148 b38 63 ((([x59, x113, x134, x136, 0] : List Int)).map (Value.int .u64)) := A149
  have B152 : Below w.heap.size w w148 := below_kept B141 K150 (Nat.le_trans B35.size (Nat.le_of_eq k40.symm)) (B141.size)
  have B153 : Below w12.heap.size w12 w148 := below_kept B142 K150 (Nat.le_trans B36.size (Nat.le_of_eq k40.symm)) (B142.size)
  have B154 : Below w19.heap.size w19 w148 := below_kept B143 K150 (Nat.le_trans B37.size (Nat.le_of_eq k40.symm)) (B143.size)
  have B155 : Below w28.heap.size w28 w148 := below_kept B144 K150 (Nat.le_trans (Nat.le_refl _) (Nat.le_of_eq k40.symm)) (B144.size)
  have A156 : Arr w148 b11 49 (([a0, a1, a2] : List Int).map (Value.int .u64)) := A145.grew K150 (by simp; omega)
  have A157 : Arr w148 b18 49 (([b0, b1, b2] : List Int).map (Value.int .u64)) := A146.grew K150 (by simp; omega)
  have A158 : Arr w148 b27 49 ((List.replicate 3 0).map (Value.int .u64)) := A147.grew K150 (by simp; omega)
  refine EL_nil ?_
  refine inB_n ?_
  refine thn_n ?_
  refine EC_reg ?_
  refine EL_val (.int .i64 2) w148 rfl (r_asn (by kernel_rfl) (r_add rfl rfl)) ?_
  refine EL_val (.int .i64 2) w148 rfl (r_move rfl) ?_
  refine EL_nil ?_
  refine thn_n ?_
  refine U_step ?_
  refine EC_seq ?_
  refine EC_reg ?_
  refine EL_val (.bool true) w148 rfl (r_dec (by decide) (r_lss rfl rfl)) ?_
  refine EL_nil ?_
  refine thn_n ?_
  refine EC_seq ?_
  refine EC_cond_true rfl ?_
  refine EC_skip ?_
  refine thn_n ?_
  refine EC_seq ?_
  refine EC_block ?_
  refine EC_seq ?_
  refine EC_reg ?_
  refine EL_val (.int .i64 2) w148 rfl (r_move rfl) ?_
  refine EL_val (.int .u64 a2) w148 rfl (r_indexV (k := .i64) rfl rfl (by omega) (by omega) (by rfl) Try.underlying49 (by kernel_rfl) Try.underlying47 rfl) ?_
  refine EL_val (.int .i64 2) w148 rfl (r_assign rfl) ?_
  refine EL_val (.int .u64 a2) w148 rfl (r_assign rfl) ?_
  refine EL_nil ?_
  refine thn_n ?_
  refine EC_seq ?_
  refine EC_reg ?_
  refine EL_val (.int .u64 0) w148 rfl (r_assign rfl) ?_
  refine EL_nil ?_
  refine thn_n ?_
  refine EC_seq ?_
  refine EC_seq ?_
  refine EC_reg ?_
  refine EL_val (.slice (some ⟨b18, 0, none⟩) 2 3) w148 rfl (r_sliceAh rfl Try.underlying49 (by kernel_rfl) (j := 2) (by decide) rfl) ?_
  have R159 : Row w148 (.slice (some ⟨b18, 0, none⟩) 2 3) (([b0, b1] : List Int).map (Value.int .u64)) := arr_upto A157 (j := 2) (by simp) (by simp)
  refine EL_val (.int .i64 2) w148 rfl (r_asn (by rfl) (lenF (r_len rfl (show Row w148 (.slice (some ⟨b18, 0, none⟩) 2 3) (([b0, b1] : List Int).map (Value.int .u64)) from arr_upto A157 (j := 2) (by simp) (by simp)) Try.underlying64))) ?_
  refine EL_val (.int .i64 0) w148 rfl (r_move rfl) ?_
  refine EL_nil ?_
  refine thn_n ?_
  refine EC_block ?_
  refine EC_for 3 ?_
  refine U_step ?_
  refine EC_seq ?_
  refine EC_reg ?_
  refine EL_val (.bool true) w148 rfl (r_dec (by decide) (r_lss rfl rfl)) ?_
  refine EL_nil ?_
  refine thn_n ?_
  refine EC_seq ?_
  refine EC_cond_true rfl ?_
  refine EC_skip ?_
  refine thn_n ?_
  refine EC_seq ?_
  refine EC_block ?_
  refine EC_seq ?_
  refine EC_reg ?_
  refine EL_val (.int .i64 0) w148 rfl (r_move rfl) ?_
  refine EL_val (.pointer (some (at_ (.slice (some ⟨b18, 0, none⟩) 2 3) ((0 : Int).toNat)))) w148 rfl (r_index rfl (show Row w148 (.slice (some ⟨b18, 0, none⟩) 2 3) (([b0, b1] : List Int).map (Value.int .u64)) from arr_upto A157 (j := 2) (by simp) (by simp)) rfl (by omega) (by first | omega | (simp; omega) | simp) Try.underlying64 (by kernel_rfl)) ?_
  refine EL_val (.int .u64 b0) w148 rfl (r_load rfl ((show Row w148 (.slice (some ⟨b18, 0, none⟩) 2 3) (([b0, b1] : List Int).map (Value.int .u64)) from arr_upto A157 (j := 2) (by simp) (by simp)).cell (u := .int .u64 b0) rfl) Try.underlying47 rfl) ?_
  refine EL_val (.int .i64 0) w148 rfl (r_assign rfl) ?_
  refine EL_val (.int .u64 b0) w148 rfl (r_assign rfl) ?_
  refine EL_nil ?_
  refine thn_n ?_
  refine EC_seq ?_
  refine EC_reg ?_
  refine EL_val (.int .u64 a2) w148 rfl (r_move rfl) ?_
  refine EL_val (.int .u64 b0) w148 rfl (r_move rfl) ?_
  have q163 := mul_bd (B := 18446744073709551615) (C := 18446744073709551615) (x := a2) (y := b0) (by omega) (by omega)
  obtain ⟨x160, hx160⟩ : ∃ z : Int, z = a2 * b0 / 18446744073709551616 := ⟨_, rfl⟩
  obtain ⟨x161, hx161⟩ : ∃ z : Int, z = a2 * b0 % 18446744073709551616 := ⟨_, rfl⟩
  have hc162 := mul64_c a2 b0 w148 (by omega) (by omega)
  rw [← hx160, ← hx161] at hc162
  refine EL_ret [.int .u64 a2, .int .u64 b0] rfl Try.func37 rfl nm37 rfl (hc162) ?_
  rintro _ _ ⟨rfl, rfl⟩
  refine EL_val (.tuple #[.int .u64 x160, .int .u64 x161]) w148 rfl (r_move rfl) ?_
  refine EL_val (.int .u64 x160) w148 rfl (r_extract rfl rfl) ?_
  refine EL_val (.int .u64 x161) w148 rfl (r_extract rfl rfl) ?_
  refine EL_val (.int .u64 x160) w148 rfl (r_assign rfl) ?_
  refine EL_val (.int .u64 x161) w148 rfl (r_assign rfl) ?_
  refine EL_nil ?_
  refine thn_n ?_
  refine EC_seq ?_
  refine EC_reg ?_
  refine EL_val (.int .u64 0) w148 rfl (r_assign rfl) ?_
  refine EL_nil ?_
  refine thn_n ?_
  refine EC_seq ?_
  refine EC_reg ?_
  refine EL_val (.int .u64 x161) w148 rfl (r_move rfl) ?_
  refine EL_val (.int .i64 2) w148 rfl (r_move rfl) ?_
  refine EL_val (.int .i64 0) w148 rfl (r_move rfl) ?_
  refine EL_val (.int .i64 2) w148 rfl (r_asn (by kernel_rfl) (r_add rfl rfl)) ?_
  refine EL_val (ptr b38 2) w148 rfl (r_indexA (i := 2) rfl rfl (by omega) (by omega) Try.underlying63 (by kernel_rfl)) ?_
  refine EL_val (.int .u64 x134) w148 rfl (r_loadA rfl A149' (u := .int .u64 x134) rfl Try.underlying47 rfl) ?_
  obtain ⟨x164, hx164⟩ : ∃ z : Int, z = (x161 + x134 + 0) % 18446744073709551616 := ⟨_, rfl⟩
  obtain ⟨x165, hx165⟩ : ∃ z : Int, z = (x161 + x134 + 0) / 18446744073709551616 := ⟨_, rfl⟩
  refine EL_val (.tuple #[.int .u64 x164, .int .u64 x165]) w148 rfl (by rw [hx164, hx165]; exact r_add64 Try.func36 nm36 (by kernel_rfl) (by kernel_rfl) (by kernel_rfl) rfl rfl rfl (by omega) (by omega) (by omega) (by omega)) ?_
  refine EL_val (.tuple #[.int .u64 x164, .int .u64 x165]) w148 rfl (r_move rfl) ?_
  refine EL_val (.int .u64 x164) w148 rfl (r_extract rfl rfl) ?_
  refine EL_val (.int .u64 x165) w148 rfl (r_extract rfl rfl) ?_
  refine EL_val (.int .u64 x164) w148 rfl (r_assign rfl) ?_
  refine EL_val (.int .u64 x165) w148 rfl (r_assign rfl) ?_
  refine EL_nil ?_
  refine thn_n ?_
  refine EC_seq ?_
  refine EC_reg ?_
  refine EL_val (.int .u64 x160) w148 rfl (r_move rfl) ?_
  refine EL_val (.int .u64 x165) w148 rfl (r_move rfl) ?_
  refine EL_int (x160 + x165) rfl (r_asn (by omega) (r_addq rfl rfl)) ?_
  intro x166 hx166
  refine EL_val (.int .u64 x166) w148 rfl (r_assign rfl) ?_
  refine EL_nil ?_
  refine thn_n ?_
  refine EC_seq ?_
  refine EC_reg ?_
  refine EL_val (.int .u64 x164) w148 rfl (r_move rfl) ?_
  refine EL_val (.int .u64 0) w148 rfl (r_move rfl) ?_
  obtain ⟨x167, hx167⟩ : ∃ z : Int, z = (x164 + 0 + 0) % 18446744073709551616 := ⟨_, rfl⟩
  obtain ⟨x168, hx168⟩ : ∃ z : Int, z = (x164 + 0 + 0) / 18446744073709551616 := ⟨_, rfl⟩
  refine EL_val (.tuple #[.int .u64 x167, .int .u64 x168]) w148 rfl (by rw [hx167, hx168]; exact r_add64 Try.func36 nm36 (by kernel_rfl) (by kernel_rfl) (by kernel_rfl) rfl rfl rfl (by omega) (by omega) (by omega) (by omega)) ?_
  refine EL_val (.tuple #[.int .u64 x167, .int .u64 x168]) w148 rfl (r_move rfl) ?_
  refine EL_val (.int .u64 x167) w148 rfl (r_extract rfl rfl) ?_
  refine EL_val (.int .u64 x168) w148 rfl (r_extract rfl rfl) ?_
  refine EL_val (.int .u64 x167) w148 rfl (r_assign rfl) ?_
  refine EL_val (.int .u64 x168) w148 rfl (r_assign rfl) ?_
  refine EL_nil ?_
  refine thn_n ?_
  refine EC_reg ?_
  refine EL_val (.int .i64 2) w148 rfl (r_move rfl) ?_
  refine EL_val (.int .i64 0) w148 rfl (r_move rfl) ?_
  refine EL_val (.int .i64 2) w148 rfl (r_asn (by kernel_rfl) (r_add rfl rfl)) ?_
  refine EL_val (.int .u64 x167) w148 rfl (r_move rfl) ?_
  refine EL_val (.int .u64 x166) w148 rfl (r_move rfl) ?_
  refine EL_val (.int .u64 x168) w148 rfl (r_move rfl) ?_
  have mq5 : 0 ≤ x166 + x168 ∧ x166 + x168 < 18446744073709551616 := by omega
  refine EL_int (x166 + x168) rfl (r_asn (by omega) (r_addq rfl rfl)) ?_
  intro x169 hx169
  have mac5 : x167 + 18446744073709551616 * x169 = a2 * b0 + x134 + 0 ∧ (0 ≤ x167 ∧ x167 < 18446744073709551616) ∧ 0 ≤ x169 ∧ x169 < 18446744073709551616 := by omega
  obtain ⟨mac5, mlo5, mca5⟩ := mac5
  clear hx169 hx168 hx167 hx166 hx165 hx164 hc162 hx161 hx160 q163
  clear mq5
  refine EL_val (ptr b38 2) w148 rfl (r_indexA (i := 2) rfl rfl (by omega) (by omega) Try.underlying63 (by kernel_rfl)) ?_
  refine EL_storeA (j := 2) (u := .int .u64 x167) rfl rfl A149' (by first | (simp; omega) | simp) rfl (by kernel_rfl) ?_
  intro w170 A171 K172 z173
  have A171' : Arr w170 b38 63 ((([x59, x113, x167, x136, 0] : List Int)).map (Value.int .u64)) := A171
  have B174 : Below w.heap.size w w170 := below_kept B152 K172 (Nat.le_trans B35.size (Nat.le_of_eq k40.symm)) (B152.size)
  have B175 : Below w12.heap.size w12 w170 := below_kept B153 K172 (Nat.le_trans B36.size (Nat.le_of_eq k40.symm)) (B153.size)
  have B176 : Below w19.heap.size w19 w170 := below_kept B154 K172 (Nat.le_trans B37.size (Nat.le_of_eq k40.symm)) (B154.size)
  have B177 : Below w28.heap.size w28 w170 := below_kept B155 K172 (Nat.le_trans (Nat.le_refl _) (Nat.le_of_eq k40.symm)) (B155.size)
  have A178 : Arr w170 b11 49 (([a0, a1, a2] : List Int).map (Value.int .u64)) := A156.grew K172 (by simp; omega)
  have A179 : Arr w170 b18 49 (([b0, b1, b2] : List Int).map (Value.int .u64)) := A157.grew K172 (by simp; omega)
  have A180 : Arr w170 b27 49 ((List.replicate 3 0).map (Value.int .u64)) := A158.grew K172 (by simp; omega)
  refine EL_val (.int .u64 x169) w170 rfl (r_assign rfl) ?_
  refine EL_nil ?_
  refine inB_n ?_
  refine thn_n ?_
  refine EC_reg ?_
  refine EL_val (.int .i64 1) w170 rfl (r_asn (by kernel_rfl) (r_add rfl rfl)) ?_
  refine EL_val (.int .i64 1) w170 rfl (r_move rfl) ?_
  refine EL_nil ?_
  refine thn_n ?_
  refine U_step ?_
  refine EC_seq ?_
  refine EC_reg ?_
  refine EL_val (.bool true) w170 rfl (r_dec (by decide) (r_lss rfl rfl)) ?_
  refine EL_nil ?_
  refine thn_n ?_
  refine EC_seq ?_
  refine EC_cond_true rfl ?_
  refine EC_skip ?_
  refine thn_n ?_
  refine EC_seq ?_
  refine EC_block ?_
  refine EC_seq ?_
  refine EC_reg ?_
  refine EL_val (.int .i64 1) w170 rfl (r_move rfl) ?_
  refine EL_val (.pointer (some (at_ (.slice (some ⟨b18, 0, none⟩) 2 3) ((1 : Int).toNat)))) w170 rfl (r_index rfl (show Row w170 (.slice (some ⟨b18, 0, none⟩) 2 3) (([b0, b1] : List Int).map (Value.int .u64)) from arr_upto A179 (j := 2) (by simp) (by simp)) rfl (by omega) (by first | omega | (simp; omega) | simp) Try.underlying64 (by kernel_rfl)) ?_
  refine EL_val (.int .u64 b1) w170 rfl (r_load rfl ((show Row w170 (.slice (some ⟨b18, 0, none⟩) 2 3) (([b0, b1] : List Int).map (Value.int .u64)) from arr_upto A179 (j := 2) (by simp) (by simp)).cell (u := .int .u64 b1) rfl) Try.underlying47 rfl) ?_
  refine EL_val (.int .i64 1) w170 rfl (r_assign rfl) ?_
  refine EL_val (.int .u64 b1) w170 rfl (r_assign rfl) ?_
  refine EL_nil ?_
  refine thn_n ?_
  refine EC_seq ?_
  refine EC_reg ?_
  refine EL_val (.int .u64 a2) w170 rfl (r_move rfl) ?_
  refine EL_val (.int .u64 b1) w170 rfl (r_move rfl) ?_
  have q184 := mul_bd (B := 18446744073709551615) (C := 18446744073709551615) (x := a2) (y := b1) (by omega) (by omega)
  obtain ⟨x181, hx181⟩ : ∃ z : Int, z = a2 * b1 / 18446744073709551616 := ⟨_, rfl⟩
  obtain ⟨x182, hx182⟩ : ∃ z : Int, z = a2 * b1 % 18446744073709551616 := ⟨_, rfl⟩
  have hc183 := mul64_c a2 b1 w170 (by omega) (by omega)
  rw [← hx181, ← hx182] at hc183
  refine EL_ret [.int .u64 a2, .int .u64 b1] rfl Try.func37 rfl nm37 rfl (hc183) ?_
  rintro _ _ ⟨rfl, rfl⟩
  refine EL_val (.tuple #[.int .u64 x181, .int .u64 x182]) w170 rfl (r_move rfl) ?_
  refine EL_val (.int .u64 x181) w170 rfl (r_extract rfl rfl) ?_
  refine EL_val (.int .u64 x182) w170 rfl (r_extract rfl rfl) ?_
  refine EL_val (.int .u64 x181) w170 rfl (r_assign rfl) ?_
  refine EL_val (.int .u64 x182) w170 rfl (r_assign rfl) ?_
  refine EL_nil ?_
  refine thn_n ?_
  refine EC_seq ?_
  refine EC_reg ?_
  refine EL_val (.int .u64 0) w170 rfl (r_assign rfl) ?_
  refine EL_nil ?_
  refine thn_n ?_
  refine EC_seq ?_
  refine EC_reg ?_
  refine EL_val (.int .u64 x182) w170 rfl (r_move rfl) ?_
  refine EL_val (.int .i64 2) w170 rfl (r_move rfl) ?_
  refine EL_val (.int .i64 1) w170 rfl (r_move rfl) ?_
  refine EL_val (.int .i64 3) w170 rfl (r_asn (by kernel_rfl) (r_add rfl rfl)) ?_
  refine EL_val (ptr b38 3) w170 rfl (r_indexA (i := 3) rfl rfl (by omega) (by omega) Try.underlying63 (by kernel_rfl)) ?_
  refine EL_val (.int .u64 x136) w170 rfl (r_loadA rfl A171' (u := .int .u64 x136) rfl Try.underlying47 rfl) ?_
  obtain ⟨x185, hx185⟩ : ∃ z : Int, z = (x182 + x136 + 0) % 18446744073709551616 := ⟨_, rfl⟩
  obtain ⟨x186, hx186⟩ : ∃ z : Int, z = (x182 + x136 + 0) / 18446744073709551616 := ⟨_, rfl⟩
  refine EL_val (.tuple #[.int .u64 x185, .int .u64 x186]) w170 rfl (by rw [hx185, hx186]; exact r_add64 Try.func36 nm36 (by kernel_rfl) (by kernel_rfl) (by kernel_rfl) rfl rfl rfl (by omega) (by omega) (by omega) (by omega)) ?_
  refine EL_val (.tuple #[.int .u64 x185, .int .u64 x186]) w170 rfl (r_move rfl) ?_
  refine EL_val (.int .u64 x185) w170 rfl (r_extract rfl rfl) ?_
  refine EL_val (.int .u64 x186) w170 rfl (r_extract rfl rfl) ?_
  refine EL_val (.int .u64 x185) w170 rfl (r_assign rfl) ?_
  refine EL_val (.int .u64 x186) w170 rfl (r_assign rfl) ?_
  refine EL_nil ?_
  refine thn_n ?_
  refine EC_seq ?_
  refine EC_reg ?_
  refine EL_val (.int .u64 x181) w170 rfl (r_move rfl) ?_
  refine EL_val (.int .u64 x186) w170 rfl (r_move rfl) ?_
  refine EL_int (x181 + x186) rfl (r_asn (by omega) (r_addq rfl rfl)) ?_
  intro x187 hx187
  refine EL_val (.int .u64 x187) w170 rfl (r_assign rfl) ?_
  refine EL_nil ?_
  refine thn_n ?_
  refine EC_seq ?_
  refine EC_reg ?_
  refine EL_val (.int .u64 x185) w170 rfl (r_move rfl) ?_
  refine EL_val (.int .u64 x169) w170 rfl (r_move rfl) ?_
  obtain ⟨x188, hx188⟩ : ∃ z : Int, z = (x185 + x169 + 0) % 18446744073709551616 := ⟨_, rfl⟩
  obtain ⟨x189, hx189⟩ : ∃ z : Int, z = (x185 + x169 + 0) / 18446744073709551616 := ⟨_, rfl⟩
  refine EL_val (.tuple #[.int .u64 x188, .int .u64 x189]) w170 rfl (by rw [hx188, hx189]; exact r_add64 Try.func36 nm36 (by kernel_rfl) (by kernel_rfl) (by kernel_rfl) rfl rfl rfl (by omega) (by omega) (by omega) (by omega)) ?_
  refine EL_val (.tuple #[.int .u64 x188, .int .u64 x189]) w170 rfl (r_move rfl) ?_
  refine EL_val (.int .u64 x188) w170 rfl (r_extract rfl rfl) ?_
  refine EL_val (.int .u64 x189) w170 rfl (r_extract rfl rfl) ?_
  refine EL_val (.int .u64 x188) w170 rfl (r_assign rfl) ?_
  refine EL_val (.int .u64 x189) w170 rfl (r_assign rfl) ?_
  refine EL_nil ?_
  refine thn_n ?_
  refine EC_reg ?_
  refine EL_val (.int .i64 2) w170 rfl (r_move rfl) ?_
  refine EL_val (.int .i64 1) w170 rfl (r_move rfl) ?_
  refine EL_val (.int .i64 3) w170 rfl (r_asn (by kernel_rfl) (r_add rfl rfl)) ?_
  refine EL_val (.int .u64 x188) w170 rfl (r_move rfl) ?_
  refine EL_val (.int .u64 x187) w170 rfl (r_move rfl) ?_
  refine EL_val (.int .u64 x189) w170 rfl (r_move rfl) ?_
  have mq6 : 0 ≤ x187 + x189 ∧ x187 + x189 < 18446744073709551616 := by omega
  refine EL_int (x187 + x189) rfl (r_asn (by omega) (r_addq rfl rfl)) ?_
  intro x190 hx190
  have mac6 : x188 + 18446744073709551616 * x190 = a2 * b1 + x136 + x169 ∧ (0 ≤ x188 ∧ x188 < 18446744073709551616) ∧ 0 ≤ x190 ∧ x190 < 18446744073709551616 := by omega
  obtain ⟨mac6, mlo6, mca6⟩ := mac6
  clear hx190 hx189 hx188 hx187 hx186 hx185 hc183 hx182 hx181 q184
  clear mq6
  refine EL_val (ptr b38 3) w170 rfl (r_indexA (i := 3) rfl rfl (by omega) (by omega) Try.underlying63 (by kernel_rfl)) ?_
  refine EL_storeA (j := 3) (u := .int .u64 x188) rfl rfl A171' (by first | (simp; omega) | simp) rfl (by kernel_rfl) ?_
  intro w191 A192 K193 z194
  have A192' : Arr w191 b38 63 ((([x59, x113, x167, x188, 0] : List Int)).map (Value.int .u64)) := A192
  have B195 : Below w.heap.size w w191 := below_kept B174 K193 (Nat.le_trans B35.size (Nat.le_of_eq k40.symm)) (B174.size)
  have B196 : Below w12.heap.size w12 w191 := below_kept B175 K193 (Nat.le_trans B36.size (Nat.le_of_eq k40.symm)) (B175.size)
  have B197 : Below w19.heap.size w19 w191 := below_kept B176 K193 (Nat.le_trans B37.size (Nat.le_of_eq k40.symm)) (B176.size)
  have B198 : Below w28.heap.size w28 w191 := below_kept B177 K193 (Nat.le_trans (Nat.le_refl _) (Nat.le_of_eq k40.symm)) (B177.size)
  have A199 : Arr w191 b11 49 (([a0, a1, a2] : List Int).map (Value.int .u64)) := A178.grew K193 (by simp; omega)
  have A200 : Arr w191 b18 49 (([b0, b1, b2] : List Int).map (Value.int .u64)) := A179.grew K193 (by simp; omega)
  have A201 : Arr w191 b27 49 ((List.replicate 3 0).map (Value.int .u64)) := A180.grew K193 (by simp; omega)
  refine EL_val (.int .u64 x190) w191 rfl (r_assign rfl) ?_
  refine EL_nil ?_
  refine inB_n ?_
  refine thn_n ?_
  refine EC_reg ?_
  refine EL_val (.int .i64 2) w191 rfl (r_asn (by kernel_rfl) (r_add rfl rfl)) ?_
  refine EL_val (.int .i64 2) w191 rfl (r_move rfl) ?_
  refine EL_nil ?_
  refine thn_n ?_
  refine U_step ?_
  refine EC_seq ?_
  refine EC_reg ?_
  refine EL_val (.bool false) w191 rfl (r_dec (by decide) (r_lss rfl rfl)) ?_
  refine EL_nil ?_
  refine thn_n ?_
  refine EC_seq ?_
  refine EC_cond_false rfl ?_
  refine EC_exit ?_
  refine thn_x ?_
  refine thn_x ?_
  refine inB_hit ?_
  refine thn_n ?_
  refine EC_reg ?_
  refine EL_val (.int .i64 2) w191 rfl (r_move rfl) ?_
  refine EL_val (.int .i64 4) w191 rfl (r_asn (by kernel_rfl) (r_add rfl rfl)) ?_
  refine EL_val (ptr b38 4) w191 rfl (r_indexA (i := 4) rfl rfl (by omega) (by omega) Try.underlying63 (by kernel_rfl)) ?_
  refine EL_val (.int .u64 0) w191 rfl (r_loadA rfl A192' (u := .int .u64 0) rfl Try.underlying47 rfl) ?_
  refine EL_val (.int .u64 x190) w191 rfl (r_move rfl) ?_
  refine EL_val (.int .u64 x190) w191 rfl (r_asn (by omega) (r_addq rfl rfl)) ?_
  refine EL_val (ptr b38 4) w191 rfl (r_indexA (i := 4) rfl rfl (by omega) (by omega) Try.underlying63 (by kernel_rfl)) ?_
  refine EL_storeA (j := 4) (u := .int .u64 x190) rfl rfl A192' (by first | (simp; omega) | simp) rfl (by kernel_rfl) ?_
  intro w202 A203 K204 z205
  have A203' : Arr w202 b38 63 ((([x59, x113, x167, x188, x190] : List Int)).map (Value.int .u64)) := A203
  have B206 : Below w.heap.size w w202 := below_kept B195 K204 (Nat.le_trans B35.size (Nat.le_of_eq k40.symm)) (B195.size)
  have B207 : Below w12.heap.size w12 w202 := below_kept B196 K204 (Nat.le_trans B36.size (Nat.le_of_eq k40.symm)) (B196.size)
  have B208 : Below w19.heap.size w19 w202 := below_kept B197 K204 (Nat.le_trans B37.size (Nat.le_of_eq k40.symm)) (B197.size)
  have B209 : Below w28.heap.size w28 w202 := below_kept B198 K204 (Nat.le_trans (Nat.le_refl _) (Nat.le_of_eq k40.symm)) (B198.size)
  have A210 : Arr w202 b11 49 (([a0, a1, a2] : List Int).map (Value.int .u64)) := A199.grew K204 (by simp; omega)
  have A211 : Arr w202 b18 49 (([b0, b1, b2] : List Int).map (Value.int .u64)) := A200.grew K204 (by simp; omega)
  have A212 : Arr w202 b27 49 ((List.replicate 3 0).map (Value.int .u64)) := A201.grew K204 (by simp; omega)
  refine EL_nil ?_
  refine inB_n ?_
  refine thn_n ?_
  refine EC_reg ?_
  refine EL_val (.int .i64 3) w202 rfl (r_asn (by kernel_rfl) (r_add rfl rfl)) ?_
  refine EL_val (.int .i64 3) w202 rfl (r_move rfl) ?_
  refine EL_nil ?_
  refine thn_n ?_
  refine U_step ?_
  refine EC_seq ?_
  refine EC_reg ?_
  refine EL_val (.bool false) w202 rfl (r_dec (by decide) (r_lss rfl rfl)) ?_
  refine EL_nil ?_
  refine thn_n ?_
  refine EC_seq ?_
  refine EC_cond_false rfl ?_
  refine EC_exit ?_
  refine thn_x ?_
  refine thn_x ?_
  refine inB_hit ?_
  refine thn_n ?_
  refine EC_seq ?_
  refine EC_reg ?_
  have tot : m * r = x59 + x113 * 18446744073709551616 + x167 * 340282366920938463463374607431768211456 + x188 * 6277101735386680763835789423207666416102355444464034512896 + x190 * 115792089237316195423570985008687907853269984665640564039457584007913129639936 := by
    rw [av, bv, hb2, mul_wide]; omega
  have mr := mul_bd (B := 2722258935367507707706996859454145691647) (C := 21267647932558653966460912964485513215) (x := m) (y := r) (by omega) (by omega)
  clear mac1 mac2 mac3 mac4 mac5 mac6
  generalize m * r = P at tot mr ⊢
  have z4 : x190 = 0 ∧ x188 < 9223372036854775808 := by omega
  refine EL_val (ptr b38 0) w202 rfl (r_indexA (i := 0) rfl rfl (by omega) (by omega) Try.underlying63 (by kernel_rfl)) ?_
  refine EL_val (.int .u64 x59) w202 rfl (r_loadA rfl A203' (u := .int .u64 x59) rfl Try.underlying47 rfl) ?_
  refine EL_val (ptr b38 1) w202 rfl (r_indexA (i := 1) rfl rfl (by omega) (by omega) Try.underlying63 (by kernel_rfl)) ?_
  refine EL_val (.int .u64 x113) w202 rfl (r_loadA rfl A203' (u := .int .u64 x113) rfl Try.underlying47 rfl) ?_
  refine EL_val (ptr b38 2) w202 rfl (r_indexA (i := 2) rfl rfl (by omega) (by omega) Try.underlying63 (by kernel_rfl)) ?_
  refine EL_val (.int .u64 x167) w202 rfl (r_loadA rfl A203' (u := .int .u64 x167) rfl Try.underlying47 rfl) ?_
  refine EL_int (x167 % 4) rfl (r_mask (p := 4) 2 rfl rfl (by decide) (by decide) (by decide) (by omega)) ?_
  intro x213 hx213
  refine EL_val (.agg #[.int .u64 x59, .int .u64 x113, .int .u64 x213]) w202 rfl (r_buildA (z := .agg #[.int .u64 0, .int .u64 0, .int .u64 0]) _ Try.underlying49 (by kernel_rfl) (by kernel_rfl) (by kernel_rfl)) ?_
  refine EL_alloc (z := .agg #[.int .u64 0, .int .u64 0, .int .u64 0]) (List.replicate 3 (.int .u64 0)) rfl (by kernel_rfl) rfl ?_
  intro b214 w215 k216 A217 B218 z219
  have ne220 : b11 < b214 := by have := (A210).lt; omega
  have ne221 : b18 < b214 := by have := (A211).lt; omega
  have ne222 : b27 < b214 := by have := (A212).lt; omega
  have ne223 : b38 < b214 := by have := (A203').lt; omega
  have B224 : Below w.heap.size w w215 := below_full B206 B206.size B218
  have B225 : Below w12.heap.size w12 w215 := below_full B207 B207.size B218
  have B226 : Below w19.heap.size w19 w215 := below_full B208 B208.size B218
  have B227 : Below w28.heap.size w28 w215 := below_full B209 B209.size B218
  have B228 : Below w202.heap.size w202 w215 := B218
  have A217' : Arr w215 b214 49 ((List.replicate 3 0).map (Value.int .u64)) := A217
  refine EL_storeAll (v := .agg #[.int .u64 x59, .int .u64 x113, .int .u64 x213]) (cs' := (([x59, x113, x213] : List Int).map (Value.int .u64)).toArray) rfl rfl rfl A217' (by first | rfl | (simp; done) | (simp; omega)) (Eq.trans (show _ = some 3 from by kernel_rfl) (congrArg some (by first | (simp; done) | (simp; omega) | rfl))) (ints_oneCell _ _) ?_
  intro w229 A230 K231 z232
  have A230' : Arr w229 b214 49 (([x59, x113, x213] : List Int).map (Value.int .u64)) := A230
  have B233 : Below w.heap.size w w229 := below_kept B224 K231 (Nat.le_trans B206.size (Nat.le_of_eq k216.symm)) (B224.size)
  have B234 : Below w12.heap.size w12 w229 := below_kept B225 K231 (Nat.le_trans B207.size (Nat.le_of_eq k216.symm)) (B225.size)
  have B235 : Below w19.heap.size w19 w229 := below_kept B226 K231 (Nat.le_trans B208.size (Nat.le_of_eq k216.symm)) (B226.size)
  have B236 : Below w28.heap.size w28 w229 := below_kept B227 K231 (Nat.le_trans B209.size (Nat.le_of_eq k216.symm)) (B227.size)
  have B237 : Below w202.heap.size w202 w229 := below_kept B228 K231 (Nat.le_trans (Nat.le_refl _) (Nat.le_of_eq k216.symm)) (B228.size)
  have A238 : Arr w229 b11 49 (([a0, a1, a2] : List Int).map (Value.int .u64)) := (A210.below B228).grew K231 (by simp; omega)
  have A239 : Arr w229 b18 49 (([b0, b1, b2] : List Int).map (Value.int .u64)) := (A211.below B228).grew K231 (by simp; omega)
  have A240 : Arr w229 b27 49 ((List.replicate 3 0).map (Value.int .u64)) := (A212.below B228).grew K231 (by simp; omega)
  have A241 : Arr w229 b38 63 (([x59, x113, x167, x188, x190] : List Int).map (Value.int .u64)) := (A203'.below B228).grew K231 (by simp; omega)
  refine EL_nil ?_
  refine thn_n ?_
  refine EC_seq ?_
  refine EC_reg ?_
  refine EL_val (ptr b38 2) w229 rfl (r_indexA (i := 2) rfl rfl (by omega) (by omega) Try.underlying63 (by kernel_rfl)) ?_
  refine EL_val (.int .u64 x167) w229 rfl (r_loadA rfl A241 (u := .int .u64 x167) rfl Try.underlying47 rfl) ?_
  refine EL_int (x167 / 4) rfl (r_shri (n := 2) rfl rfl rfl (by decide) (by decide)) ?_
  intro x242 hx242
  refine EL_val (ptr b38 3) w229 rfl (r_indexA (i := 3) rfl rfl (by omega) (by omega) Try.underlying63 (by kernel_rfl)) ?_
  refine EL_val (.int .u64 x188) w229 rfl (r_loadA rfl A241 (u := .int .u64 x188) rfl Try.underlying47 rfl) ?_
  refine EL_int (x188 * 4611686018427387904 % 18446744073709551616) rfl (r_shlq (n := 62) rfl rfl rfl (by decide) (by decide)) ?_
  intro x243 hx243
  refine EL_int (x242 + x243) rfl (r_orq (x188 % 4).toNat (x242).toNat 62 rfl rfl (by omega) (by omega) (by omega) (by omega)) ?_
  intro x244 hx244
  have bdx244 : 0 ≤ x244 ∧ x244 < 18446744073709551616 := by omega
  refine EL_val (ptr b38 3) w229 rfl (r_indexA (i := 3) rfl rfl (by omega) (by omega) Try.underlying63 (by kernel_rfl)) ?_
  refine EL_val (.int .u64 x188) w229 rfl (r_loadA rfl A241 (u := .int .u64 x188) rfl Try.underlying47 rfl) ?_
  refine EL_int (x188 / 4) rfl (r_shri (n := 2) rfl rfl rfl (by decide) (by decide)) ?_
  intro x245 hx245
  refine EL_val (ptr b38 4) w229 rfl (r_indexA (i := 4) rfl rfl (by omega) (by omega) Try.underlying63 (by kernel_rfl)) ?_
  refine EL_val (.int .u64 x190) w229 rfl (r_loadA rfl A241 (u := .int .u64 x190) rfl Try.underlying47 rfl) ?_
  refine EL_int (x190 * 4611686018427387904 % 18446744073709551616) rfl (r_shlq (n := 62) rfl rfl rfl (by decide) (by decide)) ?_
  intro x246 hx246
  refine EL_int (x245 + x246) rfl (r_orq (x190 % 4).toNat (x245).toNat 62 rfl rfl (by omega) (by omega) (by omega) (by omega)) ?_
  intro x247 hx247
  have bdx247 : 0 ≤ x247 ∧ x247 < 18446744073709551616 := by omega
  refine EL_val (ptr b38 4) w229 rfl (r_indexA (i := 4) rfl rfl (by omega) (by omega) Try.underlying63 (by kernel_rfl)) ?_
  refine EL_val (.int .u64 x190) w229 rfl (r_loadA rfl A241 (u := .int .u64 x190) rfl Try.underlying47 rfl) ?_
  refine EL_int (x190 / 4) rfl (r_shri (n := 2) rfl rfl rfl (by decide) (by decide)) ?_
  intro x248 hx248
  have hhi : P / 1361129467683753853853498429727072845824 = x244 + x247 * 18446744073709551616 + x248 * 340282366920938463463374607431768211456 := by omega
  have hlo : P % 1361129467683753853853498429727072845824 = x59 + x113 * 18446744073709551616 + x213 * 340282366920938463463374607431768211456 := by omega
  have hsm : P / 1361129467683753853853498429727072845824 < 42535295865117307932921825928971026432 := by omega
  clear tot
  refine EL_val (.agg #[.int .u64 x244, .int .u64 x247, .int .u64 x248]) w229 rfl (r_buildA (z := .agg #[.int .u64 0, .int .u64 0, .int .u64 0]) _ Try.underlying49 (by kernel_rfl) (by kernel_rfl) (by kernel_rfl)) ?_
  refine EL_alloc (z := .agg #[.int .u64 0, .int .u64 0, .int .u64 0]) (List.replicate 3 (.int .u64 0)) rfl (by kernel_rfl) rfl ?_
  intro b249 w250 k251 A252 B253 z254
  have ne255 : b11 < b249 := by have := (A238).lt; omega
  have ne256 : b18 < b249 := by have := (A239).lt; omega
  have ne257 : b27 < b249 := by have := (A240).lt; omega
  have ne258 : b38 < b249 := by have := (A241).lt; omega
  have ne259 : b214 < b249 := by have := (A230').lt; omega
  have B260 : Below w.heap.size w w250 := below_full B233 B233.size B253
  have B261 : Below w12.heap.size w12 w250 := below_full B234 B234.size B253
  have B262 : Below w19.heap.size w19 w250 := below_full B235 B235.size B253
  have B263 : Below w28.heap.size w28 w250 := below_full B236 B236.size B253
  have B264 : Below w202.heap.size w202 w250 := below_full B237 B237.size B253
  have B265 : Below w229.heap.size w229 w250 := B253
  have A252' : Arr w250 b249 49 ((List.replicate 3 0).map (Value.int .u64)) := A252
  refine EL_storeAll (v := .agg #[.int .u64 x244, .int .u64 x247, .int .u64 x248]) (cs' := (([x244, x247, x248] : List Int).map (Value.int .u64)).toArray) rfl rfl rfl A252' (by first | rfl | (simp; done) | (simp; omega)) (Eq.trans (show _ = some 3 from by kernel_rfl) (congrArg some (by first | (simp; done) | (simp; omega) | rfl))) (ints_oneCell _ _) ?_
  intro w266 A267 K268 z269
  have A267' : Arr w266 b249 49 (([x244, x247, x248] : List Int).map (Value.int .u64)) := A267
  have B270 : Below w.heap.size w w266 := below_kept B260 K268 (Nat.le_trans B233.size (Nat.le_of_eq k251.symm)) (B260.size)
  have B271 : Below w12.heap.size w12 w266 := below_kept B261 K268 (Nat.le_trans B234.size (Nat.le_of_eq k251.symm)) (B261.size)
  have B272 : Below w19.heap.size w19 w266 := below_kept B262 K268 (Nat.le_trans B235.size (Nat.le_of_eq k251.symm)) (B262.size)
  have B273 : Below w28.heap.size w28 w266 := below_kept B263 K268 (Nat.le_trans B236.size (Nat.le_of_eq k251.symm)) (B263.size)
  have B274 : Below w202.heap.size w202 w266 := below_kept B264 K268 (Nat.le_trans B237.size (Nat.le_of_eq k251.symm)) (B264.size)
  have B275 : Below w229.heap.size w229 w266 := below_kept B265 K268 (Nat.le_trans (Nat.le_refl _) (Nat.le_of_eq k251.symm)) (B265.size)
  have A276 : Arr w266 b11 49 (([a0, a1, a2] : List Int).map (Value.int .u64)) := (A238.below B265).grew K268 (by simp; omega)
  have A277 : Arr w266 b18 49 (([b0, b1, b2] : List Int).map (Value.int .u64)) := (A239.below B265).grew K268 (by simp; omega)
  have A278 : Arr w266 b27 49 ((List.replicate 3 0).map (Value.int .u64)) := (A240.below B265).grew K268 (by simp; omega)
  have A279 : Arr w266 b38 63 (([x59, x113, x167, x188, x190] : List Int).map (Value.int .u64)) := (A241.below B265).grew K268 (by simp; omega)
  have A280 : Arr w266 b214 49 (([x59, x113, x213] : List Int).map (Value.int .u64)) := (A230'.below B265).grew K268 (by simp; omega)
  refine EL_nil ?_
  refine thn_n ?_
  refine EC_seq ?_
  refine EC_reg ?_
  refine EL_val (ptr b249 0) w266 rfl (r_indexA (i := 0) rfl rfl (by omega) (by omega) Try.underlying49 (by kernel_rfl)) ?_
  refine EL_val (.int .u64 x244) w266 rfl (r_loadA rfl A267' (u := .int .u64 x244) rfl Try.underlying47 rfl) ?_
  refine EL_int (x244 * 4 % 18446744073709551616) rfl (r_shlq (n := 2) rfl rfl rfl (by decide) (by decide)) ?_
  intro x281 hx281
  refine EL_val (ptr b249 1) w266 rfl (r_indexA (i := 1) rfl rfl (by omega) (by omega) Try.underlying49 (by kernel_rfl)) ?_
  refine EL_val (.int .u64 x247) w266 rfl (r_loadA rfl A267' (u := .int .u64 x247) rfl Try.underlying47 rfl) ?_
  refine EL_int (x247 * 4 % 18446744073709551616) rfl (r_shlq (n := 2) rfl rfl rfl (by decide) (by decide)) ?_
  intro x282 hx282
  refine EL_val (ptr b249 0) w266 rfl (r_indexA (i := 0) rfl rfl (by omega) (by omega) Try.underlying49 (by kernel_rfl)) ?_
  refine EL_val (.int .u64 x244) w266 rfl (r_loadA rfl A267' (u := .int .u64 x244) rfl Try.underlying47 rfl) ?_
  refine EL_int (x244 / 4611686018427387904) rfl (r_shri (n := 62) rfl rfl rfl (by decide) (by decide)) ?_
  intro x283 hx283
  refine EL_int (x282 + x283) rfl (r_orq' (x247 % 4611686018427387904).toNat (x283).toNat 2 rfl rfl (by omega) (by omega) (by omega) (by omega)) ?_
  intro x284 hx284
  have bdx284 : 0 ≤ x284 ∧ x284 < 18446744073709551616 := by omega
  refine EL_val (ptr b249 2) w266 rfl (r_indexA (i := 2) rfl rfl (by omega) (by omega) Try.underlying49 (by kernel_rfl)) ?_
  refine EL_val (.int .u64 x248) w266 rfl (r_loadA rfl A267' (u := .int .u64 x248) rfl Try.underlying47 rfl) ?_
  refine EL_int (x248 * 4 % 18446744073709551616) rfl (r_shlq (n := 2) rfl rfl rfl (by decide) (by decide)) ?_
  intro x285 hx285
  refine EL_val (ptr b249 1) w266 rfl (r_indexA (i := 1) rfl rfl (by omega) (by omega) Try.underlying49 (by kernel_rfl)) ?_
  refine EL_val (.int .u64 x247) w266 rfl (r_loadA rfl A267' (u := .int .u64 x247) rfl Try.underlying47 rfl) ?_
  refine EL_int (x247 / 4611686018427387904) rfl (r_shri (n := 62) rfl rfl rfl (by decide) (by decide)) ?_
  intro x286 hx286
  refine EL_int (x285 + x286) rfl (r_orq' (x248 % 4611686018427387904).toNat (x286).toNat 2 rfl rfl (by omega) (by omega) (by omega) (by omega)) ?_
  intro x287 hx287
  have bdx287 : 0 ≤ x287 ∧ x287 < 18446744073709551616 := by omega
  have hfo : 4 * (P / 1361129467683753853853498429727072845824) = x281 + x284 * 18446744073709551616 + x287 * 340282366920938463463374607431768211456 := by omega
  have bdx281 : 0 ≤ x281 ∧ x281 < 18446744073709551616 := by omega
  refine EL_val (.agg #[.int .u64 x281, .int .u64 x284, .int .u64 x287]) w266 rfl (r_buildA (z := .agg #[.int .u64 0, .int .u64 0, .int .u64 0]) _ Try.underlying49 (by kernel_rfl) (by kernel_rfl) (by kernel_rfl)) ?_
  have hbb : (0 ≤ x281 ∧ x281 < 18446744073709551616) ∧ (0 ≤ x284 ∧ x284 < 18446744073709551616) ∧ (0 ≤ x287 ∧ x287 < 18446744073709551616) ∧ (0 ≤ x244 ∧ x244 < 18446744073709551616) ∧ (0 ≤ x247 ∧ x247 < 18446744073709551616) ∧ (0 ≤ x248 ∧ x248 < 18446744073709551616) := by omega
  obtain ⟨hbb0, hbb1, hbb2, hbb3, hbb4, hbb5⟩ := hbb
  clear hx287 hx286 hx285 hx284 hx283 hx282 hx281 hx248 hx247 hx246 hx245 hx244 hx243 hx242 hx213
  refine EL_alloc (z := .agg #[.int .u64 0, .int .u64 0, .int .u64 0]) (List.replicate 3 (.int .u64 0)) rfl (by kernel_rfl) rfl ?_
  intro b288 w289 k290 A291 B292 z293
  have ne294 : b11 < b288 := by have := (A276).lt; omega
  have ne295 : b18 < b288 := by have := (A277).lt; omega
  have ne296 : b27 < b288 := by have := (A278).lt; omega
  have ne297 : b38 < b288 := by have := (A279).lt; omega
  have ne298 : b214 < b288 := by have := (A280).lt; omega
  have ne299 : b249 < b288 := by have := (A267').lt; omega
  have B300 : Below w.heap.size w w289 := below_full B270 B270.size B292
  have B301 : Below w12.heap.size w12 w289 := below_full B271 B271.size B292
  have B302 : Below w19.heap.size w19 w289 := below_full B272 B272.size B292
  have B303 : Below w28.heap.size w28 w289 := below_full B273 B273.size B292
  have B304 : Below w202.heap.size w202 w289 := below_full B274 B274.size B292
  have B305 : Below w229.heap.size w229 w289 := below_full B275 B275.size B292
  have B306 : Below w266.heap.size w266 w289 := B292
  have A291' : Arr w289 b288 49 ((List.replicate 3 0).map (Value.int .u64)) := A291
  refine EL_storeAll (v := .agg #[.int .u64 x281, .int .u64 x284, .int .u64 x287]) (cs' := (([x281, x284, x287] : List Int).map (Value.int .u64)).toArray) rfl rfl rfl A291' (by first | rfl | (simp; done) | (simp; omega)) (Eq.trans (show _ = some 3 from by kernel_rfl) (congrArg some (by first | (simp; done) | (simp; omega) | rfl))) (ints_oneCell _ _) ?_
  intro w307 A308 K309 z310
  have A308' : Arr w307 b288 49 (([x281, x284, x287] : List Int).map (Value.int .u64)) := A308
  have B311 : Below w.heap.size w w307 := below_kept B300 K309 (Nat.le_trans B270.size (Nat.le_of_eq k290.symm)) (B300.size)
  have B312 : Below w12.heap.size w12 w307 := below_kept B301 K309 (Nat.le_trans B271.size (Nat.le_of_eq k290.symm)) (B301.size)
  have B313 : Below w19.heap.size w19 w307 := below_kept B302 K309 (Nat.le_trans B272.size (Nat.le_of_eq k290.symm)) (B302.size)
  have B314 : Below w28.heap.size w28 w307 := below_kept B303 K309 (Nat.le_trans B273.size (Nat.le_of_eq k290.symm)) (B303.size)
  have B315 : Below w202.heap.size w202 w307 := below_kept B304 K309 (Nat.le_trans B274.size (Nat.le_of_eq k290.symm)) (B304.size)
  have B316 : Below w229.heap.size w229 w307 := below_kept B305 K309 (Nat.le_trans B275.size (Nat.le_of_eq k290.symm)) (B305.size)
  have B317 : Below w266.heap.size w266 w307 := below_kept B306 K309 (Nat.le_trans (Nat.le_refl _) (Nat.le_of_eq k290.symm)) (B306.size)
  have A318 : Arr w307 b11 49 (([a0, a1, a2] : List Int).map (Value.int .u64)) := (A276.below B306).grew K309 (by simp; omega)
  have A319 : Arr w307 b18 49 (([b0, b1, b2] : List Int).map (Value.int .u64)) := (A277.below B306).grew K309 (by simp; omega)
  have A320 : Arr w307 b27 49 ((List.replicate 3 0).map (Value.int .u64)) := (A278.below B306).grew K309 (by simp; omega)
  have A321 : Arr w307 b38 63 (([x59, x113, x167, x188, x190] : List Int).map (Value.int .u64)) := (A279.below B306).grew K309 (by simp; omega)
  have A322 : Arr w307 b214 49 (([x59, x113, x213] : List Int).map (Value.int .u64)) := (A280.below B306).grew K309 (by simp; omega)
  have A323 : Arr w307 b249 49 (([x244, x247, x248] : List Int).map (Value.int .u64)) := (A267'.below B306).grew K309 (by simp; omega)
  refine EL_nil ?_
  refine thn_n ?_
  refine EC_seq ?_
  have A324 := A318
  have A325 := A319
  have A326 := A320
  have A327 := A321
  have A328 := A322
  have A329 := A323
  have A330 := A308'
  refine EC_held (fun w' => w307.grownBy w' (some b27)) (by kernel_rfl) ?_
  intro w331 B332 z333
  have K334 : w307.grownBy w331 (some b27) := kept_below (kept_refl _ _) B332
  refine EA_take 0 rfl (by kernel_rfl) (by kernel_rfl) (by kernel_rfl) (.agg (([x59, x113, x213] : List Int).map (Value.int .u64)).toArray) rfl (fun _ hw => r_loadAll rfl (A328.grew hw (by simp; omega)) Try.underlying49 rfl (Eq.trans (show _ = some 3 from by kernel_rfl) (congrArg some (by first | (simp; done) | (simp; omega) | rfl)))) K334 ?_
  refine EA_take 1 rfl (by kernel_rfl) (by kernel_rfl) (by kernel_rfl) (.agg (([x244, x247, x248] : List Int).map (Value.int .u64)).toArray) rfl (fun _ hw => r_loadAll rfl (A329.grew hw (by simp; omega)) Try.underlying49 rfl (Eq.trans (show _ = some 3 from by kernel_rfl) (congrArg some (by first | (simp; done) | (simp; omega) | rfl)))) K334 ?_
  refine EA_take 3 rfl (by kernel_rfl) (by kernel_rfl) (by kernel_rfl) (.agg (([x281, x284, x287] : List Int).map (Value.int .u64)).toArray) rfl (fun _ hw => r_loadAll rfl (A330.grew hw (by simp; omega)) Try.underlying49 rfl (Eq.trans (show _ = some 3 from by kernel_rfl) (congrArg some (by first | (simp; done) | (simp; omega) | rfl)))) K334 ?_
  have B335 : Below w.heap.size w w331 := below_full B311 B311.size B332
  have B336 : Below w12.heap.size w12 w331 := below_full B312 B312.size B332
  have B337 : Below w19.heap.size w19 w331 := below_full B313 B313.size B332
  have B338 : Below w28.heap.size w28 w331 := below_full B314 B314.size B332
  have B339 : Below w202.heap.size w202 w331 := below_full B315 B315.size B332
  have B340 : Below w229.heap.size w229 w331 := below_full B316 B316.size B332
  have B341 : Below w266.heap.size w266 w331 := below_full B317 B317.size B332
  have B342 : Below w307.heap.size w307 w331 := B332
  refine EA_one 2 rfl (by kernel_rfl) ?_
  have ea343 := wof_of (a := x59) (b := x113) (c := x213) (n := x59 + x113 * 18446744073709551616 + x213 * 340282366920938463463374607431768211456) (by omega) (by omega) (by omega) rfl
  have eb344 := wof_of (a := x244) (b := x247) (c := x248) (n := x244 + x247 * 18446744073709551616 + x248 * 340282366920938463463374607431768211456) (by omega) (by omega) (by omega) rfl
  obtain ⟨c3460, c3461, c3462, c346w, c346b0, c346b1, c346b2, c346v⟩ := wof_ex (n := (x59 + x113 * 18446744073709551616 + x213 * 340282366920938463463374607431768211456) + (x244 + x247 * 18446744073709551616 + x248 * 340282366920938463463374607431768211456)) (by omega) (by omega)
  have hc345 := wadd_c (x59 + x113 * 18446744073709551616 + x213 * 340282366920938463463374607431768211456) (x244 + x247 * 18446744073709551616 + x248 * 340282366920938463463374607431768211456) w331 (by omega) (by omega) (by omega)
  rw [← ea343, ← eb344, c346w] at hc345
  refine EL_ret [.agg (([x59, x113, x213] : List Int).map (Value.int .u64)).toArray, .agg (([x244, x247, x248] : List Int).map (Value.int .u64)).toArray] rfl Try.func26 rfl nm26 rfl (hc345) ?_
  rintro _ w347 ⟨rfl, B348⟩
  have G349 : w307.grownBy w347 (some b27) := kept_below K334 B348
  have B350 : Below w.heap.size w w347 := below_full B335 B335.size B348
  have B351 : Below w12.heap.size w12 w347 := below_full B336 B336.size B348
  have B352 : Below w19.heap.size w19 w347 := below_full B337 B337.size B348
  have B353 : Below w28.heap.size w28 w347 := below_full B338 B338.size B348
  have B354 : Below w202.heap.size w202 w347 := below_full B339 B339.size B348
  have B355 : Below w229.heap.size w229 w347 := below_full B340 B340.size B348
  have B356 : Below w266.heap.size w266 w347 := below_full B341 B341.size B348
  have B357 : Below w307.heap.size w307 w347 := below_full B342 B342.size B348
  have B358 : Below w331.heap.size w331 w347 := B348
  refine EL_nil ?_
  refine ⟨rfl, G349, ?_⟩
  refine EA_one 4 rfl (by kernel_rfl) ?_
  have ea359 := wof_of (a := c3460) (b := c3461) (c := c3462) (n := c3460 + c3461 * 18446744073709551616 + c3462 * 340282366920938463463374607431768211456) (by omega) (by omega) (by omega) rfl
  have eb360 := wof_of (a := x281) (b := x284) (c := x287) (n := x281 + x284 * 18446744073709551616 + x287 * 340282366920938463463374607431768211456) (by omega) (by omega) (by omega) rfl
  obtain ⟨c3620, c3621, c3622, c362w, c362b0, c362b1, c362b2, c362v⟩ := wof_ex (n := (c3460 + c3461 * 18446744073709551616 + c3462 * 340282366920938463463374607431768211456) + (x281 + x284 * 18446744073709551616 + x287 * 340282366920938463463374607431768211456)) (by omega) (by omega)
  have hc361 := wadd_c (c3460 + c3461 * 18446744073709551616 + c3462 * 340282366920938463463374607431768211456) (x281 + x284 * 18446744073709551616 + x287 * 340282366920938463463374607431768211456) w347 (by omega) (by omega) (by omega)
  rw [← ea359, ← eb360, c362w] at hc361
  refine EL_ret [.agg (([c3460, c3461, c3462] : List Int).map (Value.int .u64)).toArray, .agg (([x281, x284, x287] : List Int).map (Value.int .u64)).toArray] rfl Try.func26 rfl nm26 rfl (hc361) ?_
  rintro _ w363 ⟨rfl, B364⟩
  have G365 : w307.grownBy w363 (some b27) := kept_below G349 B364
  have B366 : Below w.heap.size w w363 := below_full B350 B350.size B364
  have B367 : Below w12.heap.size w12 w363 := below_full B351 B351.size B364
  have B368 : Below w19.heap.size w19 w363 := below_full B352 B352.size B364
  have B369 : Below w28.heap.size w28 w363 := below_full B353 B353.size B364
  have B370 : Below w202.heap.size w202 w363 := below_full B354 B354.size B364
  have B371 : Below w229.heap.size w229 w363 := below_full B355 B355.size B364
  have B372 : Below w266.heap.size w266 w363 := below_full B356 B356.size B364
  have B373 : Below w307.heap.size w307 w363 := below_full B357 B357.size B364
  have B374 : Below w331.heap.size w331 w363 := below_full B358 B358.size B364
  have B375 : Below w347.heap.size w347 w363 := B364
  refine EL_nil ?_
  refine ⟨rfl, G365, ?_⟩
  refine EA_one 5 rfl (by kernel_rfl) ?_
  refine EL_storeAll (v := .agg (([c3620, c3621, c3622] : List Int).map (Value.int .u64)).toArray) (cs' := (([c3620, c3621, c3622] : List Int).map (Value.int .u64)).toArray) rfl rfl rfl (A320.below B373) (by first | rfl | (simp; done) | (simp; omega)) (Eq.trans (show _ = some 3 from by kernel_rfl) (congrArg some (by first | (simp; done) | (simp; omega) | rfl))) (ints_oneCell _ _) ?_
  intro w376 A377 K378 z379
  have A377' : Arr w376 b27 49 (([c3620, c3621, c3622] : List Int).map (Value.int .u64)) := by simpa using A377
  have G380 : w307.grownBy w376 (some b27) := kept_trans G365 K378
  have B381 : Below w.heap.size w w376 := below_kept B366 K378 (Nat.le_trans B25.size (Nat.le_of_eq k29.symm)) (B366.size)
  have B382 : Below w12.heap.size w12 w376 := below_kept B367 K378 (Nat.le_trans B26.size (Nat.le_of_eq k29.symm)) (B367.size)
  have B383 : Below w19.heap.size w19 w376 := below_kept B368 K378 (Nat.le_trans (Nat.le_refl _) (Nat.le_of_eq k29.symm)) (B368.size)
  have A384 : Arr w376 b11 49 (([a0, a1, a2] : List Int).map (Value.int .u64)) := (A318.below B373).grew K378 (by simp; omega)
  have A385 : Arr w376 b18 49 (([b0, b1, b2] : List Int).map (Value.int .u64)) := (A319.below B373).grew K378 (by simp; omega)
  have A386 : Arr w376 b38 63 (([x59, x113, x167, x188, x190] : List Int).map (Value.int .u64)) := (A321.below B373).grew K378 (by simp; omega)
  have A387 : Arr w376 b214 49 (([x59, x113, x213] : List Int).map (Value.int .u64)) := (A322.below B373).grew K378 (by simp; omega)
  have A388 : Arr w376 b249 49 (([x244, x247, x248] : List Int).map (Value.int .u64)) := (A323.below B373).grew K378 (by simp; omega)
  have A389 : Arr w376 b288 49 (([x281, x284, x287] : List Int).map (Value.int .u64)) := (A308'.below B373).grew K378 (by simp; omega)
  refine EL_nil ?_
  refine ⟨rfl, G380, ?_⟩
  refine EA_done (by kernel_rfl) ?_
  refine thn_n ?_
  refine EC_ret ?_
  refine fin1c Try.results27 (show _ = ptr b27 from rfl) A377' Try.underlying49 rfl (by kernel_rfl) ⟨_, rfl, ?_⟩
  have ew := wof_of (a := c3620) (b := c3621) (c := c3622) (n := P % 1361129467683753853853498429727072845824 + 5 * (P / 1361129467683753853853498429727072845824)) (by omega) (by omega) (by omega) (by omega)
  exact ⟨by rw [← ew], B381⟩

end Go.Proofs.Ytlhaojpkejpgfaa
