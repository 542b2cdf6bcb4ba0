import Derived.Test.YtoajodjcmeijgaaGreatQSealedPlaysSeaC
set_option linter.unusedVariables false
set_option linter.unusedSimpArgs false
namespace Go.Proofs.YtoajodjcmeijgaaGreat
open Go.RowKit Go.Ecal

def anchor_c_x0 : List UInt8 := signOf 75 ((([] : List Thing).length : Int) + 1)
def anchor_c_x1 : List Thing := sealRL (([] : List Thing) ++ [tKey]) ([] : List UInt8) anchor_c_x0 (⟨1, 0, 1, 1, []⟩ : Record) (⟨1, 1, 1, [(97 : UInt8)], [(98 : UInt8)], 0, 0, 0, []⟩ : Entry)
def anchor_c_x2 : Record := (sealRR (([] : List Thing) ++ [tKey]) ([] : List UInt8) anchor_c_x0 (⟨1, 0, 1, 1, []⟩ : Record) (⟨1, 1, 1, [(97 : UInt8)], [(98 : UInt8)], 0, 0, 0, []⟩ : Entry))
def anchor_c_x3 : List Thing := openRL anchor_c_x1 ([] : List UInt8) anchor_c_x0 anchor_c_x2
def anchor_c_x4 : Entry := (openRV anchor_c_x1 ([] : List UInt8) anchor_c_x0 anchor_c_x2)
def anchor_c_x5 : List UInt8 := signOf 75 ((anchor_c_x3.length : Int) + 1)
def anchor_c_x6 : List Thing := openRL (anchor_c_x3 ++ [tKey]) ([] : List UInt8) anchor_c_x5 anchor_c_x2
def anchor_c_x7 : Entry := (openRV (anchor_c_x3 ++ [tKey]) ([] : List UInt8) anchor_c_x5 anchor_c_x2)
set_option maxRecDepth 100000 in
set_option maxHeartbeats 4000000 in
theorem anchor_c (I : Gh) (R : List HP) (w : World) (S : Sat w I (R)) : Ret Tryz.prog 4 [] w fun v w' => ∃ J : Gh, Gh.le I J ∧ .bool true = v ∧ Sat w' J (R) := by
  refine ret_E Tryz.func4 rfl Tryz.ntmps4 (by simp) ?_
  refine EC_seq (EC_reg (vA (.bool false) rfl rfl (EL_nil (thn_n (EC_seq ?_)))))
  refine EC_reg ?_
  refine eR rfl F5 rfl (Signs_c I _ _ S) ?_
  rintro _ w11 ⟨p13, rfl, S12⟩
  refine vA p13 rfl rfl (EL_nil (thn_n (EC_seq (EC_reg (vM p13 rfl rfl ?_)))))
  refine eR rfl F6 rfl (Key_c p13 ([] : List Thing) I _ _ S12 (of_decide_eq_true (by kernel_rfl))) ?_
  rintro _ w14 ⟨v16, rfl, S15⟩
  refine vA v16 rfl rfl (EL_nil (thn_n (EC_seq (EC_reg ?_))))
  refine EL_lit w14.heap.size #[.int .u8 97] elB rfl (by decide) rfl (Nat.le_refl _) (by kernel_rfl) ?_
  intro v17 w18 O19 B20 k21 z22
  have S23 : Sat w18 I (OwnB v17 [(97 : UInt8)] :: OwnB v16 anchor_c_x0 :: Suite p13 (([] : List Thing) ++ [tKey]) :: R) := S15.newO B20 (own_eq (l := [(97 : UInt8)]) O19 (by simp [bof_val, byt]))
  refine EL_mark (v := v17) rfl rfl (S23.own 0 rfl) (by simp) U22 U5 ?_
  intro w24 R25 G26 z27
  obtain ⟨g33, q32⟩ : ∃ g, v17.ownBlock = some g := own_block (S23.own 0 rfl) (by simp)
  obtain ⟨I28, le29, S30, H31⟩ : ∃ J : Gh, Gh.le I J ∧ Sat w24 J (OwnB v16 anchor_c_x0 :: Suite p13 (([] : List Thing) ++ [tKey]) :: R) ∧ Ro J v17 ([(97 : UInt8)].map byt) := S23.frzTo 0 rfl G26 q32 R25
  refine EL_lit w24.heap.size #[.int .u8 98] elB rfl (by decide) rfl (Nat.le_refl _) (by kernel_rfl) ?_
  intro v34 w35 O36 B37 k38 z39
  have S40 : Sat w35 I28 (OwnB v34 [(98 : UInt8)] :: OwnB v16 anchor_c_x0 :: Suite p13 (([] : List Thing) ++ [tKey]) :: R) := S30.newO B37 (own_eq (l := [(98 : UInt8)]) O36 (by simp [bof_val, byt]))
  refine EL_mark (v := v34) rfl rfl (S40.own 0 rfl) (by simp) U22 U5 ?_
  intro w41 R42 G43 z44
  obtain ⟨g50, q49⟩ : ∃ g, v34.ownBlock = some g := own_block (S40.own 0 rfl) (by simp)
  obtain ⟨I45, le46, S47, H48⟩ : ∃ J : Gh, Gh.le I28 J ∧ Sat w41 J (OwnB v16 anchor_c_x0 :: Suite p13 (([] : List Thing) ++ [tKey]) :: R) ∧ Ro J v34 ([(98 : UInt8)].map byt) := S40.frzTo 0 rfl G43 q49 R42
  refine vl (.agg ([.int .i64 1, .int .i64 1, .int .i64 1, v17, v34, .int .i64 0, .int .i64 0, .int .i64 0, .slice none 0 0]).toArray) rfl (r_buildS (l := [(0, .int .i64 1), (1, .int .i64 1), (2, .int .i64 1), (3, v17), (4, v34)]) st_38 (parts5 rfl rfl rfl rfl rfl) (Eq.trans (show Instr.fill _ _ [(0, .int .i64 1), (1, .int .i64 1), (2, .int .i64 1), (3, v17), (4, v34)] = _ from (fill_one rfl rfl rfl (fill_one rfl rfl rfl (fill_one rfl rfl rfl (fill_one rfl (row_cells (H31 _ (lT le46 S47.le))) rfl (fill_one rfl (row_cells (H48 _ S47.le)) rfl fill_end)))))) (by kernel_rfl))) ?_
  refine EL_alloc (z := .agg #[.int .i64 0, .int .i64 0, .int .i64 0, .slice none 0 0, .slice none 0 0, .int .i64 0, .int .i64 0, .int .i64 0, .slice none 0 0]) entR0 rfl (by kernel_rfl) rfl ?_
  intro b51 w52 k53 A54 B55 z56
  have S57 := S47.newB B55 A54 k53
  refine sA [.int .i64 1, .int .i64 1, .int .i64 1, v17, v34, .int .i64 0, .int .i64 0, .int .i64 0, .slice none 0 0] rfl rfl (S57.arr 0 rfl) rfl (by kernel_rfl) (ones_cons rfl (ones_cons rfl (ones_cons rfl (ones_cons (row_one (H31 _ (lT le46 S57.le))) (ones_cons (row_one (H48 _ S57.le)) (ones_cons rfl (ones_cons rfl (ones_cons rfl (ones_cons rfl (fun _ h => nomatch h)))))))))) ?_
  intro w58 A59 K60 z61
  have S62 := S57.wr0 (ds := [.int .i64 1, .int .i64 1, .int .i64 1, v17, v34, .int .i64 0, .int .i64 0, .int .i64 0, .slice none 0 0]) K60 A59
  refine EL_nil (thn_n (EC_seq (EC_reg (vM p13 rfl rfl (vM v16 rfl rfl ?_)))))
  refine vl (.agg ([.int .i64 1, .int .i64 0, .int .i64 1, .int .i64 1, .slice none 0 0]).toArray) rfl (r_buildS (l := [(0, .int .i64 1), (2, .int .i64 1), (3, .int .i64 1)]) st_35 (parts3 rfl rfl rfl) (Eq.trans (show Instr.fill _ _ [(0, .int .i64 1), (2, .int .i64 1), (3, .int .i64 1)] = _ from (fill_one rfl rfl rfl (fill_one rfl rfl rfl (fill_one rfl rfl rfl fill_end)))) (by kernel_rfl))) (vl (.agg ([.int .i64 1, .int .i64 1, .int .i64 1, v17, v34, .int .i64 0, .int .i64 0, .int .i64 0, .slice none 0 0]).toArray) rfl (r_loadAll rfl (S62.arr 0 rfl) U38 rfl (by kernel_rfl)) ?_)
  obtain ⟨I63, le64, S65, H66⟩ := S62.fb1
  have S67 := S65.fr1
  refine eR rfl F10 rfl (RSeal_c p13 (([] : List Thing) ++ [tKey]) (.slice none 0 0) ([] : List UInt8) v16 anchor_c_x0 [.int .i64 1, .int .i64 0, .int .i64 1, .int .i64 1, .slice none 0 0] (⟨1, 0, 1, 1, []⟩ : Record) [.int .i64 1, .int .i64 1, .int .i64 1, v17, v34, .int .i64 0, .int .i64 0, .int .i64 0, .slice none 0 0] (⟨1, 1, 1, [(97 : UInt8)], [(98 : UInt8)], 0, 0, 0, []⟩ : Entry) I63 _ _ S67 Ro.nil H66 ⟨(.slice none 0 0), rfl, (by dsimp only; omega), (by dsimp only; omega), (by dsimp only; omega), (by dsimp only; omega), ⟨rfl, Ro.nil⟩⟩ ⟨v17, v34, (.slice none 0 0), rfl, (by dsimp only; omega), (by dsimp only; omega), (by dsimp only; omega), ⟨(row_one (H31 _ (lT (lT le46 le64) S67.le))), (H31.up (lT le46 le64))⟩, ⟨(row_one (H48 _ (lT le64 S67.le))), (H48.up le64)⟩, (by dsimp only; omega), (by dsimp only; omega), (by dsimp only; omega), ⟨rfl, RoX.nil⟩⟩ (of_decide_eq_true (by kernel_rfl)) (by decide)) ?_
  rintro _ w68 ⟨cs70, I71, le72, rfl, h73, S69⟩
  obtain ⟨v78, rfl, r74, r75, r76, r77, ⟨o79, H80⟩⟩ := h73
  refine vM (.tuple #[.agg ((recRC anchor_c_x2 v78)).toArray, .int .i64 (sealRE anchor_c_x0 (⟨1, 0, 1, 1, []⟩ : Record) (⟨1, 1, 1, [(97 : UInt8)], [(98 : UInt8)], 0, 0, 0, []⟩ : Entry))]) rfl rfl (vX (.agg ((recRC anchor_c_x2 v78)).toArray) rfl rfl rfl (vX (.int .i64 (sealRE anchor_c_x0 (⟨1, 0, 1, 1, []⟩ : Record) (⟨1, 1, 1, [(97 : UInt8)], [(98 : UInt8)], 0, 0, 0, []⟩ : Entry))) rfl rfl rfl ?_))
  refine EL_alloc (z := .agg #[.int .i64 0, .int .i64 0, .int .i64 0, .int .i64 0, .slice none 0 0]) recR0 rfl (by kernel_rfl) rfl ?_
  intro b81 w82 k83 A84 B85 z86
  have S87 := S69.newB B85 A84 k83
  refine sA (recRC anchor_c_x2 v78) rfl rfl (S87.arr 0 rfl) rfl (by kernel_rfl) (ones_cons rfl (ones_cons rfl (ones_cons rfl (ones_cons rfl (ones_cons o79 (fun _ h => nomatch h)))))) ?_
  intro w88 A89 K90 z91
  have S92 := S87.wr0 (ds := (recRC anchor_c_x2 v78)) K90 A89
  refine vA (.int .i64 (sealRE anchor_c_x0 (⟨1, 0, 1, 1, []⟩ : Record) (⟨1, 1, 1, [(97 : UInt8)], [(98 : UInt8)], 0, 0, 0, []⟩ : Entry))) rfl rfl (EL_nil (thn_n (EC_seq (EC_reg (vM p13 rfl rfl ?_)))))
  refine vM v16 rfl rfl (vl (.agg ((recRC anchor_c_x2 v78)).toArray) rfl (r_loadAll rfl (S92.arr 0 rfl) U35 rfl (by kernel_rfl)) ?_)
  have S93 := S92.fr1
  refine eR rfl F14 rfl (ROpen_c p13 anchor_c_x1 (.slice none 0 0) ([] : List UInt8) v16 anchor_c_x0 (recRC anchor_c_x2 v78) anchor_c_x2 I71 _ _ S93 Ro.nil (H66.up le72) ⟨v78, rfl, (by first | assumption | (dsimp only; omega)), (by first | assumption | (dsimp only; omega)), (by first | assumption | (dsimp only; omega)), (by first | assumption | (dsimp only; omega)), ⟨o79, H80⟩⟩ (of_decide_eq_true (by kernel_rfl)) (by decide) (of_decide_eq_true (by kernel_rfl))) ?_
  rintro _ w94 ⟨cs96, I97, le98, rfl, h99, S95⟩
  obtain ⟨v103, v106, v112, rfl, r100, r101, r102, ⟨o104, H105⟩, ⟨o107, H108⟩, r109, r110, r111, ⟨o113, H114⟩⟩ := h99
  refine vM (.tuple #[.agg ((entRC anchor_c_x4 v103 v106 v112)).toArray, .int .i64 (openRE anchor_c_x1 ([] : List UInt8) anchor_c_x0 anchor_c_x2)]) rfl rfl (vX (.agg ((entRC anchor_c_x4 v103 v106 v112)).toArray) rfl rfl rfl (vX (.int .i64 (openRE anchor_c_x1 ([] : List UInt8) anchor_c_x0 anchor_c_x2)) rfl rfl rfl ?_))
  refine EL_alloc (z := .agg #[.int .i64 0, .int .i64 0, .int .i64 0, .slice none 0 0, .slice none 0 0, .int .i64 0, .int .i64 0, .int .i64 0, .slice none 0 0]) entR0 rfl (by kernel_rfl) rfl ?_
  intro b115 w116 k117 A118 B119 z120
  have S121 := S95.newB B119 A118 k117
  refine sA (entRC anchor_c_x4 v103 v106 v112) rfl rfl (S121.arr 0 rfl) rfl (by kernel_rfl) (ones_cons rfl (ones_cons rfl (ones_cons rfl (ones_cons o104 (ones_cons o107 (ones_cons rfl (ones_cons rfl (ones_cons rfl (ones_cons o113 (fun _ h => nomatch h)))))))))) ?_
  intro w122 A123 K124 z125
  have S126 := S121.wr0 (ds := (entRC anchor_c_x4 v103 v106 v112)) K124 A123
  refine vA (.int .i64 (openRE anchor_c_x1 ([] : List UInt8) anchor_c_x0 anchor_c_x2)) rfl rfl (EL_nil (thn_n ?_))
  refine EC_cut (fun E' w' => ∃ v6o2_1 : Value, ∃ v6o4_6 : Value, ∃ v6o4_8 : Value, ∃ v6o4_13 : Value, ∃ b6o8_1 : Nat, ∃ J : Gh, E' 0 = .bool false ∧ E' 3 = ptr b51 ∧ E' 4 = ptr b81 ∧ E' 5 = .int .i64 (sealRE anchor_c_x0 (⟨1, 0, 1, 1, []⟩ : Record) (⟨1, 1, 1, [(97 : UInt8)], [(98 : UInt8)], 0, 0, 0, []⟩ : Entry)) ∧ E' 6 = ptr b115 ∧ E' 7 = .int .i64 (openRE anchor_c_x1 ([] : List UInt8) anchor_c_x0 anchor_c_x2) ∧ E' 9 = .int .i64 (openRE (anchor_c_x3 ++ [tKey]) ([] : List UInt8) anchor_c_x5 anchor_c_x2) ∧ (-9223372036854775808 ≤ anchor_c_x7.kind ∧ anchor_c_x7.kind ≤ 9223372036854775807) ∧ (-9223372036854775808 ≤ anchor_c_x7.writer ∧ anchor_c_x7.writer ≤ 9223372036854775807) ∧ (-9223372036854775808 ≤ anchor_c_x7.seq ∧ anchor_c_x7.seq ≤ 9223372036854775807) ∧ (-9223372036854775808 ≤ anchor_c_x7.who ∧ anchor_c_x7.who ≤ 9223372036854775807) ∧ (-9223372036854775808 ≤ anchor_c_x7.rights ∧ anchor_c_x7.rights ≤ 9223372036854775807) ∧ (-9223372036854775808 ≤ anchor_c_x7.epoch ∧ anchor_c_x7.epoch ≤ 9223372036854775807) ∧ Gh.le I97 J ∧ RoB J v6o2_1 anchor_c_x5 ∧ RoB J v6o4_6 anchor_c_x7.name ∧ RoB J v6o4_8 anchor_c_x7.value ∧ RoX J v6o4_13 wrapR anchor_c_x7.wraps ∧ Sat w' J (Blk b6o8_1 38 (entRC anchor_c_x7 v6o4_6 v6o4_8 v6o4_13) :: Suite p13 anchor_c_x6 :: Blk b115 38 (entRC anchor_c_x4 v103 v106 v112) :: Blk b81 35 (recRC anchor_c_x2 v78) :: Blk b51 38 [.int .i64 1, .int .i64 1, .int .i64 1, v17, v34, .int .i64 0, .int .i64 0, .int .i64 0, .slice none 0 0] :: R)) ?_ ?_
  refine EC_any 9 (fun w' => Gh.le I97 (gh w')) (fun w' => Arr w' b81 35 (recRC anchor_c_x2 v78)) (by kernel_rfl) ?_
  intro w127 B128
  have S129 := S126.below B128
  refine jT 0 rfl (by kernel_rfl) p13 rfl (fun _ hw ht => r_move rfl) ⟨S129.le, fun h => S129.arr 2 rfl⟩ ?_
  refine jT 1 rfl (by kernel_rfl) p13 rfl (fun _ hw ht => r_move rfl) ⟨S129.le, fun h => S129.arr 2 rfl⟩ ?_
  refine jT 3 rfl (by kernel_rfl) (.agg ((recRC anchor_c_x2 v78)).toArray) rfl (fun _ hw ht => r_loadAll rfl ht U35 rfl (by kernel_rfl)) ⟨S129.le, fun h => S129.arr 2 rfl⟩ ?_
  refine EJ_two 2 8 (by kernel_rfl) ⟨_, rfl, ?_⟩ ⟨_, rfl, ?_⟩
  have S130 := S129.fr1
  refine eR rfl F6 rfl (Key_c p13 anchor_c_x3 I97 _ _ S130 (of_decide_eq_true (by kernel_rfl))) ?_
  rintro _ w131 ⟨v6o2_1, rfl, S132⟩
  refine EL_nil ?_
  refine ⟨rfl, ⟨S132.le, fun h => S132.arr 3 rfl⟩, ?_⟩
  refine EJ_two 4 8 (by kernel_rfl) ⟨_, rfl, ?_⟩ ⟨_, rfl, ?_⟩
  obtain ⟨I133, le134, S135, H136⟩ := S132.fb0
  refine eR rfl F14 rfl (ROpen_c p13 (anchor_c_x3 ++ [tKey]) (.slice none 0 0) ([] : List UInt8) v6o2_1 anchor_c_x5 (recRC anchor_c_x2 v78) anchor_c_x2 I133 _ _ S135 Ro.nil H136 ⟨v78, rfl, (by first | assumption | (dsimp only; omega)), (by first | assumption | (dsimp only; omega)), (by first | assumption | (dsimp only; omega)), (by first | assumption | (dsimp only; omega)), ⟨o79, (H80.up (lT le98 le134))⟩⟩ (of_decide_eq_true (by kernel_rfl)) (by decide) (of_decide_eq_true (by kernel_rfl))) ?_
  rintro _ w137 ⟨cs6o4_1, I139, le140, rfl, h6o4_2, S138⟩
  obtain ⟨v6o4_6, v6o4_8, v6o4_13, rfl, r6o4_3, r6o4_4, r6o4_5, ⟨o6o4_7, H141⟩, ⟨o6o4_9, H142⟩, r6o4_10, r6o4_11, r6o4_12, ⟨o6o4_14, H143⟩⟩ := h6o4_2
  refine EL_nil ?_
  refine ⟨rfl, ⟨(lT (lT le134 le140) S138.le), fun h => S138.arr 2 rfl⟩, ?_⟩
  refine EJ_strong (fun w' => Gh.le I139 (gh w')) _ (fun w' hw => lT (lT le134 le140) hw) (fun w' _ ht => ht) ?_
  refine jT 5 rfl (by kernel_rfl) (.tuple #[.agg ((entRC anchor_c_x7 v6o4_6 v6o4_8 v6o4_13)).toArray, .int .i64 (openRE (anchor_c_x3 ++ [tKey]) ([] : List UInt8) anchor_c_x5 anchor_c_x2)]) rfl (fun _ hw ht => r_move rfl) ⟨S138.le, fun h => S138.arr 2 rfl⟩ ?_
  refine jT 6 rfl (by kernel_rfl) (.agg ((entRC anchor_c_x7 v6o4_6 v6o4_8 v6o4_13)).toArray) rfl (fun _ hw ht => r_extract rfl rfl) ⟨S138.le, fun h => S138.arr 2 rfl⟩ ?_
  refine jF 7 rfl (by kernel_rfl) (.int .i64 (openRE (anchor_c_x3 ++ [tKey]) ([] : List UInt8) anchor_c_x5 anchor_c_x2)) rfl (fun _ hw => r_extract rfl rfl) ⟨S138.le, fun h => S138.arr 2 rfl⟩ ?_
  refine EJ_one 8 (by kernel_rfl) ⟨_, rfl, ?_⟩
  refine EL_alloc (z := .agg #[.int .i64 0, .int .i64 0, .int .i64 0, .slice none 0 0, .slice none 0 0, .int .i64 0, .int .i64 0, .int .i64 0, .slice none 0 0]) entR0 rfl (by kernel_rfl) rfl ?_
  intro b6o8_1 w144 k145 A146 B147 z148
  have S149 := S138.newB B147 A146 k145
  refine EL_nil ?_
  refine ⟨rfl, ⟨S149.le, fun h => S149.arr 3 rfl⟩, ?_⟩
  refine EJ_one 9 (by kernel_rfl) ⟨_, rfl, ?_⟩
  refine sA (entRC anchor_c_x7 v6o4_6 v6o4_8 v6o4_13) rfl rfl (S149.arr 0 rfl) rfl (by kernel_rfl) (ones_cons rfl (ones_cons rfl (ones_cons rfl (ones_cons o6o4_7 (ones_cons o6o4_9 (ones_cons rfl (ones_cons rfl (ones_cons rfl (ones_cons o6o4_14 (fun _ h => nomatch h)))))))))) ?_
  intro w150 A151 K152 z153
  have S154 := S149.wr0 (ds := (entRC anchor_c_x7 v6o4_6 v6o4_8 v6o4_13)) K152 A151
  refine EL_nil ?_
  refine ⟨rfl, ⟨S154.le, fun h => by cases h⟩, ?_⟩
  refine jF 10 rfl (by kernel_rfl) (.int .i64 (openRE (anchor_c_x3 ++ [tKey]) ([] : List UInt8) anchor_c_x5 anchor_c_x2)) rfl (fun _ hw => r_assign rfl) ⟨S154.le, fun h => by cases h⟩ ?_
  refine EJ_done (by kernel_rfl) ?_
  refine thn_n ?_
  exact ⟨v6o2_1, v6o4_6, v6o4_8, v6o4_13, b6o8_1, I139, rfl, rfl, rfl, rfl, rfl, rfl, rfl, r6o4_3, r6o4_4, r6o4_5, r6o4_10, r6o4_11, r6o4_12, (lT le134 le140), (H136.up le140), H141, H142, H143, S154⟩
  refine EL_alloc (z := .agg #[.int .i64 0, .int .i64 0, .int .i64 0, .slice none 0 0, .slice none 0 0, .int .i64 0, .int .i64 0, .int .i64 0, .slice none 0 0]) entR0 rfl (by kernel_rfl) rfl ?_
  intro b6o8_1 w155 k156 A157 B158 z159
  have S160 := S132.newB B158 A157 k156
  refine EL_nil ?_
  refine ⟨rfl, ⟨S160.le, fun h => S160.arr 4 rfl⟩, ?_⟩
  refine EJ_one 4 (by kernel_rfl) ⟨_, rfl, ?_⟩
  obtain ⟨I161, le162, S163, H164⟩ := S160.fb1
  have S165 := S163.fr1
  refine eR rfl F14 rfl (ROpen_c p13 (anchor_c_x3 ++ [tKey]) (.slice none 0 0) ([] : List UInt8) v6o2_1 anchor_c_x5 (recRC anchor_c_x2 v78) anchor_c_x2 I161 _ _ S165 Ro.nil H164 ⟨v78, rfl, (by first | assumption | (dsimp only; omega)), (by first | assumption | (dsimp only; omega)), (by first | assumption | (dsimp only; omega)), (by first | assumption | (dsimp only; omega)), ⟨o79, (H80.up (lT le98 le162))⟩⟩ (of_decide_eq_true (by kernel_rfl)) (by decide) (of_decide_eq_true (by kernel_rfl))) ?_
  rintro _ w166 ⟨cs6o4_1, I168, le169, rfl, h6o4_2, S167⟩
  obtain ⟨v6o4_6, v6o4_8, v6o4_13, rfl, r6o4_3, r6o4_4, r6o4_5, ⟨o6o4_7, H170⟩, ⟨o6o4_9, H171⟩, r6o4_10, r6o4_11, r6o4_12, ⟨o6o4_14, H172⟩⟩ := h6o4_2
  refine EL_nil ?_
  refine ⟨rfl, ⟨(lT (lT le162 le169) S167.le), fun h => S167.arr 3 rfl⟩, ?_⟩
  refine EJ_strong (fun w' => Gh.le I168 (gh w')) _ (fun w' hw => lT (lT le162 le169) hw) (fun w' _ ht => ht) ?_
  refine jT 5 rfl (by kernel_rfl) (.tuple #[.agg ((entRC anchor_c_x7 v6o4_6 v6o4_8 v6o4_13)).toArray, .int .i64 (openRE (anchor_c_x3 ++ [tKey]) ([] : List UInt8) anchor_c_x5 anchor_c_x2)]) rfl (fun _ hw ht => r_move rfl) ⟨S167.le, fun h => S167.arr 3 rfl⟩ ?_
  refine jT 6 rfl (by kernel_rfl) (.agg ((entRC anchor_c_x7 v6o4_6 v6o4_8 v6o4_13)).toArray) rfl (fun _ hw ht => r_extract rfl rfl) ⟨S167.le, fun h => S167.arr 3 rfl⟩ ?_
  refine jF 7 rfl (by kernel_rfl) (.int .i64 (openRE (anchor_c_x3 ++ [tKey]) ([] : List UInt8) anchor_c_x5 anchor_c_x2)) rfl (fun _ hw => r_extract rfl rfl) ⟨S167.le, fun h => S167.arr 3 rfl⟩ ?_
  refine EJ_one 9 (by kernel_rfl) ⟨_, rfl, ?_⟩
  refine sA (entRC anchor_c_x7 v6o4_6 v6o4_8 v6o4_13) rfl rfl (S167.arr 1 rfl) rfl (by kernel_rfl) (ones_cons rfl (ones_cons rfl (ones_cons rfl (ones_cons o6o4_7 (ones_cons o6o4_9 (ones_cons rfl (ones_cons rfl (ones_cons rfl (ones_cons o6o4_14 (fun _ h => nomatch h)))))))))) ?_
  intro w173 A174 K175 z176
  have S177 := S167.wr1 (ds := (entRC anchor_c_x7 v6o4_6 v6o4_8 v6o4_13)) K175 A174
  refine EL_nil ?_
  refine ⟨rfl, ⟨S177.le, fun h => by cases h⟩, ?_⟩
  refine jF 10 rfl (by kernel_rfl) (.int .i64 (openRE (anchor_c_x3 ++ [tKey]) ([] : List UInt8) anchor_c_x5 anchor_c_x2)) rfl (fun _ hw => r_assign rfl) ⟨S177.le, fun h => by cases h⟩ ?_
  refine EJ_done (by kernel_rfl) ?_
  refine thn_n ?_
  have S178 := S177.fr4
  have S179 := S178.fr4
  have S180 := S179.fr4
  have S181 := S180.fr3
  have S182 := S181.fr4
  exact ⟨v6o2_1, v6o4_6, v6o4_8, v6o4_13, b6o8_1, I168, rfl, rfl, rfl, rfl, rfl, rfl, rfl, r6o4_3, r6o4_4, r6o4_5, r6o4_10, r6o4_11, r6o4_12, (lT le162 le169), (H164.up le169), H170, H171, H172, S182⟩
  refine EL_alloc (z := .agg #[.int .i64 0, .int .i64 0, .int .i64 0, .slice none 0 0, .slice none 0 0, .int .i64 0, .int .i64 0, .int .i64 0, .slice none 0 0]) entR0 rfl (by kernel_rfl) rfl ?_
  intro b6o8_1 w183 k184 A185 B186 z187
  have S188 := S129.newB B186 A185 k184
  refine EL_nil ?_
  refine ⟨rfl, ⟨S188.le, fun h => S188.arr 3 rfl⟩, ?_⟩
  refine EJ_one 2 (by kernel_rfl) ⟨_, rfl, ?_⟩
  have S189 := S188.fr2
  refine eR rfl F6 rfl (Key_c p13 anchor_c_x3 I97 _ _ S189 (of_decide_eq_true (by kernel_rfl))) ?_
  rintro _ w190 ⟨v6o2_1, rfl, S191⟩
  refine EL_nil ?_
  refine ⟨rfl, ⟨S191.le, fun h => S191.arr 4 rfl⟩, ?_⟩
  refine EJ_one 4 (by kernel_rfl) ⟨_, rfl, ?_⟩
  obtain ⟨I192, le193, S194, H195⟩ := S191.fb0
  refine eR rfl F14 rfl (ROpen_c p13 (anchor_c_x3 ++ [tKey]) (.slice none 0 0) ([] : List UInt8) v6o2_1 anchor_c_x5 (recRC anchor_c_x2 v78) anchor_c_x2 I192 _ _ S194 Ro.nil H195 ⟨v78, rfl, (by first | assumption | (dsimp only; omega)), (by first | assumption | (dsimp only; omega)), (by first | assumption | (dsimp only; omega)), (by first | assumption | (dsimp only; omega)), ⟨o79, (H80.up (lT le98 le193))⟩⟩ (of_decide_eq_true (by kernel_rfl)) (by decide) (of_decide_eq_true (by kernel_rfl))) ?_
  rintro _ w196 ⟨cs6o4_1, I198, le199, rfl, h6o4_2, S197⟩
  obtain ⟨v6o4_6, v6o4_8, v6o4_13, rfl, r6o4_3, r6o4_4, r6o4_5, ⟨o6o4_7, H200⟩, ⟨o6o4_9, H201⟩, r6o4_10, r6o4_11, r6o4_12, ⟨o6o4_14, H202⟩⟩ := h6o4_2
  refine EL_nil ?_
  refine ⟨rfl, ⟨(lT (lT le193 le199) S197.le), fun h => S197.arr 3 rfl⟩, ?_⟩
  refine EJ_strong (fun w' => Gh.le I198 (gh w')) _ (fun w' hw => lT (lT le193 le199) hw) (fun w' _ ht => ht) ?_
  refine jT 5 rfl (by kernel_rfl) (.tuple #[.agg ((entRC anchor_c_x7 v6o4_6 v6o4_8 v6o4_13)).toArray, .int .i64 (openRE (anchor_c_x3 ++ [tKey]) ([] : List UInt8) anchor_c_x5 anchor_c_x2)]) rfl (fun _ hw ht => r_move rfl) ⟨S197.le, fun h => S197.arr 3 rfl⟩ ?_
  refine jT 6 rfl (by kernel_rfl) (.agg ((entRC anchor_c_x7 v6o4_6 v6o4_8 v6o4_13)).toArray) rfl (fun _ hw ht => r_extract rfl rfl) ⟨S197.le, fun h => S197.arr 3 rfl⟩ ?_
  refine jF 7 rfl (by kernel_rfl) (.int .i64 (openRE (anchor_c_x3 ++ [tKey]) ([] : List UInt8) anchor_c_x5 anchor_c_x2)) rfl (fun _ hw => r_extract rfl rfl) ⟨S197.le, fun h => S197.arr 3 rfl⟩ ?_
  refine EJ_one 9 (by kernel_rfl) ⟨_, rfl, ?_⟩
  refine sA (entRC anchor_c_x7 v6o4_6 v6o4_8 v6o4_13) rfl rfl (S197.arr 1 rfl) rfl (by kernel_rfl) (ones_cons rfl (ones_cons rfl (ones_cons rfl (ones_cons o6o4_7 (ones_cons o6o4_9 (ones_cons rfl (ones_cons rfl (ones_cons rfl (ones_cons o6o4_14 (fun _ h => nomatch h)))))))))) ?_
  intro w203 A204 K205 z206
  have S207 := S197.wr1 (ds := (entRC anchor_c_x7 v6o4_6 v6o4_8 v6o4_13)) K205 A204
  refine EL_nil ?_
  refine ⟨rfl, ⟨S207.le, fun h => by cases h⟩, ?_⟩
  refine jF 10 rfl (by kernel_rfl) (.int .i64 (openRE (anchor_c_x3 ++ [tKey]) ([] : List UInt8) anchor_c_x5 anchor_c_x2)) rfl (fun _ hw => r_assign rfl) ⟨S207.le, fun h => by cases h⟩ ?_
  refine EJ_done (by kernel_rfl) ?_
  refine thn_n ?_
  have S208 := S207.fr4
  have S209 := S208.fr4
  have S210 := S209.fr4
  have S211 := S210.fr3
  have S212 := S211.fr4
  exact ⟨v6o2_1, v6o4_6, v6o4_8, v6o4_13, b6o8_1, I198, rfl, rfl, rfl, rfl, rfl, rfl, rfl, r6o4_3, r6o4_4, r6o4_5, r6o4_10, r6o4_11, r6o4_12, (lT le193 le199), (H195.up le199), H200, H201, H202, S212⟩
  rintro E213 w214 ⟨v6o2_1, v6o4_6, v6o4_8, v6o4_13, b6o8_1, I139, e215, e216, e217, e218, e219, e220, e221, r6o4_3, r6o4_4, r6o4_5, r6o4_10, r6o4_11, r6o4_12, le222, H223, H224, H225, H226, S227⟩
  refine EC_seq (EC_reg (vM (.int .i64 (sealRE anchor_c_x0 (⟨1, 0, 1, 1, []⟩ : Record) (⟨1, 1, 1, [(97 : UInt8)], [(98 : UInt8)], 0, 0, 0, []⟩ : Entry))) rfl e218 (vl (.bool true) rfl (r_dec (show (decide ((sealRE anchor_c_x0 (⟨1, 0, 1, 1, []⟩ : Record) (⟨1, 1, 1, [(97 : UInt8)], [(98 : UInt8)], 0, 0, 0, []⟩ : Entry)) = 0)) = true from by kernel_rfl) (r_eql rfl rfl)) (vM (.bool true) rfl rfl (gM  43 rfl rfl rfl rfl (.int .i64 (openRE anchor_c_x1 ([] : List UInt8) anchor_c_x0 anchor_c_x2)) rfl e220 ?_)))))
  refine gl  43 rfl rfl rfl rfl (.bool true) rfl (r_dec (show (decide ((openRE anchor_c_x1 ([] : List UInt8) anchor_c_x0 anchor_c_x2) = 0)) = true from by kernel_rfl) (r_eql rfl rfl)) (vT (.bool true) rfl rfl rfl (vM (.bool true) rfl rfl (gl  47 rfl rfl rfl rfl (.agg ((entRC anchor_c_x4 v103 v106 v112)).toArray) rfl (r_loadAll (by exact e219) (S227.arr 2 rfl) U38 rfl (by kernel_rfl)) (gl  47 rfl rfl rfl rfl (.agg ([.int .i64 1, .int .i64 1, .int .i64 1, v17, v34, .int .i64 0, .int .i64 0, .int .i64 0, .slice none 0 0]).toArray) rfl (r_loadAll (by exact e216) (S227.arr 4 rfl) U38 rfl (by kernel_rfl)) ?_))))
  refine eG 47 rfl rfl rfl rfl rfl F23 rfl (Same_c (entRC anchor_c_x4 v103 v106 v112) [.int .i64 1, .int .i64 1, .int .i64 1, v17, v34, .int .i64 0, .int .i64 0, .int .i64 0, .slice none 0 0] anchor_c_x4 (⟨1, 1, 1, [(97 : UInt8)], [(98 : UInt8)], 0, 0, 0, []⟩ : Entry) I139 _ _ S227 ⟨v103, v106, v112, rfl, (by first | assumption | (dsimp only; omega)), (by first | assumption | (dsimp only; omega)), (by first | assumption | (dsimp only; omega)), ⟨o104, (H105.up le222)⟩, ⟨o107, (H108.up le222)⟩, (by first | assumption | (dsimp only; omega)), (by first | assumption | (dsimp only; omega)), (by first | assumption | (dsimp only; omega)), ⟨o113, (H114.up le222)⟩⟩ ⟨v17, v34, (.slice none 0 0), rfl, (by dsimp only; omega), (by dsimp only; omega), (by dsimp only; omega), ⟨(row_one (H31 _ (lT (lT (lT (lT (lT le46 le64) le72) le98) le222) S227.le))), (H31.up (lT (lT (lT (lT le46 le64) le72) le98) le222))⟩, ⟨(row_one (H48 _ (lT (lT (lT (lT le64 le72) le98) le222) S227.le))), (H48.up (lT (lT (lT le64 le72) le98) le222))⟩, (by dsimp only; omega), (by dsimp only; omega), (by dsimp only; omega), ⟨rfl, RoX.nil⟩⟩) ?_
  rintro _ w228 ⟨rfl, S229⟩
  refine vl (.bool true) rfl (r_pickT rfl (Eq.trans (show _ = Value.bool (decide (anchor_c_x4 = (⟨1, 1, 1, [(97 : UInt8)], [(98 : UInt8)], 0, 0, 0, []⟩ : Entry))) from rfl) (congrArg Value.bool (show (decide (anchor_c_x4 = (⟨1, 1, 1, [(97 : UInt8)], [(98 : UInt8)], 0, 0, 0, []⟩ : Entry))) = true from by kernel_rfl)))) (vM (.bool true) rfl rfl (gM  52 rfl rfl rfl rfl (.int .i64 (openRE (anchor_c_x3 ++ [tKey]) ([] : List UInt8) anchor_c_x5 anchor_c_x2)) rfl e221 (gl  52 rfl rfl rfl rfl (.bool true) rfl (r_dec (show (decide ((openRE (anchor_c_x3 ++ [tKey]) ([] : List UInt8) anchor_c_x5 anchor_c_x2) = 20)) = true from by kernel_rfl) (r_eql rfl rfl)) (vT (.bool true) rfl rfl rfl (vM (.bool true) rfl rfl ?_)))))
  refine gl  56 rfl rfl rfl rfl (ptr b81 4) rfl (fP 0 (by exact e217) U35 (by kernel_rfl)) ?_
  refine gL  56 rfl rfl rfl rfl v78 rfl rfl (S229.arr 3 rfl) rfl U22 rfl ?_
  refine gl  56 rfl rfl rfl rfl (.int .i64 (anchor_c_x2.box.length : Int)) rfl (lenB (r_len rfl (H80 _ (lT (lT le98 le222) S229.le)) U22)) (gl  56 rfl rfl rfl rfl (.bool true) rfl (r_dec (show (decide ((anchor_c_x2.box.length : Int) = 80)) = true from by kernel_rfl) (r_eql rfl rfl)) (vT (.bool true) rfl rfl rfl (vA (.bool true) rfl rfl (EL_nil (thn_n ?_)))))
  refine EC_ret ?_
  refine fin1 Tryz.results4 (show _ = .bool true from rfl) ⟨_, rfl, ?_⟩
  have S230 := S229.dr0
  have S231 := S230.dr0
  have S232 := S231.dr0
  have S233 := S232.dr0
  have S234 := S233.dr0
  exact ⟨I139, (lT (lT (lT (lT (lT le29 le46) le64) le72) le98) le222), rfl, S234⟩

end Go.Proofs.YtoajodjcmeijgaaGreat
