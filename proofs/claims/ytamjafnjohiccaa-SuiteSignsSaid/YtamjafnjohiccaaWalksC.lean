import Derived.Test.YtamjafnjohiccaaWalksB
import Derived.Test.YtamjafnjohiccaaSigns
set_option linter.unusedVariables false
set_option linter.unusedSimpArgs false
namespace Go.Proofs.Ytamjafnjohiccaa
open Go.RowKit Go.Ecal

set_option maxRecDepth 100000 in
set_option maxHeartbeats 4000000 in
theorem anchor_c (I : Gh) (R : List HP) (w : World) (S : Sat w I (R)) : Ret Try.prog 10 [] w fun v w' => ∃ J : Gh, Gh.le I J ∧ .bool true = v ∧ Sat w' J (R) := by
  refine ret_E Try.func10 rfl Try.ntmps10 (by simp) ?_
  refine EC_seq ?_
  refine EC_reg ?_
  refine EL_val (.bool false) w rfl (r_assign rfl) ?_
  refine EL_nil ?_
  refine thn_n ?_
  refine EC_seq ?_
  refine EC_reg ?_
  refine EL_ret _ rfl Try.func11 rfl nm11 rfl (Signs_c I _ _ S) ?_
  rintro _ w11 ⟨p13, rfl, S12⟩
  refine EL_val p13 w11 rfl (r_assign rfl) ?_
  refine EL_nil ?_
  refine thn_n ?_
  refine EC_seq ?_
  refine EC_reg ?_
  refine EL_val p13 w11 rfl (r_move rfl) ?_
  refine EL_lit w11.heap.size #[.int .u8 97] elB rfl (by decide) rfl (Nat.le_refl _) (by kernel_rfl) ?_
  intro v14 w15 O16 B17 k18 z19
  have S20 : Sat w15 I (OwnB v14 [(97 : UInt8)] :: Suite p13 ([] : List Thing) :: R) := S12.newO B17 (own_eq (l := [(97 : UInt8)]) O16 (by simp [bof_val, byt]))
  refine EL_mark (v := v14) rfl rfl (S20.own 0 rfl) (by simp) Try.underlying22 Try.underlying5 ?_
  intro w21 R22 G23 z24
  obtain ⟨g30, q29⟩ : ∃ g, v14.ownBlock = some g := own_block (S20.own 0 rfl) (by simp)
  obtain ⟨I25, le26, S27, H28⟩ : ∃ J : Gh, Gh.le I J ∧ Sat w21 J (Suite p13 ([] : List Thing) :: R) ∧ Ro J v14 ([(97 : UInt8)].map byt) := S20.frzTo 0 rfl G23 q29 R22
  refine EL_lit1 (l := [(0, v14)]) w21.heap.size [v14] el_36 rfl (by decide) rfl (Nat.le_refl _) (parts1 rfl) (Eq.trans (show Instr.fill _ _ [(0, v14)] = _ from (fill_one rfl (row_cells (H28 _ S27.le)) (by kernel_rfl) fill_end)) (by kernel_rfl)) ?_
  intro v31 w32 O33 B34 k35
  have S36 : Sat w32 I25 (OwnX 22 bytesR v31 [[(97 : UInt8)]] :: Suite p13 ([] : List Thing) :: R) := OwnX.cls (xss := [[v14]]) (.cons ⟨_, rfl, (row_one (H28 _ S27.le)), H28⟩ .nil) (S27.newO B34 O33)
  have oH40 := (OwnX.one S36 0 rfl (by decide))
  obtain ⟨I37, le38, S39, H40⟩ : ∃ J : Gh, Gh.le I25 J ∧ Sat w32 J (Suite p13 ([] : List Thing) :: R) ∧ RoX J v31 bytesR [[(97 : UInt8)]] := OwnX.frz S36 0 rfl (by decide)
  refine EL_ret _ rfl Try.func12 rfl nm12 rfl (Sum_c p13 ([] : List Thing) v31 [[(97 : UInt8)]] I37 _ _ S39 H40 (by decide) (by decide)) ?_
  rintro _ w41 ⟨v43, rfl, S42⟩
  have q45 : signOf 72 (onceN (tSum [[(97 : UInt8)]].flatten) ([] : List Thing)) = ([83, 72, 0, 0, 0, 0, 0, 0, 0, 0, 0, 0, 0, 0, 0, 0, 0, 0, 0, 0, 0, 0, 0, 0, 0, 0, 0, 0, 0, 0, 0, 1] : List UInt8) := by kernel_rfl
  have S44 : Sat w41 I37 (OwnB v43 ([83, 72, 0, 0, 0, 0, 0, 0, 0, 0, 0, 0, 0, 0, 0, 0, 0, 0, 0, 0, 0, 0, 0, 0, 0, 0, 0, 0, 0, 0, 0, 1] : List UInt8) :: Suite p13 (onceL (tSum [[(97 : UInt8)]].flatten) ([] : List Thing)) :: R) := S42.as 0 rfl (congrArg (fun zz => OwnB v43 zz) q45)
  have q47 : onceL (tSum [[(97 : UInt8)]].flatten) ([] : List Thing) = [tSum [97]] := by kernel_rfl
  have S46 : Sat w41 I37 (OwnB v43 ([83, 72, 0, 0, 0, 0, 0, 0, 0, 0, 0, 0, 0, 0, 0, 0, 0, 0, 0, 0, 0, 0, 0, 0, 0, 0, 0, 0, 0, 0, 0, 1] : List UInt8) :: Suite p13 [tSum [97]] :: R) := S44.as 1 rfl (congrArg (fun zz => Suite p13 zz) q47)
  refine EL_val p13 w41 rfl (r_move rfl) ?_
  refine EL_lit w41.heap.size #[.int .u8 97] elB rfl (by decide) rfl (Nat.le_refl _) (by kernel_rfl) ?_
  intro v48 w49 O50 B51 k52 z53
  have S54 : Sat w49 I37 (OwnB v48 [(97 : UInt8)] :: OwnB v43 ([83, 72, 0, 0, 0, 0, 0, 0, 0, 0, 0, 0, 0, 0, 0, 0, 0, 0, 0, 0, 0, 0, 0, 0, 0, 0, 0, 0, 0, 0, 0, 1] : List UInt8) :: Suite p13 [tSum [97]] :: R) := S46.newO B51 (own_eq (l := [(97 : UInt8)]) O50 (by simp [bof_val, byt]))
  refine EL_mark (v := v48) rfl rfl (S54.own 0 rfl) (by simp) Try.underlying22 Try.underlying5 ?_
  intro w55 R56 G57 z58
  obtain ⟨g64, q63⟩ : ∃ g, v48.ownBlock = some g := own_block (S54.own 0 rfl) (by simp)
  obtain ⟨I59, le60, S61, H62⟩ : ∃ J : Gh, Gh.le I37 J ∧ Sat w55 J (OwnB v43 ([83, 72, 0, 0, 0, 0, 0, 0, 0, 0, 0, 0, 0, 0, 0, 0, 0, 0, 0, 0, 0, 0, 0, 0, 0, 0, 0, 0, 0, 0, 0, 1] : List UInt8) :: Suite p13 [tSum [97]] :: R) ∧ Ro J v48 ([(97 : UInt8)].map byt) := S54.frzTo 0 rfl G57 q63 R56
  refine EL_lit1 (l := [(0, v48)]) w55.heap.size [v48] el_36 rfl (by decide) rfl (Nat.le_refl _) (parts1 rfl) (Eq.trans (show Instr.fill _ _ [(0, v48)] = _ from (fill_one rfl (row_cells (H62 _ S61.le)) (by kernel_rfl) fill_end)) (by kernel_rfl)) ?_
  intro v65 w66 O67 B68 k69
  have S70 : Sat w66 I59 (OwnX 22 bytesR v65 [[(97 : UInt8)]] :: OwnB v43 ([83, 72, 0, 0, 0, 0, 0, 0, 0, 0, 0, 0, 0, 0, 0, 0, 0, 0, 0, 0, 0, 0, 0, 0, 0, 0, 0, 0, 0, 0, 0, 1] : List UInt8) :: Suite p13 [tSum [97]] :: R) := OwnX.cls (xss := [[v48]]) (.cons ⟨_, rfl, (row_one (H62 _ S61.le)), H62⟩ .nil) (S61.newO B68 O67)
  have oH74 := (OwnX.one S70 0 rfl (by decide))
  obtain ⟨I71, le72, S73, H74⟩ : ∃ J : Gh, Gh.le I59 J ∧ Sat w66 J (OwnB v43 ([83, 72, 0, 0, 0, 0, 0, 0, 0, 0, 0, 0, 0, 0, 0, 0, 0, 0, 0, 0, 0, 0, 0, 0, 0, 0, 0, 0, 0, 0, 0, 1] : List UInt8) :: Suite p13 [tSum [97]] :: R) ∧ RoX J v65 bytesR [[(97 : UInt8)]] := OwnX.frz S70 0 rfl (by decide)
  have S75 : Sat w66 I71 (Suite p13 [tSum [97]] :: OwnB v43 ([83, 72, 0, 0, 0, 0, 0, 0, 0, 0, 0, 0, 0, 0, 0, 0, 0, 0, 0, 0, 0, 0, 0, 0, 0, 0, 0, 0, 0, 0, 0, 1] : List UInt8) :: R) := S73.cons_front (i := 1) rfl
  refine EL_ret _ rfl Try.func12 rfl nm12 rfl (Sum_c p13 [tSum [97]] v65 [[(97 : UInt8)]] I71 _ _ S75 H74 (by decide) (by decide)) ?_
  rintro _ w76 ⟨v78, rfl, S77⟩
  have q80 : signOf 72 (onceN (tSum [[(97 : UInt8)]].flatten) [tSum [97]]) = ([83, 72, 0, 0, 0, 0, 0, 0, 0, 0, 0, 0, 0, 0, 0, 0, 0, 0, 0, 0, 0, 0, 0, 0, 0, 0, 0, 0, 0, 0, 0, 1] : List UInt8) := by kernel_rfl
  have S79 : Sat w76 I71 (OwnB v78 ([83, 72, 0, 0, 0, 0, 0, 0, 0, 0, 0, 0, 0, 0, 0, 0, 0, 0, 0, 0, 0, 0, 0, 0, 0, 0, 0, 0, 0, 0, 0, 1] : List UInt8) :: Suite p13 (onceL (tSum [[(97 : UInt8)]].flatten) [tSum [97]]) :: OwnB v43 ([83, 72, 0, 0, 0, 0, 0, 0, 0, 0, 0, 0, 0, 0, 0, 0, 0, 0, 0, 0, 0, 0, 0, 0, 0, 0, 0, 0, 0, 0, 0, 1] : List UInt8) :: R) := S77.as 0 rfl (congrArg (fun zz => OwnB v78 zz) q80)
  have q82 : onceL (tSum [[(97 : UInt8)]].flatten) [tSum [97]] = [tSum [97]] := by kernel_rfl
  have S81 : Sat w76 I71 (OwnB v78 ([83, 72, 0, 0, 0, 0, 0, 0, 0, 0, 0, 0, 0, 0, 0, 0, 0, 0, 0, 0, 0, 0, 0, 0, 0, 0, 0, 0, 0, 0, 0, 1] : List UInt8) :: Suite p13 [tSum [97]] :: OwnB v43 ([83, 72, 0, 0, 0, 0, 0, 0, 0, 0, 0, 0, 0, 0, 0, 0, 0, 0, 0, 0, 0, 0, 0, 0, 0, 0, 0, 0, 0, 0, 0, 1] : List UInt8) :: R) := S79.as 1 rfl (congrArg (fun zz => Suite p13 zz) q82)
  refine EL_val p13 w76 rfl (r_move rfl) ?_
  refine EL_lit w76.heap.size #[.int .u8 98] elB rfl (by decide) rfl (Nat.le_refl _) (by kernel_rfl) ?_
  intro v83 w84 O85 B86 k87 z88
  have S89 : Sat w84 I71 (OwnB v83 [(98 : UInt8)] :: OwnB v78 ([83, 72, 0, 0, 0, 0, 0, 0, 0, 0, 0, 0, 0, 0, 0, 0, 0, 0, 0, 0, 0, 0, 0, 0, 0, 0, 0, 0, 0, 0, 0, 1] : List UInt8) :: Suite p13 [tSum [97]] :: OwnB v43 ([83, 72, 0, 0, 0, 0, 0, 0, 0, 0, 0, 0, 0, 0, 0, 0, 0, 0, 0, 0, 0, 0, 0, 0, 0, 0, 0, 0, 0, 0, 0, 1] : List UInt8) :: R) := S81.newO B86 (own_eq (l := [(98 : UInt8)]) O85 (by simp [bof_val, byt]))
  refine EL_mark (v := v83) rfl rfl (S89.own 0 rfl) (by simp) Try.underlying22 Try.underlying5 ?_
  intro w90 R91 G92 z93
  obtain ⟨g99, q98⟩ : ∃ g, v83.ownBlock = some g := own_block (S89.own 0 rfl) (by simp)
  obtain ⟨I94, le95, S96, H97⟩ : ∃ J : Gh, Gh.le I71 J ∧ Sat w90 J (OwnB v78 ([83, 72, 0, 0, 0, 0, 0, 0, 0, 0, 0, 0, 0, 0, 0, 0, 0, 0, 0, 0, 0, 0, 0, 0, 0, 0, 0, 0, 0, 0, 0, 1] : List UInt8) :: Suite p13 [tSum [97]] :: OwnB v43 ([83, 72, 0, 0, 0, 0, 0, 0, 0, 0, 0, 0, 0, 0, 0, 0, 0, 0, 0, 0, 0, 0, 0, 0, 0, 0, 0, 0, 0, 0, 0, 1] : List UInt8) :: R) ∧ Ro J v83 ([(98 : UInt8)].map byt) := S89.frzTo 0 rfl G92 q98 R91
  refine EL_lit1 (l := [(0, v83)]) w90.heap.size [v83] el_36 rfl (by decide) rfl (Nat.le_refl _) (parts1 rfl) (Eq.trans (show Instr.fill _ _ [(0, v83)] = _ from (fill_one rfl (row_cells (H97 _ S96.le)) (by kernel_rfl) fill_end)) (by kernel_rfl)) ?_
  intro v100 w101 O102 B103 k104
  have S105 : Sat w101 I94 (OwnX 22 bytesR v100 [[(98 : UInt8)]] :: OwnB v78 ([83, 72, 0, 0, 0, 0, 0, 0, 0, 0, 0, 0, 0, 0, 0, 0, 0, 0, 0, 0, 0, 0, 0, 0, 0, 0, 0, 0, 0, 0, 0, 1] : List UInt8) :: Suite p13 [tSum [97]] :: OwnB v43 ([83, 72, 0, 0, 0, 0, 0, 0, 0, 0, 0, 0, 0, 0, 0, 0, 0, 0, 0, 0, 0, 0, 0, 0, 0, 0, 0, 0, 0, 0, 0, 1] : List UInt8) :: R) := OwnX.cls (xss := [[v83]]) (.cons ⟨_, rfl, (row_one (H97 _ S96.le)), H97⟩ .nil) (S96.newO B103 O102)
  have oH109 := (OwnX.one S105 0 rfl (by decide))
  obtain ⟨I106, le107, S108, H109⟩ : ∃ J : Gh, Gh.le I94 J ∧ Sat w101 J (OwnB v78 ([83, 72, 0, 0, 0, 0, 0, 0, 0, 0, 0, 0, 0, 0, 0, 0, 0, 0, 0, 0, 0, 0, 0, 0, 0, 0, 0, 0, 0, 0, 0, 1] : List UInt8) :: Suite p13 [tSum [97]] :: OwnB v43 ([83, 72, 0, 0, 0, 0, 0, 0, 0, 0, 0, 0, 0, 0, 0, 0, 0, 0, 0, 0, 0, 0, 0, 0, 0, 0, 0, 0, 0, 0, 0, 1] : List UInt8) :: R) ∧ RoX J v100 bytesR [[(98 : UInt8)]] := OwnX.frz S105 0 rfl (by decide)
  have S110 : Sat w101 I106 (Suite p13 [tSum [97]] :: OwnB v78 ([83, 72, 0, 0, 0, 0, 0, 0, 0, 0, 0, 0, 0, 0, 0, 0, 0, 0, 0, 0, 0, 0, 0, 0, 0, 0, 0, 0, 0, 0, 0, 1] : List UInt8) :: OwnB v43 ([83, 72, 0, 0, 0, 0, 0, 0, 0, 0, 0, 0, 0, 0, 0, 0, 0, 0, 0, 0, 0, 0, 0, 0, 0, 0, 0, 0, 0, 0, 0, 1] : List UInt8) :: R) := S108.cons_front (i := 1) rfl
  refine EL_ret _ rfl Try.func12 rfl nm12 rfl (Sum_c p13 [tSum [97]] v100 [[(98 : UInt8)]] I106 _ _ S110 H109 (by decide) (by decide)) ?_
  rintro _ w111 ⟨v113, rfl, S112⟩
  have q115 : signOf 72 (onceN (tSum [[(98 : UInt8)]].flatten) [tSum [97]]) = ([83, 72, 0, 0, 0, 0, 0, 0, 0, 0, 0, 0, 0, 0, 0, 0, 0, 0, 0, 0, 0, 0, 0, 0, 0, 0, 0, 0, 0, 0, 0, 2] : List UInt8) := by kernel_rfl
  have S114 : Sat w111 I106 (OwnB v113 ([83, 72, 0, 0, 0, 0, 0, 0, 0, 0, 0, 0, 0, 0, 0, 0, 0, 0, 0, 0, 0, 0, 0, 0, 0, 0, 0, 0, 0, 0, 0, 2] : List UInt8) :: Suite p13 (onceL (tSum [[(98 : UInt8)]].flatten) [tSum [97]]) :: OwnB v78 ([83, 72, 0, 0, 0, 0, 0, 0, 0, 0, 0, 0, 0, 0, 0, 0, 0, 0, 0, 0, 0, 0, 0, 0, 0, 0, 0, 0, 0, 0, 0, 1] : List UInt8) :: OwnB v43 ([83, 72, 0, 0, 0, 0, 0, 0, 0, 0, 0, 0, 0, 0, 0, 0, 0, 0, 0, 0, 0, 0, 0, 0, 0, 0, 0, 0, 0, 0, 0, 1] : List UInt8) :: R) := S112.as 0 rfl (congrArg (fun zz => OwnB v113 zz) q115)
  have q117 : onceL (tSum [[(98 : UInt8)]].flatten) [tSum [97]] = [tSum [97], tSum [98]] := by kernel_rfl
  have S116 : Sat w111 I106 (OwnB v113 ([83, 72, 0, 0, 0, 0, 0, 0, 0, 0, 0, 0, 0, 0, 0, 0, 0, 0, 0, 0, 0, 0, 0, 0, 0, 0, 0, 0, 0, 0, 0, 2] : List UInt8) :: Suite p13 [tSum [97], tSum [98]] :: OwnB v78 ([83, 72, 0, 0, 0, 0, 0, 0, 0, 0, 0, 0, 0, 0, 0, 0, 0, 0, 0, 0, 0, 0, 0, 0, 0, 0, 0, 0, 0, 0, 0, 1] : List UInt8) :: OwnB v43 ([83, 72, 0, 0, 0, 0, 0, 0, 0, 0, 0, 0, 0, 0, 0, 0, 0, 0, 0, 0, 0, 0, 0, 0, 0, 0, 0, 0, 0, 0, 0, 1] : List UInt8) :: R) := S114.as 1 rfl (congrArg (fun zz => Suite p13 zz) q117)
  refine EL_val v43 w111 rfl (r_assign rfl) ?_
  refine EL_val v78 w111 rfl (r_assign rfl) ?_
  refine EL_val v113 w111 rfl (r_assign rfl) ?_
  refine EL_nil ?_
  refine thn_n ?_
  refine EC_seq ?_
  refine EC_reg ?_
  refine EL_val v43 w111 rfl (r_move rfl) ?_
  refine EL_val (.int .i64 32) w111 rfl (r_asn (show ((([83, 72, 0, 0, 0, 0, 0, 0, 0, 0, 0, 0, 0, 0, 0, 0, 0, 0, 0, 0, 0, 0, 0, 0, 0, 0, 0, 0, 0, 0, 0, 1] : List UInt8).length : Nat) : Int) = 32 from rfl) (lenB (r_len rfl (own_row (S116.own 3 rfl)) Try.underlying22))) ?_
  refine EL_val (.bool true) w111 rfl (r_dec (by decide) (r_eql rfl rfl)) ?_
  refine EL_val (.bool true) w111 rfl (r_move rfl) ?_
  refine EL_gval 24 rfl rfl rfl rfl v43 w111 rfl (r_move rfl) ?_
  refine EL_gval 24 rfl rfl rfl rfl (.pointer (some (at_ v43 ((0 : Int).toNat)))) w111 rfl (r_index rfl (own_row (S116.own 3 rfl)) rfl (by omega) (by first | omega | (simp; omega) | simp) Try.underlying22 (by kernel_rfl)) ?_
  refine EL_gval 24 rfl rfl rfl rfl (.int .u8 83) w111 rfl (r_load (u := .int .u8 83) rfl ((own_row (S116.own 3 rfl)).cell (bs_get (l := ([83, 72, 0, 0, 0, 0, 0, 0, 0, 0, 0, 0, 0, 0, 0, 0, 0, 0, 0, 0, 0, 0, 0, 0, 0, 0, 0, 0, 0, 0, 0, 1] : List UInt8)) (j := 0) (b := 83) rfl)) Try.underlying5 rfl) ?_
  refine EL_gval 24 rfl rfl rfl rfl (.bool true) w111 rfl (r_dec (by decide) (r_eql rfl rfl)) ?_
  refine EL_val (.bool true) w111 rfl (r_pickT rfl rfl) ?_
  refine EL_val (.bool true) w111 rfl (r_move rfl) ?_
  refine EL_gval 30 rfl rfl rfl rfl v43 w111 rfl (r_move rfl) ?_
  refine EL_gval 30 rfl rfl rfl rfl (.pointer (some (at_ v43 ((1 : Int).toNat)))) w111 rfl (r_index rfl (own_row (S116.own 3 rfl)) rfl (by omega) (by first | omega | (simp; omega) | simp) Try.underlying22 (by kernel_rfl)) ?_
  refine EL_gval 30 rfl rfl rfl rfl (.int .u8 72) w111 rfl (r_load (u := .int .u8 72) rfl ((own_row (S116.own 3 rfl)).cell (bs_get (l := ([83, 72, 0, 0, 0, 0, 0, 0, 0, 0, 0, 0, 0, 0, 0, 0, 0, 0, 0, 0, 0, 0, 0, 0, 0, 0, 0, 0, 0, 0, 0, 1] : List UInt8)) (j := 1) (b := 72) rfl)) Try.underlying5 rfl) ?_
  refine EL_gval 30 rfl rfl rfl rfl (.bool true) w111 rfl (r_dec (by decide) (r_eql rfl rfl)) ?_
  refine EL_val (.bool true) w111 rfl (r_pickT rfl rfl) ?_
  refine EL_val (.bool true) w111 rfl (r_move rfl) ?_
  refine EL_gval 36 rfl rfl rfl rfl v43 w111 rfl (r_move rfl) ?_
  refine EL_gval 36 rfl rfl rfl rfl (.pointer (some (at_ v43 ((31 : Int).toNat)))) w111 rfl (r_index rfl (own_row (S116.own 3 rfl)) rfl (by omega) (by first | omega | (simp; omega) | simp) Try.underlying22 (by kernel_rfl)) ?_
  refine EL_gval 36 rfl rfl rfl rfl (.int .u8 1) w111 rfl (r_load (u := .int .u8 1) rfl ((own_row (S116.own 3 rfl)).cell (bs_get (l := ([83, 72, 0, 0, 0, 0, 0, 0, 0, 0, 0, 0, 0, 0, 0, 0, 0, 0, 0, 0, 0, 0, 0, 0, 0, 0, 0, 0, 0, 0, 0, 1] : List UInt8)) (j := 31) (b := 1) rfl)) Try.underlying5 rfl) ?_
  refine EL_gval 36 rfl rfl rfl rfl (.bool true) w111 rfl (r_dec (by decide) (r_eql rfl rfl)) ?_
  refine EL_val (.bool true) w111 rfl (r_pickT rfl rfl) ?_
  refine EL_val (.bool true) w111 rfl (r_move rfl) ?_
  refine EL_gval 42 rfl rfl rfl rfl v43 w111 rfl (r_move rfl) ?_
  refine EL_gval 42 rfl rfl rfl rfl (.string (str ([83, 72, 0, 0, 0, 0, 0, 0, 0, 0, 0, 0, 0, 0, 0, 0, 0, 0, 0, 0, 0, 0, 0, 0, 0, 0, 0, 0, 0, 0, 0, 1] : List UInt8))) w111 rfl (r_str rfl (own_row (S116.own 3 rfl)) Try.underlying22 Try.underlying5 Try.underlying9) ?_
  refine EL_gval 42 rfl rfl rfl rfl v78 w111 rfl (r_move rfl) ?_
  refine EL_gval 42 rfl rfl rfl rfl (.string (str ([83, 72, 0, 0, 0, 0, 0, 0, 0, 0, 0, 0, 0, 0, 0, 0, 0, 0, 0, 0, 0, 0, 0, 0, 0, 0, 0, 0, 0, 0, 0, 1] : List UInt8))) w111 rfl (r_str rfl (own_row (S116.own 2 rfl)) Try.underlying22 Try.underlying5 Try.underlying9) ?_
  refine EL_gval 42 rfl rfl rfl rfl (.bool true) w111 rfl (r_dec (show decide (([83, 72, 0, 0, 0, 0, 0, 0, 0, 0, 0, 0, 0, 0, 0, 0, 0, 0, 0, 0, 0, 0, 0, 0, 0, 0, 0, 0, 0, 0, 0, 1] : List UInt8) = ([83, 72, 0, 0, 0, 0, 0, 0, 0, 0, 0, 0, 0, 0, 0, 0, 0, 0, 0, 0, 0, 0, 0, 0, 0, 0, 0, 0, 0, 0, 0, 1] : List UInt8)) = true from by simp) (r_eqls rfl rfl)) ?_
  refine EL_val (.bool true) w111 rfl (r_pickT rfl rfl) ?_
  refine EL_val (.bool true) w111 rfl (r_move rfl) ?_
  refine EL_gval 49 rfl rfl rfl rfl v113 w111 rfl (r_move rfl) ?_
  refine EL_gval 49 rfl rfl rfl rfl (.pointer (some (at_ v113 ((31 : Int).toNat)))) w111 rfl (r_index rfl (own_row (S116.own 0 rfl)) rfl (by omega) (by first | omega | (simp; omega) | simp) Try.underlying22 (by kernel_rfl)) ?_
  refine EL_gval 49 rfl rfl rfl rfl (.int .u8 2) w111 rfl (r_load (u := .int .u8 2) rfl ((own_row (S116.own 0 rfl)).cell (bs_get (l := ([83, 72, 0, 0, 0, 0, 0, 0, 0, 0, 0, 0, 0, 0, 0, 0, 0, 0, 0, 0, 0, 0, 0, 0, 0, 0, 0, 0, 0, 0, 0, 2] : List UInt8)) (j := 31) (b := 2) rfl)) Try.underlying5 rfl) ?_
  refine EL_gval 49 rfl rfl rfl rfl (.bool true) w111 rfl (r_dec (by decide) (r_eql rfl rfl)) ?_
  refine EL_val (.bool true) w111 rfl (r_pickT rfl rfl) ?_
  refine EL_val (.bool true) w111 rfl (r_move rfl) ?_
  refine EL_gval 55 rfl rfl rfl rfl p13 w111 rfl (r_move rfl) ?_
  have S118 : Sat w111 I106 (Suite p13 [tSum [97], tSum [98]] :: OwnB v113 ([83, 72, 0, 0, 0, 0, 0, 0, 0, 0, 0, 0, 0, 0, 0, 0, 0, 0, 0, 0, 0, 0, 0, 0, 0, 0, 0, 0, 0, 0, 0, 2] : List UInt8) :: OwnB v78 ([83, 72, 0, 0, 0, 0, 0, 0, 0, 0, 0, 0, 0, 0, 0, 0, 0, 0, 0, 0, 0, 0, 0, 0, 0, 0, 0, 0, 0, 0, 0, 1] : List UInt8) :: OwnB v43 ([83, 72, 0, 0, 0, 0, 0, 0, 0, 0, 0, 0, 0, 0, 0, 0, 0, 0, 0, 0, 0, 0, 0, 0, 0, 0, 0, 0, 0, 0, 0, 1] : List UInt8) :: R) := S116.cons_front (i := 1) rfl
  refine EL_gret 55 rfl rfl rfl rfl _ rfl Try.func17 rfl nm17 rfl (Count_c p13 [tSum [97], tSum [98]] _ _ _ S118 (by decide)) ?_
  rintro _ w120 ⟨rfl, B119⟩
  have S121 : Sat w120 I106 (Suite p13 [tSum [97], tSum [98]] :: OwnB v113 ([83, 72, 0, 0, 0, 0, 0, 0, 0, 0, 0, 0, 0, 0, 0, 0, 0, 0, 0, 0, 0, 0, 0, 0, 0, 0, 0, 0, 0, 0, 0, 2] : List UInt8) :: OwnB v78 ([83, 72, 0, 0, 0, 0, 0, 0, 0, 0, 0, 0, 0, 0, 0, 0, 0, 0, 0, 0, 0, 0, 0, 0, 0, 0, 0, 0, 0, 0, 0, 1] : List UInt8) :: OwnB v43 ([83, 72, 0, 0, 0, 0, 0, 0, 0, 0, 0, 0, 0, 0, 0, 0, 0, 0, 0, 0, 0, 0, 0, 0, 0, 0, 0, 0, 0, 0, 0, 1] : List UInt8) :: R) := S118.below B119
  refine EL_gval 55 rfl rfl rfl rfl (.bool true) w120 rfl (r_dec (show (decide (([tSum [97], tSum [98]].length : Int) = 2)) = true from (by decide)) (r_eql rfl rfl)) ?_
  refine EL_val (.bool true) w120 rfl (r_pickT rfl rfl) ?_
  refine EL_val (.bool true) w120 rfl (r_assign rfl) ?_
  refine EL_nil ?_
  refine thn_n ?_
  refine EC_ret ?_
  refine fin1 Try.results10 (show _ = .bool true from rfl) ⟨_, rfl, ?_⟩
  have S122 : Sat w120 I106 (OwnB v113 ([83, 72, 0, 0, 0, 0, 0, 0, 0, 0, 0, 0, 0, 0, 0, 0, 0, 0, 0, 0, 0, 0, 0, 0, 0, 0, 0, 0, 0, 0, 0, 2] : List UInt8) :: OwnB v78 ([83, 72, 0, 0, 0, 0, 0, 0, 0, 0, 0, 0, 0, 0, 0, 0, 0, 0, 0, 0, 0, 0, 0, 0, 0, 0, 0, 0, 0, 0, 0, 1] : List UInt8) :: OwnB v43 ([83, 72, 0, 0, 0, 0, 0, 0, 0, 0, 0, 0, 0, 0, 0, 0, 0, 0, 0, 0, 0, 0, 0, 0, 0, 0, 0, 0, 0, 0, 0, 1] : List UInt8) :: R) := S121.drop 0 rfl
  have S123 : Sat w120 I106 (OwnB v78 ([83, 72, 0, 0, 0, 0, 0, 0, 0, 0, 0, 0, 0, 0, 0, 0, 0, 0, 0, 0, 0, 0, 0, 0, 0, 0, 0, 0, 0, 0, 0, 1] : List UInt8) :: OwnB v43 ([83, 72, 0, 0, 0, 0, 0, 0, 0, 0, 0, 0, 0, 0, 0, 0, 0, 0, 0, 0, 0, 0, 0, 0, 0, 0, 0, 0, 0, 0, 0, 1] : List UInt8) :: R) := S122.drop 0 rfl
  have S124 : Sat w120 I106 (OwnB v43 ([83, 72, 0, 0, 0, 0, 0, 0, 0, 0, 0, 0, 0, 0, 0, 0, 0, 0, 0, 0, 0, 0, 0, 0, 0, 0, 0, 0, 0, 0, 0, 1] : List UInt8) :: R) := S123.drop 0 rfl
  have S125 : Sat w120 I106 (R) := S124.drop 0 rfl
  exact ⟨I106, (Gh.le_trans (Gh.le_trans (Gh.le_trans (Gh.le_trans (Gh.le_trans le26 le38) le60) le72) le95) le107), rfl, S125⟩

theorem SealKOk_c (p : Value) (L : List Thing) (v0 : Value) (k : List UInt8) (v1 : Value) (n : List UInt8) (v2 : Value) (o : List UInt8) (v3 : Value) (x : List UInt8) (I : Gh) (R : List HP) (w : World) (S : Sat w I (Suite p L :: OwnB v0 k :: R)) (Q0 : RoB I v1 n) (Q1 : RoB I v2 o) (Q2 : RoB I v3 x) (hl : L.length ≤ 1000000) (hk : k.length ≤ 1000000000) (hn : n.length ≤ 1000000000) (ho : o.length ≤ 1000000000) (hx : x.length ≤ 800000000) (hz : szOk k n = true) : Ret Try.prog 16 [p, v0, v1, v2, v3] w fun v w' => ∃ v4 : Value, .tuple #[v4, .int .i64 0] = v ∧ Sat w' I (OwnB v4 (boxOf ((L.length : Int) + 1) x.length) :: Suite p (L ++ [tBox k n o x]) :: OwnB v0 k :: R) :=
  (SealK_c p L v0 k v1 n v2 o v3 x I R w S Q0 Q1 Q2 hl hk hn ho hx).mono fun v w' h => by
    obtain ⟨v4, e, S⟩ := h
    rw [show sealB L k n x = boxOf ((L.length : Int) + 1) x.length from by simp [sealB, hz], show sealL L k n o x = L ++ [tBox k n o x] from by simp [sealL, hz]] at S
    exact ⟨v4, by rw [← e]; simp [sealE, hz], S⟩

theorem SealOk_c (p : Value) (L : List Thing) (v0 : Value) (k : List UInt8) (v1 : Value) (n : List UInt8) (v2 : Value) (o : List UInt8) (v3 : Value) (x : List UInt8) (I : Gh) (R : List HP) (w : World) (S : Sat w I (Suite p L :: R)) (Q0 : RoB I v0 k) (Q1 : RoB I v1 n) (Q2 : RoB I v2 o) (Q3 : RoB I v3 x) (hl : L.length ≤ 1000000) (hk : k.length ≤ 1000000000) (hn : n.length ≤ 1000000000) (ho : o.length ≤ 1000000000) (hx : x.length ≤ 800000000) (hz : szOk k n = true) : Ret Try.prog 16 [p, v0, v1, v2, v3] w fun v w' => ∃ v4 : Value, .tuple #[v4, .int .i64 0] = v ∧ Sat w' I (OwnB v4 (boxOf ((L.length : Int) + 1) x.length) :: Suite p (L ++ [tBox k n o x]) :: R) :=
  (Seal_c p L v0 k v1 n v2 o v3 x I R w S Q0 Q1 Q2 Q3 hl hk hn ho hx).mono fun v w' h => by
    obtain ⟨v4, e, S⟩ := h
    rw [show sealB L k n x = boxOf ((L.length : Int) + 1) x.length from by simp [sealB, hz], show sealL L k n o x = L ++ [tBox k n o x] from by simp [sealL, hz]] at S
    exact ⟨v4, by rw [← e]; simp [sealE, hz], S⟩

theorem OpenOk_c (p : Value) (L : List Thing) (v0 : Value) (k : List UInt8) (v1 : Value) (n : List UInt8) (v2 : Value) (o : List UInt8) (v3 : Value) (x : List UInt8) (y : List UInt8) (I : Gh) (R : List HP) (w : World) (S : Sat w I (Suite p L :: R)) (Q0 : RoB I v0 k) (Q1 : RoB I v1 n) (Q2 : RoB I v2 o) (Q3 : RoB I v3 x) (hl : L.length ≤ 1000000) (hk : k.length ≤ 1000000000) (hn : n.length ≤ 1000000000) (ho : o.length ≤ 1000000000) (hx : x.length ≤ 800000000) (hT : ∀ t ∈ L, t.text.length ≤ 800000000) (hz : szOk k n = true) (hy : openOf L k n o x = some y) : Ret Try.prog 18 [p, v0, v1, v2, v3] w fun v w' => ∃ v4 : Value, ∃ J : Gh, Gh.le I J ∧ .tuple #[v4, .int .i64 0] = v ∧ RoB J v4 y ∧ Sat w' J (Suite p L :: R) :=
  (Open_c p L v0 k v1 n v2 o v3 x I R w S Q0 Q1 Q2 Q3 hl hk hn ho hx hT).mono fun v w' h => by
    obtain ⟨v4, J, le, e, H, S⟩ := h
    rw [show openB L k n o x = y from by simp [openB, hz, hy]] at H
    exact ⟨v4, J, le, by rw [← e]; simp [openE, hz, hy], H, S⟩

theorem OpenNo_c (p : Value) (L : List Thing) (v0 : Value) (k : List UInt8) (v1 : Value) (n : List UInt8) (v2 : Value) (o : List UInt8) (v3 : Value) (x : List UInt8) (I : Gh) (R : List HP) (w : World) (S : Sat w I (Suite p L :: R)) (Q0 : RoB I v0 k) (Q1 : RoB I v1 n) (Q2 : RoB I v2 o) (Q3 : RoB I v3 x) (hl : L.length ≤ 1000000) (hk : k.length ≤ 1000000000) (hn : n.length ≤ 1000000000) (ho : o.length ≤ 1000000000) (hx : x.length ≤ 800000000) (hT : ∀ t ∈ L, t.text.length ≤ 800000000) (hz : szOk k n = true) (hy : openOf L k n o x = none) : Ret Try.prog 18 [p, v0, v1, v2, v3] w fun v w' => ∃ v4 : Value, ∃ J : Gh, Gh.le I J ∧ .tuple #[v4, .int .i64 20] = v ∧ RoB J v4 [] ∧ Sat w' J (Suite p L :: R) :=
  (Open_c p L v0 k v1 n v2 o v3 x I R w S Q0 Q1 Q2 Q3 hl hk hn ho hx hT).mono fun v w' h => by
    obtain ⟨v4, J, le, e, H, S⟩ := h
    rw [show openB L k n o x = [] from by simp [openB, hz, hy]] at H
    exact ⟨v4, J, le, by rw [← e]; simp [openE, hz, hy], H, S⟩

end Go.Proofs.Ytamjafnjohiccaa
