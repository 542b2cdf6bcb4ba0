import Derived.Test.YtoajodjcmeijgaaGreatQSealedPlaysSuiC
import Derived.Test.YtoajodjcmeijgaaGreatQSealedPlaysSea
set_option linter.unusedVariables false
set_option linter.unusedSimpArgs false
namespace Go.Proofs.YtoajodjcmeijgaaGreat
open Go.RowKit Go.Ecal

set_option maxRecDepth 100000 in
set_option maxHeartbeats 4000000 in
theorem RSeal_c (p : Value) (L : List Thing) (v0 : Value) (s : List UInt8) (v1 : Value) (k : List UInt8) (cr : List Value) (r : Record) (ce : List Value) (e : Entry) (I : Gh) (R : List HP) (w : World) (S : Sat w I (Suite p L :: R)) (Q0 : RoB I v0 s) (Q1 : RoB I v1 k) (hr : recR.r I cr r) (he : entR.r I ce e) (hl : L.length ≤ 800000) (hs : s.length ≤ 100000) : Ret Tryz.prog 10 [p, v0, v1, .agg cr.toArray, .agg ce.toArray] w fun v w' => ∃ cq : List Value, ∃ J : Gh, Gh.le I J ∧ .tuple #[.agg cq.toArray, .int .i64 (sealRE k r e)] = v ∧ recR.r J cq (sealRR L s k r e) ∧ Sat w' J (Suite p (sealRL L s k r e) :: R) := by
  have lq0 := RoB.le Q0 S.le
  have lq1 := RoB.le Q1 S.le
  obtain ⟨v15, rfl, r11, r12, r13, r14, ⟨o16, H17⟩⟩ := hr
  obtain ⟨v21, v24, v30, rfl, r18, r19, r20, ⟨o22, H23⟩, ⟨o25, H26⟩, r27, r28, r29, ⟨o31, H32⟩⟩ := he
  refine ret_E Tryz.func10 rfl Tryz.ntmps10 (by simp) ?_
  refine EC_seq (EC_reg ?_)
  refine EL_box (recRC r v15) rfl rfl rfl ?_
  intro b33 w34 k35 A36 B37 z38
  have S39 := S.newB B37 A36 k35
  refine EL_box (entRC e v21 v24 v30) rfl rfl rfl ?_
  intro b40 w41 k42 A43 B44 z45
  have S46 := S39.newB B44 A43 k42
  refine EL_alloc (z := .agg #[.int .i64 0, .int .i64 0, .int .i64 0, .int .i64 0, .slice none 0 0]) recR0 rfl (by kernel_rfl) rfl ?_
  intro b47 w48 k49 A50 B51 z52
  have S53 := S46.newB B51 A50 k49
  refine vA (.int .i64 0) rfl rfl (EL_nil (thn_n (EC_seq (EC_reg (vl (.agg ((entRC e v21 v24 v30)).toArray) rfl (r_loadAll rfl (S53.arr 1 rfl) U38 rfl (by kernel_rfl)) ?_)))))
  refine eR rfl F29 rfl (Encode_c (entRC e v21 v24 v30) e I _ _ S53 ⟨v21, v24, v30, rfl, (by first | assumption | (dsimp only; omega)), (by first | assumption | (dsimp only; omega)), (by first | assumption | (dsimp only; omega)), ⟨o22, H23⟩, ⟨o25, H26⟩, (by first | assumption | (dsimp only; omega)), (by first | assumption | (dsimp only; omega)), (by first | assumption | (dsimp only; omega)), ⟨o31, H32⟩⟩) ?_
  rintro _ w54 ⟨v56, I57, le58, rfl, S55⟩
  refine vM (.tuple #[v56, .int .i64 e.encE]) rfl rfl (vX v56 rfl rfl rfl (vX (.int .i64 e.encE) rfl rfl rfl (vA v56 rfl rfl (vA (.int .i64 e.encE) rfl rfl (EL_nil ?_)))))
  refine thn_n (EC_seq (EC_block (EC_seq ?_)))
  rcases first4 (e.right = true) (e.writer = r.writer) (k.length = 32) (r.nums = true) with hc | hc | hc | hc | hc
  have hr0 : e.right = false := by simpa using hc
  have hE : sealRE k r e = 10 := by rw [sealRE, if_pos (by rw [encE_wrong hr0]; decide), encE_wrong hr0]
  refine EC_reg (vM (.int .i64 e.encE) rfl rfl (vl (.bool true) rfl (r_dec (show (decide (e.encE ≠ 0)) = true from by rw [encE_wrong hr0]; rfl) (r_neq rfl rfl)) (vA (.bool true) rfl rfl (EL_nil (thn_n ?_)))))
  refine EC_cond_true rfl ?_
  refine EC_seq (EC_reg (vl (.agg (recR0).toArray) rfl (r_buildS (l := []) st_35 rfl (Eq.trans (show Instr.fill _ _ [] = _ from fill_end) (by kernel_rfl))) (vM (.int .i64 e.encE) rfl rfl ?_)))
  refine sA recR0 rfl rfl (S55.arr 1 rfl) rfl (by kernel_rfl) (by simp [Value.oneCell']) ?_
  intro w59 A60 K61 z62
  have S63 := S55.wr1 (ds := recR0) K61 A60
  refine vA (.int .i64 e.encE) rfl rfl (EL_nil (thn_n (EC_ret (inB_r (thn_r ?_)))))
  refine fin2c Tryz.results10 (show _ = ptr b47 from rfl) (show _ = .int .i64 e.encE from rfl) (S63.arr 1 rfl) U35 rfl (by kernel_rfl) ⟨_, rfl, ?_⟩
  rw [show sealRL L s k r e = L from if_neg (by rw [hE]; decide)]
  have q64 : (sealRR L s k r e) = (⟨0, 0, 0, 0, []⟩ : Record) := by rw [sealRR, if_neg (by rw [hE]; decide)]; rfl
  have S65 := S63.dr0
  have S66 := S65.dr0
  have S67 := S66.dr0
  have S68 := S67.dr0
  exact ⟨recR0, I57, le58, (by rw [hE, encE_wrong hr0]), (by rw [q64]; exact (recRz _)), S68⟩
  have hE : sealRE k r e = 40 := by rw [sealRE, if_neg (by rw [encE_right hc.1]; decide), if_pos hc.2]
  refine EC_reg (vM (.int .i64 e.encE) rfl rfl (vl (.bool false) rfl (r_dec (show (decide (e.encE ≠ 0)) = false from by rw [encE_right hc.1]; rfl) (r_neq rfl rfl)) (vA (.bool false) rfl rfl (EL_nil (thn_n ?_)))))
  refine EC_cond_false rfl ?_
  refine EC_seq (EC_reg (vl (ptr b40 1) rfl (fP 0 rfl U38 (by kernel_rfl)) (vL (.int .i64 e.writer) rfl rfl (S55.arr 2 rfl) rfl U3 rfl (vl (ptr b33 2) rfl (fP 0 rfl U35 (by kernel_rfl)) (vL (.int .i64 r.writer) rfl rfl (S55.arr 3 rfl) rfl U3 rfl ?_)))))
  refine vl (.bool true) rfl (r_dec (show (decide (e.writer ≠ r.writer)) = true from by simpa using hc.2) (r_neq rfl rfl)) (vA (.bool true) rfl rfl (EL_nil (thn_n ?_)))
  refine EC_cond_true rfl ?_
  refine EC_seq (EC_reg (vl (.agg (recR0).toArray) rfl (r_buildS (l := []) st_35 rfl (Eq.trans (show Instr.fill _ _ [] = _ from fill_end) (by kernel_rfl))) ?_))
  refine sA recR0 rfl rfl (S55.arr 1 rfl) rfl (by kernel_rfl) (by simp [Value.oneCell']) ?_
  intro w69 A70 K71 z72
  have S73 := S55.wr1 (ds := recR0) K71 A70
  refine vA (.int .i64 40) rfl rfl (EL_nil (thn_n (EC_ret (inB_r (thn_r ?_)))))
  refine fin2c Tryz.results10 (show _ = ptr b47 from rfl) (show _ = .int .i64 40 from rfl) (S73.arr 1 rfl) U35 rfl (by kernel_rfl) ⟨_, rfl, ?_⟩
  rw [show sealRL L s k r e = L from if_neg (by rw [hE]; decide)]
  have q74 : (sealRR L s k r e) = (⟨0, 0, 0, 0, []⟩ : Record) := by rw [sealRR, if_neg (by rw [hE]; decide)]; rfl
  have S75 := S73.dr0
  have S76 := S75.dr0
  have S77 := S76.dr0
  have S78 := S77.dr0
  exact ⟨recR0, I57, le58, (by rw [hE]), (by rw [q74]; exact (recRz _)), S78⟩
  have hE : sealRE k r e = 21 := by rw [sealRE, if_neg (by rw [encE_right hc.1]; decide), if_neg (fun h => h hc.2.1), if_pos hc.2.2]
  refine EC_reg (vM (.int .i64 e.encE) rfl rfl (vl (.bool false) rfl (r_dec (show (decide (e.encE ≠ 0)) = false from by rw [encE_right hc.1]; rfl) (r_neq rfl rfl)) (vA (.bool false) rfl rfl (EL_nil (thn_n ?_)))))
  refine EC_cond_false rfl ?_
  refine EC_seq (EC_reg (vl (ptr b40 1) rfl (fP 0 rfl U38 (by kernel_rfl)) (vL (.int .i64 e.writer) rfl rfl (S55.arr 2 rfl) rfl U3 rfl (vl (ptr b33 2) rfl (fP 0 rfl U35 (by kernel_rfl)) (vL (.int .i64 r.writer) rfl rfl (S55.arr 3 rfl) rfl U3 rfl ?_)))))
  refine vl (.bool false) rfl (r_dec (show (decide (e.writer ≠ r.writer)) = false from by simp [hc.2.1]) (r_neq rfl rfl)) (vA (.bool false) rfl rfl (EL_nil (thn_n ?_)))
  refine EC_cond_false rfl ?_
  refine EC_seq (EC_reg (vM v1 rfl rfl (vl (.int .i64 (k.length : Int)) rfl (lenB (r_len rfl (Q1 _ (lT le58 S55.le)) U22)) (vl (.bool true) rfl (r_dec (show (decide ((k.length : Int) ≠ 32)) = true from by have := hc.2.2; simp; omega) (r_neq rfl rfl)) (vA (.bool true) rfl rfl ?_)))))
  refine EL_nil (thn_n ?_)
  refine EC_cond_true rfl ?_
  refine EC_seq (EC_reg (vl (.agg (recR0).toArray) rfl (r_buildS (l := []) st_35 rfl (Eq.trans (show Instr.fill _ _ [] = _ from fill_end) (by kernel_rfl))) ?_))
  refine sA recR0 rfl rfl (S55.arr 1 rfl) rfl (by kernel_rfl) (by simp [Value.oneCell']) ?_
  intro w79 A80 K81 z82
  have S83 := S55.wr1 (ds := recR0) K81 A80
  refine vA (.int .i64 21) rfl rfl (EL_nil (thn_n (EC_ret (inB_r (thn_r ?_)))))
  refine fin2c Tryz.results10 (show _ = ptr b47 from rfl) (show _ = .int .i64 21 from rfl) (S83.arr 1 rfl) U35 rfl (by kernel_rfl) ⟨_, rfl, ?_⟩
  rw [show sealRL L s k r e = L from if_neg (by rw [hE]; decide)]
  have q84 : (sealRR L s k r e) = (⟨0, 0, 0, 0, []⟩ : Record) := by rw [sealRR, if_neg (by rw [hE]; decide)]; rfl
  have S85 := S83.dr0
  have S86 := S85.dr0
  have S87 := S86.dr0
  have S88 := S87.dr0
  exact ⟨recR0, I57, le58, (by rw [hE]), (by rw [q84]; exact (recRz _)), S88⟩
  have hn0 : r.nums = false := by simpa using hc.2.2.2
  have hE : sealRE k r e = 12 := by rw [sealRE, if_neg (by rw [encE_right hc.1]; decide), if_neg (fun h => h hc.2.1), if_neg (fun h => h hc.2.2.1), if_pos hn0]
  refine EC_reg (vM (.int .i64 e.encE) rfl rfl (vl (.bool false) rfl (r_dec (show (decide (e.encE ≠ 0)) = false from by rw [encE_right hc.1]; rfl) (r_neq rfl rfl)) (vA (.bool false) rfl rfl (EL_nil (thn_n ?_)))))
  refine EC_cond_false rfl ?_
  refine EC_seq (EC_reg (vl (ptr b40 1) rfl (fP 0 rfl U38 (by kernel_rfl)) (vL (.int .i64 e.writer) rfl rfl (S55.arr 2 rfl) rfl U3 rfl (vl (ptr b33 2) rfl (fP 0 rfl U35 (by kernel_rfl)) (vL (.int .i64 r.writer) rfl rfl (S55.arr 3 rfl) rfl U3 rfl ?_)))))
  refine vl (.bool false) rfl (r_dec (show (decide (e.writer ≠ r.writer)) = false from by simp [hc.2.1]) (r_neq rfl rfl)) (vA (.bool false) rfl rfl (EL_nil (thn_n ?_)))
  refine EC_cond_false rfl ?_
  refine EC_seq (EC_reg (vM v1 rfl rfl (vl (.int .i64 (k.length : Int)) rfl (lenB (r_len rfl (Q1 _ (lT le58 S55.le)) U22)) (vl (.bool false) rfl (r_dec (show (decide ((k.length : Int) ≠ 32)) = false from by have := hc.2.2.1; simp; omega) (r_neq rfl rfl)) (vA (.bool false) rfl rfl ?_)))))
  refine EL_nil (thn_n ?_)
  refine EC_cond_false rfl ?_
  refine EC_seq (EC_reg (vl (.agg ((recRC r v15)).toArray) rfl (r_loadAll rfl (S55.arr 3 rfl) U35 rfl (by kernel_rfl)) ?_))
  refine eR rfl F30 rfl (nums_c (recRC r v15) r I57 _ _ S55 ⟨v15, rfl, (by first | assumption | (dsimp only; omega)), (by first | assumption | (dsimp only; omega)), (by first | assumption | (dsimp only; omega)), (by first | assumption | (dsimp only; omega)), ⟨o16, (H17.up le58)⟩⟩) ?_
  rintro _ w89 ⟨rfl, S90⟩
  refine vl (.bool true) rfl (r_dec (show (!false) = true from rfl) (r_not (Eq.trans (show _ = Value.bool (r.nums) from rfl) (congrArg Value.bool (show (r.nums) = false from hn0))))) (vA (.bool true) rfl rfl (EL_nil (thn_n ?_)))
  refine EC_cond_true rfl ?_
  refine EC_seq (EC_reg (vl (.agg (recR0).toArray) rfl (r_buildS (l := []) st_35 rfl (Eq.trans (show Instr.fill _ _ [] = _ from fill_end) (by kernel_rfl))) ?_))
  refine sA recR0 rfl rfl (S90.arr 1 rfl) rfl (by kernel_rfl) (by simp [Value.oneCell']) ?_
  intro w91 A92 K93 z94
  have S95 := S90.wr1 (ds := recR0) K93 A92
  refine vA (.int .i64 12) rfl rfl (EL_nil (thn_n (EC_ret (inB_r (thn_r ?_)))))
  refine fin2c Tryz.results10 (show _ = ptr b47 from rfl) (show _ = .int .i64 12 from rfl) (S95.arr 1 rfl) U35 rfl (by kernel_rfl) ⟨_, rfl, ?_⟩
  rw [show sealRL L s k r e = L from if_neg (by rw [hE]; decide)]
  have q96 : (sealRR L s k r e) = (⟨0, 0, 0, 0, []⟩ : Record) := by rw [sealRR, if_neg (by rw [hE]; decide)]; rfl
  have S97 := S95.dr0
  have S98 := S97.dr0
  have S99 := S98.dr0
  have S100 := S99.dr0
  exact ⟨recR0, I57, le58, (by rw [hE]), (by rw [q96]; exact (recRz _)), S100⟩
  have hE : sealRE k r e = bsizeE ((tryB e).length : Int) := by rw [sealRE, if_neg (by rw [encE_right hc.1]; decide), if_neg (fun h => h hc.2.1), if_neg (fun h => h hc.2.2.1), if_neg (by rw [hc.2.2.2]; decide)]
  have hnu := nums_iff.1 hc.2.2.2
  have htl := putB_le [Any.bytes e.encB, Any.bytes (List.replicate 32 0)]
  refine EC_reg (vM (.int .i64 e.encE) rfl rfl (vl (.bool false) rfl (r_dec (show (decide (e.encE ≠ 0)) = false from by rw [encE_right hc.1]; rfl) (r_neq rfl rfl)) (vA (.bool false) rfl rfl (EL_nil (thn_n ?_)))))
  refine EC_cond_false rfl ?_
  refine EC_seq (EC_reg (vl (ptr b40 1) rfl (fP 0 rfl U38 (by kernel_rfl)) (vL (.int .i64 e.writer) rfl rfl (S55.arr 2 rfl) rfl U3 rfl (vl (ptr b33 2) rfl (fP 0 rfl U35 (by kernel_rfl)) (vL (.int .i64 r.writer) rfl rfl (S55.arr 3 rfl) rfl U3 rfl ?_)))))
  refine vl (.bool false) rfl (r_dec (show (decide (e.writer ≠ r.writer)) = false from by simp [hc.2.1]) (r_neq rfl rfl)) (vA (.bool false) rfl rfl (EL_nil (thn_n ?_)))
  refine EC_cond_false rfl ?_
  refine EC_seq (EC_reg (vM v1 rfl rfl (vl (.int .i64 (k.length : Int)) rfl (lenB (r_len rfl (Q1 _ (lT le58 S55.le)) U22)) (vl (.bool false) rfl (r_dec (show (decide ((k.length : Int) ≠ 32)) = false from by have := hc.2.2.1; simp; omega) (r_neq rfl rfl)) (vA (.bool false) rfl rfl ?_)))))
  refine EL_nil (thn_n ?_)
  refine EC_cond_false rfl ?_
  refine EC_seq (EC_reg (vl (.agg ((recRC r v15)).toArray) rfl (r_loadAll rfl (S55.arr 3 rfl) U35 rfl (by kernel_rfl)) ?_))
  refine eR rfl F30 rfl (nums_c (recRC r v15) r I57 _ _ S55 ⟨v15, rfl, (by first | assumption | (dsimp only; omega)), (by first | assumption | (dsimp only; omega)), (by first | assumption | (dsimp only; omega)), (by first | assumption | (dsimp only; omega)), ⟨o16, (H17.up le58)⟩⟩) ?_
  rintro _ w101 ⟨rfl, S102⟩
  refine vl (.bool false) rfl (r_dec (show (!true) = false from rfl) (r_not (Eq.trans (show _ = Value.bool (r.nums) from rfl) (congrArg Value.bool (show (r.nums) = true from hc.2.2.2))))) (vA (.bool false) rfl rfl (EL_nil (thn_n ?_)))
  refine EC_cond_false rfl ?_
  refine EC_skip (inB_n (thn_n (EC_seq (EC_reg (vM v56 rfl rfl ?_)))))
  refine vl (.iface 22 v56) rfl (r_iface rfl U22 rfl) ?_
  refine EL_make w101.heap.size elB rfl rfl rfl rfl (by omega) (by omega) (by omega) (by omega) (Nat.le_refl _) ?_
  intro v103 w104 O105 B106 k107 z108
  have S109 : Sat w104 I57 (OwnB v103 (List.replicate 32 (0 : UInt8)) :: OwnB v56 e.encB :: Blk b47 35 recR0 :: Blk b40 38 (entRC e v21 v24 v30) :: Blk b33 35 (recRC r v15) :: Suite p L :: R) := S102.newO B106 (own_rep O105)
  refine vl (.iface 22 v103) rfl (r_iface rfl U22 rfl) ?_
  obtain ⟨I110, le111, S112, H113⟩ := S109.fb1
  obtain ⟨I114, le115, S116, H117⟩ := S112.fb0
  refine EL_lit1 (l := [(0, .iface 22 v56), (1, .iface 22 v103)]) w104.heap.size [.iface 22 v56, .iface 22 v103] el_112 rfl (by decide) rfl (Nat.le_refl _) (parts2 rfl rfl) (Eq.trans (show Instr.fill _ _ [(0, .iface 22 v56), (1, .iface 22 v103)] = _ from (fill_one rfl rfl (by kernel_rfl) (fill_one rfl rfl (by kernel_rfl) fill_end))) (by kernel_rfl)) ?_
  intro v118 w119 O120 B121 k122
  have S123 : Sat w119 I114 (OwnX 20 anyR v118 [(Any.bytes e.encB), (Any.bytes (List.replicate 32 (0 : UInt8)))] :: Blk b47 35 recR0 :: Blk b40 38 (entRC e v21 v24 v30) :: Blk b33 35 (recRC r v15) :: Suite p L :: R) := OwnX.cls (xss := [[.iface 22 v56], [.iface 22 v103]]) (.cons ⟨_, rfl, (row_one (H113 _ (lT le115 S116.le))), (H113.up le115)⟩ (.cons ⟨_, rfl, (row_one (H117 _ S116.le)), H117⟩ .nil)) (S116.newO B121 O120)
  have oH127 := (OwnX.one S123 0 rfl (by decide))
  obtain ⟨I124, le125, S126, H127⟩ := S123.fx0 (by decide)
  refine eR rfl F31 rfl (Put_c v118 [(Any.bytes e.encB), (Any.bytes (List.replicate 32 (0 : UInt8)))] I124 _ _ S126 H127 (by simp)) ?_
  rintro _ w128 ⟨v130, rfl, S129⟩
  have q132 : putB [(Any.bytes e.encB), (Any.bytes (List.replicate 32 (0 : UInt8)))] = tryB e := rfl
  have S131 := S129.ab0 q132
  have htl2 : (tryB e).length ≤ 8196 := htl
  refine vM (.tuple #[v130, .int .i64 (putE [(Any.bytes e.encB), (Any.bytes (List.replicate 32 (0 : UInt8)))])]) rfl rfl (vX v130 rfl rfl rfl (vX (.int .i64 (putE [(Any.bytes e.encB), (Any.bytes (List.replicate 32 (0 : UInt8)))])) rfl rfl rfl (vA v130 rfl rfl (vA (.int .i64 (putE [(Any.bytes e.encB), (Any.bytes (List.replicate 32 (0 : UInt8)))])) rfl rfl (EL_nil ?_)))))
  refine thn_n (EC_seq (EC_seq (EC_reg (vM v130 rfl rfl (vl (.int .i64 ((tryB e).length : Int)) rfl (lenB (r_len rfl (own_row (S131.own 0 rfl)) U22)) ?_)))))
  refine eR rfl F32 rfl (Size_c ((tryB e).length : Int) I124 _ _ S131 (by omega)) ?_
  rintro _ w133 ⟨rfl, S134⟩
  refine vM (.tuple #[.int .i64 (bsize ((tryB e).length : Int)), .int .i64 (bsizeE ((tryB e).length : Int))]) rfl rfl (vX (.int .i64 (bsize ((tryB e).length : Int))) rfl rfl rfl (vX (.int .i64 (bsizeE ((tryB e).length : Int))) rfl rfl rfl (vA (.int .i64 (bsizeE ((tryB e).length : Int))) rfl rfl (EL_nil (thn_n ?_)))))
  refine EC_seq ?_
  rcases Decidable.em (bsizeE ((tryB e).length : Int) = 0) with hz0 | hz0
  refine EC_reg (vM (.int .i64 (bsizeE ((tryB e).length : Int))) rfl rfl (vl (.bool false) rfl (r_dec (show (decide ((bsizeE ((tryB e).length : Int)) ≠ 0)) = false from by simp [hz0]) (r_neq rfl rfl)) (EL_nil (thn_n ?_))))
  refine EC_cond_false rfl ?_
  refine EC_skip (thn_n (EC_seq (EC_reg (vM v56 rfl rfl (vl (.iface 22 v56) rfl (r_iface rfl U22 rfl) ?_)))))
  refine vM p rfl rfl (vM v0 rfl rfl (vl (ptr b33 0) rfl (fP 0 rfl U35 (by kernel_rfl)) (vL (.int .i64 r.coll) rfl rfl (S134.arr 3 rfl) rfl U3 rfl (vl (ptr b33 2) rfl (fP 0 rfl U35 (by kernel_rfl)) (vL (.int .i64 r.writer) rfl rfl (S134.arr 3 rfl) rfl U3 rfl ?_)))))
  refine vM v56 rfl rfl ?_
  have S135 := S134.fr4
  refine eR rfl F33 rfl (mark_c p L v0 s r.coll r.writer v56 e.encB I124 _ _ S135 (Q0.up (lT (lT (lT le58 le111) le115) le125)) (H113.up (lT le115 le125)) (by omega) (by first | assumption | omega | (simp; done) | (simp; omega)) (by first | assumption | omega | (simp; done) | (simp; omega))) ?_
  rintro _ w136 ⟨v138, I139, le140, rfl, S137⟩
  refine vl (.iface 22 v138) rfl (r_iface rfl U22 rfl) ?_
  obtain ⟨I141, le142, S143, H144⟩ := S137.fb0
  refine EL_lit1 (l := [(0, .iface 22 v56), (1, .iface 22 v138)]) w136.heap.size [.iface 22 v56, .iface 22 v138] el_112 rfl (by decide) rfl (Nat.le_refl _) (parts2 rfl rfl) (Eq.trans (show Instr.fill _ _ [(0, .iface 22 v56), (1, .iface 22 v138)] = _ from (fill_one rfl rfl (by kernel_rfl) (fill_one rfl rfl (by kernel_rfl) fill_end))) (by kernel_rfl)) ?_
  intro v145 w146 O147 B148 k149
  have S150 : Sat w146 I141 (OwnX 20 anyR v145 [(Any.bytes e.encB), (Any.bytes (markB L s r.coll r.writer e.encB))] :: Suite p (markL L s r.coll r.writer e.encB) :: OwnB v130 (tryB e) :: Blk b47 35 recR0 :: Blk b40 38 (entRC e v21 v24 v30) :: Blk b33 35 (recRC r v15) :: R) := OwnX.cls (xss := [[.iface 22 v56], [.iface 22 v138]]) (.cons ⟨_, rfl, (row_one (H113 _ (lT (lT (lT (lT le115 le125) le140) le142) S143.le))), (H113.up (lT (lT (lT le115 le125) le140) le142))⟩ (.cons ⟨_, rfl, (row_one (H144 _ S143.le)), H144⟩ .nil)) (S143.newO B148 O147)
  have oH154 := (OwnX.one S150 0 rfl (by decide))
  obtain ⟨I151, le152, S153, H154⟩ := S150.fx0 (by decide)
  refine eR rfl F31 rfl (Put_c v145 [(Any.bytes e.encB), (Any.bytes (markB L s r.coll r.writer e.encB))] I151 _ _ S153 H154 (by simp)) ?_
  rintro _ w155 ⟨v157, rfl, S156⟩
  have q159 : putB [(Any.bytes e.encB), (Any.bytes (markB L s r.coll r.writer e.encB))] = plainB L s r e := rfl
  have S158 := S156.ab0 q159
  have hpl := putB_le [Any.bytes e.encB, Any.bytes (markB L s r.coll r.writer e.encB)]
  refine vM (.tuple #[v157, .int .i64 (putE [(Any.bytes e.encB), (Any.bytes (markB L s r.coll r.writer e.encB))])]) rfl rfl (vX v157 rfl rfl rfl (vX (.int .i64 (putE [(Any.bytes e.encB), (Any.bytes (markB L s r.coll r.writer e.encB))])) rfl rfl rfl (vA v157 rfl rfl (EL_nil (thn_n ?_)))))
  refine EC_seq (EC_reg (vM v157 rfl rfl ?_))
  obtain ⟨I160, le161, S162, H163⟩ := S158.fb0
  refine eR rfl F34 rfl (Pad_c v157 (plainB L s r e) I160 _ _ S162 H163) ?_
  rintro _ w164 ⟨v166, rfl, S165⟩
  refine vM (.tuple #[v166, .int .i64 (bsizeE ((plainB L s r e).length : Int))]) rfl rfl (vX v166 rfl rfl rfl (vX (.int .i64 (bsizeE ((plainB L s r e).length : Int))) rfl rfl rfl (vA v166 rfl rfl (vA (.int .i64 (bsizeE ((plainB L s r e).length : Int))) rfl rfl (EL_nil ?_)))))
  refine thn_n (EC_seq (EC_reg (vl (ptr b33 2) rfl (fP 0 rfl U35 (by kernel_rfl)) (vL (.int .i64 r.writer) rfl rfl (S165.arr 5 rfl) rfl U3 rfl (vl (ptr b33 3) rfl (fP 0 rfl U35 (by kernel_rfl)) ?_)))))
  refine vL (.int .i64 r.count) rfl rfl (S165.arr 5 rfl) rfl U3 rfl ?_
  refine eR rfl F35 rfl (Nonce_c r.writer r.count I160 _ _ S165) ?_
  rintro _ w167 ⟨v169, I170, le171, rfl, S168⟩
  refine vM (.tuple #[v169, .int .i64 (nonceE r.writer r.count)]) rfl rfl (vX v169 rfl rfl rfl (vX (.int .i64 (nonceE r.writer r.count)) rfl rfl rfl (vA v169 rfl rfl (vA (.int .i64 (nonceE r.writer r.count)) rfl rfl (EL_nil ?_)))))
  refine thn_n (EC_seq (EC_reg (vM p rfl rfl (vM v1 rfl rfl (vM v169 rfl rfl ?_)))))
  refine vl (.agg ((recRC r v15)).toArray) rfl (r_loadAll rfl (S168.arr 6 rfl) U35 rfl (by kernel_rfl)) ?_
  refine eR rfl F36 rfl (front_c (recRC r v15) r I170 _ _ S168 ⟨v15, rfl, (by first | assumption | (dsimp only; omega)), (by first | assumption | (dsimp only; omega)), (by first | assumption | (dsimp only; omega)), (by first | assumption | (dsimp only; omega)), ⟨o16, (H17.up (lT (lT (lT (lT (lT (lT (lT (lT le58 le111) le115) le125) le140) le142) le152) le161) le171))⟩⟩) ?_
  rintro _ w172 ⟨v174, I175, le176, rfl, S173⟩
  refine vM v166 rfl rfl ?_
  obtain ⟨I177, le178, S179, H180⟩ := S173.fb1
  obtain ⟨I181, le182, S183, H184⟩ := S179.fb0
  obtain ⟨I185, le186, S187, H188⟩ := S183.fb0
  refine eR rfl F19 rfl (SealOk_c p (markL L s r.coll r.writer e.encB) v1 k v169 (nonceB r.writer r.count) v174 r.front v166 (padB (plainB L s r e)) I185 _ _ S187 (Q1.up (lT (lT (lT (lT (lT (lT (lT (lT (lT (lT (lT (lT le58 le111) le115) le125) le140) le142) le152) le161) le171) le176) le178) le182) le186)) (H180.up (lT le182 le186)) (H184.up le186) H188 (Nat.le_trans (markL_len _ _ _ _ _) (by omega)) (by omega) (by rw [nonceB, if_pos (nonceOk_iff.2 (by omega))]; simp [be6]) (by have := putB_le r.numParts; simp [Record.numParts] at this; simp [Record.front, Record.numParts]; omega) (Nat.le_trans (padB_len _) (by decide)) (szOk_iff.2 ⟨hc.2.2.1, by rw [nonceB, if_pos (nonceOk_iff.2 (by omega))]; rfl⟩)) ?_
  rintro _ w189 ⟨v191, rfl, S190⟩
  refine vM (.tuple #[v191, .int .i64 0]) rfl rfl (vX v191 rfl rfl rfl (vX (.int .i64 0) rfl rfl rfl (vl (ptr b33 4) rfl (fP 0 rfl U35 (by kernel_rfl)) ?_)))
  refine EL_storeA (j := 4) (u := v191) rfl rfl (S190.arr 5 rfl) (by first | decide | (simp; omega) | simp) (own_one (S190.own 0 rfl)) (by kernel_rfl) ?_
  intro w192 A193 K194 z195
  have S196 := S190.wr5 (ds := (recRC r v191)) K194 A193
  refine vA (.int .i64 0) rfl rfl (EL_nil (thn_n (EC_seq (EC_reg (vl (.agg ((recRC r v191)).toArray) rfl (r_loadAll rfl (S196.arr 5 rfl) U35 rfl (by kernel_rfl)) ?_)))))
  refine vM (.int .i64 0) rfl rfl ?_
  refine sA (recRC r v191) rfl rfl (S196.arr 3 rfl) rfl (by kernel_rfl) (ones_cons rfl (ones_cons rfl (ones_cons rfl (ones_cons rfl (ones_cons (own_one (S196.own 0 rfl)) (fun _ h => nomatch h)))))) ?_
  intro w197 A198 K199 z200
  have S201 := S196.wr3 (ds := (recRC r v191)) K199 A198
  refine vA (.int .i64 0) rfl rfl (EL_nil (thn_n (EC_ret ?_)))
  refine fin2c Tryz.results10 (show _ = ptr b47 from rfl) (show _ = .int .i64 0 from rfl) (S201.arr 3 rfl) U35 rfl (by kernel_rfl) ⟨_, rfl, ?_⟩
  have hE2 : sealRE k r e = 0 := hE.trans hz0
  have q203 : (markL L s r.coll r.writer e.encB) ++ [tBox k (nonceB r.writer r.count) r.front (padB (plainB L s r e))] = sealRL L s k r e := by rw [sealRL, if_pos hE2]; rfl
  have S202 := Sat.ah1 (Suite p) S201 q203
  obtain ⟨I204, le205, S206, H207⟩ := S202.fb0
  have q208 : (sealRR L s k r e) = (⟨r.coll, r.epoch, r.writer, r.count, boxOf (((markL L s r.coll r.writer e.encB).length : Int) + 1) (padB (plainB L s r e)).length⟩ : Record) := by rw [sealRR, if_pos hE2]
  have S209 := S206.dr1
  have S210 := S209.dr1
  have S211 := S210.dr1
  have S212 := S211.dr1
  exact ⟨(recRC r v191), I204, (lT (lT (lT (lT (lT (lT (lT (lT (lT (lT (lT (lT (lT le58 le111) le115) le125) le140) le142) le152) le161) le171) le176) le178) le182) le186) le205), (by rw [hE2]), (by rw [q208]; exact ⟨v191, rfl, (by first | assumption | (dsimp only; omega)), (by first | assumption | (dsimp only; omega)), (by first | assumption | (dsimp only; omega)), (by first | assumption | (dsimp only; omega)), ⟨(row_one (H207 _ S212.le)), H207⟩⟩), S212⟩
  refine EC_reg (vM (.int .i64 (bsizeE ((tryB e).length : Int))) rfl rfl (vl (.bool true) rfl (r_dec (show (decide ((bsizeE ((tryB e).length : Int)) ≠ 0)) = true from by simp [hz0]) (r_neq rfl rfl)) (EL_nil (thn_n ?_))))
  refine EC_cond_true rfl ?_
  refine EC_seq (EC_reg (vl (.agg (recR0).toArray) rfl (r_buildS (l := []) st_35 rfl (Eq.trans (show Instr.fill _ _ [] = _ from fill_end) (by kernel_rfl))) (vM (.int .i64 (bsizeE ((tryB e).length : Int))) rfl rfl ?_)))
  refine sA recR0 rfl rfl (S134.arr 1 rfl) rfl (by kernel_rfl) (by simp [Value.oneCell']) ?_
  intro w213 A214 K215 z216
  have S217 := S134.wr1 (ds := recR0) K215 A214
  refine vA (.int .i64 (bsizeE ((tryB e).length : Int))) rfl rfl (EL_nil (thn_n (EC_ret (thn_r ?_))))
  refine fin2c Tryz.results10 (show _ = ptr b47 from rfl) (show _ = .int .i64 (bsizeE ((tryB e).length : Int)) from rfl) (S217.arr 1 rfl) U35 rfl (by kernel_rfl) ⟨_, rfl, ?_⟩
  rw [show sealRL L s k r e = L from if_neg (by rw [hE]; exact hz0)]
  have q218 : (sealRR L s k r e) = (⟨0, 0, 0, 0, []⟩ : Record) := by rw [sealRR, if_neg (by rw [hE]; exact hz0)]; rfl
  have S219 := S217.dr0
  have S220 := S219.dr0
  have S221 := S220.dr0
  have S222 := S221.dr0
  exact ⟨recR0, I124, (lT (lT (lT le58 le111) le115) le125), (by rw [hE]), (by rw [q218]; exact (recRz _)), S222⟩

end Go.Proofs.YtoajodjcmeijgaaGreat
