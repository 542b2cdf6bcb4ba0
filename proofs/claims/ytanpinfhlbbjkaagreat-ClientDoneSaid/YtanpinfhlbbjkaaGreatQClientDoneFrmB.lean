import Derived.Test.YtanpinfhlbbjkaaGreatQClientDoneFrmA
set_option linter.unusedVariables false
set_option linter.unusedSimpArgs false
set_option maxRecDepth 100000
set_option maxHeartbeats 4000000
namespace Go.Proofs.YtanpinfhlbbjkaaGreat
open Go.RowKit Go.Ecal

theorem FEnc_c (cf : List Value) (f : FrameT) (I : Gh) (R : List HP) (w : World) (S : Sat w I (R)) (hf : frmR.r I cf f) : Ret Tryz.prog 28 [.agg cf.toArray] w fun v w' => ∃ v1 : Value, ∃ J : Gh, Gh.le I J ∧ .tuple #[v1, .int .i64 f.encE] = v ∧ Sat w' J (OwnB v1 f.encB :: R) := by
  obtain ⟨v0, v2, rfl, r0, r1, r2, ⟨o0, H0⟩, ⟨o1, H1⟩⟩ := hf
  refine ret_E Tryz.func28 rfl Tryz.ntmps28 (by simp) ?_
  refine g2 ?_
  refine yB (cs := frmRC f v0 v2) S ?_
  intro b0 w0 S0
  refine g8 ?_
  refine yR (FRight_c (frmRC f v0 v2) f _ _ _ S0 ⟨v0, v2, rfl, ad, ad, ad, ⟨o0, H0⟩, ⟨o1, H1⟩⟩) ?_
  rintro _ w1 ⟨rfl, S1⟩
  refine g3 ?_
  refine EC_cond (t := !f.right) rfl (fun h0 => ?_) (fun h0 => ?_)
  have hrt : f.right = false := (Bool.not_eq_true' _).mp h0
  refine g8 ?_
  refine f2 Tryz.results28 ?_
  have hE : f.encE = 10 := by rw [FrameT.encE, if_pos hrt]
  rw [show f.encB = [] from if_neg (by rw [hE]; decide)]
  have S2 := S1.nilB
  exact ⟨(.slice none 0 0), I, (Gh.le_refl _), (by rw [hE]), S2.dr1⟩
  have hrt : f.right = true := (Bool.not_eq_false' _).mp h0
  have hrf := right_fr hrt
  refine g6 ?_
  refine vl _ rfl (r_iface rfl U3 rfl) ?_
  refine g2 ?_
  refine vl _ rfl (r_iface rfl U3 rfl) ?_
  refine g2 ?_
  refine vl _ rfl (r_iface rfl U3 rfl) ?_
  refine g2 ?_
  refine vl _ rfl (r_lenX rfl (H0.row S1.le) U33) (vl _ rfl (r_iface rfl U3 rfl) ?_)
  refine EL_lit1 (l := [(0, .iface 3 (.int .i64 f.kind)), (1, .iface 3 (.int .i64 f.coll)), (2, .iface 3 (.int .i64 f.index)), (3, .iface 3 (.int .i64 (f.links.length : Int)))]) w1.heap.size [.iface 3 (.int .i64 f.kind), .iface 3 (.int .i64 f.coll), .iface 3 (.int .i64 f.index), .iface 3 (.int .i64 (f.links.length : Int))] el_146 rfl (by decide) rfl (Nat.le_refl _) (parts4 rfl rfl rfl rfl) (Eq.trans (show Instr.fill _ _ [(0, .iface 3 (.int .i64 f.kind)), (1, .iface 3 (.int .i64 f.coll)), (2, .iface 3 (.int .i64 f.index)), (3, .iface 3 (.int .i64 (f.links.length : Int)))] = _ from (fill_one rfl rfl (by kernel_rfl) (fill_one rfl rfl (by kernel_rfl) (fill_one rfl rfl (by kernel_rfl) (fill_one rfl rfl (by kernel_rfl) fill_end))))) (by kernel_rfl)) ?_
  intro v3 w2 O0 B0 k0
  have S3 : Sat _ _ (OwnX 20 anyR v3 [(Any.int f.kind), (Any.int f.coll), (Any.int f.index), (Any.int (f.links.length : Int))] :: _) := OwnX.cls (xss := [[.iface 3 (.int .i64 f.kind)], [.iface 3 (.int .i64 f.coll)], [.iface 3 (.int .i64 f.index)], [.iface 3 (.int .i64 (f.links.length : Int))]]) (.cons ⟨rfl, (by first | assumption | omega)⟩ (.cons ⟨rfl, (by first | assumption | omega)⟩ (.cons ⟨rfl, (by first | assumption | omega)⟩ (.cons ⟨rfl, (by first | assumption | omega)⟩ .nil)))) (S1.newO B0 O0)
  refine g8 ?_
  refine vl _ rfl (r_lenX rfl (H0.row S3.le) U33) ?_
  refine g4 ?_
  have q0 : [(Any.int f.kind), (Any.int f.coll), (Any.int f.index), (Any.int (f.links.length : Int))] = f.head ++ (f.links.take 0).map Any.bytes := by simp [FrameT.head]
  have S4 := S3.ax0 q0
  refine EC_loop (fun m' E' w' => ∃ j : Nat, ∃ qv : Value, ∃ J : Gh, m' = f.links.length - j ∧ E' 29 = .int .i64 (j : Int) ∧ E' 4 = qv ∧ E' 1 = ptr b0 ∧ E' 2 = .slice none 0 0 ∧ E' 3 = .int .i64 0 ∧ E' 27 = v0 ∧ E' 28 = .int .i64 (f.links.length : Int) ∧ (j ≤ f.links.length) ∧ ((f.head ++ (f.links.take j).map Any.bytes).length ≤ 12) ∧ Gh.le I J ∧ Sat w' J (OwnX 20 anyR qv (f.head ++ (f.links.take j).map Any.bytes) :: Blk b0 68 (frmRC f v0 v2) :: R)) _ ⟨0, v3, I, rfl, rfl, rfl, rfl, rfl, rfl, rfl, rfl, Nat.zero_le _, (by simp [FrameT.head]), (Gh.le_refl _), S4⟩ ?_
  rintro _ E0 w3 ⟨j, qv, I0, rfl, e0, e1, e2, e3, e4, e5, e6, hj, hln, le0, S5⟩
  refine g6 ?_
  refine EC_if rfl (fun h1 => ?_) (fun h1 => ?_)
  refine g6 ?_
  refine vl (ptr (blkOf v0) (offOf v0 + ((j : Int) : Int).toNat * 1)) rfl (r_indexX (by exact e5) (H0.row (lT le0 S5.le)) (by exact e0) (by omega) as' U33 (by kernel_rfl)) ?_
  obtain ⟨a0, ha0⟩ := get_some (l := f.links) (j := ((j : Int) : Int).toNat) as'
  obtain ⟨cs0, hc0, he0⟩ := H0.el ha0
  obtain ⟨v4, rfl, o2, H2⟩ := hc0
  refine vl _ rfl (r_load0 rfl (he0 _ (lT le0 S5.le)) U26 rfl) ?_
  refine g6 ?_
  refine vl _ rfl (r_iface rfl U26 rfl) ?_
  refine EL_lit1 (l := [(0, .iface 26 v4)]) w3.heap.size [.iface 26 v4] el_146 rfl (by decide) rfl (Nat.le_refl _) (parts1 rfl) (Eq.trans (show Instr.fill _ _ [(0, .iface 26 v4)] = _ from (fill_one rfl rfl (by kernel_rfl) fill_end)) (by kernel_rfl)) ?_
  intro v5 w4 O1 B1 k1
  have S6 : Sat _ _ (OwnX 20 anyR v5 [(Any.bytes a0)] :: _) := OwnX.cls (xss := [[.iface 26 v4]]) (.cons ⟨_, rfl, o2, (H2.up le0)⟩ .nil) (S5.newO B1 O1)
  have oH74 := (OwnX.one S6 0 rfl (by decide))
  obtain ⟨I1, le1, S7, H3⟩ := S6.fx0 (by decide)
  refine EL_appX (z := (.nilIface)) (bytes := 16) rfl U146 (by kernel_rfl) rfl (by decide) rfl rfl S7 H3 ac ac ?_
  intro v6 w5 S8
  refine g5 ?_
  refine EL_int ((j : Int) + 1) rfl (r_addi (by exact e0) rfl (by omega)) ?_
  intro x0 hx75
  refine g3 ?_
  have q1 : (f.head ++ (f.links.take j).map Any.bytes) ++ [(Any.bytes a0)] = f.head ++ (f.links.take (j + 1)).map Any.bytes := by rw [List.take_add_one, (show f.links[j]? = _ from ha0)]; simp
  have S9 := S8.ax0 q1
  refine ⟨_, ?_, j + 1, v6, I1, rfl, (Eq.trans (show _ = Value.int .i64 x0 from rfl) (congrArg _ (by omega))), rfl, (by exact e2), (by exact e3), (by exact e4), (by exact e5), (by exact e6), by omega, (by simp [FrameT.head]; omega), (lT le0 le1), S9⟩
  first | omega | (simp; omega)
  refine g6 ?_
  have hlt : (f.head ++ f.links.map Any.bytes).length ≤ 12 := by simp [FrameT.head]; omega
  have q2 : f.head ++ (f.links.take j).map Any.bytes = f.head ++ f.links.map Any.bytes := by rw [List.take_of_length_le (by omega)]
  have S10 := S5.ax0 q2
  skip
  refine g4 ?_
  refine vl _ rfl (r_iface rfl U26 rfl) ?_
  refine EL_lit1 (l := [(0, .iface 26 v2)]) w3.heap.size [.iface 26 v2] el_146 rfl (by decide) rfl (Nat.le_refl _) (parts1 rfl) (Eq.trans (show Instr.fill _ _ [(0, .iface 26 v2)] = _ from (fill_one rfl rfl (by kernel_rfl) fill_end)) (by kernel_rfl)) ?_
  intro v7 w6 O2 B2 k2
  have S11 : Sat _ _ (OwnX 20 anyR v7 [(Any.bytes f.sum)] :: _) := OwnX.cls (xss := [[.iface 26 v2]]) (.cons ⟨_, rfl, o1, (H1.up le0)⟩ .nil) (S10.newO B2 O2)
  have oH92 := (OwnX.one S11 0 rfl (by decide))
  obtain ⟨I2, le2, S12, H4⟩ := S11.fx0 (by decide)
  refine EL_appX (z := (.nilIface)) (bytes := 16) rfl U146 (by kernel_rfl) rfl (by decide) rfl rfl S12 H4 ac ac ?_
  intro v8 w7 S13
  have oH96 := (OwnX.one S13 0 rfl (by decide))
  obtain ⟨I3, le3, S14, H5⟩ := S13.fx0 (by decide)
  refine yR (Put_c _ _ _ _ _ S14 H5 (by simp [FrameT.head]; omega)) ?_
  rintro _ w8 ⟨v9, rfl, S15⟩
  refine g11 ?_
  refine vl _ rfl (lenB (r_len rfl (own_row (S15.own 0 rfl)) U26)) ?_
  refine g3 ?_
  refine EC_if rfl (fun h2 => ?_) (fun h2 => ?_)
  have hbig : 32768 < ((putB f.parts).length : Int) := h2
  refine g8 ?_
  refine f2 Tryz.results28 ?_
  have hE : f.encE = 11 := by rw [FrameT.encE, if_neg (by rw [hrt]; decide), if_pos hbig]
  rw [show f.encB = [] from if_neg (by rw [hE]; decide)]
  have S16 := S15.nilB
  exact ⟨(.slice none 0 0), I3, (lT (lT le0 le2) le3), (by rw [hE]), S16.dr1.dr1⟩
  have hbig : ¬ 32768 < ((putB f.parts).length : Int) := h2
  refine g10 ?_
  refine f2 Tryz.results28 ?_
  have hE : f.encE = 0 := by rw [FrameT.encE, if_neg (by rw [hrt]; decide), if_neg hbig]
  have q3 : putB ((f.head ++ f.links.map Any.bytes) ++ [(Any.bytes f.sum)]) = f.encB := by rw [FrameT.encB, if_pos hE]; rfl
  have S17 := S15.ab0 q3
  exact ⟨v9, I3, (lT (lT le0 le2) le3), (by rw [hE]), S17.dr1⟩

end Go.Proofs.YtanpinfhlbbjkaaGreat
