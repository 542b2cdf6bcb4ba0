import Derived.Test.YtanpinfhlbbjkaaGreatQClientSeesFrame
import Derived.Test.YtanpinfhlbbjkaaGreatQClientSeesReplayP
import Derived.Test.YtanpinfhlbbjkaaGreatQClientSeesSeaC
import Derived.Test.YtanpinfhlbbjkaaGreatQClientSeesRpB
set_option linter.unusedVariables false
set_option linter.unusedSimpArgs false
set_option maxRecDepth 100000
set_option maxHeartbeats 4000000
namespace Go.Proofs.YtanpinfhlbbjkaaGreat
open Go.RowKit Go.Ecal

theorem DGet_c (q : Value) (K : List Doc) (v0 : Value) (n : List UInt8) (I : Gh) (R : List HP) (w : World) (S : Sat w I (DocsP q K :: R)) (Q0 : RoB I v0 n) (hn : n.length ≤ 1000000) (hK : ∀ d ∈ K, d.2.length ≤ 1000000) : Ret Tryz.prog 45 [q, v0] w fun v w' => ∃ v1 : Value, ∃ J : Gh, Gh.le I J ∧ .tuple #[v1, .bool ((lkD K n).isSome)] = v ∧ RoB J v1 ((lkD K n).getD []) ∧ Sat w' J (DocsP q K :: R) := by
  have lq0 := RoB.le Q0 S.le
  obtain ⟨b, m, rfl, S0⟩ := DocsP.opn S
  have hlk := lkD_len (n := n) hK
  refine ret_E Tryz.func45 rfl Tryz.ntmps45 (by simp) ?_
  refine g7 ?_
  refine EC_quietB (by kernel_rfl) (by kernel_rfl) ?_
  refine g5 ?_
  refine EQ_val (.string (str n)) rfl (fun _ hw => r_str rfl ((Q0 _ S0.le).below hw) U26 U5 U9) ?_
  obtain ⟨ar0, ck0, hm0, hK0⟩ := S0.md 1 rfl
  refine EQ_val (.tuple #[.string (str ((lkD K n).getD [])), .bool ((lkD K n).isSome)]) rfl (fun _ hw => (r_lookD2 U9 U153 (by kernel_rfl) rfl rfl (map_below hm0 hw) hK0 (by first | assumption | omega | (simp; omega))).1) ?_
  refine g5 ?_
  refine yE S0 ?_
  intro w0 S1
  refine g4 ?_
  refine EL_bytes (l := (lkD K n).getD []) rfl rfl U9 U26 U5 (by first | omega | (simp; omega)) ?_
  intro v2 w1 B0 V0 R0 V21l
  obtain ⟨I0, le0, S2, H0⟩ := S1.newR B0 V0 R0 V21l
  refine g6 ?_
  refine f2 Tryz.results45 ?_
  have S3 : Sat w1 I0 (DocsP (ptr b) K :: R) := DocsP.cls S2
  exact ⟨v2, I0, le0, rfl, H0, S3⟩

theorem RpChain_c (q : Value) (p : Value) (s : Rpl) (I : Gh) (R : List HP) (w : World) (S : Sat w I (RplP q p s :: R)) : Ret Tryz.prog 53 [q] w fun v w' => ∃ b : Nat, ∃ sv : Value, ∃ cv : Value, ∃ vm : Value, ∃ dv : Value, ∃ rv : Value, cv = v ∧ (q = ptr b) ∧ (s.ok) ∧ (cv.oneCell' = true) ∧ (dv.oneCell' = true) ∧ (rv.oneCell' = true) ∧ RoB I sv s.sec ∧ RoX I vm memR s.pol.mem ∧ Sat w' I (Blk b 166 (rplC s p sv cv vm dv rv) :: ChainP cv p s.ch :: DocsP dv s.docs :: RingP rv s.ks :: R) := by
  obtain ⟨b, sv, cv, vm, dv, rv, rfl, hok, hc1, hd1, hr1, Hs, Hm, S0⟩ := RplP.opn S
  have hks := hok.ks.2
  have hnum := hok.num
  have lsv := RoB.le Hs S0.le
  have lvm := XRow.le (Hm.row S0.le)
  refine ret_E Tryz.func53 rfl Tryz.ntmps53 (by simp) ?_
  refine g15 ?_
  refine f1 Tryz.results53 ?_
  exact ⟨b, sv, cv, vm, dv, rv, rfl, rfl, hok, hc1, hd1, hr1, Hs, Hm, S0⟩

end Go.Proofs.YtanpinfhlbbjkaaGreat

set_option maxRecDepth 100000
set_option maxHeartbeats 4000000
namespace Go.Proofs.YtanpinfhlbbjkaaGreat
open Go.RowKit Go.Ecal
def frmR : Rep FrameT := ⟨5, fun I cs a => ∃ v3 v4, cs = [.int .i64 a.kind, .int .i64 a.coll, .int .i64 a.index, v3, v4] ∧ (-9223372036854775808 ≤ a.kind ∧ a.kind ≤ 9223372036854775807) ∧ (-9223372036854775808 ≤ a.coll ∧ a.coll ≤ 9223372036854775807) ∧ (-9223372036854775808 ≤ a.index ∧ a.index ≤ 9223372036854775807) ∧ (v3.oneCell' = true ∧ RoX I v3 bytesR a.links) ∧ (v4.oneCell' = true ∧ RoB I v4 a.sum), fun k h => by obtain ⟨v3, v4, rfl, h0, h1, h2, ⟨o3, h3⟩, ⟨o4, h4⟩⟩ := h; exact ⟨v3, v4, rfl, h0, h1, h2, ⟨o3, h3.up k⟩, ⟨o4, h4.up k⟩⟩,
  fun h => by obtain ⟨v3, v4, rfl, h0, h1, h2, ⟨o3, h3⟩, ⟨o4, h4⟩⟩ := h; rfl, fun h u hu => by
    obtain ⟨v3, v4, rfl, h0, h1, h2, ⟨o3, h3⟩, ⟨o4, h4⟩⟩ := h
    simp only [List.mem_cons, List.not_mem_nil, or_false] at hu
    rcases hu with rfl | rfl | rfl | rfl | rfl <;> first | rfl | assumption⟩
abbrev frmRC (a : FrameT) (v3 v4 : Value) : List Value := [.int .i64 a.kind, .int .i64 a.coll, .int .i64 a.index, v3, v4]
abbrev frmR0 : List Value := [.int .i64 0, .int .i64 0, .int .i64 0, .slice none 0 0, .slice none 0 0]
theorem frmRz (I : Gh) : frmR.r I frmR0 (⟨0, 0, 0, [], []⟩ : FrameT) := ⟨_, _, rfl, (by dsimp only; omega), (by dsimp only; omega), (by dsimp only; omega), ⟨rfl, RoX.nil⟩, ⟨rfl, Ro.nil⟩⟩
theorem badL_c (v0 : Value) (b : List UInt8) (I : Gh) (R : List HP) (w : World) (S : Sat w I (R)) (Q0 : RoB I v0 b) : Ret Tryz.prog 171 [v0] w fun v w' => .bool (badLink b) = v ∧ Sat w' I (R) := by
  have lq0 := RoB.le Q0 S.le
  refine ret_E Tryz.func171 rfl Tryz.ntmps171 (by simp) ?_
  refine g8 ?_
  refine vl _ rfl (lenB (r_len rfl (Q0 _ S.le) U26)) ?_
  refine g3 ?_
  refine EL_gite 6 rfl rfl rfl (.int .i64 (b.length : Int)) rfl (fun g12 => lenB (r_len (cond_of g12 rfl) (Q0 _ S.le) U26)) ?_
  refine g6 ?_
  refine f1 Tryz.results171 ?_
  exact ⟨rfl, S⟩

theorem BIdx_c (v0 : Value) (l : List (List UInt8)) (I : Gh) (R : List HP) (w : World) (S : Sat w I (R)) (Q0 : RoX I v0 bytesR l) : Ret Tryz.prog 211 [v0, .func (.func 171) #[] #[]] w fun v w' => ∃ n : Int, .int .i64 n = v ∧ ((n = -1 ∧ l.any badLink = false) ∨ (0 ≤ n ∧ l.any badLink = true)) ∧ Sat w' I (R) := by
  have lq0 := XRow.le (Q0.row S.le)
  refine ret_E Tryz.func211 rfl Tryz.ntmps211 (by simp) ?_
  refine g9 ?_
  refine vl _ rfl (r_lenX rfl (Q0.row S.le) U33) ?_
  refine g4 ?_
  refine EC_loop (fun m' E' w' => ∃ j : Nat, m' = l.length - j ∧ E' 8 = .int .i64 (j : Int) ∧ E' 0 = v0 ∧ E' 1 = .func (.func 171) #[] #[] ∧ E' 7 = .int .i64 (l.length : Int) ∧ (j ≤ l.length) ∧ ((l.take j).any badLink = false) ∧ Sat w' I (R)) _ ⟨0, rfl, rfl, rfl, rfl, rfl, Nat.zero_le _, rfl, S⟩ ?_
  rintro _ E0 w0 ⟨j, rfl, e0, e1, e2, e3, hj, hno, S0⟩
  refine g6 ?_
  refine EC_if rfl (fun h0 => ?_) (fun h0 => ?_)
  refine g15 ?_
  refine vl (ptr (blkOf v0) (offOf v0 + ((j : Int) : Int).toNat * 1)) rfl (r_indexX rfl (Q0.row S0.le) rfl (by omega) as' U33 (by kernel_rfl)) ?_
  obtain ⟨a0, ha0⟩ := get_some (l := l) (j := ((j : Int) : Int).toNat) as'
  obtain ⟨cs0, hc0, he0⟩ := Q0.el ha0
  obtain ⟨v1, rfl, o0, H0⟩ := hc0
  refine vl _ rfl (r_load0 rfl (he0 _ S0.le) U26 rfl) ?_
  refine EL_retw _ rfl rfl Tryz.func171 rfl nm171 rfl (badL_c _ _ _ _ _ S0 H0) ?_
  rintro _ w1 ⟨rfl, S1⟩
  refine g2 ?_
  refine EC_cond (t := badLink a0) rfl (fun h1 => ?_) (fun h1 => ?_)
  have hab : badLink a0 = true := by simpa using h1
  refine g12 ?_
  refine f1 Tryz.results211 ?_
  exact ⟨(j : Int), rfl, (.inr ⟨by omega, List.any_eq_true.2 ⟨_, List.mem_of_getElem? (show l[j]? = _ from ha0), hab⟩⟩), S1⟩
  have hab : badLink a0 = false := by simpa using h1
  refine g4 ?_
  refine EL_int ((j : Int) + 1) rfl (r_addi (by exact e0) rfl (by omega)) ?_
  intro x0 hx30
  refine g3 ?_
  refine ⟨_, ?_, j + 1, rfl, (Eq.trans (show _ = Value.int .i64 x0 from rfl) (congrArg _ (by omega))), (by exact e1), (by exact e2), (by exact e3), by omega, (by rw [List.take_add_one, (show l[j]? = _ from ha0)]; simp [hno, hab]), S1⟩
  first | omega | (simp; omega)
  refine g11 ?_
  refine f1 Tryz.results211 ?_
  exact ⟨(-1), rfl, (.inl ⟨rfl, by rwa [List.take_of_length_le (by omega)] at hno⟩), S0⟩

theorem BCon_c (v0 : Value) (l : List (List UInt8)) (I : Gh) (R : List HP) (w : World) (S : Sat w I (R)) (Q0 : RoX I v0 bytesR l) : Ret Tryz.prog 170 [v0, .func (.func 171) #[] #[]] w fun v w' => .bool (l.any badLink) = v ∧ Sat w' I (R) := by
  have lq0 := XRow.le (Q0.row S.le)
  refine ret_E Tryz.func170 rfl Tryz.ntmps170 (by simp) ?_
  refine g9 ?_
  refine yR (BIdx_c _ _ _ _ _ S Q0) ?_
  rintro _ w0 ⟨n0, rfl, h0, S0⟩
  have hcn := h0
  refine g5 ?_
  refine f1 Tryz.results170 ?_
  exact ⟨(congrArg Value.bool (by rcases hcn with ⟨h1, h2⟩ | ⟨h1, h2⟩ <;> rw [h2] <;> simp <;> omega)), S0⟩

theorem links_c (v0 : Value) (l : List (List UInt8)) (least : Int) (I : Gh) (R : List HP) (w : World) (S : Sat w I (R)) (Q0 : RoX I v0 bytesR l) : Ret Tryz.prog 120 [v0, .int .i64 least] w fun v w' => .bool (linksOk l least) = v ∧ Sat w' I (R) := by
  have lq0 := XRow.le (Q0.row S.le)
  refine ret_E Tryz.func120 rfl Tryz.ntmps120 (by simp) ?_
  refine g6 ?_
  rcases first2 (least ≤ (l.length : Int)) ((l.length : Int) ≤ 8) with hc | hc | hc
  refine g2 ?_
  refine vl _ rfl (r_lenX rfl (Q0.row S.le) U33) ?_
  refine g1 ?_
  refine vl _ rfl (dcF (r_geq rfl rfl) (decide_eq_false hc)) ?_
  refine g14 ?_
  refine f1 Tryz.results120 ?_
  exact ⟨(congrArg Value.bool (by rw [linksOk, decide_eq_false hc] <;> rfl)), S⟩
  refine g2 ?_
  refine vl _ rfl (r_lenX rfl (Q0.row S.le) U33) ?_
  refine g1 ?_
  refine vl _ rfl (dcT (r_geq rfl rfl) (decide_eq_true hc.1)) ?_
  refine g2 ?_
  refine gl 9 rfl rfl rfl rfl _ rfl (r_lenX rfl (Q0.row S.le) U33) (gl 9 rfl rfl rfl rfl _ rfl (dcF (r_leq rfl rfl) (decide_eq_false hc.2)) ?_)
  refine g10 ?_
  refine f1 Tryz.results120 ?_
  exact ⟨(congrArg Value.bool (by rw [linksOk, decide_eq_true hc.1, decide_eq_false hc.2] <;> rfl)), S⟩
  refine g2 ?_
  refine vl _ rfl (r_lenX rfl (Q0.row S.le) U33) ?_
  refine g1 ?_
  refine vl _ rfl (dcT (r_geq rfl rfl) (decide_eq_true hc.1)) ?_
  refine g2 ?_
  refine gl 9 rfl rfl rfl rfl _ rfl (r_lenX rfl (Q0.row S.le) U33) (gl 9 rfl rfl rfl rfl _ rfl (dcT (r_leq rfl rfl) (decide_eq_true hc.2)) ?_)
  refine g3 ?_
  refine yG (BCon_c _ _ _ _ _ S Q0) ?_
  rintro _ w0 ⟨rfl, S0⟩
  refine g6 ?_
  refine f1 Tryz.results120 ?_
  exact ⟨(congrArg Value.bool (by rw [linksOk, decide_eq_true hc.1, decide_eq_true hc.2] <;> rfl)), S0⟩

theorem FRight_c (cf : List Value) (f : FrameT) (I : Gh) (R : List HP) (w : World) (S : Sat w I (R)) (hf : frmR.r I cf f) : Ret Tryz.prog 72 [.agg cf.toArray] w fun v w' => .bool f.right = v ∧ Sat w' I (R) := by
  obtain ⟨v0, v1, rfl, r0, r1, r2, ⟨o0, H0⟩, ⟨o1, H1⟩⟩ := hf
  refine ret_E Tryz.func72 rfl Tryz.ntmps72 (by simp) ?_
  refine g2 ?_
  refine yB (cs := [.int .i64 f.kind, .int .i64 f.coll, .int .i64 f.index, v0, v1]) S ?_
  intro b0 w0 S0
  refine g26 ?_
  refine EC_cond (t := (((decide (f.coll < 1)) || (decide (1099511627776 < f.coll))) || (decide (f.index < 0))) || (decide (64 < f.index))) rfl (fun h0 => ?_) (fun h0 => ?_)
  have hnu : f.nums = false := by rw [Bool.eq_false_iff]; intro q; rw [nums_fr] at q; simp at h0; omega
  refine g7 ?_
  refine f1 Tryz.results72 ?_
  exact ⟨(congrArg Value.bool (by rw [FrameT.right, hnu]; rfl)), S0.dr0⟩
  have hnu : f.nums = true := nums_fr.2 (by simp at h0; omega)
  refine g4 ?_
  rcases (by omega : f.kind = 1 ∨ f.kind = 2 ∨ f.kind = 3 ∨ f.kind = 4 ∨ (¬ f.kind = 1 ∧ ¬ f.kind = 2 ∧ ¬ f.kind = 3 ∧ ¬ f.kind = 4)) with hk | hk | hk | hk | hk
  refine g8 ?_
  refine vl _ rfl (dT (r_eql rfl rfl)) ?_
  refine g8 ?_
  refine yR (links_c _ _ 1 _ _ _ S0 H0) ?_
  rintro _ w1 ⟨rfl, S1⟩
  refine g8 ?_
  refine EL_gite 33 rfl rfl rfl (.int .i64 (f.sum.length : Int)) rfl (fun g45 => lenB (r_len (cond_of g45 rfl) (H1 _ S1.le) U26)) ?_
  refine g8 ?_
  refine f1 Tryz.results72 ?_
  exact ⟨(congrArg Value.bool (by rw [FrameT.right, hnu, FrameT.body, if_pos hk]; simp [Bool.and_assoc])), S1.dr0⟩
  refine g8 ?_
  refine vl _ rfl (dF (r_eql rfl rfl)) ?_
  refine g6 ?_
  refine vl _ rfl (dT (r_eql rfl rfl)) ?_
  refine g8 ?_
  refine vl _ rfl (r_lenX rfl (H0.row S0.le) U33) ?_
  refine g4 ?_
  refine EL_gite 45 rfl rfl rfl (.int .i64 (f.sum.length : Int)) rfl (fun g50 => lenB (r_len (cond_of g50 rfl) (H1 _ S0.le) U26)) ?_
  refine g8 ?_
  refine f1 Tryz.results72 ?_
  exact ⟨(congrArg Value.bool (by rw [FrameT.right, hnu, FrameT.body, if_neg (by omega), if_pos hk]; simp [Bool.and_assoc])), S0.dr0⟩
  refine g8 ?_
  refine vl _ rfl (dF (r_eql rfl rfl)) ?_
  refine g6 ?_
  refine vl _ rfl (dF (r_eql rfl rfl)) ?_
  refine g6 ?_
  refine vl _ rfl (dT (r_eql rfl rfl)) ?_
  refine g8 ?_
  refine yR (links_c _ _ 0 _ _ _ S0 H0) ?_
  rintro _ w2 ⟨rfl, S2⟩
  refine g3 ?_
  refine EL_gite 56 rfl rfl rfl (.int .i64 (f.sum.length : Int)) rfl (fun g57 => lenB (r_len (cond_of g57 rfl) (H1 _ S2.le) U26)) ?_
  refine g8 ?_
  refine f1 Tryz.results72 ?_
  exact ⟨(congrArg Value.bool (by rw [FrameT.right, hnu, FrameT.body, if_neg (by omega), if_neg (by omega), if_pos hk]; simp [Bool.and_assoc])), S2.dr0⟩
  refine g8 ?_
  refine vl _ rfl (dF (r_eql rfl rfl)) ?_
  refine g6 ?_
  refine vl _ rfl (dF (r_eql rfl rfl)) ?_
  refine g6 ?_
  refine vl _ rfl (dF (r_eql rfl rfl)) ?_
  refine g6 ?_
  refine vl _ rfl (dT (r_eql rfl rfl)) ?_
  refine g8 ?_
  refine vl _ rfl (r_lenX rfl (H0.row S0.le) U33) ?_
  refine g4 ?_
  refine EL_gite 68 rfl rfl rfl (.int .i64 (f.sum.length : Int)) rfl (fun g62 => lenB (r_len (cond_of g62 rfl) (H1 _ S0.le) U26)) ?_
  refine g8 ?_
  refine f1 Tryz.results72 ?_
  exact ⟨(congrArg Value.bool (by rw [FrameT.right, hnu, FrameT.body, if_neg (by omega), if_neg (by omega), if_neg (by omega), if_pos hk]; simp [Bool.and_assoc])), S0.dr0⟩
  refine g8 ?_
  refine vl _ rfl (dF (r_eql rfl rfl)) ?_
  refine g6 ?_
  refine vl _ rfl (dF (r_eql rfl rfl)) ?_
  refine g6 ?_
  refine vl _ rfl (dF (r_eql rfl rfl)) ?_
  refine g6 ?_
  refine vl _ rfl (dF (r_eql rfl rfl)) ?_
  refine g13 ?_
  refine f1 Tryz.results72 ?_
  exact ⟨(congrArg Value.bool (by rw [FrameT.right, hnu, FrameT.body, if_neg (by omega), if_neg (by omega), if_neg (by omega), if_neg (by omega)]; simp [Bool.and_assoc])), S0.dr0⟩

end Go.Proofs.YtanpinfhlbbjkaaGreat

set_option maxRecDepth 100000
set_option maxHeartbeats 4000000
namespace Go.Proofs.YtanpinfhlbbjkaaGreat
open Go.RowKit Go.Ecal

theorem FEnc_c (cf : List Value) (f : FrameT) (I : Gh) (R : List HP) (w : World) (S : Sat w I (R)) (hf : frmR.r I cf f) : Ret Tryz.prog 28 [.agg cf.toArray] w fun v w' => ∃ v1 : Value, ∃ J : Gh, Gh.le I J ∧ .tuple #[v1, .int .i64 f.encE] = v ∧ Sat w' J (OwnB v1 f.encB :: R) := by
  obtain ⟨v0, v2, rfl, r0, r1, r2, ⟨o0, H0⟩, ⟨o1, H1⟩⟩ := hf
  refine ret_E Tryz.func28 rfl Tryz.ntmps28 (by simp) ?_
  refine g2 ?_
  refine yB (cs := frmRC f v0 v2) S ?_
  intro b0 w0 S0
  refine g8 ?_
  refine yR (FRight_c (frmRC f v0 v2) f _ _ _ S0 ⟨v0, v2, rfl, ad, ad, ad, ⟨o0, H0⟩, ⟨o1, H1⟩⟩) ?_
  rintro _ w1 ⟨rfl, S1⟩
  refine g3 ?_
  refine EC_cond (t := !f.right) rfl (fun h0 => ?_) (fun h0 => ?_)
  have hrt : f.right = false := (Bool.not_eq_true' _).mp h0
  refine g8 ?_
  refine f2 Tryz.results28 ?_
  have hE : f.encE = 10 := by rw [FrameT.encE, if_pos hrt]
  rw [show f.encB = [] from if_neg (by rw [hE]; decide)]
  have S2 := S1.nilB
  exact ⟨(.slice none 0 0), I, (Gh.le_refl _), (by rw [hE]), S2.dr1⟩
  have hrt : f.right = true := (Bool.not_eq_false' _).mp h0
  have hrf := right_fr hrt
  refine g6 ?_
  refine vl _ rfl (r_iface rfl U3 rfl) ?_
  refine g2 ?_
  refine vl _ rfl (r_iface rfl U3 rfl) ?_
  refine g2 ?_
  refine vl _ rfl (r_iface rfl U3 rfl) ?_
  refine g2 ?_
  refine vl _ rfl (r_lenX rfl (H0.row S1.le) U33) (vl _ rfl (r_iface rfl U3 rfl) ?_)
  refine EL_lit1 (l := [(0, .iface 3 (.int .i64 f.kind)), (1, .iface 3 (.int .i64 f.coll)), (2, .iface 3 (.int .i64 f.index)), (3, .iface 3 (.int .i64 (f.links.length : Int)))]) w1.heap.size [.iface 3 (.int .i64 f.kind), .iface 3 (.int .i64 f.coll), .iface 3 (.int .i64 f.index), .iface 3 (.int .i64 (f.links.length : Int))] el_146 rfl (by decide) rfl (Nat.le_refl _) (parts4 rfl rfl rfl rfl) (Eq.trans (show Instr.fill _ _ [(0, .iface 3 (.int .i64 f.kind)), (1, .iface 3 (.int .i64 f.coll)), (2, .iface 3 (.int .i64 f.index)), (3, .iface 3 (.int .i64 (f.links.length : Int)))] = _ from (fill_one rfl rfl (by kernel_rfl) (fill_one rfl rfl (by kernel_rfl) (fill_one rfl rfl (by kernel_rfl) (fill_one rfl rfl (by kernel_rfl) fill_end))))) (by kernel_rfl)) ?_
  intro v3 w2 O0 B0 k0
  have S3 : Sat _ _ (OwnX 20 anyR v3 [(Any.int f.kind), (Any.int f.coll), (Any.int f.index), (Any.int (f.links.length : Int))] :: _) := OwnX.cls (xss := [[.iface 3 (.int .i64 f.kind)], [.iface 3 (.int .i64 f.coll)], [.iface 3 (.int .i64 f.index)], [.iface 3 (.int .i64 (f.links.length : Int))]]) (.cons ⟨rfl, (by first | assumption | omega)⟩ (.cons ⟨rfl, (by first | assumption | omega)⟩ (.cons ⟨rfl, (by first | assumption | omega)⟩ (.cons ⟨rfl, (by first | assumption | omega)⟩ .nil)))) (S1.newO B0 O0)
  refine g8 ?_
  refine vl _ rfl (r_lenX rfl (H0.row S3.le) U33) ?_
  refine g4 ?_
  have q0 : [(Any.int f.kind), (Any.int f.coll), (Any.int f.index), (Any.int (f.links.length : Int))] = f.head ++ (f.links.take 0).map Any.bytes := by simp [FrameT.head]
  have S4 := S3.ax0 q0
  refine EC_loop (fun m' E' w' => ∃ j : Nat, ∃ qv : Value, ∃ J : Gh, m' = f.links.length - j ∧ E' 29 = .int .i64 (j : Int) ∧ E' 4 = qv ∧ E' 1 = ptr b0 ∧ E' 2 = .slice none 0 0 ∧ E' 3 = .int .i64 0 ∧ E' 27 = v0 ∧ E' 28 = .int .i64 (f.links.length : Int) ∧ (j ≤ f.links.length) ∧ ((f.head ++ (f.links.take j).map Any.bytes).length ≤ 12) ∧ Gh.le I J ∧ Sat w' J (OwnX 20 anyR qv (f.head ++ (f.links.take j).map Any.bytes) :: Blk b0 68 (frmRC f v0 v2) :: R)) _ ⟨0, v3, I, rfl, rfl, rfl, rfl, rfl, rfl, rfl, rfl, Nat.zero_le _, (by simp [FrameT.head]), (Gh.le_refl _), S4⟩ ?_
  rintro _ E0 w3 ⟨j, qv, I0, rfl, e0, e1, e2, e3, e4, e5, e6, hj, hln, le0, S5⟩
  refine g6 ?_
  refine EC_if rfl (fun h1 => ?_) (fun h1 => ?_)
  refine g6 ?_
  refine vl (ptr (blkOf v0) (offOf v0 + ((j : Int) : Int).toNat * 1)) rfl (r_indexX (by exact e5) (H0.row (lT le0 S5.le)) (by exact e0) (by omega) as' U33 (by kernel_rfl)) ?_
  obtain ⟨a0, ha0⟩ := get_some (l := f.links) (j := ((j : Int) : Int).toNat) as'
  obtain ⟨cs0, hc0, he0⟩ := H0.el ha0
  obtain ⟨v4, rfl, o2, H2⟩ := hc0
  refine vl _ rfl (r_load0 rfl (he0 _ (lT le0 S5.le)) U26 rfl) ?_
  refine g6 ?_
  refine vl _ rfl (r_iface rfl U26 rfl) ?_
  refine EL_lit1 (l := [(0, .iface 26 v4)]) w3.heap.size [.iface 26 v4] el_146 rfl (by decide) rfl (Nat.le_refl _) (parts1 rfl) (Eq.trans (show Instr.fill _ _ [(0, .iface 26 v4)] = _ from (fill_one rfl rfl (by kernel_rfl) fill_end)) (by kernel_rfl)) ?_
  intro v5 w4 O1 B1 k1
  have S6 : Sat _ _ (OwnX 20 anyR v5 [(Any.bytes a0)] :: _) := OwnX.cls (xss := [[.iface 26 v4]]) (.cons ⟨_, rfl, o2, (H2.up le0)⟩ .nil) (S5.newO B1 O1)
  have oH74 := (OwnX.one S6 0 rfl (by decide))
  obtain ⟨I1, le1, S7, H3⟩ := S6.fx0 (by decide)
  refine EL_appX (z := (.nilIface)) (bytes := 16) rfl U146 (by kernel_rfl) rfl (by decide) rfl rfl S7 H3 ac ac ?_
  intro v6 w5 S8
  refine g5 ?_
  refine EL_int ((j : Int) + 1) rfl (r_addi (by exact e0) rfl (by omega)) ?_
  intro x0 hx75
  refine g3 ?_
  have q1 : (f.head ++ (f.links.take j).map Any.bytes) ++ [(Any.bytes a0)] = f.head ++ (f.links.take (j + 1)).map Any.bytes := by rw [List.take_add_one, (show f.links[j]? = _ from ha0)]; simp
  have S9 := S8.ax0 q1
  refine ⟨_, ?_, j + 1, v6, I1, rfl, (Eq.trans (show _ = Value.int .i64 x0 from rfl) (congrArg _ (by omega))), rfl, (by exact e2), (by exact e3), (by exact e4), (by exact e5), (by exact e6), by omega, (by simp [FrameT.head]; omega), (lT le0 le1), S9⟩
  first | omega | (simp; omega)
  refine g6 ?_
  have hlt : (f.head ++ f.links.map Any.bytes).length ≤ 12 := by simp [FrameT.head]; omega
  have q2 : f.head ++ (f.links.take j).map Any.bytes = f.head ++ f.links.map Any.bytes := by rw [List.take_of_length_le (by omega)]
  have S10 := S5.ax0 q2
  skip
  refine g4 ?_
  refine vl _ rfl (r_iface rfl U26 rfl) ?_
  refine EL_lit1 (l := [(0, .iface 26 v2)]) w3.heap.size [.iface 26 v2] el_146 rfl (by decide) rfl (Nat.le_refl _) (parts1 rfl) (Eq.trans (show Instr.fill _ _ [(0, .iface 26 v2)] = _ from (fill_one rfl rfl (by kernel_rfl) fill_end)) (by kernel_rfl)) ?_
  intro v7 w6 O2 B2 k2
  have S11 : Sat _ _ (OwnX 20 anyR v7 [(Any.bytes f.sum)] :: _) := OwnX.cls (xss := [[.iface 26 v2]]) (.cons ⟨_, rfl, o1, (H1.up le0)⟩ .nil) (S10.newO B2 O2)
  have oH92 := (OwnX.one S11 0 rfl (by decide))
  obtain ⟨I2, le2, S12, H4⟩ := S11.fx0 (by decide)
  refine EL_appX (z := (.nilIface)) (bytes := 16) rfl U146 (by kernel_rfl) rfl (by decide) rfl rfl S12 H4 ac ac ?_
  intro v8 w7 S13
  have oH96 := (OwnX.one S13 0 rfl (by decide))
  obtain ⟨I3, le3, S14, H5⟩ := S13.fx0 (by decide)
  refine yR (Put_c _ _ _ _ _ S14 H5 (by simp [FrameT.head]; omega)) ?_
  rintro _ w8 ⟨v9, rfl, S15⟩
  refine g11 ?_
  refine vl _ rfl (lenB (r_len rfl (own_row (S15.own 0 rfl)) U26)) ?_
  refine g3 ?_
  refine EC_if rfl (fun h2 => ?_) (fun h2 => ?_)
  have hbig : 32768 < ((putB f.parts).length : Int) := h2
  refine g8 ?_
  refine f2 Tryz.results28 ?_
  have hE : f.encE = 11 := by rw [FrameT.encE, if_neg (by rw [hrt]; decide), if_pos hbig]
  rw [show f.encB = [] from if_neg (by rw [hE]; decide)]
  have S16 := S15.nilB
  exact ⟨(.slice none 0 0), I3, (lT (lT le0 le2) le3), (by rw [hE]), S16.dr1.dr1⟩
  have hbig : ¬ 32768 < ((putB f.parts).length : Int) := h2
  refine g10 ?_
  refine f2 Tryz.results28 ?_
  have hE : f.encE = 0 := by rw [FrameT.encE, if_neg (by rw [hrt]; decide), if_neg hbig]
  have q3 : putB ((f.head ++ f.links.map Any.bytes) ++ [(Any.bytes f.sum)]) = f.encB := by rw [FrameT.encB, if_pos hE]; rfl
  have S17 := S15.ab0 q3
  exact ⟨v9, I3, (lT (lT le0 le2) le3), (by rw [hE]), S17.dr1⟩

end Go.Proofs.YtanpinfhlbbjkaaGreat
