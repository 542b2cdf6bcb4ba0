import Derived.Test.YtanpinfhlbbjkaaGreatQClientSeesRing2
import Derived.Test.YtanpinfhlbbjkaaGreatQClientSeesReplay
import Derived.Test.YtanpinfhlbbjkaaGreatQClientSeesEntG
set_option linter.unusedVariables false
set_option linter.unusedSimpArgs false
set_option maxRecDepth 100000
set_option maxHeartbeats 4000000
namespace Go.Proofs.YtanpinfhlbbjkaaGreat
open Go.RowKit Go.Ecal

theorem DLen_c (q : Value) (K : List Doc) (I : Gh) (R : List HP) (w : World) (S : Sat w I (DocsP q K :: R)) : Ret Tryz.prog 38 [q] w fun v w' => .int .i64 (K.length : Int) = v ∧ Sat w' I (DocsP q K :: R) := by
  obtain ⟨b, m, rfl, S0⟩ := DocsP.opn S
  refine ret_E Tryz.func38 rfl Tryz.ntmps38 (by simp) ?_
  refine g11 ?_
  obtain ⟨ar0, ck0, hm0, hK0⟩ := S0.md 1 rfl
  refine vl (.int .i64 (K.length : Int)) rfl (r_lenD U153 rfl hm0 hK0) ?_
  refine g4 ?_
  refine f1 Tryz.results38 ?_
  have S1 : Sat w I (DocsP (ptr b) K :: R) := DocsP.cls S0
  exact ⟨rfl, S1⟩

theorem DApp_c (q : Value) (K : List Doc) (ce : List Value) (e : Entry) (I : Gh) (R : List HP) (w : World) (S : Sat w I (DocsP q K :: R)) (he : entR.r I ce e) (hK : K.length ≤ 1000000) : Ret Tryz.prog 117 [q, .agg ce.toArray] w fun v w' => ∃ J : Gh, Gh.le I J ∧ .int .i64 (applyE K e) = v ∧ Sat w' J (DocsP q (applyD K e) :: R) := by
  obtain ⟨b, m, rfl, S0⟩ := DocsP.opn S
  obtain ⟨v0, v1, v2, rfl, r0, r1, r2, ⟨o0, H0⟩, ⟨o1, H1⟩, r3, r4, r5, ⟨o2, H2⟩⟩ := he
  refine ret_E Tryz.func117 rfl Tryz.ntmps117 (by simp) ?_
  refine g2 ?_
  refine yB (cs := entRC e v0 v1 v2) S0 ?_
  intro b0 w0 S1
  refine g7 ?_
  refine yR (Right_c (entRC e v0 v1 v2) e _ _ _ S1 ⟨v0, v1, v2, rfl, ad, ad, ad, ⟨o0, H0⟩, ⟨o1, H1⟩, ad, ad, ad, ⟨o2, H2⟩⟩) ?_
  rintro _ w1 ⟨I0, le0, rfl, S2⟩
  refine g3 ?_
  refine EC_cond (t := !e.right) rfl (fun h0 => ?_) (fun h0 => ?_)
  have hrt : e.right = false := by simpa using h0
  refine g7 ?_
  refine f1 Tryz.results117 ?_
  have S3 : Sat _ _ (DocsP (ptr b) K :: _) := DocsP.cls S2.fr2.fr2
  have q0 : K = applyD K e := by first | (simp only [applyD, hrt, hk1, hk2]; simp; done) | (simp only [applyD, hrt, hk]; simp [del_none hth]; done) | (simp only [applyD, hrt, hk]; simp; done) | (simp only [applyD, hrt]; simp; done)
  have S4 := Sat.ah0 (DocsP (ptr b)) S3 q0
  exact ⟨I0, le0, (congrArg (Value.int .i64) (by first | (simp only [applyE, hrt, hk2]; simp; done) | (simp only [applyE, thereD, hrt, hk, hth]; simp; done) | (simp only [applyE, hrt, hk]; simp; done) | (simp only [applyE, hrt]; simp; done))), S4.dr1⟩
  have hrt : e.right = true := by simpa using h0
  have hnv := right_nv hrt
  refine g6 ?_
  refine vl _ rfl (r_str rfl (H0 _ (lT le0 S2.le)) U26 U5 U9) ?_
  refine g17 ?_
  refine EC_if rfl (fun h1 => ?_) (fun h1 => ?_)
  have hk : e.kind = 1 := h1
  refine yJ 8 (fun w' => Arr w' b 155 [.map (some m)] ∧ Arr w' b0 29 (entRC e v0 v1 v2)) S2 ?_
  intro w2 S5
  refine yT 0 S5.le ⟨S5.a1, S5.a0⟩ ?_
  refine yT 1 S5.le ⟨S5.a1, S5.a0⟩ ?_
  refine yT 2 S5.le ⟨S5.a1, S5.a0⟩ ?_
  refine yT 3 S5.le ⟨S5.a1, S5.a0⟩ ?_
  refine yT 4 S5.le ⟨S5.a1, S5.a0⟩ ?_
  refine yT 5 S5.le ⟨S5.a1, S5.a0⟩ ?_
  refine yT 6 S5.le ⟨S5.a1, S5.a0⟩ ?_
  refine jT 7 rfl (by kernel_rfl) (.string (str e.value)) rfl (fun _ hw ht => r_str rfl (H1 _ (lT le0 hw)) U26 U5 U9) ⟨S5.le, fun h => ⟨S5.a1, S5.a0⟩⟩ ?_
  refine y1 8 ?_
  obtain ⟨ar0, ck0, hm0, hK0⟩ := S5.md 2 rfl
  refine EL_putD U9 U153 rfl rfl rfl hm0 hK0 (by first | assumption | omega | (simp; omega)) (by first | assumption | omega | (simp; omega)) (by first | assumption | omega | (simp; omega)) ?_
  intro w3 ar1 ck1 hm1 hK1 G0
  have S6 : Sat w3 I0 (Blk b0 29 (entRC e v0 v1 v2) :: Blk b 155 [.map (some m)] :: Md Tryz.prog 9 m (putD K e.name e.value) :: R) := S5.mdW 2 rfl G0 hm1 hK1
  refine ym S6.le ?_
  refine yd ?_
  refine g8 ?_
  refine f1 Tryz.results117 ?_
  have S7 : Sat _ _ (DocsP (ptr b) (putD K e.name e.value) :: _) := DocsP.cls S6.fr2.fr2
  have q1 : putD K e.name e.value = applyD K e := by first | (simp only [applyD, hrt, hk1, hk2]; simp; done) | (simp only [applyD, hrt, hk]; simp [del_none hth]; done) | (simp only [applyD, hrt, hk]; simp; done) | (simp only [applyD, hrt]; simp; done)
  have S8 := Sat.ah0 (DocsP (ptr b)) S7 q1
  exact ⟨I0, le0, (congrArg (Value.int .i64) (by first | (simp only [applyE, hrt, hk2]; simp; done) | (simp only [applyE, thereD, hrt, hk, hth]; simp; done) | (simp only [applyE, hrt, hk]; simp; done) | (simp only [applyE, hrt]; simp; done))), S8.dr1⟩
  have hk1 : ¬ e.kind = 1 := h1
  refine g6 ?_
  refine EC_if rfl (fun h2 => ?_) (fun h2 => ?_)
  have hk : e.kind = 2 := h2
  refine g8 ?_
  obtain ⟨ar2, ck2, hm2, hK2⟩ := S2.md 2 rfl
  refine vl (.tuple #[.string (str ((lkD K e.name).getD [])), .bool ((lkD K e.name).isSome)]) rfl ((r_lookD2 U9 U153 (by kernel_rfl) rfl rfl hm2 hK2 (by first | assumption | omega | (simp; omega))).1) ?_
  refine g13 ?_
  refine EC_cond (t := !((lkD K e.name).isSome)) rfl (fun h3 => ?_) (fun h3 => ?_)
  have hth : (lkD K e.name).isSome = false := by simpa using h3
  refine g9 ?_
  refine f1 Tryz.results117 ?_
  have S9 : Sat _ _ (DocsP (ptr b) K :: _) := DocsP.cls S2.fr2.fr2
  have q2 : K = applyD K e := by first | (simp only [applyD, hrt, hk1, hk2]; simp; done) | (simp only [applyD, hrt, hk]; simp [del_none hth]; done) | (simp only [applyD, hrt, hk]; simp; done) | (simp only [applyD, hrt]; simp; done)
  have S10 := Sat.ah0 (DocsP (ptr b)) S9 q2
  exact ⟨I0, le0, (congrArg (Value.int .i64) (by first | (simp only [applyE, hrt, hk2]; simp; done) | (simp only [applyE, thereD, hrt, hk, hth]; simp; done) | (simp only [applyE, hrt, hk]; simp; done) | (simp only [applyE, hrt]; simp; done))), S10.dr1⟩
  have hth : (lkD K e.name).isSome = true := by simpa using h3
  refine g8 ?_
  obtain ⟨ar3, ck3, hm3, hK3⟩ := S2.md 2 rfl
  refine EL_delD U9 U153 rfl rfl hm3 hK3 (by first | assumption | omega | (simp; omega)) ?_
  intro w4 ar4 ck4 hm4 hK4 G1
  have S11 : Sat w4 I0 (Blk b0 29 (entRC e v0 v1 v2) :: Blk b 155 [.map (some m)] :: Md Tryz.prog 9 m (delD K e.name) :: R) := S2.mdW 2 rfl G1 hm4 hK4
  refine g9 ?_
  refine f1 Tryz.results117 ?_
  have S12 : Sat _ _ (DocsP (ptr b) (delD K e.name) :: _) := DocsP.cls S11.fr2.fr2
  have q3 : delD K e.name = applyD K e := by first | (simp only [applyD, hrt, hk1, hk2]; simp; done) | (simp only [applyD, hrt, hk]; simp [del_none hth]; done) | (simp only [applyD, hrt, hk]; simp; done) | (simp only [applyD, hrt]; simp; done)
  have S13 := Sat.ah0 (DocsP (ptr b)) S12 q3
  exact ⟨I0, le0, (congrArg (Value.int .i64) (by first | (simp only [applyE, hrt, hk2]; simp; done) | (simp only [applyE, thereD, hrt, hk, hth]; simp; done) | (simp only [applyE, hrt, hk]; simp; done) | (simp only [applyE, hrt]; simp; done))), S13.dr1⟩
  have hk2 : ¬ e.kind = 2 := h2
  refine g9 ?_
  refine f1 Tryz.results117 ?_
  have S14 : Sat _ _ (DocsP (ptr b) K :: _) := DocsP.cls S2.fr2.fr2
  have q4 : K = applyD K e := by first | (simp only [applyD, hrt, hk1, hk2]; simp; done) | (simp only [applyD, hrt, hk]; simp [del_none hth]; done) | (simp only [applyD, hrt, hk]; simp; done) | (simp only [applyD, hrt]; simp; done)
  have S15 := Sat.ah0 (DocsP (ptr b)) S14 q4
  exact ⟨I0, le0, (congrArg (Value.int .i64) (by first | (simp only [applyE, hrt, hk2]; simp; done) | (simp only [applyE, thereD, hrt, hk, hth]; simp; done) | (simp only [applyE, hrt, hk]; simp; done) | (simp only [applyE, hrt]; simp; done))), S15.dr1⟩

theorem DNew_c (I : Gh) (R : List HP) (w : World) (S : Sat w I (R)) : Ret Tryz.prog 102 [] w fun v w' => ∃ q : Value, q = v ∧ Sat w' I (DocsP q ([] : List Doc) :: R) := by
  refine ret_E Tryz.func102 rfl Tryz.ntmps102 (by simp) ?_
  refine g7 ?_
  refine EL_map rfl ?_
  intro b0 w0 k0 A0 B0
  have S0 : Sat w0 I (Md Tryz.prog 9 b0 ([] : List Doc) :: R) := S.newD B0 A0 mdAt_nil k0
  refine vl _ rfl (gB [.map (some b0)] st_155 (parts1 rfl) (fill_one rfl rfl rfl fill_end)) ?_
  refine EL_box [.map (some b0)] rfl rfl rfl ?_
  intro b1 w1 k1 A1 B1 z0
  have S1 := S0.newB B1 A1 k1
  refine g4 ?_
  refine f1 Tryz.results102 ?_
  have S2 : Sat w1 I (DocsP (ptr b1) ([] : List Doc) :: R) := DocsP.cls S1
  exact ⟨(ptr b1), rfl, S2⟩

theorem MClone_c (m : Nat) (K : List Doc) (I : Gh) (R : List HP) (w : World) (S : Sat w I (Md Tryz.prog 9 m K :: R)) : Ret Tryz.prog 125 [.map (some m)] w fun v w' => ∃ m2 : Nat, .map (some m2) = v ∧ Sat w' I (Md Tryz.prog 9 m2 K :: Md Tryz.prog 9 m K :: R) := by
  refine ret_E Tryz.func125 rfl Tryz.ntmps125 (by simp) ?_
  refine g9 ?_
  refine vl (.bool false) rfl (r_eqmapnil (p := (some m)) rfl rfl U153) ?_
  refine g8 ?_
  refine vl _ rfl (r_iface rfl U153 rfl) ?_
  obtain ⟨ar0, ck0, hm0, hK0⟩ := S.md 0 rfl
  refine EL_cloneD Tryz.func177 (by kernel_rfl) rfl (by kernel_rfl) (by kernel_rfl) rfl rfl hm0 hK0 ?_
  intro b0 w0 k0 A0 B0
  have S0 : Sat w0 I (Md Tryz.prog 9 b0 K :: Md Tryz.prog 9 m K :: R) := S.newD B0 A0 hK0 k0
  refine vl (.map (some b0)) rfl (r_assertM rfl U153) ?_
  refine g4 ?_
  refine f1 Tryz.results125 ?_
  exact ⟨b0, rfl, S0⟩

theorem DClone_c (q : Value) (K : List Doc) (I : Gh) (R : List HP) (w : World) (S : Sat w I (DocsP q K :: R)) : Ret Tryz.prog 79 [q] w fun v w' => ∃ q2 : Value, q2 = v ∧ Sat w' I (DocsP q2 K :: DocsP q K :: R) := by
  obtain ⟨b, m, rfl, S0⟩ := DocsP.opn S
  refine ret_E Tryz.func79 rfl Tryz.ntmps79 (by simp) ?_
  refine g11 ?_
  refine yR (MClone_c _ _ _ _ _ S0.fr1) ?_
  rintro _ w0 ⟨m0, rfl, S1⟩
  refine vl _ rfl (gB [.map (some m0)] st_155 (parts1 rfl) (fill_one rfl rfl rfl fill_end)) ?_
  refine EL_box [.map (some m0)] rfl rfl rfl ?_
  intro b0 w1 k0 A0 B0 z0
  have S2 := S1.newB B0 A0 k0
  refine g4 ?_
  refine f1 Tryz.results79 ?_
  have S3 : Sat _ _ (DocsP (ptr b0) K :: _) := DocsP.cls S2
  have S4 : Sat _ _ (DocsP (ptr b) K :: _) := DocsP.cls S3.fr1.fr2
  exact ⟨(ptr b0), rfl, S4.fr1⟩

end Go.Proofs.YtanpinfhlbbjkaaGreat
