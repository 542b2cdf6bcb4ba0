import Derived.Test.YtmalblpdkpjbcaaGreatQReplayReadersRpB
import Derived.Test.YtmalblpdkpjbcaaGreatQReplayReadersLaw16
set_option linter.unusedVariables false
set_option linter.unusedSimpArgs false
set_option maxRecDepth 100000
set_option maxHeartbeats 4000000
namespace Go.Proofs.YtmalblpdkpjbcaaGreat
open Go.RowKit Go.Ecal

theorem putL_c (wr : Int) (sq : Int) (nt : List UInt8) (vt : List UInt8) (I : Gh) (R : List HP) (w : World) (S : Sat w I (R)) (hw : -9223372036854775808 ≤ wr ∧ wr ≤ 9223372036854775807) (hq : -9223372036854775808 ≤ sq ∧ sq ≤ 9223372036854775807) (hn : nt.length ≤ 100000) (hv : vt.length ≤ 100000) : Ret Tryz.prog 16 [.int .i64 wr, .int .i64 sq, .string (str nt), .string (str vt)] w fun v w' => ∃ cr : List Value, ∃ J : Gh, Gh.le I J ∧ .agg cr.toArray = v ∧ entR.r J cr (putEn wr sq nt vt) ∧ Sat w' J (R) := by
  refine ret_E Tryz.func16 rfl Tryz.ntmps16 (by simp) ?_
  refine g2 ?_
  refine yN entR0 S ?_
  intro b0 w0 S0
  refine g7 ?_
  refine EL_bytes (l := nt) rfl rfl U9 U30 U5 (by first | omega | (simp; omega)) ?_
  intro v0 w1 B0 V0 R0 V21l
  obtain ⟨I0, le0, S1, H0⟩ := S0.newR B0 V0 R0 V21l
  refine g1 ?_
  refine EL_bytes (l := vt) rfl rfl U9 U30 U5 (by first | omega | (simp; omega)) ?_
  intro v1 w2 B1 V1 R1 V30l
  obtain ⟨I1, le1, S2, H1⟩ := S1.newR B1 V1 R1 V30l
  refine vl _ rfl (gB [.int .i64 1, .int .i64 wr, .int .i64 sq, v0, v1, .int .i64 0, .int .i64 0, .int .i64 0, .slice none 0 0] st_37 (parts5 rfl rfl rfl rfl rfl) (fill_one rfl rfl rfl (fill_one rfl rfl rfl (fill_one rfl rfl rfl (fill_one rfl (row_cells (H0 _ (lT le1 S2.le))) rfl (fill_one rfl (row_cells (H1 _ S2.le)) rfl fill_end)))))) ?_
  refine yW0 S2 ?_ (h1 := ones_cons rfl (ones_cons rfl (ones_cons rfl (ones_cons (row_one (H0 _ (lT le1 S2.le))) (ones_cons (row_one (H1 _ S2.le)) (ones_cons rfl (ones_cons rfl (ones_cons rfl (ones_cons rfl ones_nil)))))))))
  intro w3 S3
  refine g3 ?_
  refine f1c Tryz.results16 ?_
  have q0 : (putEn wr sq nt vt) = (⟨1, wr, sq, nt, vt, 0, 0, 0, []⟩ : Entry) := rfl
  have S4 := S3.dr0
  exact ⟨_, I1, (lT le0 le1), rfl, (by rw [q0]; exact ⟨v0, v1, (.slice none 0 0), rfl, (by dsimp only; omega), ad, ad, ⟨(row_one (H0 _ (lT le1 S4.le))), (H0.up le1)⟩, ⟨(row_one (H1 _ S4.le)), H1⟩, (by dsimp only; omega), (by dsimp only; omega), (by dsimp only; omega), ⟨rfl, RoX.nil⟩⟩), S4⟩

theorem sealed_c (p : Value) (L : List Thing) (v0 : Value) (s : List UInt8) (v1 : Value) (k : List UInt8) (coll : Int) (ep : Int) (cnt : Int) (ce : List Value) (e : Entry) (I : Gh) (R : List HP) (w : World) (S : Sat w I (Suite p L :: R)) (Q0 : RoB I v0 s) (Q1 : RoB I v1 k) (he : entR.r I ce e) (hl : L.length ≤ 800000) (hs : s.length ≤ 100000) (hc : -9223372036854775808 ≤ coll ∧ coll ≤ 9223372036854775807) (hep : -9223372036854775808 ≤ ep ∧ ep ≤ 9223372036854775807) (hcn : -9223372036854775808 ≤ cnt ∧ cnt ≤ 9223372036854775807) : Ret Tryz.prog 14 [p, v0, v1, .int .i64 coll, .int .i64 ep, .int .i64 cnt, .agg ce.toArray] w fun v w' => ∃ v2 : Value, ∃ J : Gh, Gh.le I J ∧ v2 = v ∧ Sat w' J (OwnB v2 ((sealRR L s k (⟨ coll, ep, e.writer, cnt, []⟩ : Record) e).encB) :: Suite p (sealRL L s k (⟨ coll, ep, e.writer, cnt, []⟩ : Record) e) :: R) := by
  have lq0 := RoB.le Q0 S.le
  have lq1 := RoB.le Q1 S.le
  obtain ⟨v3, v4, v5, rfl, r0, r1, r2, ⟨o0, H0⟩, ⟨o1, H1⟩, r3, r4, r5, ⟨o2, H2⟩⟩ := he
  refine ret_E Tryz.func14 rfl Tryz.ntmps14 (by simp) ?_
  refine g2 ?_
  refine yB (cs := entRC e v3 v4 v5) S ?_
  intro b0 w0 S0
  refine g13 ?_
  refine vl _ rfl (gB [.int .i64 coll, .int .i64 ep, .int .i64 e.writer, .int .i64 cnt, .slice none 0 0] st_116 (parts4 rfl rfl rfl rfl) (fill_one rfl rfl rfl (fill_one rfl rfl rfl (fill_one rfl rfl rfl (fill_one rfl rfl rfl fill_end))))) ?_
  refine g1 ?_
  refine yR (RSeal_c _ _ _ _ _ _ [.int .i64 coll, .int .i64 ep, .int .i64 e.writer, .int .i64 cnt, .slice none 0 0] (⟨coll, ep, e.writer, cnt, []⟩ : Record) (entRC e v3 v4 v5) e _ _ _ S0.fr1 Q0 Q1 ⟨(.slice none 0 0), rfl, ad, ad, ad, ad, ⟨rfl, Ro.nil⟩⟩ ⟨v3, v4, v5, rfl, ad, ad, ad, ⟨o0, H0⟩, ⟨o1, H1⟩, ad, ad, ad, ⟨o2, H2⟩⟩ au au) ?_
  rintro _ w1 ⟨cs0, I0, le0, rfl, h0, S1⟩
  obtain ⟨v6, rfl, r6, r7, r8, r9, ⟨o3, H3⟩⟩ := h0
  refine g3 ?_
  refine yN recR0 S1 ?_
  intro b1 w2 S2
  refine yW0 S2 ?_ (h1 := ones_cons rfl (ones_cons rfl (ones_cons rfl (ones_cons rfl (ones_cons o3 ones_nil)))))
  intro w3 S3
  refine g6 ?_
  refine yR (REnc_c (recRC (sealRR L s k (⟨coll, ep, e.writer, cnt, []⟩ : Record) e) v6) (sealRR L s k (⟨coll, ep, e.writer, cnt, []⟩ : Record) e) _ _ _ S3 ⟨v6, rfl, ad, ad, ad, ad, ⟨o3, H3⟩⟩) ?_
  rintro _ w4 ⟨v7, I1, le1, rfl, S4⟩
  refine g14 ?_
  refine f1 Tryz.results14 ?_
  exact ⟨v7, I1, (lT le0 le1), rfl, S4.dr1.dr2⟩

theorem members_c (ca : List Value) (a : Pol) (cb : List Value) (b : Pol) (I : Gh) (R : List HP) (w : World) (S : Sat w I (R)) (ha : polR.r I ca a) (hb : polR.r I cb b) : Ret Tryz.prog 17 [.agg ca.toArray, .agg cb.toArray] w fun v w' => .bool (membS a b) = v ∧ Sat w' I (R) := by
  obtain ⟨v0, rfl, r0, r1, ⟨o0, H0⟩⟩ := ha
  obtain ⟨v1, rfl, r2, r3, ⟨o1, H1⟩⟩ := hb
  refine ret_E Tryz.func17 rfl Tryz.ntmps17 (by simp) ?_
  refine g2 ?_
  refine yB (cs := polRC a v0) S ?_
  intro b0 w0 S0
  refine yB (cs := polRC b v1) S0 ?_
  intro b1 w1 S1
  refine g10 ?_
  refine EC_loop (fun m' E' w' => ∃ n : Int, m' = (17 - n).toNat ∧ E' 5 = .int .i64 n ∧ E' 2 = ptr b0 ∧ E' 3 = ptr b1 ∧ (1 ≤ n ∧ n ≤ 17) ∧ (∀ m, 1 ≤ m → m < n → rightsOf a.mem m = rightsOf b.mem m) ∧ Sat w' I (Blk b1 46 (polRC b v1) :: Blk b0 46 (polRC a v0) :: R)) _ ⟨1, rfl, rfl, rfl, rfl, by omega, (fun m h1 h2 => by omega), S1⟩ ?_
  rintro _ E0 w2 ⟨n, rfl, e0, e1, e2, hn, hall, S2⟩
  refine g7 ?_
  refine EC_if rfl (fun h0 => ?_) (fun h0 => ?_)
  refine g5 ?_
  refine yJ 5 (fun w' => Arr w' b0 46 (polRC a v0) ∧ Arr w' b1 46 (polRC b v1)) S2 ?_
  intro w3 S3
  refine yT 0 S3.le ⟨S3.a1, S3.a0⟩ ?_
  refine yT 1 S3.le ⟨S3.a1, S3.a0⟩ ?_
  refine yT 3 S3.le ⟨S3.a1, S3.a0⟩ ?_
  refine yT 4 S3.le ⟨S3.a1, S3.a0⟩ ?_
  refine y1 2 ?_
  refine yR (PRights_c (polRC a v0) a n _ _ _ S3 ⟨v0, rfl, ad, ad, ⟨o0, H0⟩⟩) ?_
  rintro _ w4 ⟨rfl, S4⟩
  refine yn S4.le ⟨S4.a1, S4.a0⟩ ?_
  refine y1 5 ?_
  refine yR (PRights_c (polRC b v1) b n _ _ _ S4 ⟨v1, rfl, ad, ad, ⟨o1, H1⟩⟩) ?_
  rintro _ w5 ⟨rfl, S5⟩
  refine ym S5.le ?_
  refine yf 6 S5.le ?_
  refine yd ?_
  refine g1 ?_
  refine EC_if rfl (fun h3 => ?_) (fun h3 => ?_)
  have hmn : ¬ rightsOf a.mem n = rightsOf b.mem n := h3
  refine g11 ?_
  refine f1 Tryz.results17 ?_
  exact ⟨(congrArg Value.bool (memb_no (by omega) (by omega) hmn)), S5.dr0.dr0⟩
  have hmn : rightsOf a.mem n = rightsOf b.mem n := Classical.byContradiction h3
  refine g5 ?_
  refine EL_int (n + 1) rfl (r_addi rfl rfl (by omega)) ?_
  intro x0 hx52
  refine g3 ?_
  refine ⟨_, ?_, x0, rfl, rfl, (by exact e1), (by exact e2), by omega, (fun m h1 h2 => (Int.lt_or_le m n).elim (fun h => hall m h1 h) (fun h => by rw [show m = n by omega]; exact hmn)), S5⟩
  first | omega | (simp; omega)
  refine g23 ?_
  refine f1 Tryz.results17 ?_
  exact ⟨(congrArg Value.bool (memb_yes (fun m h1 h2 => hall m h1 (by omega)))), S2.dr0.dr0⟩

theorem DGet_c (q : Value) (K : List Doc) (v0 : Value) (n : List UInt8) (I : Gh) (R : List HP) (w : World) (S : Sat w I (DocsP q K :: R)) (Q0 : RoB I v0 n) (hn : n.length ≤ 1000000) (hK : ∀ d ∈ K, d.2.length ≤ 1000000) : Ret Tryz.prog 41 [q, v0] w fun v w' => ∃ v1 : Value, ∃ J : Gh, Gh.le I J ∧ .tuple #[v1, .bool ((lkD K n).isSome)] = v ∧ RoB J v1 ((lkD K n).getD []) ∧ Sat w' J (DocsP q K :: R) := by
  have lq0 := RoB.le Q0 S.le
  obtain ⟨b, m, rfl, S0⟩ := DocsP.opn S
  have hlk := lkD_len (n := n) hK
  refine ret_E Tryz.func41 rfl Tryz.ntmps41 (by simp) ?_
  refine g7 ?_
  refine EC_quietB (by kernel_rfl) (by kernel_rfl) ?_
  refine g5 ?_
  refine EQ_val (.string (str n)) rfl (fun _ hw => r_str rfl ((Q0 _ S0.le).below hw) U30 U5 U9) ?_
  obtain ⟨ar0, ck0, hm0, hK0⟩ := S0.md 1 rfl
  refine EQ_val (.tuple #[.string (str ((lkD K n).getD [])), .bool ((lkD K n).isSome)]) rfl (fun _ hw => (r_lookD2 U9 U124 (by kernel_rfl) rfl rfl (map_below hm0 hw) hK0 (by first | assumption | omega | (simp; omega))).1) ?_
  refine g5 ?_
  refine yE S0 ?_
  intro w0 S1
  refine g4 ?_
  refine EL_bytes (l := (lkD K n).getD []) rfl rfl U9 U30 U5 (by first | omega | (simp; omega)) ?_
  intro v2 w1 B0 V0 R0 V21l
  obtain ⟨I0, le0, S2, H0⟩ := S1.newR B0 V0 R0 V21l
  refine g6 ?_
  refine f2 Tryz.results41 ?_
  have S3 : Sat w1 I0 (DocsP (ptr b) K :: R) := DocsP.cls S2
  exact ⟨v2, I0, le0, rfl, H0, S3⟩

theorem RpChain_c (q : Value) (p : Value) (s : Rpl) (I : Gh) (R : List HP) (w : World) (S : Sat w I (RplP q p s :: R)) : Ret Tryz.prog 21 [q] w fun v w' => ∃ b : Nat, ∃ sv : Value, ∃ cv : Value, ∃ vm : Value, ∃ dv : Value, ∃ rv : Value, cv = v ∧ (q = ptr b) ∧ (s.ok) ∧ (cv.oneCell' = true) ∧ (dv.oneCell' = true) ∧ (rv.oneCell' = true) ∧ RoB I sv s.sec ∧ RoX I vm memR s.pol.mem ∧ Sat w' I (Blk b 115 (rplC s p sv cv vm dv rv) :: ChainP cv p s.ch :: DocsP dv s.docs :: RingP rv s.ks :: R) := by
  obtain ⟨b, sv, cv, vm, dv, rv, rfl, hok, hc1, hd1, hr1, Hs, Hm, S0⟩ := RplP.opn S
  have hks := hok.ks.2
  have hnum := hok.num
  have lsv := RoB.le Hs S0.le
  have lvm := XRow.le (Hm.row S0.le)
  refine ret_E Tryz.func21 rfl Tryz.ntmps21 (by simp) ?_
  refine g15 ?_
  refine f1 Tryz.results21 ?_
  exact ⟨b, sv, cv, vm, dv, rv, rfl, rfl, hok, hc1, hd1, hr1, Hs, Hm, S0⟩

end Go.Proofs.YtmalblpdkpjbcaaGreat
