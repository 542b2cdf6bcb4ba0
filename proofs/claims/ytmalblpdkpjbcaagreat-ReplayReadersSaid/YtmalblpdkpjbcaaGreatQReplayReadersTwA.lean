import Derived.Test.YtmalblpdkpjbcaaGreatQReplayReadersAnc
import Derived.Test.YtmalblpdkpjbcaaGreatQReplayReadersReaders
set_option linter.unusedVariables false
set_option linter.unusedSimpArgs false
set_option maxRecDepth 100000
set_option maxHeartbeats 4000000
namespace Go.Proofs.YtmalblpdkpjbcaaGreat
open Go.RowKit Go.Ecal

theorem RdBoth_c (ce : List Value) (e : Entry) (sq : Int) (bs : Nat) (bk : Nat) (ba : Nat) (bb : Nat) (p : Value) (kv : Value) (qa : Value) (qb : Value) (k : List UInt8) (L : List Thing) (m : Nat) (s : Rpl) (t : Rpl) (I : Gh) (R : List HP) (w : World) (S : Sat w I (Blk bs 24 [p] :: Blk bk 30 [kv] :: Blk ba 26 [qa] :: Blk bb 26 [qb] :: Suite p L :: RplP qa p s :: RplP qb p t :: R)) (Q0 : RoB I kv k) (he : entR.r I ce e) (hg : Good L k m s) (ht : t = s.twin) (hP : Plain ({ e with writer := 1, seq := sq } : Entry) m) (hm : m ≤ 50) (hsq : sq = (m : Int) + 1) : Ret Tryz.prog 13 [.agg ce.toArray, .int .i64 sq, ptr bs, ptr bk, ptr ba, ptr bb] w fun v w' => ∃ L2 : List Thing, ∃ s2 : Rpl, ∃ t2 : Rpl, ∃ J : Gh, Gh.le I J ∧ .bool true = v ∧ (Good L2 k (m + 1) s2) ∧ (t2 = s2.twin) ∧ Sat w' J (Blk bs 24 [p] :: Blk bk 30 [kv] :: Blk ba 26 [qa] :: Blk bb 26 [qb] :: Suite p L2 :: RplP qa p s2 :: RplP qb p t2 :: R) := by
  have lq0 := RoB.le Q0 S.le
  have hb := hg.both ht hP hm
  have hs := hg.side ht hP hm
  have hlg := hg.len
  obtain ⟨v0, v1, v2, rfl, r0, r1, r2, ⟨o0, H0⟩, ⟨o1, H1⟩, r3, r4, r5, ⟨o2, H2⟩⟩ := he
  refine ret_E Tryz.func13 rfl Tryz.ntmps13 (by simp) ?_
  refine g2 ?_
  refine yB (cs := entRC e v0 v1 v2) S ?_
  intro b0 w0 S0
  refine g7 ?_
  refine yS0 S0 ?_
  intro w1 S1
  refine g1 ?_
  refine yS0 S1 ?_
  intro w2 S2
  refine g8 ?_
  refine yR (sealed_c _ _ (.slice none 0 0) ([] : List UInt8) _ _ 1 0 sq (((entRC e v0 v1 v2).set 1 (.int .i64 1)).set 2 (.int .i64 sq)) (⟨e.kind, 1, sq, e.name, e.value, e.who, e.rights, e.epoch, e.wraps⟩ : Entry) _ _ _ S2.fr5 Ro.nil Q0 ⟨v0, v1, v2, rfl, ad, (by dsimp only; omega), ad, ⟨o0, H0⟩, ⟨o1, H1⟩, ad, ad, ad, ⟨o2, H2⟩⟩ au au au au au) ?_
  rintro _ w3 ⟨v3, I0, le0, rfl, S3⟩
  have q0 : sealRL L ([] : List UInt8) k (⟨ 1, 0, (⟨e.kind, 1, sq, e.name, e.value, e.who, e.rights, e.epoch, e.wraps⟩ : Entry).writer, sq, []⟩ : Record) (⟨e.kind, 1, sq, e.name, e.value, e.who, e.rights, e.epoch, e.wraps⟩ : Entry) = recL L k ({ e with writer := 1, seq := sq } : Entry) := rfl
  have S4 := Sat.ah1 (Suite p) S3 q0
  have q1 : (sealRR L ([] : List UInt8) k (⟨ 1, 0, (⟨e.kind, 1, sq, e.name, e.value, e.who, e.rights, e.epoch, e.wraps⟩ : Entry).writer, sq, []⟩ : Record) (⟨e.kind, 1, sq, e.name, e.value, e.who, e.rights, e.epoch, e.wraps⟩ : Entry)).encB = recB L k ({ e with writer := 1, seq := sq } : Entry) := rfl
  have S5 := S4.ab0 q1
  refine g7 ?_
  obtain ⟨I1, le1, S6, H3⟩ := S5.fb0
  refine yR (RpCom_c _ _ _ _ _ _ _ _ _ S6.fr6 H3 (Nat.le_trans hs.l1 (by decide)) hs.t1 hs.s1 hs.d1 hs.bl) ?_
  rintro _ w4 ⟨I2, le2, rfl, S7⟩
  refine g11 ?_
  refine yR (RpCom_c _ _ _ _ _ _ _ _ _ S7.fr1.fr7 (H3.up le2) (Nat.le_trans hs.l2 (by decide)) hs.t2 hs.s2 hs.d2 hs.bl) ?_
  rintro _ w5 ⟨I3, le3, rfl, S8⟩
  refine g10 ?_
  refine vl _ rfl (dcT (r_eql rfl rfl) (by simp [hb.1.2.1])) ?_
  refine g2 ?_
  refine gl 36 rfl rfl rfl rfl _ rfl (dcT (r_eql rfl rfl) (by simp [hb.1.2.2.2])) ?_
  refine g5 ?_
  refine f1 Tryz.results13 ?_
  exact ⟨((t.comS (s.comS (recL L k ({ e with writer := 1, seq := sq } : Entry)) (recB L k ({ e with writer := 1, seq := sq } : Entry))).1 (recB L k ({ e with writer := 1, seq := sq } : Entry))).1), ((s.comS (recL L k ({ e with writer := 1, seq := sq } : Entry)) (recB L k ({ e with writer := 1, seq := sq } : Entry))).2), ((t.comS (s.comS (recL L k ({ e with writer := 1, seq := sq } : Entry)) (recB L k ({ e with writer := 1, seq := sq } : Entry))).1 (recB L k ({ e with writer := 1, seq := sq } : Entry))).2), I3, (lT (lT (lT le0 le1) le2) le3), rfl, hb.2.1, hb.2.2, S8.dr3.fr2.fr2.fr6.fr6.fr6.fr6⟩

end Go.Proofs.YtmalblpdkpjbcaaGreat
