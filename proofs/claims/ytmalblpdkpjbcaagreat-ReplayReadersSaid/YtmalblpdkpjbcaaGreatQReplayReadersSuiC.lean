import Derived.Test.YtmalblpdkpjbcaaGreatQReplayReadersSigns
import Derived.Test.YtmalblpdkpjbcaaGreatQReplayReadersSuiB
set_option linter.unusedVariables false
set_option linter.unusedSimpArgs false
set_option maxRecDepth 100000
set_option maxHeartbeats 4000000
namespace Go.Proofs.YtmalblpdkpjbcaaGreat
open Go.RowKit Go.Ecal

theorem SealOk_c (p : Value) (L : List Thing) (v0 : Value) (k : List UInt8) (v1 : Value) (n : List UInt8) (v2 : Value) (o : List UInt8) (v3 : Value) (x : List UInt8) (I : Gh) (R : List HP) (w : World) (S : Sat w I (Suite p L :: R)) (Q0 : RoB I v0 k) (Q1 : RoB I v1 n) (Q2 : RoB I v2 o) (Q3 : RoB I v3 x) (hl : L.length ≤ 1000000) (hk : k.length ≤ 1000000000) (hn : n.length ≤ 1000000000) (ho : o.length ≤ 1000000000) (hx : x.length ≤ 800000000) (hz : szOk k n = true) : Ret Tryz.prog 83 [p, v0, v1, v2, v3] w fun v w' => ∃ v4 : Value, .tuple #[v4, .int .i64 0] = v ∧ Sat w' I (OwnB v4 (boxOf ((L.length : Int) + 1) x.length) :: Suite p (L ++ [tBox k n o x]) :: R) :=
  (Seal_c p L v0 k v1 n v2 o v3 x I R w S Q0 Q1 Q2 Q3 hl hk hn ho hx).mono fun v w' h => by
    obtain ⟨v4, e, S⟩ := h
    rw [show sealB L k n x = boxOf ((L.length : Int) + 1) x.length from by simp [sealB, hz], show sealL L k n o x = L ++ [tBox k n o x] from by simp [sealL, hz]] at S
    exact ⟨v4, by rw [← e]; simp [sealE, hz], S⟩

theorem OpenOk_c (p : Value) (L : List Thing) (v0 : Value) (k : List UInt8) (v1 : Value) (n : List UInt8) (v2 : Value) (o : List UInt8) (v3 : Value) (x : List UInt8) (y : List UInt8) (I : Gh) (R : List HP) (w : World) (S : Sat w I (Suite p L :: R)) (Q0 : RoB I v0 k) (Q1 : RoB I v1 n) (Q2 : RoB I v2 o) (Q3 : RoB I v3 x) (hl : L.length ≤ 1000000) (hk : k.length ≤ 1000000000) (hn : n.length ≤ 1000000000) (ho : o.length ≤ 1000000000) (hx : x.length ≤ 800000000) (hT : ∀ t ∈ L, t.text.length ≤ 800000000) (hz : szOk k n = true) (hy : openOf L k n o x = some y) : Ret Tryz.prog 134 [p, v0, v1, v2, v3] w fun v w' => ∃ v4 : Value, ∃ J : Gh, Gh.le I J ∧ .tuple #[v4, .int .i64 0] = v ∧ RoB J v4 y ∧ Sat w' J (Suite p L :: R) :=
  (Open_c p L v0 k v1 n v2 o v3 x I R w S Q0 Q1 Q2 Q3 hl hk hn ho hx hT).mono fun v w' h => by
    obtain ⟨v4, J, le, e, H, S⟩ := h
    rw [show openB L k n o x = y from by simp [openB, hz, hy]] at H
    exact ⟨v4, J, le, by rw [← e]; simp [openE, hz, hy], H, S⟩

theorem OpenNo_c (p : Value) (L : List Thing) (v0 : Value) (k : List UInt8) (v1 : Value) (n : List UInt8) (v2 : Value) (o : List UInt8) (v3 : Value) (x : List UInt8) (I : Gh) (R : List HP) (w : World) (S : Sat w I (Suite p L :: R)) (Q0 : RoB I v0 k) (Q1 : RoB I v1 n) (Q2 : RoB I v2 o) (Q3 : RoB I v3 x) (hl : L.length ≤ 1000000) (hk : k.length ≤ 1000000000) (hn : n.length ≤ 1000000000) (ho : o.length ≤ 1000000000) (hx : x.length ≤ 800000000) (hT : ∀ t ∈ L, t.text.length ≤ 800000000) (hz : szOk k n = true) (hy : openOf L k n o x = none) : Ret Tryz.prog 134 [p, v0, v1, v2, v3] w fun v w' => ∃ v4 : Value, ∃ J : Gh, Gh.le I J ∧ .tuple #[v4, .int .i64 20] = v ∧ RoB J v4 [] ∧ Sat w' J (Suite p L :: R) :=
  (Open_c p L v0 k v1 n v2 o v3 x I R w S Q0 Q1 Q2 Q3 hl hk hn ho hx hT).mono fun v w' h => by
    obtain ⟨v4, J, le, e, H, S⟩ := h
    rw [show openB L k n o x = [] from by simp [openB, hz, hy]] at H
    exact ⟨v4, J, le, by rw [← e]; simp [openE, hz, hy], H, S⟩

end Go.Proofs.YtmalblpdkpjbcaaGreat
