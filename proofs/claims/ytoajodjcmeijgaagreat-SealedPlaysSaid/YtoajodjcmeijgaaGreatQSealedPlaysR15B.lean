import Derived.Test.YtoajodjcmeijgaaGreatQSealedPlaysSealLaw
import Derived.Test.YtoajodjcmeijgaaGreatQSealedPlaysR9B
import Derived.Test.YtoajodjcmeijgaaGreatQSealedPlaysRefS
import Derived.Test.YtoajodjcmeijgaaGreatQSealedPlaysStr
set_option linter.unusedVariables false
set_option linter.unusedSimpArgs false
namespace Go.Proofs.YtoajodjcmeijgaaGreat
open Go.RowKit Go.Ecal

theorem rSealOk_c (p : Value) (L : List Thing) (v0 : Value) (k : List UInt8) (v1 : Value) (n : List UInt8) (v2 : Value) (o : List UInt8) (v3 : Value) (x : List UInt8) (I : Gh) (R : List HP) (w : World) (S : Sat w I (RefT p L :: R)) (Q0 : RoB I v0 k) (Q1 : RoB I v1 n) (Q2 : RoB I v2 o) (Q3 : RoB I v3 x) (hl : L.length ≤ 1000000) (hk : k.length ≤ 1000000000) (hn : n.length ≤ 1000000000) (ho : o.length ≤ 1000000000) (hx : x.length ≤ 800000000) (hz : szOk k n = true) : Ret Tryz.prog 21 [p, v0, v1, v2, v3] w fun v w' => ∃ v4 : Value, ∃ J : Gh, Gh.le I J ∧ .tuple #[v4, .int .i64 0] = v ∧ Sat w' J (OwnB v4 (boxOf ((L.length : Int) + 1) x.length) :: RefT p (L ++ [tBox k n o x]) :: R) :=
  (rSeal_c p L v0 k v1 n v2 o v3 x I R w S Q0 Q1 Q2 Q3 hl hk hn ho hx).mono fun v w' h => by
    obtain ⟨v4, J, le, e, S⟩ := h
    rw [show sealB L k n x = boxOf ((L.length : Int) + 1) x.length from by simp [sealB, hz], show sealL L k n o x = L ++ [tBox k n o x] from by simp [sealL, hz]] at S
    exact ⟨v4, J, le, by rw [← e]; simp [sealE, hz], S⟩

theorem rOpenOk_c (p : Value) (L : List Thing) (v0 : Value) (k : List UInt8) (v1 : Value) (n : List UInt8) (v2 : Value) (o : List UInt8) (v3 : Value) (x : List UInt8) (y : List UInt8) (I : Gh) (R : List HP) (w : World) (S : Sat w I (RefT p L :: R)) (Q0 : RoB I v0 k) (Q1 : RoB I v1 n) (Q2 : RoB I v2 o) (Q3 : RoB I v3 x) (hl : L.length ≤ 1000000) (hk : k.length ≤ 1000000000) (hn : n.length ≤ 1000000000) (ho : o.length ≤ 1000000000) (hx : x.length ≤ 800000000) (hT : ∀ t ∈ L, t.text.length ≤ 800000000) (hz : szOk k n = true) (hy : openOf L k n o x = some y) : Ret Tryz.prog 52 [p, v0, v1, v2, v3] w fun v w' => ∃ v4 : Value, ∃ J : Gh, Gh.le I J ∧ .tuple #[v4, .int .i64 0] = v ∧ RoB J v4 y ∧ Sat w' J (RefT p L :: R) :=
  (rOpen_c p L v0 k v1 n v2 o v3 x I R w S Q0 Q1 Q2 Q3 hl hk hn ho hx hT).mono fun v w' h => by
    obtain ⟨v4, J, le, e, H, S⟩ := h
    rw [show openB L k n o x = y from by simp [openB, hz, hy]] at H
    exact ⟨v4, J, le, by rw [← e]; simp [openE, hz, hy], H, S⟩

theorem rOpenNo_c (p : Value) (L : List Thing) (v0 : Value) (k : List UInt8) (v1 : Value) (n : List UInt8) (v2 : Value) (o : List UInt8) (v3 : Value) (x : List UInt8) (I : Gh) (R : List HP) (w : World) (S : Sat w I (RefT p L :: R)) (Q0 : RoB I v0 k) (Q1 : RoB I v1 n) (Q2 : RoB I v2 o) (Q3 : RoB I v3 x) (hl : L.length ≤ 1000000) (hk : k.length ≤ 1000000000) (hn : n.length ≤ 1000000000) (ho : o.length ≤ 1000000000) (hx : x.length ≤ 800000000) (hT : ∀ t ∈ L, t.text.length ≤ 800000000) (hz : szOk k n = true) (hy : openOf L k n o x = none) : Ret Tryz.prog 52 [p, v0, v1, v2, v3] w fun v w' => ∃ v4 : Value, ∃ J : Gh, Gh.le I J ∧ .tuple #[v4, .int .i64 20] = v ∧ RoB J v4 [] ∧ Sat w' J (RefT p L :: R) :=
  (rOpen_c p L v0 k v1 n v2 o v3 x I R w S Q0 Q1 Q2 Q3 hl hk hn ho hx hT).mono fun v w' h => by
    obtain ⟨v4, J, le, e, H, S⟩ := h
    rw [show openB L k n o x = [] from by simp [openB, hz, hy]] at H
    exact ⟨v4, J, le, by rw [← e]; simp [openE, hz, hy], H, S⟩

set_option maxRecDepth 100000 in
set_option maxHeartbeats 4000000 in
theorem Derived14_c (p : Value) (L : List Thing) (v0 : Value) (s : List UInt8) (use : List UInt8) (n : Int) (I : Gh) (R : List HP) (w : World) (S : Sat w I (RefT p L :: R)) (Q0 : RoB I v0 s) (hl : L.length ≤ 1000000) (hP : Plain L) (hu : use.length ≤ 100) (hn : 0 ≤ n ∧ n ≤ 1099511627776) : Ret Tryz.prog 78 [p, v0, .string (str use), .int .i64 n] w fun v w' => ∃ v1 : Value, ∃ J : Gh, Gh.le I J ∧ v1 = v ∧ Sat w' J (OwnB v1 (keyFor L s use n) :: RefT p (onceL (derT s use n) L) :: R) := by
  have lq0 := RoB.le Q0 S.le
  refine ret_E Tryz.func78 rfl Tryz.ntmps78 (by simp) ?_
  refine EC_seq (EC_reg (vA (.slice none 0 0) rfl rfl (EL_nil (thn_n (EC_seq ?_)))))
  refine EC_reg (vM p rfl rfl (vM v0 rfl rfl (vM (.string (str use)) rfl rfl ?_)))
  refine EL_bytesS (l := use) rfl rfl U9 U22 U5 (by first | omega | (simp; omega)) ?_
  intro v11 w12 B13 V14
  have R15 := S.newS B13 V14
  refine vM (.int .i64 n) rfl rfl ?_
  refine eR rfl F57 rfl (Num8_c n I _ _ R15 (by first | assumption | omega | (simp; done) | (simp; omega))) ?_
  rintro _ w16 ⟨v18, rfl, S17⟩
  have hl19 := be6_len n
  refine EL_appS (v := v11) (xs := use) (ys := (be6 n)) 1 elB rfl rfl rfl S17 rfl (own_row (S17.own 0 rfl)) (by first | omega | (simp; omega)) ?_
  rintro v20 w21 ⟨I25, le26, S27, H28⟩
  have S29 := S27.fr1
  refine eR rfl F79 rfl (rCode_c p L v0 s v20 (use ++ (be6 n)) I25 _ _ S29 (Q0.up le26) H28 (by first | assumption | omega | (simp; done) | (simp; omega)) (by first | assumption | omega | (simp; done) | (simp; omega))) ?_
  rintro _ w30 ⟨v32, I33, le34, rfl, S31⟩
  refine vA v32 rfl rfl (EL_nil (thn_n (EC_ret ?_)))
  refine fin1 Tryz.results78 (show _ = v32 from rfl) ⟨_, rfl, ?_⟩
  have S35 := S31.dr2
  exact ⟨v32, I33, (lT le26 le34), rfl, S35⟩

set_option maxRecDepth 100000 in
set_option maxHeartbeats 4000000 in
theorem Mark15_c (p : Value) (L : List Thing) (v0 : Value) (s : List UInt8) (coll : Int) (who : Int) (v1 : Value) (b : List UInt8) (I : Gh) (R : List HP) (w : World) (S : Sat w I (RefT p L :: R)) (Q0 : RoB I v0 s) (Q1 : RoB I v1 b) (hl : L.length ≤ 900000) (hP : Plain L) (hw : rightW who = true) (hc : 0 ≤ coll ∧ coll ≤ 1099511627776) (hb : b.length ≤ 4096) : Ret Tryz.prog 41 [p, v0, .int .i64 coll, .int .i64 who, v1] w fun v w' => ∃ v2 : Value, ∃ J : Gh, Gh.le I J ∧ v2 = v ∧ Sat w' J (OwnB v2 (markB L s coll who b) :: RefT p (markL L s coll who b) :: R) := by
  have lq0 := RoB.le Q0 S.le
  have lq1 := RoB.le Q1 S.le
  refine ret_E Tryz.func41 rfl Tryz.ntmps41 (by simp) ?_
  refine EC_seq (EC_reg (vA (.slice none 0 0) rfl rfl (EL_nil (thn_n (EC_seq ?_)))))
  refine EC_reg (vM p rfl rfl (vM v0 rfl rfl (vM (.int .i64 who) rfl rfl ?_)))
  refine eR rfl F78 rfl (Derived14_c p L v0 s uWriter who I _ _ S Q0 (by omega) (by first | assumption | omega | (simp; done) | (simp; omega)) (by decide) (by have := rightW_iff.1 hw; omega)) ?_
  rintro _ w11 ⟨v13, I14, le15, rfl, S12⟩
  refine vA v13 rfl rfl (EL_nil (thn_n (EC_seq (EC_reg (vM p rfl rfl ?_)))))
  refine vM v13 rfl rfl (vM (.int .i64 coll) rfl rfl ?_)
  refine eR rfl F57 rfl (Num8_c coll I14 _ _ S12 (by first | assumption | omega | (simp; done) | (simp; omega))) ?_
  rintro _ w16 ⟨v18, rfl, S17⟩
  have hl19 := be6_len coll
  refine vM v1 rfl rfl ?_
  refine eR rfl F40 rfl (Text8_c v1 b I14 _ _ S17 (Q1.up le15) (by omega)) ?_
  rintro _ w20 ⟨v22, rfl, S21⟩
  have hl23 : (be2 (b.length : Int)).length = 2 := rfl
  refine EL_append (v := v18) (xs := (be6 coll).map byt) (ys := (be2 (b.length : Int) ++ b).map byt) 0 elB rfl rfl rfl (own_len (S21.own 1 rfl)) (own_row (S21.own 0 rfl)) (byt_one _) (by first | (simp only [List.length_map, List.length_nil, List.length_append]; omega) | (simp; done) | (simp; omega)) (by decide) (Nat.zero_le _) ?_
  intro v24 w25 O26 G27 A28
  have S29 := S21.gb1 G27 (own_app O26) A28
  obtain ⟨I30, le31, S32, H33⟩ := S29.fb2
  obtain ⟨I34, le35, S36, H37⟩ := S32.fb1
  have S38 := S36.fr1
  refine eR rfl F79 rfl (rCode_c p (onceL (derT s uWriter who) L) v13 (keyFor L s uWriter who) v24 ((be6 coll) ++ (be2 (b.length : Int) ++ b)) I34 _ _ S38 (H33.up le35) H37 (Nat.le_trans (onceL_len _ _) (by omega)) (hP.onceL (fun _ => ⟨rfl, rfl⟩))) ?_
  rintro _ w39 ⟨v41, I42, le43, rfl, S40⟩
  have hmr := mark_ref (L := L) (s := s) (c := coll) (w := who) (b := b) hw hc hb
  have q45 : signOf 77 (onceN (tCode (keyFor L s uWriter who) ((be6 coll) ++ (be2 (b.length : Int) ++ b))) (onceL (derT s uWriter who) L)) = markB L s coll who b := hmr.1.symm
  have S44 := S40.ab0 q45
  have q47 : onceL (tCode (keyFor L s uWriter who) ((be6 coll) ++ (be2 (b.length : Int) ++ b))) (onceL (derT s uWriter who) L) = markL L s coll who b := hmr.2.symm
  have S46 := Sat.ah1 (RefT p) S44 q47
  refine vA v41 rfl rfl (EL_nil (thn_n (EC_ret ?_)))
  refine fin1 Tryz.results41 (show _ = v41 from rfl) ⟨_, rfl, ?_⟩
  have S48 := S46.dr2
  exact ⟨v41, I42, (lT (lT (lT le15 le31) le35) le43), rfl, S48⟩

set_option maxRecDepth 100000 in
set_option maxHeartbeats 4000000 in
theorem Strip13_c (v0 : Value) (l : List UInt8) (I : Gh) (R : List HP) (w : World) (S : Sat w I (R)) (Q0 : RoB I v0 l) (hl : l.length ≤ 1000000000) : Ret Tryz.prog 53 [v0] w fun v w' => ∃ u : Value, ∃ J : Gh, Gh.le I J ∧ .tuple #[u, .bool (decide (stripE l = 0))] = v ∧ RoB J u (stripB l) ∧ Sat w' J (R) := by
  have lq0 := RoB.le Q0 S.le
  refine ret_E Tryz.func53 rfl Tryz.ntmps53 (by simp) ?_
  refine EC_seq (EC_reg (vA (.slice none 0 0) rfl rfl (vA (.bool false) rfl rfl (EL_nil (thn_n ?_)))))
  refine EC_seq (EC_seq (EC_reg (vM v0 rfl rfl (vl (.int .i64 (l.length : Int)) rfl (lenB (r_len rfl (Q0 _ S.le) U22)) (vl (.bool (decide ((l.length : Int) < 64))) rfl (r_lss rfl rfl) ?_)))))
  refine EL_nil (thn_n ?_)
  refine EC_if (p := (l.length : Int) < 64) rfl (fun h11 => ?_) (fun h11 => ?_)
  refine EC_seq (EC_reg (vA (.slice none 0 0) rfl rfl (vA (.bool false) rfl rfl (EL_nil (thn_n ?_)))))
  refine EC_ret (thn_r ?_)
  refine fin2 Tryz.results53 (show _ = .slice none 0 0 from rfl) (show _ = .bool false from rfl) ⟨_, rfl, ?_⟩
  have hno : bstrip l = none := strip_short (by omega)
  exact ⟨(.slice none 0 0), I, (Gh.le_refl _), (by rw [(strip13_f hno).2]), (rob_as Ro.nil (strip13_f hno).1.symm), S⟩
  refine EC_skip (thn_n (EC_seq ?_))
  refine EC_quietB (by kernel_rfl) (by kernel_rfl) ?_
  refine qM v0 rfl rfl (EQ_val (.pointer (some (at_ v0 ((0 : Int).toNat)))) rfl (fun _ hw => r_index rfl ((Q0 _ S.le).below hw) rfl (by omega) (by first | omega | (simp; omega) | simp) U22 (by kernel_rfl)) ?_)
  obtain ⟨b12, hb13⟩ := get_some (l := l) (j := (0 : Int).toNat) (by first | omega | (simp; omega) | simp)
  have hb14 := b12.toNat_lt
  refine EQ_val (.int .u8 (b12.toNat : Int)) rfl (fun _ hw => r_load rfl (((Q0 _ S.le).below hw).cell (bs_get hb13)) U5 rfl) (EQ_val (.int .i64 (b12.toNat : Int)) rfl (fun _ hw => r_convi 5 3 rfl U5 U3 (by omega)) ?_)
  refine EQ_int ((b12.toNat : Int) * 256) rfl (fun _ hw => r_muli rfl rfl (by omega)) ?_
  intro x15 hx15
  refine qM v0 rfl rfl (EQ_val (.pointer (some (at_ v0 ((1 : Int).toNat)))) rfl (fun _ hw => r_index rfl ((Q0 _ S.le).below hw) rfl (by omega) (by first | omega | (simp; omega) | simp) U22 (by kernel_rfl)) ?_)
  obtain ⟨b16, hb17⟩ := get_some (l := l) (j := (1 : Int).toNat) (by first | omega | (simp; omega) | simp)
  have hb18 := b16.toNat_lt
  refine EQ_val (.int .u8 (b16.toNat : Int)) rfl (fun _ hw => r_load rfl (((Q0 _ S.le).below hw).cell (bs_get hb17)) U5 rfl) (EQ_val (.int .i64 (b16.toNat : Int)) rfl (fun _ hw => r_convi 5 3 rfl U5 U3 (by omega)) ?_)
  refine EQ_int (x15 + (b16.toNat : Int)) rfl (fun _ hw => r_addi rfl rfl (by omega)) ?_
  intro x19 hx19
  refine qA (.int .i64 x19) rfl rfl ?_
  refine EQ_nil ?_
  intro w20 B21
  have S22 := S.below B21
  refine thn_n (EC_seq (EC_seq ?_))
  have hn : x19 = bnum l := by rw [bnum_eq hb13 hb17]; omega
  rcases Decidable.em ((l.length : Int) < x19 + 2) with hq | hq
  have hno : bstrip l = none := rstrip_big hn (.inl hq)
  refine EC_reg (vM (.int .i64 x19) rfl rfl ?_)
  refine EL_int (x19 + 2) rfl (r_addi rfl rfl (by omega)) ?_
  intro x23 hx23
  refine vM v0 rfl rfl (vl (.int .i64 (l.length : Int)) rfl (lenB (r_len rfl (Q0 _ S22.le) U22)) (vl (.bool true) rfl (r_dec (show (decide ((l.length : Int) < x23)) = true from by simp; omega) (r_gtr rfl rfl)) (vM (.bool true) rfl rfl (EL_pass 24 rfl rfl rfl rfl rfl (EL_pass 24 rfl rfl rfl rfl rfl ?_)))))
  refine EL_pass 24 rfl rfl rfl rfl rfl (vT (.bool true) rfl rfl rfl (EL_nil (thn_n ?_)))
  refine EC_cond_true rfl ?_
  refine EC_seq (EC_reg (vA (.slice none 0 0) rfl rfl (vA (.bool false) rfl rfl (EL_nil (thn_n ?_)))))
  refine EC_ret (thn_r ?_)
  refine fin2 Tryz.results53 (show _ = .slice none 0 0 from rfl) (show _ = .bool false from rfl) ⟨_, rfl, ?_⟩
  exact ⟨(.slice none 0 0), I, (Gh.le_refl _), (by rw [(strip13_f hno).2]), (rob_as Ro.nil (strip13_f hno).1.symm), S22⟩
  refine EC_reg (vM (.int .i64 x19) rfl rfl ?_)
  refine EL_int (x19 + 2) rfl (r_addi rfl rfl (by omega)) ?_
  intro x24 hx24
  refine vM v0 rfl rfl (vl (.int .i64 (l.length : Int)) rfl (lenB (r_len rfl (Q0 _ S22.le) U22)) (vl (.bool false) rfl (r_dec (show (decide ((l.length : Int) < x24)) = false from by simp; omega) (r_gtr rfl rfl)) (vM (.bool false) rfl rfl (gM  24 rfl rfl rfl rfl (.int .i64 x19) rfl rfl ?_))))
  refine eG 24 rfl rfl rfl rfl rfl F39 rfl (Size13_c x19 I _ _ S22 (by omega)) ?_
  rintro _ w25 ⟨rfl, S26⟩
  refine gl  24 rfl rfl rfl rfl (.bool (decide ((bsize x19) = 0))) rfl (r_eql rfl rfl) (vF (.bool (decide ((bsize x19) = 0))) rfl rfl rfl (EL_nil (thn_n ?_)))
  refine EC_if (p := (bsize x19) = 0) rfl (fun h27 => ?_) (fun h27 => ?_)
  have hno : bstrip l = none := rstrip_big hn (.inr (by simpa using h27))
  refine EC_seq (EC_reg (vA (.slice none 0 0) rfl rfl (vA (.bool false) rfl rfl (EL_nil (thn_n ?_)))))
  refine EC_ret (thn_r ?_)
  refine fin2 Tryz.results53 (show _ = .slice none 0 0 from rfl) (show _ = .bool false from rfl) ⟨_, rfl, ?_⟩
  exact ⟨(.slice none 0 0), I, (Gh.le_refl _), (by rw [(strip13_f hno).2]), (rob_as Ro.nil (strip13_f hno).1.symm), S26⟩
  have hbz : ¬ bsize (bnum l : Int) = 0 := by rw [← hn]; simpa using h27
  have hb9 := bsize_ne hbz
  have h64 : 64 ≤ l.length := by omega
  have hbi := bstrip_is h64 (by omega) hbz
  refine EC_skip (thn_n (EC_seq (EC_reg (vM v0 rfl rfl (vM (.int .i64 x19) rfl rfl ?_)))))
  refine EL_int (2 + x19) rfl (r_addi rfl rfl (by omega)) ?_
  intro x28 hx28
  refine vl (cutV v0 2 ((x28 : Int).toNat)) rfl (r_slice rfl (Q0 _ S26.le) U22 (by kernel_rfl) 2 ((x28 : Int).toNat) (by first | omega | (simp; omega) | simp) (by first | omega | (simp; omega) | simp) (.inr ⟨_, _, rfl, rfl⟩) (.inr ⟨_, _, rfl, (show _ = Value.int .i64 ((x28 : Int).toNat : Int) from by rw [Int.toNat_of_nonneg (by omega)]; exact rfl)⟩)) ?_
  have H29 : RoB I (cutV v0 2 ((x28 : Int).toNat)) ((l.take ((x28 : Int).toNat)).drop 2) := rob_as (RoB.cut Q0 2 ((x28 : Int).toNat) (by first | omega | (simp; omega) | simp) (by first | omega | (simp; omega) | simp)) (by simp)
  have L30 : ((l.take ((x28 : Int).toNat)).drop 2).length = ((x28 : Int).toNat) - 2 := by first | (simp; done) | (simp; omega)
  refine vA (cutV v0 2 ((x28 : Int).toNat)) rfl rfl (EL_nil (thn_n (EC_seq (EC_seq ?_))))
  have H31 : RoB I (cutV v0 2 ((x28 : Int).toNat)) ((l.drop 2).take (bnum l)) := rob_as H29 (by rw [List.drop_take, show (x28 : Int).toNat - 2 = bnum l by omega])
  have hcl : ((l.drop 2).take (bnum l)).length = bnum l := by simp; omega
  skip
  refine EC_any 1 (fun w' => Gh.le I (gh w')) (fun w' => True) (by kernel_rfl) ?_
  intro w32 B33
  have S34 := S26.below B33
  refine jT 0 rfl (by kernel_rfl) (cutV v0 2 ((x28 : Int).toNat)) rfl (fun _ hw ht => r_move rfl) ⟨S34.le, fun h => trivial⟩ ?_
  refine jF 3 rfl (by kernel_rfl) v0 rfl (fun _ hw => r_move rfl) ⟨S34.le, fun h => trivial⟩ ?_
  refine jF 4 rfl (by kernel_rfl) (.string (str l)) rfl (fun _ hw => r_str rfl (Q0 _ hw) U22 U5 U9) ⟨S34.le, fun h => trivial⟩ ?_
  refine EJ_one 1 (by kernel_rfl) ⟨_, rfl, ?_⟩
  refine eR rfl F42 rfl (Pad13_c (cutV v0 2 ((x28 : Int).toNat)) ((l.drop 2).take (bnum l)) I _ _ S34 H31 (by omega)) ?_
  rintro _ w35 ⟨v37, rfl, S36⟩
  refine EL_nil ?_
  refine ⟨rfl, ⟨S36.le, fun h => by cases h⟩, ?_⟩
  obtain ⟨I38, le39, S40, H41⟩ := S36.fb0
  refine EJ_strong (fun w' => Gh.le I38 (gh w')) _ (fun w' hw => lT le39 hw) (fun w' _ ht => ht) ?_
  refine jF 2 rfl (by kernel_rfl) (.string (str (bpad ((l.drop 2).take (bnum l))))) rfl (fun _ hw => r_str rfl (H41 _ hw) U22 U5 U9) ⟨S40.le, fun h => by cases h⟩ ?_
  refine jF 5 rfl (by kernel_rfl) (.bool (decide ((bpad ((l.drop 2).take (bnum l))) ≠ l))) rfl (fun _ hw => r_neqs rfl rfl) ⟨S40.le, fun h => by cases h⟩ ?_
  refine EJ_done (by kernel_rfl) ?_
  refine thn_n ?_
  refine EC_if (p := (bpad ((l.drop 2).take (bnum l))) ≠ l) rfl (fun h42 => ?_) (fun h42 => ?_)
  have hno : bstrip l = none := hbi.2 h42
  refine EC_seq (EC_reg (vA (.slice none 0 0) rfl rfl (vA (.bool false) rfl rfl (EL_nil (thn_n ?_)))))
  refine EC_ret (thn_r ?_)
  refine fin2 Tryz.results53 (show _ = .slice none 0 0 from rfl) (show _ = .bool false from rfl) ⟨_, rfl, ?_⟩
  exact ⟨(.slice none 0 0), I38, le39, (by rw [(strip13_f hno).2]), (rob_as Ro.nil (strip13_f hno).1.symm), S40⟩
  have hys : bstrip l = some _ := hbi.1 (Decidable.not_not.1 h42)
  refine EC_skip (thn_n (EC_seq (EC_reg (vM (cutV v0 2 ((x28 : Int).toNat)) rfl rfl (vA (cutV v0 2 ((x28 : Int).toNat)) rfl rfl ?_)))))
  refine vA (.bool true) rfl rfl (EL_nil (thn_n (EC_ret ?_)))
  refine fin2 Tryz.results53 (show _ = (cutV v0 2 ((x28 : Int).toNat)) from rfl) (show _ = .bool true from rfl) ⟨_, rfl, ?_⟩
  exact ⟨(cutV v0 2 ((x28 : Int).toNat)), I38, le39, (by rw [(strip13_t hys).2]), (rob_as (H31.up le39) (strip13_t hys).1.symm), S40⟩

end Go.Proofs.YtoajodjcmeijgaaGreat
