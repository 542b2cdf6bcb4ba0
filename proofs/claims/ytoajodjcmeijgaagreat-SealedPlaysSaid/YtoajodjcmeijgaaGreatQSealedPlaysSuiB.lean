import Derived.Test.YtoajodjcmeijgaaGreatQSealedPlaysSigns
import Derived.Test.YtoajodjcmeijgaaGreatQSealedPlaysSuiA
set_option linter.unusedVariables false
set_option linter.unusedSimpArgs false
namespace Go.Proofs.YtoajodjcmeijgaaGreat
open Go.RowKit Go.Ecal

set_option maxRecDepth 100000 in
set_option maxHeartbeats 4000000 in
theorem add_c (b : Nat) (lv : Value) (mb : Nat) (L : List Thing) (t : Thing) (I : Gh) (R : List HP) (w : World) (S : Sat w I (Blk b 70 (sCells lv mb) :: Own 76 5 lv L.length (things L).flatten :: R)) (hl : L.length ≤ 1000000) : Ret Tryz.prog 27 [ptr b, Thing.val t] w fun v w' => ∃ lv' : Value, .int .i64 ((L.length : Int) + 1) = v ∧ Sat w' I (Blk b 70 (sCells lv' mb) :: Own 76 5 lv' ((L ++ [t]).length) (things (L ++ [t])).flatten :: R) := by
  refine ret_E Tryz.func27 rfl Tryz.ntmps27 (by simp) ?_
  refine EC_seq (EC_reg ?_)
  refine EL_box t.cells rfl rfl rfl ?_
  intro b11 w12 k13 A14 B15 z16
  have S17 := S.newB B15 A14 k13
  refine vA (.int .i64 0) rfl rfl (EL_nil (thn_n (EC_seq ?_)))
  refine EC_any 10 (fun w' => Gh.le I (gh w')) (fun w' => Arr w' b 70 (sCells lv mb) ∧ Arr w' b11 76 t.cells) (by kernel_rfl) ?_
  intro w18 B19
  have S20 := S17.below B19
  refine jT 0 rfl (by kernel_rfl) (ptr b) rfl (fun _ hw ht => r_move rfl) ⟨S20.le, fun h => ⟨S20.arr 1 rfl, S20.arr 0 rfl⟩⟩ ?_
  refine jT 1 rfl (by kernel_rfl) (ptr b) rfl (fun _ hw ht => r_move rfl) ⟨S20.le, fun h => ⟨S20.arr 1 rfl, S20.arr 0 rfl⟩⟩ ?_
  refine jT 2 rfl (by kernel_rfl) (ptr b) rfl (fun _ hw ht => r_nil rfl) ⟨S20.le, fun h => ⟨S20.arr 1 rfl, S20.arr 0 rfl⟩⟩ ?_
  refine jT 3 rfl (by kernel_rfl) (ptr b 3) rfl (fun _ hw ht => fP 0 rfl U70 (by kernel_rfl)) ⟨S20.le, fun h => ⟨S20.arr 1 rfl, S20.arr 0 rfl⟩⟩ ?_
  refine jT 4 rfl (by kernel_rfl) lv rfl (fun _ hw ht => r_loadA rfl ht.1 (u := lv) rfl U68 rfl) ⟨S20.le, fun h => ⟨S20.arr 1 rfl, S20.arr 0 rfl⟩⟩ ?_
  refine jT 5 rfl (by kernel_rfl) (.agg (t.cells).toArray) rfl (fun _ hw ht => r_loadAll rfl ht.2 U76 rfl (by kernel_rfl)) ⟨S20.le, fun h => ⟨S20.arr 1 rfl, S20.arr 0 rfl⟩⟩ ?_
  refine EJ_one 6 (by kernel_rfl) ⟨_, rfl, ?_⟩
  refine EL_litW (z := #[.int .u8 0, .string (str ([] : List UInt8)), .string (str ([] : List UInt8)), .string (str ([] : List UInt8)), .string (str ([] : List UInt8))]) (cs := (t.cells).toArray) (sz := 5) (l := [(0, .agg (t.cells).toArray)]) rfl U68 (by kernel_rfl) (parts1 rfl) (by kernel_rfl) rfl (by decide) ?_
  intro v21 w22 O23 B24 k25
  have S27 : Sat w22 I (Own 76 5 v21 1 [t.cells].flatten :: Blk b11 76 t.cells :: Blk b 70 (sCells lv mb) :: Own 76 5 lv L.length (things L).flatten :: R) := S20.newO B24 (by simpa using O23)
  refine EL_nil ?_
  refine ⟨rfl, ⟨S27.le, fun h => ⟨S27.arr 2 rfl, S27.arr 1 rfl⟩⟩, ?_⟩
  refine EJ_one 7 (by kernel_rfl) ⟨_, rfl, ?_⟩
  refine EL_appW (z := #[.int .u8 0, .string (str ([] : List UInt8)), .string (str ([] : List UInt8)), .string (str ([] : List UInt8)), .string (str ([] : List UInt8))]) (bytes := 72) 0 rfl U68 (by kernel_rfl) rfl (by decide) rfl rfl (S27.own 3 rfl) (S27.own 0 rfl) (by decide) (by simpa using cells_one t) (by first | omega | (simp; omega)) (by first | omega | (simp; omega)) (Nat.zero_le _) ?_
  intro v28 w29 O30 G31 A32
  have O30' := own_thing O30
  have S33 := S27.gr3 G31 O30' A32
  refine EL_nil ?_
  refine ⟨rfl, ⟨S33.le, fun h => ⟨S33.arr 2 rfl, S33.arr 1 rfl⟩⟩, ?_⟩
  refine jT 8 rfl (by kernel_rfl) (ptr b) rfl (fun _ hw ht => r_nil rfl) ⟨S33.le, fun h => ⟨S33.arr 2 rfl, S33.arr 1 rfl⟩⟩ ?_
  refine jT 9 rfl (by kernel_rfl) (ptr b 3) rfl (fun _ hw ht => fP 0 rfl U70 (by kernel_rfl)) ⟨S33.le, fun h => ⟨S33.arr 2 rfl, S33.arr 1 rfl⟩⟩ ?_
  refine EJ_one 10 (by kernel_rfl) ⟨_, rfl, ?_⟩
  refine EL_storeA (j := 3) (u := v28) rfl rfl (S33.arr 2 rfl) (by first | decide | (simp; omega) | simp) (own_one (S33.own 3 rfl)) (by kernel_rfl) ?_
  intro w34 A35 K36 z37
  have S38 := S33.wr2 (ds := [.bool false, .slice none 0 0, .int .i64 0, v28, .map (some mb)]) K36 A35
  refine EL_nil ?_
  refine ⟨rfl, ⟨S38.le, fun h => by cases h⟩, ?_⟩
  refine EJ_done (by kernel_rfl) ?_
  refine thn_n (EC_seq (EC_reg (vM (ptr b) rfl rfl (vl (ptr b) rfl (r_nil rfl) (vl (ptr b 3) rfl (fP 0 rfl U70 (by kernel_rfl)) ?_)))))
  refine vL v28 rfl rfl (S38.arr 2 rfl) rfl U68 rfl (vl (.int .i64 ((L.length : Int) + 1)) rfl (r_asn (by simp [things_len]) (r_lenW rfl (S38.wrow 3 rfl (things_all _) (by decide)) U68)) (vA (.int .i64 ((L.length : Int) + 1)) rfl rfl (EL_nil (thn_n (EC_ret ?_)))))
  refine fin1 Tryz.results27 (show _ = .int .i64 ((L.length : Int) + 1) from rfl) ⟨_, rfl, ?_⟩
  have S39 := S38.dr0
  have S40 := S39.dr0
  exact ⟨v28, rfl, S40⟩

set_option maxRecDepth 100000 in
set_option maxHeartbeats 4000000 in
theorem once_c (p : Value) (L : List Thing) (t : Thing) (I : Gh) (R : List HP) (w : World) (S : Sat w I (Suite p L :: R)) (hl : L.length ≤ 1000000) (ht : t.ok) (ho : t.once = true) : Ret Tryz.prog 99 [p, Thing.val t] w fun v w' => .int .i64 (onceN t L : Int) = v ∧ Sat w' I (Suite p (onceL t L) :: R) := by
  obtain ⟨b, lv, mb, K, rfl, hL, hK, S⟩ := Suite.opn S
  refine ret_E Tryz.func99 rfl Tryz.ntmps99 (by simp) ?_
  refine EC_seq (EC_reg ?_)
  refine EL_box t.cells rfl rfl rfl ?_
  intro b11 w12 k13 A14 B15 z16
  have S17 := S.newB B15 A14 k13
  refine vA (.int .i64 0) rfl rfl (EL_nil (thn_n (EC_seq ?_)))
  refine EC_quietB (by kernel_rfl) (by kernel_rfl) ?_
  refine qM (ptr b) rfl rfl (EQ_val (ptr b) rfl (fun _ hw => r_nil rfl) (EQ_val (ptr b 4) rfl (fun _ hw => fP 0 rfl U70 (by kernel_rfl)) (EQ_val (.map (some mb)) rfl (fun _ hw => r_loadA rfl ((S17.arr 1 rfl).below hw) (u := (.map (some mb))) rfl U67 rfl) (EQ_val (.agg (t.cells).toArray) rfl (fun _ hw => r_loadAll rfl ((S17.arr 0 rfl).below hw) U76 rfl (by kernel_rfl)) ?_))))
  obtain ⟨ar, ck, hm, he⟩ := S17.map 3 rfl
  refine EQ_val (.tuple #[.int .i64 (lookN t L), .bool (decide (idx t L ≠ none))]) rfl (fun _ hw => r_lookup (kv := t.val) law_thing U67 (by kernel_rfl) rfl rfl (map_below hm hw) he (kv_thing ht) (ent_kv hK hL) (look_no hK ho) (look_yes hK)) (qM (.tuple #[.int .i64 (lookN t L), .bool (decide (idx t L ≠ none))]) rfl rfl (EQ_val (.int .i64 (lookN t L)) rfl (fun _ hw => r_extract rfl rfl) (EQ_val (.bool (decide (idx t L ≠ none))) rfl (fun _ hw => r_extract rfl rfl) (qA (.int .i64 (lookN t L)) rfl rfl (qA (.bool (decide (idx t L ≠ none))) rfl rfl ?_)))))
  refine EQ_nil ?_
  intro w18 B19
  have S20 := S17.below B19
  refine thn_n (EC_seq (EC_seq (EC_reg (vM (.bool (decide (idx t L ≠ none))) rfl rfl (vl (.bool (!(decide (idx t L ≠ none)))) rfl (r_not rfl) ?_)))))
  refine EL_nil (thn_n ?_)
  refine EC_cond (t := !(decide (idx t L ≠ none))) rfl (fun h21 => ?_) (fun h21 => ?_)
  have hn : idx t L = none := by simpa using h21
  refine EC_seq (EC_reg (vM (ptr b) rfl rfl (vl (.agg (t.cells).toArray) rfl (r_loadAll rfl (S20.arr 0 rfl) U76 rfl (by kernel_rfl)) ?_)))
  have S22 := S20.fr2
  have S23 := S22.fr2
  refine eR rfl F27 rfl (add_c b lv mb L t I _ _ S23 (by first | assumption | omega | (simp; done) | (simp; omega))) ?_
  rintro _ w24 ⟨lv'26, rfl, S25⟩
  refine vA (.int .i64 ((L.length : Int) + 1)) rfl rfl (EL_nil (thn_n ?_))
  refine EC_any 6 (fun w' => Gh.le I (gh w')) (fun w' => Arr w' b 70 (sCells lv'26 mb) ∧ Arr w' b11 76 t.cells) (by kernel_rfl) ?_
  intro w27 B28
  have S29 := S25.below B28
  refine jT 0 rfl (by kernel_rfl) (ptr b) rfl (fun _ hw ht => r_move rfl) ⟨S29.le, fun h => ⟨S29.arr 0 rfl, S29.arr 2 rfl⟩⟩ ?_
  refine jT 1 rfl (by kernel_rfl) (ptr b) rfl (fun _ hw ht => r_nil rfl) ⟨S29.le, fun h => ⟨S29.arr 0 rfl, S29.arr 2 rfl⟩⟩ ?_
  refine jT 2 rfl (by kernel_rfl) (ptr b 4) rfl (fun _ hw ht => fP 0 rfl U70 (by kernel_rfl)) ⟨S29.le, fun h => ⟨S29.arr 0 rfl, S29.arr 2 rfl⟩⟩ ?_
  refine jT 3 rfl (by kernel_rfl) (.map (some mb)) rfl (fun _ hw ht => r_loadA rfl ht.1 (u := (.map (some mb))) rfl U67 rfl) ⟨S29.le, fun h => ⟨S29.arr 0 rfl, S29.arr 2 rfl⟩⟩ ?_
  refine jT 4 rfl (by kernel_rfl) (.agg (t.cells).toArray) rfl (fun _ hw ht => r_loadAll rfl ht.2 U76 rfl (by kernel_rfl)) ⟨S29.le, fun h => ⟨S29.arr 0 rfl, S29.arr 2 rfl⟩⟩ ?_
  refine jT 5 rfl (by kernel_rfl) (.int .i64 ((L.length : Int) + 1)) rfl (fun _ hw ht => r_move rfl) ⟨S29.le, fun h => ⟨S29.arr 0 rfl, S29.arr 2 rfl⟩⟩ ?_
  refine EJ_one 6 (by kernel_rfl) ⟨_, rfl, ?_⟩
  obtain ⟨ar2, ck2, hm2, he2⟩ := S29.map 3 rfl
  refine EL_mapNew (kv := t.val) law_thing U67 rfl rfl rfl hm2 he2 (kv_thing ht) (ent_kv hK hL) (ent_no hK hn) ?_
  intro w30 ar3 ck3 hm3 he3 G3
  have S31 : Sat w30 I (Blk b 70 (sCells lv'26 mb) :: Own 76 5 lv'26 ((L ++ [t]).length) (things (L ++ [t])).flatten :: Blk b11 76 t.cells :: Mp mb (entE (K ++ [(t, L.length + 1)])) :: R) := S29.mapW 3 rfl G3 hm3 (he3.trans (ent_app K t (L.length + 1)))
  refine EL_nil ?_
  refine ⟨rfl, ⟨S31.le, fun h => by cases h⟩, ?_⟩
  refine EJ_done (by kernel_rfl) ?_
  refine thn_n (EC_seq (EC_reg (vM (.int .i64 ((L.length : Int) + 1)) rfl rfl (vA (.int .i64 ((L.length : Int) + 1)) rfl rfl (EL_nil ?_)))))
  refine thn_n (EC_ret ?_)
  refine fin1 Tryz.results99 (show _ = .int .i64 ((L.length : Int) + 1) from rfl) ⟨_, rfl, ?_⟩
  have S32 := S31.dr2
  rw [(once_no hn).1, (once_no hn).2]
  exact ⟨rfl, Suite.cls (app_ok hL ht) (hK.new hn) S32⟩
  have hn : idx t L ≠ none := by simpa using h21
  refine EC_skip (thn_n (EC_seq (EC_reg (vM (.int .i64 (lookN t L)) rfl rfl (vA (.int .i64 (lookN t L)) rfl rfl ?_)))))
  refine EL_nil (thn_n (EC_ret ?_))
  refine fin1 Tryz.results99 (show _ = .int .i64 (lookN t L) from rfl) ⟨_, rfl, ?_⟩
  have S33 := S20.dr0
  rw [(once_yes hn).2, ← (once_yes hn).1]
  exact ⟨rfl, Suite.cls hL hK S33⟩

set_option maxRecDepth 100000 in
set_option maxHeartbeats 4000000 in
theorem Signs_c (I : Gh) (R : List HP) (w : World) (S : Sat w I (R)) : Ret Tryz.prog 5 [] w fun v w' => ∃ p : Value, p = v ∧ Sat w' I (Suite p ([] : List Thing) :: R) := by
  refine ret_E Tryz.func5 rfl Tryz.ntmps5 (by simp) ?_
  refine EC_seq (EC_reg (vA (.pointer none) rfl rfl (EL_nil (thn_n (EC_seq ?_)))))
  refine EC_reg ?_
  refine EL_map rfl ?_
  intro b11 w12 k13 A14 B15
  have S16 := S.newM B15 A14 k13
  refine vl (.agg ([.bool false, .slice none 0 0, .int .i64 0, .slice none 0 0, .map (some b11)]).toArray) rfl (r_buildS (l := [(4, .map (some b11))]) st_70 (parts1 rfl) (Eq.trans (show Instr.fill _ _ [(4, .map (some b11))] = _ from (fill_one rfl rfl rfl fill_end)) (by kernel_rfl))) ?_
  refine EL_box [.bool false, .slice none 0 0, .int .i64 0, .slice none 0 0, .map (some b11)] rfl rfl rfl ?_
  intro b17 w18 k19 A20 B21 z22
  have S23 := S16.newB B21 A20 k19
  refine vA (ptr b17) rfl rfl (EL_nil (thn_n (EC_ret ?_)))
  refine fin1 Tryz.results5 (show _ = ptr b17 from rfl) ⟨_, rfl, ?_⟩
  have S25 : Sat w18 I (Own 76 5 (.slice none 0 0) (([] : List Thing).length) (things []).flatten :: Blk b17 70 [.bool false, .slice none 0 0, .int .i64 0, .slice none 0 0, .map (some b11)] :: Mp b11 ([] : List (Value × Value)) :: R) := S23.nil 76 5
  have S26 := S25.fr2
  have S27 := S26.fr1
  have S28 := S27.fr2
  exact ⟨_, rfl, Suite.cls (L := []) (K := []) (fun t h => by cases h) KOf.nil S28⟩

set_option maxRecDepth 100000 in
set_option maxHeartbeats 4000000 in
theorem Count_c (p : Value) (L : List Thing) (I : Gh) (R : List HP) (w : World) (S : Sat w I (Suite p L :: R)) (hl : L.length ≤ 1000000) : Ret Tryz.prog 22 [p] w fun v w' => .int .i64 (L.length : Int) = v ∧ Below w.heap.size w w' := by
  obtain ⟨b, lv, mb, K, rfl, hL, hK, S⟩ := Suite.opn S
  refine ret_E Tryz.func22 rfl Tryz.ntmps22 (by simp) ?_
  refine EC_seq (EC_reg (vA (.int .i64 0) rfl rfl (EL_nil (thn_n (EC_seq ?_)))))
  refine EC_quietB (by kernel_rfl) (by kernel_rfl) ?_
  refine qM (ptr b) rfl rfl (EQ_val (ptr b) rfl (fun _ hw => r_nil rfl) (EQ_val (ptr b 2) rfl (fun _ hw => fP 0 rfl U70 (by kernel_rfl)) (EQ_val (.int .i64 0) rfl (fun _ hw => r_loadA rfl ((S.arr 0 rfl).below hw) (u := (.int .i64 0)) rfl U3 rfl) (qM (ptr b) rfl rfl (EQ_val (ptr b) rfl (fun _ hw => r_nil rfl) ?_)))))
  refine EQ_val (ptr b 3) rfl (fun _ hw => fP 0 rfl U70 (by kernel_rfl)) (EQ_val lv rfl (fun _ hw => r_loadA rfl ((S.arr 0 rfl).below hw) (u := lv) rfl U68 rfl) (EQ_val (.int .i64 (L.length : Int)) rfl (fun _ hw => r_asn (by simp [things_len]) (r_lenW rfl ((S.wrow 1 rfl (things_all _) (by decide)).below (hp_below hw)) U68)) ?_))
  refine EQ_int (0 + (L.length : Int)) rfl (fun _ hw => r_addi rfl rfl (by omega)) ?_
  intro x11 hx11
  refine qA (.int .i64 x11) rfl rfl ?_
  refine EQ_nil ?_
  intro w12 B13
  have S14 := S.below B13
  refine thn_n (EC_ret ?_)
  refine fin1 Tryz.results22 (show _ = .int .i64 x11 from rfl) ⟨_, rfl, ?_⟩
  exact ⟨(by simp [hx11]), B13⟩

set_option maxRecDepth 100000 in
set_option maxHeartbeats 4000000 in
theorem sizes_c (v0 : Value) (k : List UInt8) (v1 : Value) (n : List UInt8) (w : World) (H0 : Bs w v0 k) (H1 : Bs w v1 n) : Ret Tryz.prog 59 [v0, v1] w fun v w' => .bool (decide ((k.length : Int) = 32) && decide ((n.length : Int) = 12)) = v ∧ Below w.heap.size w w' := by
  have S := Sat.start w
  have Q0 := Row.ro H0
  have Q1 := Row.ro H1
  have lq0 := RoB.le Q0 S.le
  have lq1 := RoB.le Q1 S.le
  refine ret_E Tryz.func59 rfl Tryz.ntmps59 (by simp) ?_
  refine EC_seq (EC_reg (vA (.bool false) rfl rfl (EL_nil (thn_n (EC_seq ?_)))))
  refine EC_reg (vM v0 rfl rfl (vl (.int .i64 (k.length : Int)) rfl (lenB (r_len rfl (Q0 _ S.le) U22)) (vl (.bool (decide ((k.length : Int) = 32))) rfl (r_eql rfl rfl) (vM (.bool (decide ((k.length : Int) = 32))) rfl rfl (EL_gite 8 rfl rfl rfl v1 rfl (fun g11 => r_move rfl) ?_)))))
  refine EL_gite 8 rfl rfl rfl (.int .i64 (n.length : Int)) rfl (fun g12 => lenB (r_len (cond_of g12 rfl) (Q1 _ S.le) U22)) (EL_gite 8 rfl rfl rfl (.bool (decide ((n.length : Int) = 12))) rfl (fun g13 => r_eql (cond_of g13 rfl) rfl) (vl (.bool ((decide ((k.length : Int) = 32)) && (decide ((n.length : Int) = 12)))) rfl (r_and rfl rfl rfl) (vA (.bool ((decide ((k.length : Int) = 32)) && (decide ((n.length : Int) = 12)))) rfl rfl (EL_nil (thn_n ?_)))))
  refine EC_ret ?_
  refine fin1 Tryz.results59 (show _ = .bool ((decide ((k.length : Int) = 32)) && (decide ((n.length : Int) = 12))) from rfl) ⟨_, rfl, ?_⟩
  exact ⟨rfl, (Below.refl _ _)⟩

set_option maxRecDepth 100000 in
set_option maxHeartbeats 4000000 in
theorem Code_c (p : Value) (L : List Thing) (v0 : Value) (k : List UInt8) (v1 : Value) (ls : List (List UInt8)) (I : Gh) (R : List HP) (w : World) (S : Sat w I (Suite p L :: R)) (Q0 : RoB I v0 k) (Q1 : RoX I v1 bytesR ls) (hl : L.length ≤ 1000000) (hk : k.length ≤ 1000000000) (hb : ls.flatten.length ≤ 1000000000) : Ret Tryz.prog 74 [p, v0, v1] w fun v w' => ∃ v2 : Value, v2 = v ∧ Sat w' I (OwnB v2 (signOf 77 (onceN (tCode k ls.flatten) L)) :: Suite p (onceL (tCode k ls.flatten) L) :: R) := by
  have lq0 := RoB.le Q0 S.le
  have lq1 := XRow.le (Q1.row S.le)
  obtain ⟨b, lv, mb, K, rfl, hL, hK, S⟩ := Suite.opn S
  refine ret_E Tryz.func74 rfl Tryz.ntmps74 (by simp) ?_
  refine EC_seq (EC_reg (vA (.slice none 0 0) rfl rfl (EL_nil (thn_n (EC_seq ?_)))))
  refine EC_seq (EC_reg (vM (ptr b) rfl rfl (vl (ptr b) rfl (r_nil rfl) (vl (ptr b 0) rfl (fP 0 rfl U70 (by kernel_rfl)) (vL (.bool false) rfl rfl (S.arr 0 rfl) rfl U4 rfl ?_)))))
  refine EL_nil (thn_n ?_)
  refine EC_cond_false rfl ?_
  refine EC_skip (thn_n (EC_seq ?_))
  refine EC_any 7 (fun w' => Gh.le I (gh w')) (fun w' => True) (by kernel_rfl) ?_
  intro w11 B12
  have S13 := S.below B12
  refine jT 0 rfl (by kernel_rfl) (ptr b) rfl (fun _ hw ht => r_move rfl) ⟨S13.le, fun h => trivial⟩ ?_
  refine jT 1 rfl (by kernel_rfl) v0 rfl (fun _ hw ht => r_move rfl) ⟨S13.le, fun h => trivial⟩ ?_
  refine jT 2 rfl (by kernel_rfl) (.string (str k)) rfl (fun _ hw ht => r_str rfl (Q0 _ hw) U22 U5 U9) ⟨S13.le, fun h => trivial⟩ ?_
  refine jT 3 rfl (by kernel_rfl) v1 rfl (fun _ hw ht => r_move rfl) ⟨S13.le, fun h => trivial⟩ ?_
  refine EJ_one 4 (by kernel_rfl) ⟨_, rfl, ?_⟩
  refine eR rfl F100 rfl (joined_c v1 ls I _ _ S13 Q1 (by first | assumption | omega | (simp; done) | (simp; omega))) ?_
  rintro _ w14 ⟨rfl, S15⟩
  refine EL_nil ?_
  refine ⟨rfl, ⟨S15.le, fun h => trivial⟩, ?_⟩
  refine jT 5 rfl (by kernel_rfl) (.agg ([.int .u8 77, .string (str k), .string (str ([] : List UInt8)), .string (str ls.flatten), .string (str ([] : List UInt8))]).toArray) rfl (fun _ hw ht => r_buildS (l := [(0, .int .u8 77), (1, .string (str k)), (3, .string (str ls.flatten))]) st_76 (parts3 rfl rfl rfl) (Eq.trans (show Instr.fill _ _ [(0, .int .u8 77), (1, .string (str k)), (3, .string (str ls.flatten))] = _ from (fill_one rfl rfl rfl (fill_one rfl rfl rfl (fill_one rfl rfl rfl fill_end)))) (by kernel_rfl))) ⟨S15.le, fun h => trivial⟩ ?_
  refine EJ_one 6 (by kernel_rfl) ⟨_, rfl, ?_⟩
  have S16 : Sat w14 I (Suite (ptr b) L :: R) := Suite.cls hL hK S15
  refine eR rfl F99 rfl (once_c (ptr b) L (⟨(77 : UInt8), k, [], ls.flatten, []⟩ : Thing) I _ _ S16 (by first | assumption | omega | (simp; done) | (simp; omega)) (by refine ⟨?_, ?_, ?_, ?_⟩ <;> first | (simp; done) | assumption | (simp; omega)) rfl) ?_
  rintro _ w17 ⟨rfl, S18⟩
  refine EL_nil ?_
  refine ⟨rfl, ⟨S18.le, fun h => trivial⟩, ?_⟩
  refine EJ_one 7 (by kernel_rfl) ⟨_, rfl, ?_⟩
  refine eR rfl F26 rfl (signed_c (77 : UInt8) (onceN (⟨(77 : UInt8), k, [], ls.flatten, []⟩ : Thing) L : Int) I _ _ S18 (by have := onceN_le (⟨(77 : UInt8), k, [], ls.flatten, []⟩ : Thing) L; omega)) ?_
  rintro _ w19 ⟨v21, rfl, S20⟩
  refine EL_nil ?_
  refine ⟨rfl, ⟨S20.le, fun h => by cases h⟩, ?_⟩
  refine jF 8 rfl (by kernel_rfl) v21 rfl (fun _ hw => r_assign rfl) ⟨S20.le, fun h => by cases h⟩ ?_
  refine EJ_done (by kernel_rfl) ?_
  refine thn_n (EC_ret ?_)
  refine fin1 Tryz.results74 (show _ = v21 from rfl) ⟨_, rfl, ?_⟩
  exact ⟨v21, rfl, S20⟩

set_option maxRecDepth 100000 in
set_option maxHeartbeats 4000000 in
theorem Key_c (p : Value) (L : List Thing) (I : Gh) (R : List HP) (w : World) (S : Sat w I (Suite p L :: R)) (hl : L.length ≤ 1000000) : Ret Tryz.prog 6 [p] w fun v w' => ∃ v1 : Value, v1 = v ∧ Sat w' I (OwnB v1 (signOf 75 ((L.length : Int) + 1)) :: Suite p (L ++ [tKey]) :: R) := by
  obtain ⟨b, lv, mb, K, rfl, hL, hK, S⟩ := Suite.opn S
  refine ret_E Tryz.func6 rfl Tryz.ntmps6 (by simp) ?_
  refine EC_seq (EC_reg (vA (.slice none 0 0) rfl rfl (EL_nil (thn_n (EC_seq ?_)))))
  refine EC_seq (EC_reg (vM (ptr b) rfl rfl (vl (ptr b) rfl (r_nil rfl) (vl (ptr b 0) rfl (fP 0 rfl U70 (by kernel_rfl)) (vL (.bool false) rfl rfl (S.arr 0 rfl) rfl U4 rfl ?_)))))
  refine EL_nil (thn_n ?_)
  refine EC_cond_false rfl ?_
  refine EC_skip (thn_n (EC_seq (EC_reg (vM (ptr b) rfl rfl (vl (.agg ([.int .u8 75, .string (str ([] : List UInt8)), .string (str ([] : List UInt8)), .string (str ([] : List UInt8)), .string (str ([] : List UInt8))]).toArray) rfl (r_buildS (l := [(0, .int .u8 75)]) st_76 (parts1 rfl) (Eq.trans (show Instr.fill _ _ [(0, .int .u8 75)] = _ from (fill_one rfl rfl rfl fill_end)) (by kernel_rfl))) ?_)))))
  refine eR rfl F27 rfl (add_c b lv mb L (⟨(75 : UInt8), [], [], [], []⟩ : Thing) I _ _ S (by first | assumption | omega | (simp; done) | (simp; omega))) ?_
  rintro _ w11 ⟨lv'13, rfl, S12⟩
  refine eR rfl F26 rfl (signed_c (75 : UInt8) ((L.length : Int) + 1) I _ _ S12 (by omega)) ?_
  rintro _ w14 ⟨v16, rfl, S15⟩
  refine vA v16 rfl rfl (EL_nil (thn_n (EC_ret ?_)))
  refine fin1 Tryz.results6 (show _ = v16 from rfl) ⟨_, rfl, ?_⟩
  have S17 := S15.fr3
  have S18 := S17.fr3
  have S19 := S18.fr3
  have S20 : Sat w14 I (Suite (ptr b) (L ++ [(⟨(75 : UInt8), [], [], [], []⟩ : Thing)]) :: OwnB v16 (signOf (75 : UInt8) ((L.length : Int) + 1)) :: R) := Suite.cls (app_ok hL (by refine ⟨?_, ?_, ?_, ?_⟩ <;> simp)) (hK.other rfl) S19
  have S21 := S20.fr1
  exact ⟨v16, rfl, S21⟩

set_option maxRecDepth 100000 in
set_option maxHeartbeats 4000000 in
theorem Seal_c (p : Value) (L : List Thing) (v0 : Value) (k : List UInt8) (v1 : Value) (n : List UInt8) (v2 : Value) (o : List UInt8) (v3 : Value) (x : List UInt8) (I : Gh) (R : List HP) (w : World) (S : Sat w I (Suite p L :: R)) (Q0 : RoB I v0 k) (Q1 : RoB I v1 n) (Q2 : RoB I v2 o) (Q3 : RoB I v3 x) (hl : L.length ≤ 1000000) (hk : k.length ≤ 1000000000) (hn : n.length ≤ 1000000000) (ho : o.length ≤ 1000000000) (hx : x.length ≤ 800000000) : Ret Tryz.prog 19 [p, v0, v1, v2, v3] w fun v w' => ∃ v4 : Value, .tuple #[v4, .int .i64 (sealE k n)] = v ∧ Sat w' I (OwnB v4 (sealB L k n x) :: Suite p (sealL L k n o x) :: R) := by
  have lq0 := RoB.le Q0 S.le
  have lq1 := RoB.le Q1 S.le
  have lq2 := RoB.le Q2 S.le
  have lq3 := RoB.le Q3 S.le
  obtain ⟨b, lv, mb, K, rfl, hL, hK, S⟩ := Suite.opn S
  have hx2 : x.length ≤ 1000000000 := by omega
  refine ret_E Tryz.func19 rfl Tryz.ntmps19 (by simp) ?_
  refine EC_seq (EC_reg (vA (.slice none 0 0) rfl rfl (vA (.int .i64 0) rfl rfl (EL_nil (thn_n ?_)))))
  refine EC_seq (EC_block (EC_seq (EC_reg (vM (ptr b) rfl rfl (vl (ptr b) rfl (r_nil rfl) ?_)))))
  refine vl (ptr b 0) rfl (fP 0 rfl U70 (by kernel_rfl)) (vL (.bool false) rfl rfl (S.arr 0 rfl) rfl U4 rfl (vA (.bool false) rfl rfl (EL_nil (thn_n ?_))))
  refine EC_cond_false rfl ?_
  refine EC_seq (EC_reg (vM v0 rfl rfl (vM v1 rfl rfl ?_)))
  refine eR rfl F59 rfl (sizes_c v0 k v1 n _ (Q0 _ S.le) (Q1 _ S.le)) ?_
  rintro _ w12 ⟨rfl, B11⟩
  have S13 := S.below B11
  refine vl (.bool (!(decide ((k.length : Int) = 32) && decide ((n.length : Int) = 12)))) rfl (r_not rfl) (vA (.bool (!(decide ((k.length : Int) = 32) && decide ((n.length : Int) = 12)))) rfl rfl (EL_nil (thn_n ?_)))
  refine EC_cond (t := !(decide ((k.length : Int) = 32) && decide ((n.length : Int) = 12))) rfl (fun h14 => ?_) (fun h14 => ?_)
  have hz : szOk k n = false := (Bool.not_eq_true' _).mp h14
  refine EC_seq (EC_reg (vA (.slice none 0 0) rfl rfl (vA (.int .i64 11) rfl rfl (EL_nil (thn_n ?_)))))
  refine EC_ret (inB_r (thn_r ?_))
  refine fin2 Tryz.results19 (show _ = .slice none 0 0 from rfl) (show _ = .int .i64 11 from rfl) ⟨_, rfl, ?_⟩
  have S15 : Sat w12 I (Suite (ptr b) L :: R) := Suite.cls hL hK S13
  rw [show sealB L k n x = [] from by simp [sealB, hz], show sealL L k n o x = L from by simp [sealL, hz]]
  have S17 : Sat w12 I (OwnB (.slice none 0 0) ([] : List UInt8) :: Suite (ptr b) L :: R) := S15.nil 5 1
  exact ⟨(.slice none 0 0), (by simp [sealE, hz]), S17⟩
  have hz : szOk k n = true := (Bool.not_eq_false' _).mp h14
  refine EC_skip (inB_n (thn_n (EC_seq (EC_reg (vM (ptr b) rfl rfl ?_)))))
  refine vM v0 rfl rfl (vl (.string (str k)) rfl (r_str rfl (Q0 _ S13.le) U22 U5 U9) (vM v1 rfl rfl (vl (.string (str n)) rfl (r_str rfl (Q1 _ S13.le) U22 U5 U9) (vM v3 rfl rfl (vl (.string (str x)) rfl (r_str rfl (Q3 _ S13.le) U22 U5 U9) ?_)))))
  refine vM v2 rfl rfl (vl (.string (str o)) rfl (r_str rfl (Q2 _ S13.le) U22 U5 U9) (vl (.agg ([.int .u8 66, .string (str k), .string (str n), .string (str x), .string (str o)]).toArray) rfl (r_buildS (l := [(0, .int .u8 66), (1, .string (str k)), (2, .string (str n)), (3, .string (str x)), (4, .string (str o))]) st_76 (parts5 rfl rfl rfl rfl rfl) (Eq.trans (show Instr.fill _ _ [(0, .int .u8 66), (1, .string (str k)), (2, .string (str n)), (3, .string (str x)), (4, .string (str o))] = _ from (fill_one rfl rfl rfl (fill_one rfl rfl rfl (fill_one rfl rfl rfl (fill_one rfl rfl rfl (fill_one rfl rfl rfl fill_end)))))) (by kernel_rfl))) ?_))
  refine eR rfl F27 rfl (add_c b lv mb L (⟨(66 : UInt8), k, n, x, o⟩ : Thing) I _ _ S13 (by first | assumption | omega | (simp; done) | (simp; omega))) ?_
  rintro _ w18 ⟨lv'20, rfl, S19⟩
  refine vA (.int .i64 ((L.length : Int) + 1)) rfl rfl (EL_nil (thn_n (EC_seq (EC_reg (vM (.int .i64 ((L.length : Int) + 1)) rfl rfl ?_)))))
  refine vM v3 rfl rfl (vl (.int .i64 (x.length : Int)) rfl (lenB (r_len rfl (Q3 _ S19.le) U22)) ?_)
  refine eR rfl F60 rfl (box_c ((L.length : Int) + 1) (x.length : Int) I _ _ S19 (by first | assumption | omega | (simp; done) | (simp; omega)) (by first | assumption | omega | (simp; done) | (simp; omega))) ?_
  rintro _ w21 ⟨v23, rfl, S22⟩
  refine vA v23 rfl rfl (vA (.int .i64 0) rfl rfl (EL_nil (thn_n (EC_ret ?_))))
  refine fin2 Tryz.results19 (show _ = v23 from rfl) (show _ = .int .i64 0 from rfl) ⟨_, rfl, ?_⟩
  have S24 := S22.fr3
  have S25 := S24.fr3
  have S26 := S25.fr3
  have S27 : Sat w21 I (Suite (ptr b) (L ++ [(⟨(66 : UInt8), k, n, x, o⟩ : Thing)]) :: OwnB v23 (boxOf ((L.length : Int) + 1) (x.length : Int).toNat) :: R) := Suite.cls (app_ok hL (show (tBox k n o x).ok from ⟨by assumption, by assumption, by assumption, by assumption⟩)) (hK.other rfl) S26
  rw [show sealB L k n x = boxOf ((L.length : Int) + 1) x.length from by simp [sealB, hz], show sealL L k n o x = L ++ [tBox k n o x] from by simp [sealL, hz]]
  rw [show ((x.length : Int)).toNat = x.length from by omega] at S27
  have S28 := S27.fr1
  exact ⟨v23, (by simp [sealE, hz]), S28⟩

set_option maxRecDepth 100000 in
set_option maxHeartbeats 4000000 in
theorem Open_c (p : Value) (L : List Thing) (v0 : Value) (k : List UInt8) (v1 : Value) (n : List UInt8) (v2 : Value) (o : List UInt8) (v3 : Value) (x : List UInt8) (I : Gh) (R : List HP) (w : World) (S : Sat w I (Suite p L :: R)) (Q0 : RoB I v0 k) (Q1 : RoB I v1 n) (Q2 : RoB I v2 o) (Q3 : RoB I v3 x) (hl : L.length ≤ 1000000) (hk : k.length ≤ 1000000000) (hn : n.length ≤ 1000000000) (ho : o.length ≤ 1000000000) (hx : x.length ≤ 800000000) (hT : ∀ t ∈ L, t.text.length ≤ 800000000) : Ret Tryz.prog 44 [p, v0, v1, v2, v3] w fun v w' => ∃ v4 : Value, ∃ J : Gh, Gh.le I J ∧ .tuple #[v4, .int .i64 (openE L k n o x)] = v ∧ RoB J v4 (openB L k n o x) ∧ Sat w' J (Suite p L :: R) := by
  have lq0 := RoB.le Q0 S.le
  have lq1 := RoB.le Q1 S.le
  have lq2 := RoB.le Q2 S.le
  have lq3 := RoB.le Q3 S.le
  obtain ⟨b, lv, mb, K, rfl, hL, hK, S⟩ := Suite.opn S
  have hx2 : x.length ≤ 1000000000 := by omega
  refine ret_E Tryz.func44 rfl Tryz.ntmps44 (by simp) ?_
  refine EC_seq (EC_reg (vA (.slice none 0 0) rfl rfl (vA (.int .i64 0) rfl rfl (EL_nil (thn_n ?_)))))
  refine EC_seq (EC_block (EC_seq (EC_reg (vM (ptr b) rfl rfl (vl (ptr b) rfl (r_nil rfl) ?_)))))
  refine vl (ptr b 0) rfl (fP 0 rfl U70 (by kernel_rfl)) (vL (.bool false) rfl rfl (S.arr 0 rfl) rfl U4 rfl (vA (.bool false) rfl rfl (EL_nil (thn_n ?_))))
  refine EC_cond_false rfl ?_
  refine EC_seq (EC_reg (vM v0 rfl rfl (vM v1 rfl rfl ?_)))
  refine eR rfl F59 rfl (sizes_c v0 k v1 n _ (Q0 _ S.le) (Q1 _ S.le)) ?_
  rintro _ w12 ⟨rfl, B11⟩
  have S13 := S.below B11
  refine vl (.bool (!(decide ((k.length : Int) = 32) && decide ((n.length : Int) = 12)))) rfl (r_not rfl) (vA (.bool (!(decide ((k.length : Int) = 32) && decide ((n.length : Int) = 12)))) rfl rfl (EL_nil (thn_n ?_)))
  refine EC_cond (t := !(decide ((k.length : Int) = 32) && decide ((n.length : Int) = 12))) rfl (fun h14 => ?_) (fun h14 => ?_)
  have hz : szOk k n = false := (Bool.not_eq_true' _).mp h14
  refine EC_seq (EC_reg (vA (.slice none 0 0) rfl rfl (vA (.int .i64 11) rfl rfl (EL_nil (thn_n ?_)))))
  refine EC_ret (inB_r (thn_r ?_))
  refine fin2 Tryz.results44 (show _ = .slice none 0 0 from rfl) (show _ = .int .i64 11 from rfl) ⟨_, rfl, ?_⟩
  have S15 : Sat w12 I (Suite (ptr b) L :: R) := Suite.cls hL hK S13
  rw [show openB L k n o x = [] from by simp [openB, hz]]
  exact ⟨(.slice none 0 0), I, (Gh.le_refl _), (by simp [openE, hz]), Ro.nil, S15⟩
  have hz : szOk k n = true := (Bool.not_eq_false' _).mp h14
  refine EC_seq (EC_reg (vM v3 rfl rfl (vl (.int .i64 (x.length : Int)) rfl (lenB (r_len rfl (Q3 _ S13.le) U22)) (vl (.bool (decide ((x.length : Int) < 16))) rfl (r_lss rfl rfl) (vA (.bool (decide ((x.length : Int) < 16))) rfl rfl ?_)))))
  refine EL_nil (thn_n ?_)
  refine EC_if (p := (x.length : Int) < 16) rfl (fun h16 => ?_) (fun h16 => ?_)
  have hz2 := open_short (L := L) (k := k) (n := n) (o := o) (b := x) (by omega)
  refine EC_seq (EC_reg (vA (.slice none 0 0) rfl rfl (vA (.int .i64 20) rfl rfl (EL_nil (thn_n ?_)))))
  refine EC_ret (inB_r (thn_r ?_))
  refine fin2 Tryz.results44 (show _ = .slice none 0 0 from rfl) (show _ = .int .i64 20 from rfl) ⟨_, rfl, ?_⟩
  have S17 : Sat w12 I (Suite (ptr b) L :: R) := Suite.cls hL hK S13
  rw [show openB L k n o x = [] from by simp [openB, hz, hz2]]
  exact ⟨(.slice none 0 0), I, (Gh.le_refl _), (by simp [openE, hz, hz2]), Ro.nil, S17⟩
  have hb16 : ¬ x.length < 16 := by omega
  refine EC_skip (inB_n (thn_n (EC_seq (EC_reg (vA (.int .i64 0) rfl rfl ?_)))))
  refine EL_nil (thn_n (EC_seq (EC_seq (EC_reg (vM v3 rfl rfl ?_)))))
  refine vM v3 rfl rfl (vl (.int .i64 (x.length : Int)) rfl (lenB (r_len rfl (Q3 _ S13.le) U22)) ?_)
  refine EL_int ((x.length : Int) - 8) rfl (r_subi rfl rfl (by omega)) ?_
  intro x18 hx18
  refine vl (cutV v3 ((x18 : Int).toNat) ((x.map byt).length)) rfl (r_slice rfl (Q3 _ S13.le) U22 (by kernel_rfl) ((x18 : Int).toNat) ((x.map byt).length) (by first | omega | (simp; omega) | simp) (by first | omega | (simp; omega) | simp) (.inr ⟨_, _, rfl, (show _ = Value.int .i64 ((x18 : Int).toNat : Int) from by rw [Int.toNat_of_nonneg (by omega)]; exact rfl)⟩) (.inl ⟨rfl, rfl⟩)) ?_
  have H19 : RoB I (cutV v3 ((x18 : Int).toNat) ((x.map byt).length)) (x.drop ((x18 : Int).toNat)) := rob_as (RoB.cut Q3 ((x18 : Int).toNat) ((x.map byt).length) (by first | omega | (simp; omega) | simp) (by first | omega | (simp; omega) | simp)) (by simp)
  have L20 : (x.drop ((x18 : Int).toNat)).length = x.length - ((x18 : Int).toNat) := by first | (simp; done) | (simp; omega)
  refine vl (.int .i64 8) rfl (r_asn (by simp; omega) (lenB (r_len rfl (H19 _ S13.le) U22))) (vM (.int .i64 0) rfl rfl (EL_nil (thn_n (EC_block ?_))))
  refine EC_loop (fun m' E' w' => ∃ j : Nat, m' = 8 - j ∧ E' 12 = .int .i64 (IntKind.i64.wrap (numOf ((x.drop (x.length - 8)).take j) : Int)) ∧ E' 43 = .int .i64 (j : Int) ∧ E' 0 = ptr b ∧ E' 1 = v0 ∧ E' 2 = v1 ∧ E' 3 = v2 ∧ E' 4 = v3 ∧ E' 10 = .slice none 0 0 ∧ E' 11 = .int .i64 0 ∧ E' 41 = (cutV v3 ((x18 : Int).toNat) ((x.map byt).length)) ∧ E' 42 = .int .i64 8 ∧ (j ≤ 8) ∧ Sat w' I (Blk b 70 (sCells lv mb) :: Own 76 5 lv L.length (things L).flatten :: Mp mb (entE K) :: R)) _ ⟨0, rfl, rfl, rfl, rfl, rfl, rfl, rfl, rfl, rfl, rfl, rfl, rfl, Nat.zero_le _, S13⟩ ?_
  rintro _ E21 w22 ⟨j, rfl, e23, e24, e25, e26, e27, e28, e29, e30, e31, e32, e33, hj, S34⟩
  refine EC_seq (EC_reg (vl (.bool (decide ((j : Int) < 8))) rfl (r_lss (by exact e24) (by exact e33)) (EL_nil (thn_n (EC_seq ?_)))))
  refine EC_if (p := (j : Int) < 8) rfl (fun h35 => ?_) (fun h35 => ?_)
  refine EC_skip (thn_n (EC_seq (EC_block (EC_seq (EC_reg ?_)))))
  refine vl (.pointer (some (at_ (cutV v3 ((x18 : Int).toNat) ((x.map byt).length)) (((j : Int) : Int).toNat)))) rfl (r_index (by exact e32) (H19 _ S34.le) (by exact e24) (by omega) (by first | omega | (simp; omega) | simp) U22 (by kernel_rfl)) ?_
  obtain ⟨b36, hb37⟩ := get_some (l := x.drop ((x18 : Int).toNat)) (j := ((j : Int) : Int).toNat) (by first | omega | (simp; omega) | simp)
  have hb38 := b36.toNat_lt
  refine vl (.int .u8 (b36.toNat : Int)) rfl (r_load rfl ((H19 _ S34.le).cell (bs_get hb37)) U5 rfl) (vA (.int .u8 (b36.toNat : Int)) rfl rfl (EL_nil (thn_n (EC_reg (vM (.int .i64 (IntKind.i64.wrap (numOf ((x.drop (x.length - 8)).take j) : Int))) rfl e23 ?_)))))
  refine vl (.int .i64 (IntKind.i64.wrap ((IntKind.i64.wrap (numOf ((x.drop (x.length - 8)).take j) : Int)) * 256))) rfl (r_shl8 rfl rfl) (vM (.int .u8 (b36.toNat : Int)) rfl rfl (vl (.int .i64 (b36.toNat : Int)) rfl (r_convi 5 3 rfl U5 U3 (by omega)) (vl (.int .i64 (IntKind.i64.wrap ((IntKind.i64.wrap (numOf ((x.drop (x.length - 8)).take j) : Int)) * 256 + (b36.toNat : Int)))) rfl (r_or8 rfl rfl) (vA (.int .i64 (IntKind.i64.wrap ((IntKind.i64.wrap (numOf ((x.drop (x.length - 8)).take j) : Int)) * 256 + (b36.toNat : Int)))) rfl rfl (EL_nil ?_)))))
  refine inB_n (thn_n (EC_reg ?_))
  refine EL_int ((j : Int) + 1) rfl (r_addi (by exact e24) rfl (by omega)) ?_
  intro x39 hx39
  refine vM (.int .i64 x39) rfl rfl (EL_nil (thn_n ?_))
  rw [show (x18 : Int).toNat = x.length - 8 by omega] at hb37
  refine ⟨_, ?_, j + 1, rfl, (Eq.trans (show _ = Value.int .i64 (IntKind.i64.wrap (IntKind.i64.wrap (numOf ((x.drop (x.length - 8)).take j) : Int) * 256 + (b36.toNat : Int))) from rfl) (congrArg _ (num_step (j := j) hb37))), (Eq.trans (show _ = Value.int .i64 x39 from rfl) (congrArg _ (by omega))), (by exact e25), (by exact e26), (by exact e27), (by exact e28), (by exact e29), (by exact e30), (by exact e31), (by exact e32), (by exact e33), by omega, S34⟩
  first | omega | (simp; omega)
  refine EC_exit (thn_x (thn_x (inB_hit (thn_n (EC_seq ?_)))))
  refine EC_seq (EC_reg (vM (.int .i64 (IntKind.i64.wrap (numOf ((x.drop (x.length - 8)).take j) : Int))) rfl e23 (vl (.bool (decide ((IntKind.i64.wrap (numOf ((x.drop (x.length - 8)).take j) : Int)) < 1))) rfl (r_lss rfl rfl) (vM (.bool (decide ((IntKind.i64.wrap (numOf ((x.drop (x.length - 8)).take j) : Int)) < 1))) rfl rfl (EL_gite 55 rfl rfl rfl (.int .i64 (IntKind.i64.wrap (numOf ((x.drop (x.length - 8)).take j) : Int))) rfl (fun g40 => r_move (by exact e23)) ?_)))))
  refine EL_gite 55 rfl rfl rfl (ptr b) rfl (fun g41 => r_move (by exact e25)) (EL_gite 55 rfl rfl rfl (ptr b) rfl (fun g42 => r_nil (cond_of g42 rfl)) (EL_gite 55 rfl rfl rfl (ptr b 3) rfl (fun g43 => fP 0 (cond_of g43 rfl) U70 (by kernel_rfl)) (EL_gite 55 rfl rfl rfl lv rfl (fun g44 => r_loadA (cond_of g44 rfl) (S34.arr 0 rfl) (u := lv) rfl U68 rfl) (EL_gite 55 rfl rfl rfl (.int .i64 (L.length : Int)) rfl (fun g45 => r_asn (by simp [things_len]) (r_lenW (cond_of g45 rfl) (S34.wrow 1 rfl (things_all _) (by decide)) U68)) (EL_gite 55 rfl rfl rfl (.bool (decide ((L.length : Int) < (IntKind.i64.wrap (numOf ((x.drop (x.length - 8)).take j) : Int))))) rfl (fun g46 => r_gtr (cond_of g46 rfl) (cond_of g46 rfl)) ?_)))))
  refine vl (.bool ((decide ((IntKind.i64.wrap (numOf ((x.drop (x.length - 8)).take j) : Int)) < 1)) || (decide ((L.length : Int) < (IntKind.i64.wrap (numOf ((x.drop (x.length - 8)).take j) : Int)))))) rfl (r_or rfl rfl rfl) (EL_nil (thn_n ?_))
  refine EC_cond (t := (decide ((IntKind.i64.wrap (numOf ((x.drop (x.length - 8)).take j) : Int)) < 1)) || (decide ((L.length : Int) < (IntKind.i64.wrap (numOf ((x.drop (x.length - 8)).take j) : Int))))) rfl (fun h47 => ?_) (fun h47 => ?_)
  have et : (x.drop (x.length - 8)).take j = x.drop (x.length - 8) := List.take_of_length_le (by simp; omega)
  rw [et] at h47
  have hz2 := open_out (k := k) (n := n) (o := o) hb16 hl (by simpa using h47)
  refine EC_seq (EC_reg (vA (.slice none 0 0) rfl rfl (vA (.int .i64 20) rfl rfl (EL_nil (thn_n ?_)))))
  refine EC_ret (thn_r ?_)
  refine fin2 Tryz.results44 (show _ = .slice none 0 0 from rfl) (show _ = .int .i64 20 from rfl) ⟨_, rfl, ?_⟩
  have S48 : Sat w22 I (Suite (ptr b) L :: R) := Suite.cls hL hK S34
  rw [show openB L k n o x = [] from by simp [openB, hz, hz2]]
  exact ⟨(.slice none 0 0), I, (Gh.le_refl _), (by simp [openE, hz, hz2]), Ro.nil, S48⟩
  have et : (x.drop (x.length - 8)).take j = x.drop (x.length - 8) := List.take_of_length_le (by simp; omega)
  rw [et] at h47
  obtain ⟨t, hat, hN, hN1, hN2, hop⟩ := open_at (L := L) (k := k) (n := n) (o := o) hb16 (by simpa using h47)
  have htk := hL t (List.mem_of_getElem? hat)
  have hu : (tBox k n o t.text).ok := ⟨by assumption, by assumption, htk.2.2.1, by assumption⟩
  have htx : t.text.length ≤ 800000000 := hT t (List.mem_of_getElem? hat)
  refine EC_skip (thn_n (EC_seq (EC_reg (vM (ptr b) rfl e25 (vl (ptr b) rfl (r_nil rfl) ?_)))))
  refine vl (ptr b 3) rfl (fP 0 rfl U70 (by kernel_rfl)) (vL lv rfl rfl (S34.arr 0 rfl) rfl U68 rfl (vl (.int .i64 (numOf (x.drop (x.length - 8)) : Int)) rfl (r_asn (m := IntKind.i64.wrap (numOf ((x.drop (x.length - 8)).take j) : Int)) (by rw [et]; exact hN) (r_move (by exact e23))) ?_))
  refine EL_int ((numOf (x.drop (x.length - 8)) : Int) - 1) rfl (r_subi rfl rfl (by omega)) ?_
  intro x49 hx49
  refine vl (.pointer (some (atW lv 5 (x49 : Int).toNat))) rfl (r_indexW rfl (S34.wrow 1 rfl (things_all _) (by decide)) rfl (by omega) (by rw [things_len]; omega) U68 (by kernel_rfl)) (vl (.agg (t.cells).toArray) rfl (r_loadW rfl (S34.wrow 1 rfl (things_all _) (by decide)) (things_at (show L[(x49 : Int).toNat]? = some t from by rw [show (x49 : Int).toNat = numOf (x.drop (x.length - 8)) - 1 by omega]; exact hat)) U76 rfl (by rw [cells_len]; kernel_rfl)) ?_)
  refine EL_alloc (z := .agg #[.int .u8 0, .string (str ([] : List UInt8)), .string (str ([] : List UInt8)), .string (str ([] : List UInt8)), .string (str ([] : List UInt8))]) [.int .u8 0, .string (str ([] : List UInt8)), .string (str ([] : List UInt8)), .string (str ([] : List UInt8)), .string (str ([] : List UInt8))] rfl (by kernel_rfl) rfl ?_
  intro b52 w53 k54 A55 B56 z57
  have S58 := S34.newB B56 A55 k54
  refine sA t.cells rfl rfl (S58.arr 0 rfl) rfl (by kernel_rfl) (fun u h => cells_one t u (by simpa using h)) ?_
  intro w59 A60 K61 z62
  have S63 := S58.wr0 (ds := [.int .u8 (t.sort.toNat : Int), .string (str t.key), .string (str t.nonce), .string (str t.text), .string (str t.other)]) K61 A60
  refine EL_nil (thn_n (EC_seq (EC_seq ?_)))
  rcases Classical.em (t = tBox k n o t.text) with hA | hA
  refine EC_any 16 (fun w' => Gh.le I (gh w')) (fun w' => Arr w' b52 76 [.int .u8 (t.sort.toNat : Int), .string (str t.key), .string (str t.nonce), .string (str t.text), .string (str t.other)]) (by kernel_rfl) ?_
  intro w64 B65
  have S66 := S63.below B65
  refine jT 0 rfl (by kernel_rfl) (.agg ([.int .u8 (t.sort.toNat : Int), .string (str t.key), .string (str t.nonce), .string (str t.text), .string (str t.other)]).toArray) rfl (fun _ hw ht => r_loadAll rfl ht U76 rfl (by kernel_rfl)) ⟨S66.le, fun h => S66.arr 0 rfl⟩ ?_
  refine jT 1 rfl (by kernel_rfl) v0 rfl (fun _ hw ht => r_move (by exact e26)) ⟨S66.le, fun h => S66.arr 0 rfl⟩ ?_
  refine jT 2 rfl (by kernel_rfl) (.string (str k)) rfl (fun _ hw ht => r_str rfl (Q0 _ hw) U22 U5 U9) ⟨S66.le, fun h => S66.arr 0 rfl⟩ ?_
  refine jT 3 rfl (by kernel_rfl) v1 rfl (fun _ hw ht => r_move (by exact e27)) ⟨S66.le, fun h => S66.arr 0 rfl⟩ ?_
  refine jT 4 rfl (by kernel_rfl) (.string (str n)) rfl (fun _ hw ht => r_str rfl (Q1 _ hw) U22 U5 U9) ⟨S66.le, fun h => S66.arr 0 rfl⟩ ?_
  refine jT 5 rfl (by kernel_rfl) (ptr b52 3) rfl (fun _ hw ht => fP 0 rfl U76 (by kernel_rfl)) ⟨S66.le, fun h => S66.arr 0 rfl⟩ ?_
  refine jT 6 rfl (by kernel_rfl) (.string (str t.text)) rfl (fun _ hw ht => r_loadA rfl ht (u := (.string (str t.text))) rfl U9 rfl) ⟨S66.le, fun h => S66.arr 0 rfl⟩ ?_
  refine jT 7 rfl (by kernel_rfl) v2 rfl (fun _ hw ht => r_move (by exact e28)) ⟨S66.le, fun h => S66.arr 0 rfl⟩ ?_
  refine jT 8 rfl (by kernel_rfl) (.string (str o)) rfl (fun _ hw ht => r_str rfl (Q2 _ hw) U22 U5 U9) ⟨S66.le, fun h => S66.arr 0 rfl⟩ ?_
  refine jT 9 rfl (by kernel_rfl) (.agg ([.int .u8 66, .string (str k), .string (str n), .string (str t.text), .string (str o)]).toArray) rfl (fun _ hw ht => r_buildS (l := [(0, .int .u8 66), (1, .string (str k)), (2, .string (str n)), (3, .string (str t.text)), (4, .string (str o))]) st_76 (parts5 rfl rfl rfl rfl rfl) (Eq.trans (show Instr.fill _ _ [(0, .int .u8 66), (1, .string (str k)), (2, .string (str n)), (3, .string (str t.text)), (4, .string (str o))] = _ from (fill_one rfl rfl rfl (fill_one rfl rfl rfl (fill_one rfl rfl rfl (fill_one rfl rfl rfl (fill_one rfl rfl rfl fill_end)))))) (by kernel_rfl))) ⟨S66.le, fun h => S66.arr 0 rfl⟩ ?_
  refine jT 10 rfl (by kernel_rfl) (.bool false) rfl (fun _ hw ht => r_neqS (xs := t.cells.toArray) (ys := (tBox k n o t.text).cells.toArray) (b := true) (by kernel_rfl) (by kernel_rfl) (by kernel_rfl) (by kernel_rfl) rfl rfl (kv_thing htk) (kv_thing hu) (by rw [show ((Value.agg t.cells.toArray : Value) = .agg (tBox k n o t.text).cells.toArray) ↔ t = tBox k n o t.text from val_inj]; first | exact ⟨fun _ => hA, fun _ => rfl⟩ | exact ⟨fun h => (by cases h), fun h => absurd h hA⟩)) ⟨S66.le, fun h => S66.arr 0 rfl⟩ ?_
  refine jT 11 rfl (by kernel_rfl) (.bool false) rfl (fun _ hw ht => r_move rfl) ⟨S66.le, fun h => S66.arr 0 rfl⟩ ?_
  refine jG 12 rfl (by kernel_rfl) 83 rfl rfl rfl rfl (.int .i64 (numOf (x.drop (x.length - 8)) : Int)) rfl (fun _ hw ht => r_asn (m := IntKind.i64.wrap (numOf ((x.drop (x.length - 8)).take j) : Int)) (by rw [et]; exact hN) (r_move (by exact e23))) ⟨S66.le, fun h => S66.arr 0 rfl⟩ ?_
  refine jG 13 rfl (by kernel_rfl) 83 rfl rfl rfl rfl (ptr b52 3) rfl (fun _ hw ht => fP 0 rfl U76 (by kernel_rfl)) ⟨S66.le, fun h => S66.arr 0 rfl⟩ ?_
  refine jG 14 rfl (by kernel_rfl) 83 rfl rfl rfl rfl (.string (str t.text)) rfl (fun _ hw ht => r_loadA rfl ht (u := (.string (str t.text))) rfl U9 rfl) ⟨S66.le, fun h => S66.arr 0 rfl⟩ ?_
  refine jG 15 rfl (by kernel_rfl) 83 rfl rfl rfl rfl (.int .i64 (t.text.length : Int)) rfl (fun _ hw ht => r_lenS rfl U9) ⟨S66.le, fun h => S66.arr 0 rfl⟩ ?_
  refine EJ_gfloat 18 rfl (by kernel_rfl) (by kernel_rfl) (by kernel_rfl) rfl 83 rfl rfl rfl rfl v3 rfl (fun _ hw => r_move (by exact e29)) ⟨S66.le, fun h => S66.arr 0 rfl⟩ ?_
  refine EJ_gfloat 19 rfl (by kernel_rfl) (by kernel_rfl) (by kernel_rfl) rfl 83 rfl rfl rfl rfl (.string (str x)) rfl (fun _ hw => r_str rfl (Q3 _ hw) U22 U5 U9) ⟨S66.le, fun h => S66.arr 0 rfl⟩ ?_
  refine EJ_one 16 (by kernel_rfl) ⟨_, rfl, ?_⟩
  refine eG 83 rfl rfl rfl rfl rfl F60 rfl (box_c (numOf (x.drop (x.length - 8)) : Int) (t.text.length : Int) I _ _ S66 (by omega) (by first | assumption | omega | (simp; done) | (simp; omega))) ?_
  rintro _ w67 ⟨v69, rfl, S68⟩
  refine EL_nil ?_
  refine ⟨rfl, ⟨S68.le, fun h => by cases h⟩, ?_⟩
  obtain ⟨I70, le71, S72, H73⟩ := S68.fb0
  refine EJ_strong (fun w' => Gh.le I70 (gh w')) _ (fun w' hw => lT le71 hw) (fun w' _ ht => ht) ?_
  refine EJ_gfloat 17 rfl (by kernel_rfl) (by kernel_rfl) (by kernel_rfl) rfl 83 rfl rfl rfl rfl (.string (str (boxOf (numOf (x.drop (x.length - 8)) : Int) (t.text.length : Int).toNat))) rfl (fun _ hw => r_str rfl (H73 _ hw) U22 U5 U9) ⟨S72.le, fun h => by cases h⟩ ?_
  refine EJ_gfloat 20 rfl (by kernel_rfl) (by kernel_rfl) (by kernel_rfl) rfl 83 rfl rfl rfl rfl (.bool (decide ((boxOf (numOf (x.drop (x.length - 8)) : Int) (t.text.length : Int).toNat) ≠ x))) rfl (fun _ hw => r_neqs rfl rfl) ⟨S72.le, fun h => by cases h⟩ ?_
  refine jF 21 rfl (by kernel_rfl) (.bool (decide ((boxOf (numOf (x.drop (x.length - 8)) : Int) (t.text.length : Int).toNat) ≠ x))) rfl (fun _ hw => r_pickF rfl rfl) ⟨S72.le, fun h => by cases h⟩ ?_
  refine EJ_done (by kernel_rfl) ?_
  refine thn_n ?_
  refine EC_if (p := (boxOf (numOf (x.drop (x.length - 8)) : Int) (t.text.length : Int).toNat) ≠ x) rfl (fun h74 => ?_) (fun h74 => ?_)
  have hz2 : openOf L k n o x = none := by rw [hop]; exact if_neg (fun h2 => h74 h2.2)
  refine EC_seq (EC_reg (vA (.slice none 0 0) rfl rfl (vA (.int .i64 20) rfl rfl (EL_nil (thn_n ?_)))))
  refine EC_ret (thn_r ?_)
  refine fin2 Tryz.results44 (show _ = .slice none 0 0 from rfl) (show _ = .int .i64 20 from rfl) ⟨_, rfl, ?_⟩
  have S75 := S72.dr0
  have S76 : Sat w67 I70 (Suite (ptr b) L :: R) := Suite.cls hL hK S75
  rw [show openB L k n o x = [] from by simp [openB, hz, hz2]]
  exact ⟨(.slice none 0 0), I70, le71, (by simp [openE, hz, hz2]), Ro.nil, S76⟩
  have hz2 : openOf L k n o x = some t.text := by rw [hop]; exact if_pos ⟨hA, Decidable.not_not.mp h74⟩
  refine EC_skip (thn_n (EC_seq (EC_reg (vl (ptr b52 3) rfl (fP 0 rfl U76 (by kernel_rfl)) (vL (.string (str t.text)) rfl rfl (S72.arr 0 rfl) rfl U9 rfl ?_)))))
  refine EL_bytes (l := t.text) rfl rfl U9 U22 U5 (by first | omega | (simp; omega)) ?_
  intro v77 w78 B79 V80 R81 V80l
  obtain ⟨I82, le83, S84, H85⟩ := S72.newR B79 V80 R81 V80l
  refine vA v77 rfl rfl (vA (.int .i64 0) rfl rfl (EL_nil (thn_n (EC_ret ?_))))
  refine fin2 Tryz.results44 (show _ = v77 from rfl) (show _ = .int .i64 0 from rfl) ⟨_, rfl, ?_⟩
  have S86 := S84.dr0
  have S87 : Sat w78 I82 (Suite (ptr b) L :: R) := Suite.cls hL hK S86
  rw [show openB L k n o x = t.text from by simp [openB, hz, hz2]]
  exact ⟨v77, I82, (lT le71 le83), (by simp [openE, hz, hz2]), H85, S87⟩
  have hz2 : openOf L k n o x = none := by rw [hop]; exact if_neg (fun h => hA h.1)
  refine EC_quietB (by kernel_rfl) (by kernel_rfl) ?_
  refine EQ_val (.agg ([.int .u8 (t.sort.toNat : Int), .string (str t.key), .string (str t.nonce), .string (str t.text), .string (str t.other)]).toArray) rfl (fun _ hw => r_loadAll rfl ((S63.arr 0 rfl).below hw) U76 rfl (by kernel_rfl)) (EQ_val v0 rfl (fun _ hw => r_move (by exact e26)) (EQ_val (.string (str k)) rfl (fun _ hw => r_str rfl ((Q0 _ S63.le).below hw) U22 U5 U9) (EQ_val v1 rfl (fun _ hw => r_move (by exact e27)) (EQ_val (.string (str n)) rfl (fun _ hw => r_str rfl ((Q1 _ S63.le).below hw) U22 U5 U9) (EQ_val (ptr b52 3) rfl (fun _ hw => fP 0 rfl U76 (by kernel_rfl)) ?_)))))
  refine EQ_val (.string (str t.text)) rfl (fun _ hw => r_loadA rfl ((S63.arr 0 rfl).below hw) (u := (.string (str t.text))) rfl U9 rfl) (EQ_val v2 rfl (fun _ hw => r_move (by exact e28)) (EQ_val (.string (str o)) rfl (fun _ hw => r_str rfl ((Q2 _ S63.le).below hw) U22 U5 U9) (EQ_val (.agg ([.int .u8 66, .string (str k), .string (str n), .string (str t.text), .string (str o)]).toArray) rfl (fun _ hw => r_buildS (l := [(0, .int .u8 66), (1, .string (str k)), (2, .string (str n)), (3, .string (str t.text)), (4, .string (str o))]) st_76 (parts5 rfl rfl rfl rfl rfl) (Eq.trans (show Instr.fill _ _ [(0, .int .u8 66), (1, .string (str k)), (2, .string (str n)), (3, .string (str t.text)), (4, .string (str o))] = _ from (fill_one rfl rfl rfl (fill_one rfl rfl rfl (fill_one rfl rfl rfl (fill_one rfl rfl rfl (fill_one rfl rfl rfl fill_end)))))) (by kernel_rfl))) (EQ_val (.bool true) rfl (fun _ hw => r_neqS (xs := t.cells.toArray) (ys := (tBox k n o t.text).cells.toArray) (b := false) (by kernel_rfl) (by kernel_rfl) (by kernel_rfl) (by kernel_rfl) rfl rfl (kv_thing htk) (kv_thing hu) (by rw [show ((Value.agg t.cells.toArray : Value) = .agg (tBox k n o t.text).cells.toArray) ↔ t = tBox k n o t.text from val_inj]; first | exact ⟨fun _ => hA, fun _ => rfl⟩ | exact ⟨fun h => (by cases h), fun h => absurd h hA⟩)) (qM (.bool true) rfl rfl ?_)))))
  refine EQ_pass 83 rfl rfl rfl rfl rfl (EQ_pass 83 rfl rfl rfl rfl rfl (EQ_pass 83 rfl rfl rfl rfl rfl (EQ_pass 83 rfl rfl rfl rfl rfl (EQ_pass 83 rfl rfl rfl rfl rfl (EQ_pass 83 rfl rfl rfl rfl rfl ?_)))))
  refine EQ_pass 83 rfl rfl rfl rfl rfl (EQ_pass 83 rfl rfl rfl rfl rfl (EQ_pass 83 rfl rfl rfl rfl rfl (EQ_val (.bool true) rfl (fun _ hw => r_pickT rfl rfl) ?_)))
  refine EQ_nil ?_
  intro w88 B89
  have S90 := S63.below B89
  refine thn_n ?_
  refine EC_cond_true rfl ?_
  refine EC_seq (EC_reg (vA (.slice none 0 0) rfl rfl (vA (.int .i64 20) rfl rfl (EL_nil (thn_n ?_)))))
  refine EC_ret (thn_r ?_)
  refine fin2 Tryz.results44 (show _ = .slice none 0 0 from rfl) (show _ = .int .i64 20 from rfl) ⟨_, rfl, ?_⟩
  have S91 := S90.dr0
  have S92 : Sat w88 I (Suite (ptr b) L :: R) := Suite.cls hL hK S91
  rw [show openB L k n o x = [] from by simp [openB, hz, hz2]]
  exact ⟨(.slice none 0 0), I, (Gh.le_refl _), (by simp [openE, hz, hz2]), Ro.nil, S92⟩

end Go.Proofs.YtoajodjcmeijgaaGreat
