import Derived.Test.YtoajodjcmeijgaaQSealedHidesSigns
import Derived.Test.YtoajodjcmeijgaaQSealedHidesSuiA
set_option linter.unusedVariables false
set_option linter.unusedSimpArgs false
namespace Go.Proofs.Ytoajodjcmeijgaa
open Go.RowKit Go.Ecal

set_option maxRecDepth 100000 in
set_option maxHeartbeats 4000000 in
theorem add_c (b : Nat) (lv : Value) (mb : Nat) (L : List Thing) (t : Thing) (I : Gh) (R : List HP) (w : World) (S : Sat w I (Blk b 72 (sCells lv mb) :: Own 85 5 lv L.length (things L).flatten :: R)) (hl : L.length ≤ 1000000) : Ret Try.prog 50 [ptr b, Thing.val t] w fun v w' => ∃ lv' : Value, .int .i64 ((L.length : Int) + 1) = v ∧ Sat w' I (Blk b 72 (sCells lv' mb) :: Own 85 5 lv' ((L ++ [t]).length) (things (L ++ [t])).flatten :: R) := by
  refine ret_E Try.func50 rfl Try.ntmps50 (by simp) ?_
  refine EC_seq ?_
  refine EC_reg ?_
  refine EL_box t.cells rfl rfl rfl ?_
  intro b11 w12 k13 A14 B15 z16
  have S17 := S.newB B15 A14 k13
  refine EL_val (.int .i64 0) w12 rfl (r_assign rfl) ?_
  refine EL_nil ?_
  refine thn_n ?_
  refine EC_seq ?_
  refine EC_any 10 (fun w' => Gh.le I (gh w')) (fun w' => Arr w' b 72 (sCells lv mb) ∧ Arr w' b11 85 t.cells) (by kernel_rfl) ?_
  intro w18 B19
  have S20 := S17.below B19
  refine EJ_take 0 rfl (by kernel_rfl) (by kernel_rfl) (by kernel_rfl) rfl (by kernel_rfl) (ptr b) rfl (fun _ hw ht => r_move rfl) ⟨S20.le, fun h => ⟨S20.arr 1 rfl, S20.arr 0 rfl⟩⟩ ?_
  refine EJ_take 1 rfl (by kernel_rfl) (by kernel_rfl) (by kernel_rfl) rfl (by kernel_rfl) (ptr b) rfl (fun _ hw ht => r_move rfl) ⟨S20.le, fun h => ⟨S20.arr 1 rfl, S20.arr 0 rfl⟩⟩ ?_
  refine EJ_take 2 rfl (by kernel_rfl) (by kernel_rfl) (by kernel_rfl) rfl (by kernel_rfl) (ptr b) rfl (fun _ hw ht => r_nil rfl) ⟨S20.le, fun h => ⟨S20.arr 1 rfl, S20.arr 0 rfl⟩⟩ ?_
  refine EJ_take 3 rfl (by kernel_rfl) (by kernel_rfl) (by kernel_rfl) rfl (by kernel_rfl) (ptr b 3) rfl (fun _ hw ht => r_fieldP (o := 0) (s := 1) rfl Try.underlying72 rfl (by kernel_rfl) (by decide) rfl) ⟨S20.le, fun h => ⟨S20.arr 1 rfl, S20.arr 0 rfl⟩⟩ ?_
  refine EJ_take 4 rfl (by kernel_rfl) (by kernel_rfl) (by kernel_rfl) rfl (by kernel_rfl) lv rfl (fun _ hw ht => r_loadA rfl ht.1 (u := lv) rfl Try.underlying70 rfl) ⟨S20.le, fun h => ⟨S20.arr 1 rfl, S20.arr 0 rfl⟩⟩ ?_
  refine EJ_take 5 rfl (by kernel_rfl) (by kernel_rfl) (by kernel_rfl) rfl (by kernel_rfl) (.agg (t.cells).toArray) rfl (fun _ hw ht => r_loadAll rfl ht.2 Try.underlying85 rfl (by kernel_rfl)) ⟨S20.le, fun h => ⟨S20.arr 1 rfl, S20.arr 0 rfl⟩⟩ ?_
  refine EJ_one 6 (by kernel_rfl) ⟨_, rfl, ?_⟩
  refine EL_litW (z := #[.int .u8 0, .string (str ([] : List UInt8)), .string (str ([] : List UInt8)), .string (str ([] : List UInt8)), .string (str ([] : List UInt8))]) (cs := (t.cells).toArray) (sz := 5) (l := [(0, .agg (t.cells).toArray)]) rfl Try.underlying70 (by kernel_rfl) (parts1 rfl) (by kernel_rfl) rfl (by decide) ?_
  intro v21 w22 O23 B24 k25
  have S27 : Sat w22 I (Own 85 5 v21 1 [t.cells].flatten :: Blk b11 85 t.cells :: Blk b 72 (sCells lv mb) :: Own 85 5 lv L.length (things L).flatten :: R) := S20.newO B24 (by simpa using O23)
  refine EL_nil ?_
  refine ⟨rfl, ⟨S27.le, fun h => ⟨S27.arr 2 rfl, S27.arr 1 rfl⟩⟩, ?_⟩
  refine EJ_one 7 (by kernel_rfl) ⟨_, rfl, ?_⟩
  refine EL_appW (z := #[.int .u8 0, .string (str ([] : List UInt8)), .string (str ([] : List UInt8)), .string (str ([] : List UInt8)), .string (str ([] : List UInt8))]) (bytes := 72) 0 rfl Try.underlying70 (by kernel_rfl) rfl (by decide) rfl rfl (S27.own 3 rfl) (S27.own 0 rfl) (by decide) (by simpa using cells_one t) (by first | omega | (simp; omega)) (by first | omega | (simp; omega)) (Nat.zero_le _) ?_
  intro v28 w29 O30 G31 A32
  have O30' := own_thing O30
  have S33 := S27.gr3 G31 O30' A32
  refine EL_nil ?_
  refine ⟨rfl, ⟨S33.le, fun h => ⟨S33.arr 2 rfl, S33.arr 1 rfl⟩⟩, ?_⟩
  refine EJ_take 8 rfl (by kernel_rfl) (by kernel_rfl) (by kernel_rfl) rfl (by kernel_rfl) (ptr b) rfl (fun _ hw ht => r_nil rfl) ⟨S33.le, fun h => ⟨S33.arr 2 rfl, S33.arr 1 rfl⟩⟩ ?_
  refine EJ_take 9 rfl (by kernel_rfl) (by kernel_rfl) (by kernel_rfl) rfl (by kernel_rfl) (ptr b 3) rfl (fun _ hw ht => r_fieldP (o := 0) (s := 1) rfl Try.underlying72 rfl (by kernel_rfl) (by decide) rfl) ⟨S33.le, fun h => ⟨S33.arr 2 rfl, S33.arr 1 rfl⟩⟩ ?_
  refine EJ_one 10 (by kernel_rfl) ⟨_, rfl, ?_⟩
  refine EL_storeA (j := 3) (u := v28) rfl rfl (S33.arr 2 rfl) (by first | decide | (simp; omega) | simp) (own_one (S33.own 3 rfl)) (by kernel_rfl) ?_
  intro w34 A35 K36 z37
  have S38 := S33.wr2 (ds := [.bool false, .slice none 0 0, .int .i64 0, v28, .map (some mb)]) K36 A35
  refine EL_nil ?_
  refine ⟨rfl, ⟨S38.le, fun h => by cases h⟩, ?_⟩
  refine EJ_done (by kernel_rfl) ?_
  refine thn_n ?_
  refine EC_seq ?_
  refine EC_reg ?_
  refine EL_val (ptr b) w34 rfl (r_move rfl) ?_
  refine EL_val (ptr b) w34 rfl (r_nil rfl) ?_
  refine EL_val (ptr b 3) w34 rfl (r_fieldP (o := 0) (s := 1) rfl Try.underlying72 rfl (by kernel_rfl) (by decide) rfl) ?_
  refine EL_val v28 w34 rfl (r_loadA rfl (S38.arr 2 rfl) (u := v28) rfl Try.underlying70 rfl) ?_
  refine EL_val (.int .i64 ((L.length : Int) + 1)) w34 rfl (r_asn (by simp [things_len]) (r_lenW rfl (S38.wrow 3 rfl (things_all _) (by decide)) Try.underlying70)) ?_
  refine EL_val (.int .i64 ((L.length : Int) + 1)) w34 rfl (r_assign rfl) ?_
  refine EL_nil ?_
  refine thn_n ?_
  refine EC_ret ?_
  refine fin1 Try.results50 (show _ = .int .i64 ((L.length : Int) + 1) from rfl) ⟨_, rfl, ?_⟩
  have S39 := S38.dr0
  have S40 := S39.dr0
  exact ⟨v28, rfl, S40⟩

set_option maxRecDepth 100000 in
set_option maxHeartbeats 4000000 in
theorem once_c (p : Value) (L : List Thing) (t : Thing) (I : Gh) (R : List HP) (w : World) (S : Sat w I (Suite p L :: R)) (hl : L.length ≤ 1000000) (ht : t.ok) (ho : t.once = true) : Ret Try.prog 91 [p, Thing.val t] w fun v w' => .int .i64 (onceN t L : Int) = v ∧ Sat w' I (Suite p (onceL t L) :: R) := by
  obtain ⟨b, lv, mb, K, rfl, hL, hK, S⟩ := Suite.opn S
  refine ret_E Try.func91 rfl Try.ntmps91 (by simp) ?_
  refine EC_seq ?_
  refine EC_reg ?_
  refine EL_box t.cells rfl rfl rfl ?_
  intro b11 w12 k13 A14 B15 z16
  have S17 := S.newB B15 A14 k13
  refine EL_val (.int .i64 0) w12 rfl (r_assign rfl) ?_
  refine EL_nil ?_
  refine thn_n ?_
  refine EC_seq ?_
  refine EC_quietB (by kernel_rfl) (by kernel_rfl) ?_
  refine EQ_val (ptr b) rfl (fun _ hw => r_move rfl) ?_
  refine EQ_val (ptr b) rfl (fun _ hw => r_nil rfl) ?_
  refine EQ_val (ptr b 4) rfl (fun _ hw => r_fieldP (o := 0) (s := 1) rfl Try.underlying72 rfl (by kernel_rfl) (by decide) rfl) ?_
  refine EQ_val (.map (some mb)) rfl (fun _ hw => r_loadA rfl ((S17.arr 1 rfl).below hw) (u := (.map (some mb))) rfl Try.underlying69 rfl) ?_
  refine EQ_val (.agg (t.cells).toArray) rfl (fun _ hw => r_loadAll rfl ((S17.arr 0 rfl).below hw) Try.underlying85 rfl (by kernel_rfl)) ?_
  obtain ⟨ar, ck, hm, he⟩ := S17.map 3 rfl
  refine EQ_val (.tuple #[.int .i64 (lookN t L), .bool (decide (idx t L ≠ none))]) rfl (fun _ hw => r_lookup (kv := t.val) law_thing Try.underlying69 (by kernel_rfl) rfl rfl (map_below hm hw) he (kv_thing ht) (ent_kv hK hL) (look_no hK ho) (look_yes hK)) ?_
  refine EQ_val (.tuple #[.int .i64 (lookN t L), .bool (decide (idx t L ≠ none))]) rfl (fun _ hw => r_move rfl) ?_
  refine EQ_val (.int .i64 (lookN t L)) rfl (fun _ hw => r_extract rfl rfl) ?_
  refine EQ_val (.bool (decide (idx t L ≠ none))) rfl (fun _ hw => r_extract rfl rfl) ?_
  refine EQ_val (.int .i64 (lookN t L)) rfl (fun _ hw => r_assign rfl) ?_
  refine EQ_val (.bool (decide (idx t L ≠ none))) rfl (fun _ hw => r_assign rfl) ?_
  refine EQ_nil ?_
  intro w18 B19
  have S20 := S17.below B19
  refine thn_n ?_
  refine EC_seq ?_
  refine EC_seq ?_
  refine EC_reg ?_
  refine EL_val (.bool (decide (idx t L ≠ none))) w18 rfl (r_move rfl) ?_
  refine EL_val (.bool (!(decide (idx t L ≠ none)))) w18 rfl (r_not rfl) ?_
  refine EL_nil ?_
  refine thn_n ?_
  refine EC_cond (t := !(decide (idx t L ≠ none))) rfl (fun h21 => ?_) (fun h21 => ?_)
  · have hn : idx t L = none := by simpa using h21
    refine EC_seq ?_
    refine EC_reg ?_
    refine EL_val (ptr b) w18 rfl (r_move rfl) ?_
    refine EL_val (.agg (t.cells).toArray) w18 rfl (r_loadAll rfl (S20.arr 0 rfl) Try.underlying85 rfl (by kernel_rfl)) ?_
    have S22 := S20.fr2
    have S23 := S22.fr2
    refine EL_ret _ rfl Try.func50 rfl nm50 rfl (add_c b lv mb L t I _ _ S23 (by first | assumption | omega | (simp; done) | (simp; omega))) ?_
    rintro _ w24 ⟨lv'26, rfl, S25⟩
    refine EL_val (.int .i64 ((L.length : Int) + 1)) w24 rfl (r_assign rfl) ?_
    refine EL_nil ?_
    refine thn_n ?_
    refine EC_any 6 (fun w' => Gh.le I (gh w')) (fun w' => Arr w' b 72 (sCells lv'26 mb) ∧ Arr w' b11 85 t.cells) (by kernel_rfl) ?_
    intro w27 B28
    have S29 := S25.below B28
    refine EJ_take 0 rfl (by kernel_rfl) (by kernel_rfl) (by kernel_rfl) rfl (by kernel_rfl) (ptr b) rfl (fun _ hw ht => r_move rfl) ⟨S29.le, fun h => ⟨S29.arr 0 rfl, S29.arr 2 rfl⟩⟩ ?_
    refine EJ_take 1 rfl (by kernel_rfl) (by kernel_rfl) (by kernel_rfl) rfl (by kernel_rfl) (ptr b) rfl (fun _ hw ht => r_nil rfl) ⟨S29.le, fun h => ⟨S29.arr 0 rfl, S29.arr 2 rfl⟩⟩ ?_
    refine EJ_take 2 rfl (by kernel_rfl) (by kernel_rfl) (by kernel_rfl) rfl (by kernel_rfl) (ptr b 4) rfl (fun _ hw ht => r_fieldP (o := 0) (s := 1) rfl Try.underlying72 rfl (by kernel_rfl) (by decide) rfl) ⟨S29.le, fun h => ⟨S29.arr 0 rfl, S29.arr 2 rfl⟩⟩ ?_
    refine EJ_take 3 rfl (by kernel_rfl) (by kernel_rfl) (by kernel_rfl) rfl (by kernel_rfl) (.map (some mb)) rfl (fun _ hw ht => r_loadA rfl ht.1 (u := (.map (some mb))) rfl Try.underlying69 rfl) ⟨S29.le, fun h => ⟨S29.arr 0 rfl, S29.arr 2 rfl⟩⟩ ?_
    refine EJ_take 4 rfl (by kernel_rfl) (by kernel_rfl) (by kernel_rfl) rfl (by kernel_rfl) (.agg (t.cells).toArray) rfl (fun _ hw ht => r_loadAll rfl ht.2 Try.underlying85 rfl (by kernel_rfl)) ⟨S29.le, fun h => ⟨S29.arr 0 rfl, S29.arr 2 rfl⟩⟩ ?_
    refine EJ_take 5 rfl (by kernel_rfl) (by kernel_rfl) (by kernel_rfl) rfl (by kernel_rfl) (.int .i64 ((L.length : Int) + 1)) rfl (fun _ hw ht => r_move rfl) ⟨S29.le, fun h => ⟨S29.arr 0 rfl, S29.arr 2 rfl⟩⟩ ?_
    refine EJ_one 6 (by kernel_rfl) ⟨_, rfl, ?_⟩
    obtain ⟨ar2, ck2, hm2, he2⟩ := S29.map 3 rfl
    refine EL_mapNew (kv := t.val) law_thing Try.underlying69 rfl rfl rfl hm2 he2 (kv_thing ht) (ent_kv hK hL) (ent_no hK hn) ?_
    intro w30 ar3 ck3 hm3 he3 G3
    have S31 : Sat w30 I (Blk b 72 (sCells lv'26 mb) :: Own 85 5 lv'26 ((L ++ [t]).length) (things (L ++ [t])).flatten :: Blk b11 85 t.cells :: Mp mb (entE (K ++ [(t, L.length + 1)])) :: R) := S29.mapW 3 rfl G3 hm3 (he3.trans (ent_app K t (L.length + 1)))
    refine EL_nil ?_
    refine ⟨rfl, ⟨S31.le, fun h => by cases h⟩, ?_⟩
    refine EJ_done (by kernel_rfl) ?_
    refine thn_n ?_
    refine EC_seq ?_
    refine EC_reg ?_
    refine EL_val (.int .i64 ((L.length : Int) + 1)) w30 rfl (r_move rfl) ?_
    refine EL_val (.int .i64 ((L.length : Int) + 1)) w30 rfl (r_assign rfl) ?_
    refine EL_nil ?_
    refine thn_n ?_
    refine EC_ret ?_
    refine fin1 Try.results91 (show _ = .int .i64 ((L.length : Int) + 1) from rfl) ⟨_, rfl, ?_⟩
    have S32 := S31.dr2
    rw [(once_no hn).1, (once_no hn).2]
    exact ⟨rfl, Suite.cls (app_ok hL ht) (hK.new hn) S32⟩
  · have hn : idx t L ≠ none := by simpa using h21
    refine EC_skip ?_
    refine thn_n ?_
    refine EC_seq ?_
    refine EC_reg ?_
    refine EL_val (.int .i64 (lookN t L)) w18 rfl (r_move rfl) ?_
    refine EL_val (.int .i64 (lookN t L)) w18 rfl (r_assign rfl) ?_
    refine EL_nil ?_
    refine thn_n ?_
    refine EC_ret ?_
    refine fin1 Try.results91 (show _ = .int .i64 (lookN t L) from rfl) ⟨_, rfl, ?_⟩
    have S33 := S20.dr0
    rw [(once_yes hn).2, ← (once_yes hn).1]
    exact ⟨rfl, Suite.cls hL hK S33⟩

set_option maxRecDepth 100000 in
set_option maxHeartbeats 4000000 in
theorem Signs_c (I : Gh) (R : List HP) (w : World) (S : Sat w I (R)) : Ret Try.prog 15 [] w fun v w' => ∃ p : Value, p = v ∧ Sat w' I (Suite p ([] : List Thing) :: R) := by
  refine ret_E Try.func15 rfl Try.ntmps15 (by simp) ?_
  refine EC_seq ?_
  refine EC_reg ?_
  refine EL_val (.pointer none) w rfl (r_assign rfl) ?_
  refine EL_nil ?_
  refine thn_n ?_
  refine EC_seq ?_
  refine EC_reg ?_
  refine EL_map rfl ?_
  intro b11 w12 k13 A14 B15
  have S16 := S.newM B15 A14 k13
  refine EL_val (.agg ([.bool false, .slice none 0 0, .int .i64 0, .slice none 0 0, .map (some b11)]).toArray) w12 rfl (r_buildS (l := [(4, .map (some b11))]) st_72 (parts1 rfl) (Eq.trans (show Instr.fill _ _ [(4, .map (some b11))] = _ from (fill_one rfl rfl rfl fill_end)) (by kernel_rfl))) ?_
  refine EL_box [.bool false, .slice none 0 0, .int .i64 0, .slice none 0 0, .map (some b11)] rfl rfl rfl ?_
  intro b17 w18 k19 A20 B21 z22
  have S23 := S16.newB B21 A20 k19
  refine EL_val (ptr b17) w18 rfl (r_assign rfl) ?_
  refine EL_nil ?_
  refine thn_n ?_
  refine EC_ret ?_
  refine fin1 Try.results15 (show _ = ptr b17 from rfl) ⟨_, rfl, ?_⟩
  have S25 : Sat w18 I (Own 85 5 (.slice none 0 0) (([] : List Thing).length) (things []).flatten :: Blk b17 72 [.bool false, .slice none 0 0, .int .i64 0, .slice none 0 0, .map (some b11)] :: Mp b11 ([] : List (Value × Value)) :: R) := S23.nil 85 5
  have S26 := S25.fr2
  have S27 := S26.fr1
  have S28 := S27.fr2
  exact ⟨_, rfl, Suite.cls (L := []) (K := []) (fun t h => by cases h) KOf.nil S28⟩

set_option maxRecDepth 100000 in
set_option maxHeartbeats 4000000 in
theorem sizes_c (v0 : Value) (k : List UInt8) (v1 : Value) (n : List UInt8) (w : World) (H0 : Bs w v0 k) (H1 : Bs w v1 n) : Ret Try.prog 55 [v0, v1] w fun v w' => .bool (decide ((k.length : Int) = 32) && decide ((n.length : Int) = 12)) = v ∧ Below w.heap.size w w' := by
  have S := Sat.start w
  have Q0 := Row.ro H0
  have Q1 := Row.ro H1
  have lq0 := RoB.le Q0 S.le
  have lq1 := RoB.le Q1 S.le
  refine ret_E Try.func55 rfl Try.ntmps55 (by simp) ?_
  refine EC_seq ?_
  refine EC_reg ?_
  refine EL_val (.bool false) w rfl (r_assign rfl) ?_
  refine EL_nil ?_
  refine thn_n ?_
  refine EC_seq ?_
  refine EC_reg ?_
  refine EL_val v0 w rfl (r_move rfl) ?_
  refine EL_val (.int .i64 (k.length : Int)) w rfl (lenB (r_len rfl (Q0 _ S.le) Try.underlying22)) ?_
  refine EL_val (.bool (decide ((k.length : Int) = 32))) w rfl (r_eql rfl rfl) ?_
  refine EL_val (.bool (decide ((k.length : Int) = 32))) w rfl (r_move rfl) ?_
  refine EL_gite 8 rfl rfl rfl v1 rfl (fun g11 => r_move rfl) ?_
  refine EL_gite 8 rfl rfl rfl (.int .i64 (n.length : Int)) rfl (fun g12 => lenB (r_len (cond_of g12 rfl) (Q1 _ S.le) Try.underlying22)) ?_
  refine EL_gite 8 rfl rfl rfl (.bool (decide ((n.length : Int) = 12))) rfl (fun g13 => r_eql (cond_of g13 rfl) rfl) ?_
  refine EL_val (.bool ((decide ((k.length : Int) = 32)) && (decide ((n.length : Int) = 12)))) w rfl (r_and rfl rfl rfl) ?_
  refine EL_val (.bool ((decide ((k.length : Int) = 32)) && (decide ((n.length : Int) = 12)))) w rfl (r_assign rfl) ?_
  refine EL_nil ?_
  refine thn_n ?_
  refine EC_ret ?_
  refine fin1 Try.results55 (show _ = .bool ((decide ((k.length : Int) = 32)) && (decide ((n.length : Int) = 12))) from rfl) ⟨_, rfl, ?_⟩
  exact ⟨rfl, (Below.refl _ _)⟩

set_option maxRecDepth 100000 in
set_option maxHeartbeats 4000000 in
theorem Code_c (p : Value) (L : List Thing) (v0 : Value) (k : List UInt8) (v1 : Value) (ls : List (List UInt8)) (I : Gh) (R : List HP) (w : World) (S : Sat w I (Suite p L :: R)) (Q0 : RoB I v0 k) (Q1 : RoX I v1 bytesR ls) (hl : L.length ≤ 1000000) (hk : k.length ≤ 1000000000) (hb : ls.flatten.length ≤ 1000000000) : Ret Try.prog 74 [p, v0, v1] w fun v w' => ∃ v2 : Value, v2 = v ∧ Sat w' I (OwnB v2 (signOf 77 (onceN (tCode k ls.flatten) L)) :: Suite p (onceL (tCode k ls.flatten) L) :: R) := by
  have lq0 := RoB.le Q0 S.le
  have lq1 := XRow.le (Q1.row S.le)
  obtain ⟨b, lv, mb, K, rfl, hL, hK, S⟩ := Suite.opn S
  refine ret_E Try.func74 rfl Try.ntmps74 (by simp) ?_
  refine EC_seq ?_
  refine EC_reg ?_
  refine EL_val (.slice none 0 0) w rfl (r_assign rfl) ?_
  refine EL_nil ?_
  refine thn_n ?_
  refine EC_seq ?_
  refine EC_seq ?_
  refine EC_reg ?_
  refine EL_val (ptr b) w rfl (r_move rfl) ?_
  refine EL_val (ptr b) w rfl (r_nil rfl) ?_
  refine EL_val (ptr b 0) w rfl (r_fieldP (o := 0) (s := 1) rfl Try.underlying72 rfl (by kernel_rfl) (by decide) rfl) ?_
  refine EL_val (.bool false) w rfl (r_loadA rfl (S.arr 0 rfl) (u := (.bool false)) rfl Try.underlying4 rfl) ?_
  refine EL_nil ?_
  refine thn_n ?_
  refine EC_cond_false rfl ?_
  refine EC_skip ?_
  refine thn_n ?_
  refine EC_seq ?_
  refine EC_any 7 (fun w' => Gh.le I (gh w')) (fun w' => True) (by kernel_rfl) ?_
  intro w11 B12
  have S13 := S.below B12
  refine EJ_take 0 rfl (by kernel_rfl) (by kernel_rfl) (by kernel_rfl) rfl (by kernel_rfl) (ptr b) rfl (fun _ hw ht => r_move rfl) ⟨S13.le, fun h => trivial⟩ ?_
  refine EJ_take 1 rfl (by kernel_rfl) (by kernel_rfl) (by kernel_rfl) rfl (by kernel_rfl) v0 rfl (fun _ hw ht => r_move rfl) ⟨S13.le, fun h => trivial⟩ ?_
  refine EJ_take 2 rfl (by kernel_rfl) (by kernel_rfl) (by kernel_rfl) rfl (by kernel_rfl) (.string (str k)) rfl (fun _ hw ht => r_str rfl (Q0 _ hw) Try.underlying22 Try.underlying5 Try.underlying9) ⟨S13.le, fun h => trivial⟩ ?_
  refine EJ_take 3 rfl (by kernel_rfl) (by kernel_rfl) (by kernel_rfl) rfl (by kernel_rfl) v1 rfl (fun _ hw ht => r_move rfl) ⟨S13.le, fun h => trivial⟩ ?_
  refine EJ_one 4 (by kernel_rfl) ⟨_, rfl, ?_⟩
  refine EL_ret _ rfl Try.func92 rfl nm92 rfl (joined_c v1 ls I _ _ S13 Q1 (by first | assumption | omega | (simp; done) | (simp; omega))) ?_
  rintro _ w14 ⟨rfl, S15⟩
  refine EL_nil ?_
  refine ⟨rfl, ⟨S15.le, fun h => trivial⟩, ?_⟩
  refine EJ_take 5 rfl (by kernel_rfl) (by kernel_rfl) (by kernel_rfl) rfl (by kernel_rfl) (.agg ([.int .u8 77, .string (str k), .string (str ([] : List UInt8)), .string (str ls.flatten), .string (str ([] : List UInt8))]).toArray) rfl (fun _ hw ht => r_buildS (l := [(0, .int .u8 77), (1, .string (str k)), (3, .string (str ls.flatten))]) st_85 (parts3 rfl rfl rfl) (Eq.trans (show Instr.fill _ _ [(0, .int .u8 77), (1, .string (str k)), (3, .string (str ls.flatten))] = _ from (fill_one rfl rfl rfl (fill_one rfl rfl rfl (fill_one rfl rfl rfl fill_end)))) (by kernel_rfl))) ⟨S15.le, fun h => trivial⟩ ?_
  refine EJ_one 6 (by kernel_rfl) ⟨_, rfl, ?_⟩
  have S16 : Sat w14 I (Suite (ptr b) L :: R) := Suite.cls hL hK S15
  refine EL_ret _ rfl Try.func91 rfl nm91 rfl (once_c (ptr b) L (⟨(77 : UInt8), k, [], ls.flatten, []⟩ : Thing) I _ _ S16 (by first | assumption | omega | (simp; done) | (simp; omega)) (by refine ⟨?_, ?_, ?_, ?_⟩ <;> first | (simp; done) | assumption | (simp; omega)) rfl) ?_
  rintro _ w17 ⟨rfl, S18⟩
  refine EL_nil ?_
  refine ⟨rfl, ⟨S18.le, fun h => trivial⟩, ?_⟩
  refine EJ_one 7 (by kernel_rfl) ⟨_, rfl, ?_⟩
  refine EL_ret _ rfl Try.func49 rfl nm49 rfl (signed_c (77 : UInt8) (onceN (⟨(77 : UInt8), k, [], ls.flatten, []⟩ : Thing) L : Int) I _ _ S18 (by have := onceN_le (⟨(77 : UInt8), k, [], ls.flatten, []⟩ : Thing) L; omega)) ?_
  rintro _ w19 ⟨v21, rfl, S20⟩
  refine EL_nil ?_
  refine ⟨rfl, ⟨S20.le, fun h => by cases h⟩, ?_⟩
  refine EJ_float 8 rfl (by kernel_rfl) (by kernel_rfl) (by kernel_rfl) rfl v21 rfl (fun _ hw => r_assign rfl) ⟨S20.le, fun h => by cases h⟩ ?_
  refine EJ_done (by kernel_rfl) ?_
  refine thn_n ?_
  refine EC_ret ?_
  refine fin1 Try.results74 (show _ = v21 from rfl) ⟨_, rfl, ?_⟩
  exact ⟨v21, rfl, S20⟩

set_option maxRecDepth 100000 in
set_option maxHeartbeats 4000000 in
theorem Key_c (p : Value) (L : List Thing) (I : Gh) (R : List HP) (w : World) (S : Sat w I (Suite p L :: R)) (hl : L.length ≤ 1000000) : Ret Try.prog 17 [p] w fun v w' => ∃ v1 : Value, v1 = v ∧ Sat w' I (OwnB v1 (signOf 75 ((L.length : Int) + 1)) :: Suite p (L ++ [tKey]) :: R) := by
  obtain ⟨b, lv, mb, K, rfl, hL, hK, S⟩ := Suite.opn S
  refine ret_E Try.func17 rfl Try.ntmps17 (by simp) ?_
  refine EC_seq ?_
  refine EC_reg ?_
  refine EL_val (.slice none 0 0) w rfl (r_assign rfl) ?_
  refine EL_nil ?_
  refine thn_n ?_
  refine EC_seq ?_
  refine EC_seq ?_
  refine EC_reg ?_
  refine EL_val (ptr b) w rfl (r_move rfl) ?_
  refine EL_val (ptr b) w rfl (r_nil rfl) ?_
  refine EL_val (ptr b 0) w rfl (r_fieldP (o := 0) (s := 1) rfl Try.underlying72 rfl (by kernel_rfl) (by decide) rfl) ?_
  refine EL_val (.bool false) w rfl (r_loadA rfl (S.arr 0 rfl) (u := (.bool false)) rfl Try.underlying4 rfl) ?_
  refine EL_nil ?_
  refine thn_n ?_
  refine EC_cond_false rfl ?_
  refine EC_skip ?_
  refine thn_n ?_
  refine EC_seq ?_
  refine EC_reg ?_
  refine EL_val (ptr b) w rfl (r_move rfl) ?_
  refine EL_val (.agg ([.int .u8 75, .string (str ([] : List UInt8)), .string (str ([] : List UInt8)), .string (str ([] : List UInt8)), .string (str ([] : List UInt8))]).toArray) w rfl (r_buildS (l := [(0, .int .u8 75)]) st_85 (parts1 rfl) (Eq.trans (show Instr.fill _ _ [(0, .int .u8 75)] = _ from (fill_one rfl rfl rfl fill_end)) (by kernel_rfl))) ?_
  refine EL_ret _ rfl Try.func50 rfl nm50 rfl (add_c b lv mb L (⟨(75 : UInt8), [], [], [], []⟩ : Thing) I _ _ S (by first | assumption | omega | (simp; done) | (simp; omega))) ?_
  rintro _ w11 ⟨lv'13, rfl, S12⟩
  refine EL_ret _ rfl Try.func49 rfl nm49 rfl (signed_c (75 : UInt8) ((L.length : Int) + 1) I _ _ S12 (by omega)) ?_
  rintro _ w14 ⟨v16, rfl, S15⟩
  refine EL_val v16 w14 rfl (r_assign rfl) ?_
  refine EL_nil ?_
  refine thn_n ?_
  refine EC_ret ?_
  refine fin1 Try.results17 (show _ = v16 from rfl) ⟨_, rfl, ?_⟩
  have S17 := S15.fr3
  have S18 := S17.fr3
  have S19 := S18.fr3
  have S20 : Sat w14 I (Suite (ptr b) (L ++ [(⟨(75 : UInt8), [], [], [], []⟩ : Thing)]) :: OwnB v16 (signOf (75 : UInt8) ((L.length : Int) + 1)) :: R) := Suite.cls (app_ok hL (by refine ⟨?_, ?_, ?_, ?_⟩ <;> simp)) (hK.other rfl) S19
  have S21 := S20.fr1
  exact ⟨v16, rfl, S21⟩

set_option maxRecDepth 100000 in
set_option maxHeartbeats 4000000 in
theorem Seal_c (p : Value) (L : List Thing) (v0 : Value) (k : List UInt8) (v1 : Value) (n : List UInt8) (v2 : Value) (o : List UInt8) (v3 : Value) (x : List UInt8) (I : Gh) (R : List HP) (w : World) (S : Sat w I (Suite p L :: R)) (Q0 : RoB I v0 k) (Q1 : RoB I v1 n) (Q2 : RoB I v2 o) (Q3 : RoB I v3 x) (hl : L.length ≤ 1000000) (hk : k.length ≤ 1000000000) (hn : n.length ≤ 1000000000) (ho : o.length ≤ 1000000000) (hx : x.length ≤ 800000000) : Ret Try.prog 21 [p, v0, v1, v2, v3] w fun v w' => ∃ v4 : Value, .tuple #[v4, .int .i64 (sealE k n)] = v ∧ Sat w' I (OwnB v4 (sealB L k n x) :: Suite p (sealL L k n o x) :: R) := by
  have lq0 := RoB.le Q0 S.le
  have lq1 := RoB.le Q1 S.le
  have lq2 := RoB.le Q2 S.le
  have lq3 := RoB.le Q3 S.le
  obtain ⟨b, lv, mb, K, rfl, hL, hK, S⟩ := Suite.opn S
  have hx2 : x.length ≤ 1000000000 := by omega
  refine ret_E Try.func21 rfl Try.ntmps21 (by simp) ?_
  refine EC_seq ?_
  refine EC_reg ?_
  refine EL_val (.slice none 0 0) w rfl (r_assign rfl) ?_
  refine EL_val (.int .i64 0) w rfl (r_assign rfl) ?_
  refine EL_nil ?_
  refine thn_n ?_
  refine EC_seq ?_
  refine EC_block ?_
  refine EC_seq ?_
  refine EC_reg ?_
  refine EL_val (ptr b) w rfl (r_move rfl) ?_
  refine EL_val (ptr b) w rfl (r_nil rfl) ?_
  refine EL_val (ptr b 0) w rfl (r_fieldP (o := 0) (s := 1) rfl Try.underlying72 rfl (by kernel_rfl) (by decide) rfl) ?_
  refine EL_val (.bool false) w rfl (r_loadA rfl (S.arr 0 rfl) (u := (.bool false)) rfl Try.underlying4 rfl) ?_
  refine EL_val (.bool false) w rfl (r_assign rfl) ?_
  refine EL_nil ?_
  refine thn_n ?_
  refine EC_cond_false rfl ?_
  refine EC_seq ?_
  refine EC_reg ?_
  refine EL_val v0 w rfl (r_move rfl) ?_
  refine EL_val v1 w rfl (r_move rfl) ?_
  refine EL_ret _ rfl Try.func55 rfl nm55 rfl (sizes_c v0 k v1 n _ (Q0 _ S.le) (Q1 _ S.le)) ?_
  rintro _ w12 ⟨rfl, B11⟩
  have S13 := S.below B11
  refine EL_val (.bool (!(decide ((k.length : Int) = 32) && decide ((n.length : Int) = 12)))) w12 rfl (r_not rfl) ?_
  refine EL_val (.bool (!(decide ((k.length : Int) = 32) && decide ((n.length : Int) = 12)))) w12 rfl (r_assign rfl) ?_
  refine EL_nil ?_
  refine thn_n ?_
  refine EC_cond (t := !(decide ((k.length : Int) = 32) && decide ((n.length : Int) = 12))) rfl (fun h14 => ?_) (fun h14 => ?_)
  · have hz : szOk k n = false := (Bool.not_eq_true' _).mp h14
    refine EC_seq ?_
    refine EC_reg ?_
    refine EL_val (.slice none 0 0) w12 rfl (r_assign rfl) ?_
    refine EL_val (.int .i64 11) w12 rfl (r_assign rfl) ?_
    refine EL_nil ?_
    refine thn_n ?_
    refine EC_ret ?_
    refine inB_r ?_
    refine thn_r ?_
    refine fin2 Try.results21 (show _ = .slice none 0 0 from rfl) (show _ = .int .i64 11 from rfl) ⟨_, rfl, ?_⟩
    have S15 : Sat w12 I (Suite (ptr b) L :: R) := Suite.cls hL hK S13
    rw [show sealB L k n x = [] from by simp [sealB, hz], show sealL L k n o x = L from by simp [sealL, hz]]
    have S17 : Sat w12 I (OwnB (.slice none 0 0) ([] : List UInt8) :: Suite (ptr b) L :: R) := S15.nil 5 1
    exact ⟨(.slice none 0 0), (by simp [sealE, hz]), S17⟩
  · have hz : szOk k n = true := (Bool.not_eq_false' _).mp h14
    refine EC_skip ?_
    refine inB_n ?_
    refine thn_n ?_
    refine EC_seq ?_
    refine EC_reg ?_
    refine EL_val (ptr b) w12 rfl (r_move rfl) ?_
    refine EL_val v0 w12 rfl (r_move rfl) ?_
    refine EL_val (.string (str k)) w12 rfl (r_str rfl (Q0 _ S13.le) Try.underlying22 Try.underlying5 Try.underlying9) ?_
    refine EL_val v1 w12 rfl (r_move rfl) ?_
    refine EL_val (.string (str n)) w12 rfl (r_str rfl (Q1 _ S13.le) Try.underlying22 Try.underlying5 Try.underlying9) ?_
    refine EL_val v3 w12 rfl (r_move rfl) ?_
    refine EL_val (.string (str x)) w12 rfl (r_str rfl (Q3 _ S13.le) Try.underlying22 Try.underlying5 Try.underlying9) ?_
    refine EL_val v2 w12 rfl (r_move rfl) ?_
    refine EL_val (.string (str o)) w12 rfl (r_str rfl (Q2 _ S13.le) Try.underlying22 Try.underlying5 Try.underlying9) ?_
    refine EL_val (.agg ([.int .u8 66, .string (str k), .string (str n), .string (str x), .string (str o)]).toArray) w12 rfl (r_buildS (l := [(0, .int .u8 66), (1, .string (str k)), (2, .string (str n)), (3, .string (str x)), (4, .string (str o))]) st_85 (parts5 rfl rfl rfl rfl rfl) (Eq.trans (show Instr.fill _ _ [(0, .int .u8 66), (1, .string (str k)), (2, .string (str n)), (3, .string (str x)), (4, .string (str o))] = _ from (fill_one rfl rfl rfl (fill_one rfl rfl rfl (fill_one rfl rfl rfl (fill_one rfl rfl rfl (fill_one rfl rfl rfl fill_end)))))) (by kernel_rfl))) ?_
    refine EL_ret _ rfl Try.func50 rfl nm50 rfl (add_c b lv mb L (⟨(66 : UInt8), k, n, x, o⟩ : Thing) I _ _ S13 (by first | assumption | omega | (simp; done) | (simp; omega))) ?_
    rintro _ w18 ⟨lv'20, rfl, S19⟩
    refine EL_val (.int .i64 ((L.length : Int) + 1)) w18 rfl (r_assign rfl) ?_
    refine EL_nil ?_
    refine thn_n ?_
    refine EC_seq ?_
    refine EC_reg ?_
    refine EL_val (.int .i64 ((L.length : Int) + 1)) w18 rfl (r_move rfl) ?_
    refine EL_val v3 w18 rfl (r_move rfl) ?_
    refine EL_val (.int .i64 (x.length : Int)) w18 rfl (lenB (r_len rfl (Q3 _ S19.le) Try.underlying22)) ?_
    refine EL_ret _ rfl Try.func56 rfl nm56 rfl (box_c ((L.length : Int) + 1) (x.length : Int) I _ _ S19 (by first | assumption | omega | (simp; done) | (simp; omega)) (by first | assumption | omega | (simp; done) | (simp; omega))) ?_
    rintro _ w21 ⟨v23, rfl, S22⟩
    refine EL_val v23 w21 rfl (r_assign rfl) ?_
    refine EL_val (.int .i64 0) w21 rfl (r_assign rfl) ?_
    refine EL_nil ?_
    refine thn_n ?_
    refine EC_ret ?_
    refine fin2 Try.results21 (show _ = v23 from rfl) (show _ = .int .i64 0 from rfl) ⟨_, rfl, ?_⟩
    have S24 := S22.fr3
    have S25 := S24.fr3
    have S26 := S25.fr3
    have S27 : Sat w21 I (Suite (ptr b) (L ++ [(⟨(66 : UInt8), k, n, x, o⟩ : Thing)]) :: OwnB v23 (boxOf ((L.length : Int) + 1) (x.length : Int).toNat) :: R) := Suite.cls (app_ok hL (show (tBox k n o x).ok from ⟨by assumption, by assumption, by assumption, by assumption⟩)) (hK.other rfl) S26
    rw [show sealB L k n x = boxOf ((L.length : Int) + 1) x.length from by simp [sealB, hz], show sealL L k n o x = L ++ [tBox k n o x] from by simp [sealL, hz]]
    rw [show ((x.length : Int)).toNat = x.length from by omega] at S27
    have S28 := S27.fr1
    exact ⟨v23, (by simp [sealE, hz]), S28⟩

set_option maxRecDepth 100000 in
set_option maxHeartbeats 4000000 in
theorem Open_c (p : Value) (L : List Thing) (v0 : Value) (k : List UInt8) (v1 : Value) (n : List UInt8) (v2 : Value) (o : List UInt8) (v3 : Value) (x : List UInt8) (I : Gh) (R : List HP) (w : World) (S : Sat w I (Suite p L :: R)) (Q0 : RoB I v0 k) (Q1 : RoB I v1 n) (Q2 : RoB I v2 o) (Q3 : RoB I v3 x) (hl : L.length ≤ 1000000) (hk : k.length ≤ 1000000000) (hn : n.length ≤ 1000000000) (ho : o.length ≤ 1000000000) (hx : x.length ≤ 800000000) (hT : ∀ t ∈ L, t.text.length ≤ 800000000) : Ret Try.prog 26 [p, v0, v1, v2, v3] w fun v w' => ∃ v4 : Value, ∃ J : Gh, Gh.le I J ∧ .tuple #[v4, .int .i64 (openE L k n o x)] = v ∧ RoB J v4 (openB L k n o x) ∧ Sat w' J (Suite p L :: R) := by
  have lq0 := RoB.le Q0 S.le
  have lq1 := RoB.le Q1 S.le
  have lq2 := RoB.le Q2 S.le
  have lq3 := RoB.le Q3 S.le
  obtain ⟨b, lv, mb, K, rfl, hL, hK, S⟩ := Suite.opn S
  have hx2 : x.length ≤ 1000000000 := by omega
  refine ret_E Try.func26 rfl Try.ntmps26 (by simp) ?_
  refine EC_seq ?_
  refine EC_reg ?_
  refine EL_val (.slice none 0 0) w rfl (r_assign rfl) ?_
  refine EL_val (.int .i64 0) w rfl (r_assign rfl) ?_
  refine EL_nil ?_
  refine thn_n ?_
  refine EC_seq ?_
  refine EC_block ?_
  refine EC_seq ?_
  refine EC_reg ?_
  refine EL_val (ptr b) w rfl (r_move rfl) ?_
  refine EL_val (ptr b) w rfl (r_nil rfl) ?_
  refine EL_val (ptr b 0) w rfl (r_fieldP (o := 0) (s := 1) rfl Try.underlying72 rfl (by kernel_rfl) (by decide) rfl) ?_
  refine EL_val (.bool false) w rfl (r_loadA rfl (S.arr 0 rfl) (u := (.bool false)) rfl Try.underlying4 rfl) ?_
  refine EL_val (.bool false) w rfl (r_assign rfl) ?_
  refine EL_nil ?_
  refine thn_n ?_
  refine EC_cond_false rfl ?_
  refine EC_seq ?_
  refine EC_reg ?_
  refine EL_val v0 w rfl (r_move rfl) ?_
  refine EL_val v1 w rfl (r_move rfl) ?_
  refine EL_ret _ rfl Try.func55 rfl nm55 rfl (sizes_c v0 k v1 n _ (Q0 _ S.le) (Q1 _ S.le)) ?_
  rintro _ w12 ⟨rfl, B11⟩
  have S13 := S.below B11
  refine EL_val (.bool (!(decide ((k.length : Int) = 32) && decide ((n.length : Int) = 12)))) w12 rfl (r_not rfl) ?_
  refine EL_val (.bool (!(decide ((k.length : Int) = 32) && decide ((n.length : Int) = 12)))) w12 rfl (r_assign rfl) ?_
  refine EL_nil ?_
  refine thn_n ?_
  refine EC_cond (t := !(decide ((k.length : Int) = 32) && decide ((n.length : Int) = 12))) rfl (fun h14 => ?_) (fun h14 => ?_)
  · have hz : szOk k n = false := (Bool.not_eq_true' _).mp h14
    refine EC_seq ?_
    refine EC_reg ?_
    refine EL_val (.slice none 0 0) w12 rfl (r_assign rfl) ?_
    refine EL_val (.int .i64 11) w12 rfl (r_assign rfl) ?_
    refine EL_nil ?_
    refine thn_n ?_
    refine EC_ret ?_
    refine inB_r ?_
    refine thn_r ?_
    refine fin2 Try.results26 (show _ = .slice none 0 0 from rfl) (show _ = .int .i64 11 from rfl) ⟨_, rfl, ?_⟩
    have S15 : Sat w12 I (Suite (ptr b) L :: R) := Suite.cls hL hK S13
    rw [show openB L k n o x = [] from by simp [openB, hz]]
    exact ⟨(.slice none 0 0), I, (Gh.le_refl _), (by simp [openE, hz]), Ro.nil, S15⟩
  · have hz : szOk k n = true := (Bool.not_eq_false' _).mp h14
    refine EC_seq ?_
    refine EC_reg ?_
    refine EL_val v3 w12 rfl (r_move rfl) ?_
    refine EL_val (.int .i64 (x.length : Int)) w12 rfl (lenB (r_len rfl (Q3 _ S13.le) Try.underlying22)) ?_
    refine EL_val (.bool (decide ((x.length : Int) < 16))) w12 rfl (r_lss rfl rfl) ?_
    refine EL_val (.bool (decide ((x.length : Int) < 16))) w12 rfl (r_assign rfl) ?_
    refine EL_nil ?_
    refine thn_n ?_
    refine EC_if (p := (x.length : Int) < 16) rfl (fun h16 => ?_) (fun h16 => ?_)
    · have hz2 := open_short (L := L) (k := k) (n := n) (o := o) (b := x) (by omega)
      refine EC_seq ?_
      refine EC_reg ?_
      refine EL_val (.slice none 0 0) w12 rfl (r_assign rfl) ?_
      refine EL_val (.int .i64 20) w12 rfl (r_assign rfl) ?_
      refine EL_nil ?_
      refine thn_n ?_
      refine EC_ret ?_
      refine inB_r ?_
      refine thn_r ?_
      refine fin2 Try.results26 (show _ = .slice none 0 0 from rfl) (show _ = .int .i64 20 from rfl) ⟨_, rfl, ?_⟩
      have S17 : Sat w12 I (Suite (ptr b) L :: R) := Suite.cls hL hK S13
      rw [show openB L k n o x = [] from by simp [openB, hz, hz2]]
      exact ⟨(.slice none 0 0), I, (Gh.le_refl _), (by simp [openE, hz, hz2]), Ro.nil, S17⟩
    · have hb16 : ¬ x.length < 16 := by omega
      refine EC_skip ?_
      refine inB_n ?_
      refine thn_n ?_
      refine EC_seq ?_
      refine EC_reg ?_
      refine EL_val (.int .i64 0) w12 rfl (r_assign rfl) ?_
      refine EL_nil ?_
      refine thn_n ?_
      refine EC_seq ?_
      refine EC_seq ?_
      refine EC_reg ?_
      refine EL_val v3 w12 rfl (r_move rfl) ?_
      refine EL_val v3 w12 rfl (r_move rfl) ?_
      refine EL_val (.int .i64 (x.length : Int)) w12 rfl (lenB (r_len rfl (Q3 _ S13.le) Try.underlying22)) ?_
      refine EL_int ((x.length : Int) - 8) rfl (r_subi rfl rfl (by omega)) ?_
      intro x18 hx18
      refine EL_val (cutV v3 ((x18 : Int).toNat) ((x.map byt).length)) w12 rfl (r_slice rfl (Q3 _ S13.le) Try.underlying22 (by kernel_rfl) ((x18 : Int).toNat) ((x.map byt).length) (by first | omega | (simp; omega) | simp) (by first | omega | (simp; omega) | simp) (.inr ⟨_, _, rfl, (show _ = Value.int .i64 ((x18 : Int).toNat : Int) from by rw [Int.toNat_of_nonneg (by omega)]; exact rfl)⟩) (.inl ⟨rfl, rfl⟩)) ?_
      have H19 : RoB I (cutV v3 ((x18 : Int).toNat) ((x.map byt).length)) (x.drop ((x18 : Int).toNat)) := rob_as (RoB.cut Q3 ((x18 : Int).toNat) ((x.map byt).length) (by first | omega | (simp; omega) | simp) (by first | omega | (simp; omega) | simp)) (by simp)
      have L20 : (x.drop ((x18 : Int).toNat)).length = x.length - ((x18 : Int).toNat) := by first | (simp; done) | (simp; omega)
      refine EL_val (.int .i64 8) w12 rfl (r_asn (by simp; omega) (lenB (r_len rfl (H19 _ S13.le) Try.underlying22))) ?_
      refine EL_val (.int .i64 0) w12 rfl (r_move rfl) ?_
      refine EL_nil ?_
      refine thn_n ?_
      refine EC_block ?_
      refine EC_loop (fun m' E' w' => ∃ j : Nat, m' = 8 - j ∧ E' 12 = .int .i64 (IntKind.i64.wrap (numOf ((x.drop (x.length - 8)).take j) : Int)) ∧ E' 43 = .int .i64 (j : Int) ∧ E' 0 = ptr b ∧ E' 1 = v0 ∧ E' 2 = v1 ∧ E' 3 = v2 ∧ E' 4 = v3 ∧ E' 10 = .slice none 0 0 ∧ E' 11 = .int .i64 0 ∧ E' 41 = (cutV v3 ((x18 : Int).toNat) ((x.map byt).length)) ∧ E' 42 = .int .i64 8 ∧ (j ≤ 8) ∧ Sat w' I (Blk b 72 (sCells lv mb) :: Own 85 5 lv L.length (things L).flatten :: Mp mb (entE K) :: R)) _ ⟨0, rfl, rfl, rfl, rfl, rfl, rfl, rfl, rfl, rfl, rfl, rfl, rfl, Nat.zero_le _, S13⟩ ?_
      rintro _ E21 w22 ⟨j, rfl, e23, e24, e25, e26, e27, e28, e29, e30, e31, e32, e33, hj, S34⟩
      refine EC_seq ?_
      refine EC_reg ?_
      refine EL_val (.bool (decide ((j : Int) < 8))) w22 rfl (r_lss (by exact e24) (by exact e33)) ?_
      refine EL_nil ?_
      refine thn_n ?_
      refine EC_seq ?_
      refine EC_if (p := (j : Int) < 8) rfl (fun h35 => ?_) (fun h35 => ?_)
      · refine EC_skip ?_
        refine thn_n ?_
        refine EC_seq ?_
        refine EC_block ?_
        refine EC_seq ?_
        refine EC_reg ?_
        refine EL_val (.pointer (some (at_ (cutV v3 ((x18 : Int).toNat) ((x.map byt).length)) (((j : Int) : Int).toNat)))) w22 rfl (r_index (by exact e32) (H19 _ S34.le) (by exact e24) (by omega) (by first | omega | (simp; omega) | simp) Try.underlying22 (by kernel_rfl)) ?_
        obtain ⟨b36, hb37⟩ := get_some (l := x.drop ((x18 : Int).toNat)) (j := ((j : Int) : Int).toNat) (by first | omega | (simp; omega) | simp)
        have hb38 := b36.toNat_lt
        refine EL_val (.int .u8 (b36.toNat : Int)) w22 rfl (r_load rfl ((H19 _ S34.le).cell (bs_get hb37)) Try.underlying5 rfl) ?_
        refine EL_val (.int .u8 (b36.toNat : Int)) w22 rfl (r_assign rfl) ?_
        refine EL_nil ?_
        refine thn_n ?_
        refine EC_reg ?_
        refine EL_val (.int .i64 (IntKind.i64.wrap (numOf ((x.drop (x.length - 8)).take j) : Int))) w22 rfl (r_move (by exact e23)) ?_
        refine EL_val (.int .i64 (IntKind.i64.wrap ((IntKind.i64.wrap (numOf ((x.drop (x.length - 8)).take j) : Int)) * 256))) w22 rfl (r_shl8 rfl rfl) ?_
        refine EL_val (.int .u8 (b36.toNat : Int)) w22 rfl (r_move rfl) ?_
        refine EL_val (.int .i64 (b36.toNat : Int)) w22 rfl (r_convi 5 3 rfl Try.underlying5 Try.underlying3 (by omega)) ?_
        refine EL_val (.int .i64 (IntKind.i64.wrap ((IntKind.i64.wrap (numOf ((x.drop (x.length - 8)).take j) : Int)) * 256 + (b36.toNat : Int)))) w22 rfl (r_or8 rfl rfl) ?_
        refine EL_val (.int .i64 (IntKind.i64.wrap ((IntKind.i64.wrap (numOf ((x.drop (x.length - 8)).take j) : Int)) * 256 + (b36.toNat : Int)))) w22 rfl (r_assign rfl) ?_
        refine EL_nil ?_
        refine inB_n ?_
        refine thn_n ?_
        refine EC_reg ?_
        refine EL_int ((j : Int) + 1) rfl (r_addi (by exact e24) rfl (by omega)) ?_
        intro x39 hx39
        refine EL_val (.int .i64 x39) w22 rfl (r_move rfl) ?_
        refine EL_nil ?_
        refine thn_n ?_
        rw [show (x18 : Int).toNat = x.length - 8 by omega] at hb37
        refine ⟨_, ?_, j + 1, rfl, (Eq.trans (show _ = Value.int .i64 (IntKind.i64.wrap (IntKind.i64.wrap (numOf ((x.drop (x.length - 8)).take j) : Int) * 256 + (b36.toNat : Int))) from rfl) (congrArg _ (num_step (j := j) hb37))), (Eq.trans (show _ = Value.int .i64 x39 from rfl) (congrArg _ (by omega))), (by exact e25), (by exact e26), (by exact e27), (by exact e28), (by exact e29), (by exact e30), (by exact e31), (by exact e32), (by exact e33), by omega, S34⟩
        first | omega | (simp; omega)
      · refine EC_exit ?_
        refine thn_x ?_
        refine thn_x ?_
        refine inB_hit ?_
        refine thn_n ?_
        refine EC_seq ?_
        refine EC_seq ?_
        refine EC_reg ?_
        refine EL_val (.int .i64 (IntKind.i64.wrap (numOf ((x.drop (x.length - 8)).take j) : Int))) w22 rfl (r_move (by exact e23)) ?_
        refine EL_val (.bool (decide ((IntKind.i64.wrap (numOf ((x.drop (x.length - 8)).take j) : Int)) < 1))) w22 rfl (r_lss rfl rfl) ?_
        refine EL_val (.bool (decide ((IntKind.i64.wrap (numOf ((x.drop (x.length - 8)).take j) : Int)) < 1))) w22 rfl (r_move rfl) ?_
        refine EL_gite 55 rfl rfl rfl (.int .i64 (IntKind.i64.wrap (numOf ((x.drop (x.length - 8)).take j) : Int))) rfl (fun g40 => r_move (by exact e23)) ?_
        refine EL_gite 55 rfl rfl rfl (ptr b) rfl (fun g41 => r_move (by exact e25)) ?_
        refine EL_gite 55 rfl rfl rfl (ptr b) rfl (fun g42 => r_nil (cond_of g42 rfl)) ?_
        refine EL_gite 55 rfl rfl rfl (ptr b 3) rfl (fun g43 => r_fieldP (o := 0) (s := 1) (cond_of g43 rfl) Try.underlying72 rfl (by kernel_rfl) (by decide) rfl) ?_
        refine EL_gite 55 rfl rfl rfl lv rfl (fun g44 => r_loadA (cond_of g44 rfl) (S34.arr 0 rfl) (u := lv) rfl Try.underlying70 rfl) ?_
        refine EL_gite 55 rfl rfl rfl (.int .i64 (L.length : Int)) rfl (fun g45 => r_asn (by simp [things_len]) (r_lenW (cond_of g45 rfl) (S34.wrow 1 rfl (things_all _) (by decide)) Try.underlying70)) ?_
        refine EL_gite 55 rfl rfl rfl (.bool (decide ((L.length : Int) < (IntKind.i64.wrap (numOf ((x.drop (x.length - 8)).take j) : Int))))) rfl (fun g46 => r_gtr (cond_of g46 rfl) (cond_of g46 rfl)) ?_
        refine EL_val (.bool ((decide ((IntKind.i64.wrap (numOf ((x.drop (x.length - 8)).take j) : Int)) < 1)) || (decide ((L.length : Int) < (IntKind.i64.wrap (numOf ((x.drop (x.length - 8)).take j) : Int)))))) w22 rfl (r_or rfl rfl rfl) ?_
        refine EL_nil ?_
        refine thn_n ?_
        refine EC_cond (t := (decide ((IntKind.i64.wrap (numOf ((x.drop (x.length - 8)).take j) : Int)) < 1)) || (decide ((L.length : Int) < (IntKind.i64.wrap (numOf ((x.drop (x.length - 8)).take j) : Int))))) rfl (fun h47 => ?_) (fun h47 => ?_)
        · have et : (x.drop (x.length - 8)).take j = x.drop (x.length - 8) := List.take_of_length_le (by simp; omega)
          rw [et] at h47
          have hz2 := open_out (k := k) (n := n) (o := o) hb16 hl (by simpa using h47)
          refine EC_seq ?_
          refine EC_reg ?_
          refine EL_val (.slice none 0 0) w22 rfl (r_assign rfl) ?_
          refine EL_val (.int .i64 20) w22 rfl (r_assign rfl) ?_
          refine EL_nil ?_
          refine thn_n ?_
          refine EC_ret ?_
          refine thn_r ?_
          refine fin2 Try.results26 (show _ = .slice none 0 0 from rfl) (show _ = .int .i64 20 from rfl) ⟨_, rfl, ?_⟩
          have S48 : Sat w22 I (Suite (ptr b) L :: R) := Suite.cls hL hK S34
          rw [show openB L k n o x = [] from by simp [openB, hz, hz2]]
          exact ⟨(.slice none 0 0), I, (Gh.le_refl _), (by simp [openE, hz, hz2]), Ro.nil, S48⟩
        · have et : (x.drop (x.length - 8)).take j = x.drop (x.length - 8) := List.take_of_length_le (by simp; omega)
          rw [et] at h47
          obtain ⟨t, hat, hN, hN1, hN2, hop⟩ := open_at (L := L) (k := k) (n := n) (o := o) hb16 (by simpa using h47)
          have htk := hL t (List.mem_of_getElem? hat)
          have hu : (tBox k n o t.text).ok := ⟨by assumption, by assumption, htk.2.2.1, by assumption⟩
          have htx : t.text.length ≤ 800000000 := hT t (List.mem_of_getElem? hat)
          refine EC_skip ?_
          refine thn_n ?_
          refine EC_seq ?_
          refine EC_reg ?_
          refine EL_val (ptr b) w22 rfl (r_move (by exact e25)) ?_
          refine EL_val (ptr b) w22 rfl (r_nil rfl) ?_
          refine EL_val (ptr b 3) w22 rfl (r_fieldP (o := 0) (s := 1) rfl Try.underlying72 rfl (by kernel_rfl) (by decide) rfl) ?_
          refine EL_val lv w22 rfl (r_loadA rfl (S34.arr 0 rfl) (u := lv) rfl Try.underlying70 rfl) ?_
          refine EL_val (.int .i64 (numOf (x.drop (x.length - 8)) : Int)) w22 rfl (r_asn (m := IntKind.i64.wrap (numOf ((x.drop (x.length - 8)).take j) : Int)) (by rw [et]; exact hN) (r_move (by exact e23))) ?_
          refine EL_int ((numOf (x.drop (x.length - 8)) : Int) - 1) rfl (r_subi rfl rfl (by omega)) ?_
          intro x49 hx49
          refine EL_val (.pointer (some (atW lv 5 (x49 : Int).toNat))) w22 rfl (r_indexW rfl (S34.wrow 1 rfl (things_all _) (by decide)) rfl (by omega) (by rw [things_len]; omega) Try.underlying70 (by kernel_rfl)) ?_
          refine EL_val (.agg (t.cells).toArray) w22 rfl (r_loadW rfl (S34.wrow 1 rfl (things_all _) (by decide)) (things_at (show L[(x49 : Int).toNat]? = some t from by rw [show (x49 : Int).toNat = numOf (x.drop (x.length - 8)) - 1 by omega]; exact hat)) Try.underlying85 rfl (by rw [cells_len]; kernel_rfl)) ?_
          refine EL_alloc (z := .agg #[.int .u8 0, .string (str ([] : List UInt8)), .string (str ([] : List UInt8)), .string (str ([] : List UInt8)), .string (str ([] : List UInt8))]) [.int .u8 0, .string (str ([] : List UInt8)), .string (str ([] : List UInt8)), .string (str ([] : List UInt8)), .string (str ([] : List UInt8))] rfl (by kernel_rfl) rfl ?_
          intro b52 w53 k54 A55 B56 z57
          have S58 := S34.newB B56 A55 k54
          refine EL_storeAll (v := .agg (t.cells).toArray) (cs' := (t.cells).toArray) rfl rfl rfl (S58.arr 0 rfl) rfl (by kernel_rfl) (fun u h => cells_one t u (by simpa using h)) ?_
          intro w59 A60 K61 z62
          have S63 := S58.wr0 (ds := [.int .u8 (t.sort.toNat : Int), .string (str t.key), .string (str t.nonce), .string (str t.text), .string (str t.other)]) K61 A60
          refine EL_nil ?_
          refine thn_n ?_
          refine EC_seq ?_
          refine EC_seq ?_
          rcases Classical.em (t = tBox k n o t.text) with hA | hA
          · refine EC_any 16 (fun w' => Gh.le I (gh w')) (fun w' => Arr w' b52 85 [.int .u8 (t.sort.toNat : Int), .string (str t.key), .string (str t.nonce), .string (str t.text), .string (str t.other)]) (by kernel_rfl) ?_
            intro w64 B65
            have S66 := S63.below B65
            refine EJ_take 0 rfl (by kernel_rfl) (by kernel_rfl) (by kernel_rfl) rfl (by kernel_rfl) (.agg ([.int .u8 (t.sort.toNat : Int), .string (str t.key), .string (str t.nonce), .string (str t.text), .string (str t.other)]).toArray) rfl (fun _ hw ht => r_loadAll rfl ht Try.underlying85 rfl (by kernel_rfl)) ⟨S66.le, fun h => S66.arr 0 rfl⟩ ?_
            refine EJ_take 1 rfl (by kernel_rfl) (by kernel_rfl) (by kernel_rfl) rfl (by kernel_rfl) v0 rfl (fun _ hw ht => r_move (by exact e26)) ⟨S66.le, fun h => S66.arr 0 rfl⟩ ?_
            refine EJ_take 2 rfl (by kernel_rfl) (by kernel_rfl) (by kernel_rfl) rfl (by kernel_rfl) (.string (str k)) rfl (fun _ hw ht => r_str rfl (Q0 _ hw) Try.underlying22 Try.underlying5 Try.underlying9) ⟨S66.le, fun h => S66.arr 0 rfl⟩ ?_
            refine EJ_take 3 rfl (by kernel_rfl) (by kernel_rfl) (by kernel_rfl) rfl (by kernel_rfl) v1 rfl (fun _ hw ht => r_move (by exact e27)) ⟨S66.le, fun h => S66.arr 0 rfl⟩ ?_
            refine EJ_take 4 rfl (by kernel_rfl) (by kernel_rfl) (by kernel_rfl) rfl (by kernel_rfl) (.string (str n)) rfl (fun _ hw ht => r_str rfl (Q1 _ hw) Try.underlying22 Try.underlying5 Try.underlying9) ⟨S66.le, fun h => S66.arr 0 rfl⟩ ?_
            refine EJ_take 5 rfl (by kernel_rfl) (by kernel_rfl) (by kernel_rfl) rfl (by kernel_rfl) (ptr b52 3) rfl (fun _ hw ht => r_fieldP (o := 0) (s := 1) rfl Try.underlying85 rfl (by kernel_rfl) (by decide) rfl) ⟨S66.le, fun h => S66.arr 0 rfl⟩ ?_
            refine EJ_take 6 rfl (by kernel_rfl) (by kernel_rfl) (by kernel_rfl) rfl (by kernel_rfl) (.string (str t.text)) rfl (fun _ hw ht => r_loadA rfl ht (u := (.string (str t.text))) rfl Try.underlying9 rfl) ⟨S66.le, fun h => S66.arr 0 rfl⟩ ?_
            refine EJ_take 7 rfl (by kernel_rfl) (by kernel_rfl) (by kernel_rfl) rfl (by kernel_rfl) v2 rfl (fun _ hw ht => r_move (by exact e28)) ⟨S66.le, fun h => S66.arr 0 rfl⟩ ?_
            refine EJ_take 8 rfl (by kernel_rfl) (by kernel_rfl) (by kernel_rfl) rfl (by kernel_rfl) (.string (str o)) rfl (fun _ hw ht => r_str rfl (Q2 _ hw) Try.underlying22 Try.underlying5 Try.underlying9) ⟨S66.le, fun h => S66.arr 0 rfl⟩ ?_
            refine EJ_take 9 rfl (by kernel_rfl) (by kernel_rfl) (by kernel_rfl) rfl (by kernel_rfl) (.agg ([.int .u8 66, .string (str k), .string (str n), .string (str t.text), .string (str o)]).toArray) rfl (fun _ hw ht => r_buildS (l := [(0, .int .u8 66), (1, .string (str k)), (2, .string (str n)), (3, .string (str t.text)), (4, .string (str o))]) st_85 (parts5 rfl rfl rfl rfl rfl) (Eq.trans (show Instr.fill _ _ [(0, .int .u8 66), (1, .string (str k)), (2, .string (str n)), (3, .string (str t.text)), (4, .string (str o))] = _ from (fill_one rfl rfl rfl (fill_one rfl rfl rfl (fill_one rfl rfl rfl (fill_one rfl rfl rfl (fill_one rfl rfl rfl fill_end)))))) (by kernel_rfl))) ⟨S66.le, fun h => S66.arr 0 rfl⟩ ?_
            refine EJ_take 10 rfl (by kernel_rfl) (by kernel_rfl) (by kernel_rfl) rfl (by kernel_rfl) (.bool false) rfl (fun _ hw ht => r_neqS (xs := t.cells.toArray) (ys := (tBox k n o t.text).cells.toArray) (b := true) (by kernel_rfl) (by kernel_rfl) (by kernel_rfl) (by kernel_rfl) rfl rfl (kv_thing htk) (kv_thing hu) (by rw [show ((Value.agg t.cells.toArray : Value) = .agg (tBox k n o t.text).cells.toArray) ↔ t = tBox k n o t.text from val_inj]; first | exact ⟨fun _ => hA, fun _ => rfl⟩ | exact ⟨fun h => (by cases h), fun h => absurd h hA⟩)) ⟨S66.le, fun h => S66.arr 0 rfl⟩ ?_
            refine EJ_take 11 rfl (by kernel_rfl) (by kernel_rfl) (by kernel_rfl) rfl (by kernel_rfl) (.bool false) rfl (fun _ hw ht => r_move rfl) ⟨S66.le, fun h => S66.arr 0 rfl⟩ ?_
            refine EJ_gtake 12 rfl (by kernel_rfl) (by kernel_rfl) (by kernel_rfl) rfl (by kernel_rfl) 83 rfl rfl rfl rfl (.int .i64 (numOf (x.drop (x.length - 8)) : Int)) rfl (fun _ hw ht => r_asn (m := IntKind.i64.wrap (numOf ((x.drop (x.length - 8)).take j) : Int)) (by rw [et]; exact hN) (r_move (by exact e23))) ⟨S66.le, fun h => S66.arr 0 rfl⟩ ?_
            refine EJ_gtake 13 rfl (by kernel_rfl) (by kernel_rfl) (by kernel_rfl) rfl (by kernel_rfl) 83 rfl rfl rfl rfl (ptr b52 3) rfl (fun _ hw ht => r_fieldP (o := 0) (s := 1) rfl Try.underlying85 rfl (by kernel_rfl) (by decide) rfl) ⟨S66.le, fun h => S66.arr 0 rfl⟩ ?_
            refine EJ_gtake 14 rfl (by kernel_rfl) (by kernel_rfl) (by kernel_rfl) rfl (by kernel_rfl) 83 rfl rfl rfl rfl (.string (str t.text)) rfl (fun _ hw ht => r_loadA rfl ht (u := (.string (str t.text))) rfl Try.underlying9 rfl) ⟨S66.le, fun h => S66.arr 0 rfl⟩ ?_
            refine EJ_gtake 15 rfl (by kernel_rfl) (by kernel_rfl) (by kernel_rfl) rfl (by kernel_rfl) 83 rfl rfl rfl rfl (.int .i64 (t.text.length : Int)) rfl (fun _ hw ht => r_lenS rfl Try.underlying9) ⟨S66.le, fun h => S66.arr 0 rfl⟩ ?_
            refine EJ_gfloat 18 rfl (by kernel_rfl) (by kernel_rfl) (by kernel_rfl) rfl 83 rfl rfl rfl rfl v3 rfl (fun _ hw => r_move (by exact e29)) ⟨S66.le, fun h => S66.arr 0 rfl⟩ ?_
            refine EJ_gfloat 19 rfl (by kernel_rfl) (by kernel_rfl) (by kernel_rfl) rfl 83 rfl rfl rfl rfl (.string (str x)) rfl (fun _ hw => r_str rfl (Q3 _ hw) Try.underlying22 Try.underlying5 Try.underlying9) ⟨S66.le, fun h => S66.arr 0 rfl⟩ ?_
            refine EJ_one 16 (by kernel_rfl) ⟨_, rfl, ?_⟩
            refine EL_gret 83 rfl rfl rfl rfl _ rfl Try.func56 rfl nm56 rfl (box_c (numOf (x.drop (x.length - 8)) : Int) (t.text.length : Int) I _ _ S66 (by omega) (by first | assumption | omega | (simp; done) | (simp; omega))) ?_
            rintro _ w67 ⟨v69, rfl, S68⟩
            refine EL_nil ?_
            refine ⟨rfl, ⟨S68.le, fun h => by cases h⟩, ?_⟩
            obtain ⟨I70, le71, S72, H73⟩ := S68.fb0
            refine EJ_strong (fun w' => Gh.le I70 (gh w')) _ (fun w' hw => Gh.le_trans le71 hw) (fun w' _ ht => ht) ?_
            refine EJ_gfloat 17 rfl (by kernel_rfl) (by kernel_rfl) (by kernel_rfl) rfl 83 rfl rfl rfl rfl (.string (str (boxOf (numOf (x.drop (x.length - 8)) : Int) (t.text.length : Int).toNat))) rfl (fun _ hw => r_str rfl (H73 _ hw) Try.underlying22 Try.underlying5 Try.underlying9) ⟨S72.le, fun h => by cases h⟩ ?_
            refine EJ_gfloat 20 rfl (by kernel_rfl) (by kernel_rfl) (by kernel_rfl) rfl 83 rfl rfl rfl rfl (.bool (decide ((boxOf (numOf (x.drop (x.length - 8)) : Int) (t.text.length : Int).toNat) ≠ x))) rfl (fun _ hw => r_neqs rfl rfl) ⟨S72.le, fun h => by cases h⟩ ?_
            refine EJ_float 21 rfl (by kernel_rfl) (by kernel_rfl) (by kernel_rfl) rfl (.bool (decide ((boxOf (numOf (x.drop (x.length - 8)) : Int) (t.text.length : Int).toNat) ≠ x))) rfl (fun _ hw => r_pickF rfl rfl) ⟨S72.le, fun h => by cases h⟩ ?_
            refine EJ_done (by kernel_rfl) ?_
            refine thn_n ?_
            refine EC_if (p := (boxOf (numOf (x.drop (x.length - 8)) : Int) (t.text.length : Int).toNat) ≠ x) rfl (fun h74 => ?_) (fun h74 => ?_)
            · have hz2 : openOf L k n o x = none := by rw [hop]; exact if_neg (fun h2 => h74 h2.2)
              refine EC_seq ?_
              refine EC_reg ?_
              refine EL_val (.slice none 0 0) w67 rfl (r_assign rfl) ?_
              refine EL_val (.int .i64 20) w67 rfl (r_assign rfl) ?_
              refine EL_nil ?_
              refine thn_n ?_
              refine EC_ret ?_
              refine thn_r ?_
              refine fin2 Try.results26 (show _ = .slice none 0 0 from rfl) (show _ = .int .i64 20 from rfl) ⟨_, rfl, ?_⟩
              have S75 := S72.dr0
              have S76 : Sat w67 I70 (Suite (ptr b) L :: R) := Suite.cls hL hK S75
              rw [show openB L k n o x = [] from by simp [openB, hz, hz2]]
              exact ⟨(.slice none 0 0), I70, le71, (by simp [openE, hz, hz2]), Ro.nil, S76⟩
            · have hz2 : openOf L k n o x = some t.text := by rw [hop]; exact if_pos ⟨hA, Decidable.not_not.mp h74⟩
              refine EC_skip ?_
              refine thn_n ?_
              refine EC_seq ?_
              refine EC_reg ?_
              refine EL_val (ptr b52 3) w67 rfl (r_fieldP (o := 0) (s := 1) rfl Try.underlying85 rfl (by kernel_rfl) (by decide) rfl) ?_
              refine EL_val (.string (str t.text)) w67 rfl (r_loadA rfl (S72.arr 0 rfl) (u := (.string (str t.text))) rfl Try.underlying9 rfl) ?_
              refine EL_bytes (l := t.text) rfl rfl Try.underlying9 Try.underlying22 Try.underlying5 (by first | omega | (simp; omega)) ?_
              intro v77 w78 B79 V80 R81 V80l
              obtain ⟨I82, le83, S84, H85⟩ := S72.newR B79 V80 R81 V80l
              refine EL_val v77 w78 rfl (r_assign rfl) ?_
              refine EL_val (.int .i64 0) w78 rfl (r_assign rfl) ?_
              refine EL_nil ?_
              refine thn_n ?_
              refine EC_ret ?_
              refine fin2 Try.results26 (show _ = v77 from rfl) (show _ = .int .i64 0 from rfl) ⟨_, rfl, ?_⟩
              have S86 := S84.dr0
              have S87 : Sat w78 I82 (Suite (ptr b) L :: R) := Suite.cls hL hK S86
              rw [show openB L k n o x = t.text from by simp [openB, hz, hz2]]
              exact ⟨v77, I82, (Gh.le_trans le71 le83), (by simp [openE, hz, hz2]), H85, S87⟩
          · have hz2 : openOf L k n o x = none := by rw [hop]; exact if_neg (fun h => hA h.1)
            refine EC_quietB (by kernel_rfl) (by kernel_rfl) ?_
            refine EQ_val (.agg ([.int .u8 (t.sort.toNat : Int), .string (str t.key), .string (str t.nonce), .string (str t.text), .string (str t.other)]).toArray) rfl (fun _ hw => r_loadAll rfl ((S63.arr 0 rfl).below hw) Try.underlying85 rfl (by kernel_rfl)) ?_
            refine EQ_val v0 rfl (fun _ hw => r_move (by exact e26)) ?_
            refine EQ_val (.string (str k)) rfl (fun _ hw => r_str rfl ((Q0 _ S63.le).below hw) Try.underlying22 Try.underlying5 Try.underlying9) ?_
            refine EQ_val v1 rfl (fun _ hw => r_move (by exact e27)) ?_
            refine EQ_val (.string (str n)) rfl (fun _ hw => r_str rfl ((Q1 _ S63.le).below hw) Try.underlying22 Try.underlying5 Try.underlying9) ?_
            refine EQ_val (ptr b52 3) rfl (fun _ hw => r_fieldP (o := 0) (s := 1) rfl Try.underlying85 rfl (by kernel_rfl) (by decide) rfl) ?_
            refine EQ_val (.string (str t.text)) rfl (fun _ hw => r_loadA rfl ((S63.arr 0 rfl).below hw) (u := (.string (str t.text))) rfl Try.underlying9 rfl) ?_
            refine EQ_val v2 rfl (fun _ hw => r_move (by exact e28)) ?_
            refine EQ_val (.string (str o)) rfl (fun _ hw => r_str rfl ((Q2 _ S63.le).below hw) Try.underlying22 Try.underlying5 Try.underlying9) ?_
            refine EQ_val (.agg ([.int .u8 66, .string (str k), .string (str n), .string (str t.text), .string (str o)]).toArray) rfl (fun _ hw => r_buildS (l := [(0, .int .u8 66), (1, .string (str k)), (2, .string (str n)), (3, .string (str t.text)), (4, .string (str o))]) st_85 (parts5 rfl rfl rfl rfl rfl) (Eq.trans (show Instr.fill _ _ [(0, .int .u8 66), (1, .string (str k)), (2, .string (str n)), (3, .string (str t.text)), (4, .string (str o))] = _ from (fill_one rfl rfl rfl (fill_one rfl rfl rfl (fill_one rfl rfl rfl (fill_one rfl rfl rfl (fill_one rfl rfl rfl fill_end)))))) (by kernel_rfl))) ?_
            refine EQ_val (.bool true) rfl (fun _ hw => r_neqS (xs := t.cells.toArray) (ys := (tBox k n o t.text).cells.toArray) (b := false) (by kernel_rfl) (by kernel_rfl) (by kernel_rfl) (by kernel_rfl) rfl rfl (kv_thing htk) (kv_thing hu) (by rw [show ((Value.agg t.cells.toArray : Value) = .agg (tBox k n o t.text).cells.toArray) ↔ t = tBox k n o t.text from val_inj]; first | exact ⟨fun _ => hA, fun _ => rfl⟩ | exact ⟨fun h => (by cases h), fun h => absurd h hA⟩)) ?_
            refine EQ_val (.bool true) rfl (fun _ hw => r_move rfl) ?_
            refine EQ_pass 83 rfl rfl rfl rfl rfl ?_
            refine EQ_pass 83 rfl rfl rfl rfl rfl ?_
            refine EQ_pass 83 rfl rfl rfl rfl rfl ?_
            refine EQ_pass 83 rfl rfl rfl rfl rfl ?_
            refine EQ_pass 83 rfl rfl rfl rfl rfl ?_
            refine EQ_pass 83 rfl rfl rfl rfl rfl ?_
            refine EQ_pass 83 rfl rfl rfl rfl rfl ?_
            refine EQ_pass 83 rfl rfl rfl rfl rfl ?_
            refine EQ_pass 83 rfl rfl rfl rfl rfl ?_
            refine EQ_val (.bool true) rfl (fun _ hw => r_pickT rfl rfl) ?_
            refine EQ_nil ?_
            intro w88 B89
            have S90 := S63.below B89
            refine thn_n ?_
            refine EC_cond_true rfl ?_
            refine EC_seq ?_
            refine EC_reg ?_
            refine EL_val (.slice none 0 0) w88 rfl (r_assign rfl) ?_
            refine EL_val (.int .i64 20) w88 rfl (r_assign rfl) ?_
            refine EL_nil ?_
            refine thn_n ?_
            refine EC_ret ?_
            refine thn_r ?_
            refine fin2 Try.results26 (show _ = .slice none 0 0 from rfl) (show _ = .int .i64 20 from rfl) ⟨_, rfl, ?_⟩
            have S91 := S90.dr0
            have S92 : Sat w88 I (Suite (ptr b) L :: R) := Suite.cls hL hK S91
            rw [show openB L k n o x = [] from by simp [openB, hz, hz2]]
            exact ⟨(.slice none 0 0), I, (Gh.le_refl _), (by simp [openE, hz, hz2]), Ro.nil, S92⟩

end Go.Proofs.Ytoajodjcmeijgaa
