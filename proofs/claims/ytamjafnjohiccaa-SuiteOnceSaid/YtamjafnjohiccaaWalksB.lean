import Derived.Test.YtamjafnjohiccaaWalks
set_option linter.unusedVariables false
set_option linter.unusedSimpArgs false
namespace Go.Proofs.Ytamjafnjohiccaa
open Go.RowKit Go.Ecal

set_option maxRecDepth 100000 in
set_option maxHeartbeats 4000000 in
theorem add_c (b : Nat) (lv : Value) (mb : Nat) (L : List Thing) (t : Thing) (I : Gh) (R : List HP) (w : World) (S : Sat w I (Blk b 60 (sCells lv mb) :: Own 65 5 lv L.length (things L).flatten :: R)) (hl : L.length ≤ 1000000) : Ret Try.prog 34 [ptr b, Thing.val t] w fun v w' => ∃ lv' : Value, .int .i64 ((L.length : Int) + 1) = v ∧ Sat w' I (Blk b 60 (sCells lv' mb) :: Own 65 5 lv' ((L ++ [t]).length) (things (L ++ [t])).flatten :: R) := by
  refine ret_E Try.func34 rfl Try.ntmps34 (by simp) ?_
  refine EC_seq ?_
  refine EC_reg ?_
  refine EL_box t.cells rfl rfl rfl ?_
  intro b11 w12 k13 A14 B15 z16
  have S17 : Sat w12 I (Blk b11 65 t.cells :: Blk b 60 (sCells lv mb) :: Own 65 5 lv L.length (things L).flatten :: R) := S.newB B15 A14 k13
  refine EL_val (.int .i64 0) w12 rfl (r_assign rfl) ?_
  refine EL_nil ?_
  refine thn_n ?_
  refine EC_seq ?_
  refine EC_any 10 (fun w' => Gh.le I (gh w')) (fun w' => Arr w' b 60 (sCells lv mb) ∧ Arr w' b11 65 t.cells) (by kernel_rfl) ?_
  intro w18 B19
  have S20 : Sat w18 I (Blk b11 65 t.cells :: Blk b 60 (sCells lv mb) :: Own 65 5 lv L.length (things L).flatten :: R) := S17.below B19
  refine EJ_take 0 rfl (by kernel_rfl) (by kernel_rfl) (by kernel_rfl) rfl (by kernel_rfl) (ptr b) rfl (fun _ hw ht => r_move rfl) ⟨S20.le, fun h => ⟨S20.arr 1 rfl, S20.arr 0 rfl⟩⟩ ?_
  refine EJ_take 1 rfl (by kernel_rfl) (by kernel_rfl) (by kernel_rfl) rfl (by kernel_rfl) (ptr b) rfl (fun _ hw ht => r_move rfl) ⟨S20.le, fun h => ⟨S20.arr 1 rfl, S20.arr 0 rfl⟩⟩ ?_
  refine EJ_take 2 rfl (by kernel_rfl) (by kernel_rfl) (by kernel_rfl) rfl (by kernel_rfl) (ptr b) rfl (fun _ hw ht => r_nil rfl) ⟨S20.le, fun h => ⟨S20.arr 1 rfl, S20.arr 0 rfl⟩⟩ ?_
  refine EJ_take 3 rfl (by kernel_rfl) (by kernel_rfl) (by kernel_rfl) rfl (by kernel_rfl) (ptr b 3) rfl (fun _ hw ht => r_fieldP (o := 0) (s := 1) rfl Try.underlying60 rfl (by kernel_rfl) (by decide) rfl) ⟨S20.le, fun h => ⟨S20.arr 1 rfl, S20.arr 0 rfl⟩⟩ ?_
  refine EJ_take 4 rfl (by kernel_rfl) (by kernel_rfl) (by kernel_rfl) rfl (by kernel_rfl) lv rfl (fun _ hw ht => r_loadA rfl ht.1 (u := lv) rfl Try.underlying58 rfl) ⟨S20.le, fun h => ⟨S20.arr 1 rfl, S20.arr 0 rfl⟩⟩ ?_
  refine EJ_take 5 rfl (by kernel_rfl) (by kernel_rfl) (by kernel_rfl) rfl (by kernel_rfl) (.agg (t.cells).toArray) rfl (fun _ hw ht => r_loadAll rfl ht.2 Try.underlying65 rfl (by kernel_rfl)) ⟨S20.le, fun h => ⟨S20.arr 1 rfl, S20.arr 0 rfl⟩⟩ ?_
  refine EJ_one 6 (by kernel_rfl) ⟨_, rfl, ?_⟩
  refine EL_litW (z := #[.int .u8 0, .string (str ([] : List UInt8)), .string (str ([] : List UInt8)), .string (str ([] : List UInt8)), .string (str ([] : List UInt8))]) (cs := (t.cells).toArray) (sz := 5) (l := [(0, .agg (t.cells).toArray)]) rfl Try.underlying58 (by kernel_rfl) (parts1 rfl) (by kernel_rfl) rfl (by decide) ?_
  intro v21 w22 O23 B24 k25
  have S27 : Sat w22 I (Own 65 5 v21 1 [t.cells].flatten :: Blk b11 65 t.cells :: Blk b 60 (sCells lv mb) :: Own 65 5 lv L.length (things L).flatten :: R) := S20.newO B24 (by simpa using O23)
  refine EL_nil ?_
  refine ⟨rfl, ⟨S27.le, fun h => ⟨S27.arr 2 rfl, S27.arr 1 rfl⟩⟩, ?_⟩
  refine EJ_one 7 (by kernel_rfl) ⟨_, rfl, ?_⟩
  refine EL_appW (z := #[.int .u8 0, .string (str ([] : List UInt8)), .string (str ([] : List UInt8)), .string (str ([] : List UInt8)), .string (str ([] : List UInt8))]) (bytes := 72) 0 rfl Try.underlying58 (by kernel_rfl) rfl (by decide) rfl rfl (S27.own 3 rfl) (S27.own 0 rfl) (by decide) (by simpa using cells_one t) (by first | omega | (simp; omega)) (by first | omega | (simp; omega)) (Nat.zero_le _) ?_
  intro v28 w29 O30 G31 A32
  have O30' := own_thing O30
  have S33 : Sat w29 I (Own 65 5 v21 1 [t.cells].flatten :: Blk b11 65 t.cells :: Blk b 60 (sCells lv mb) :: Own 65 5 v28 ((L ++ [t]).length) (things (L ++ [t])).flatten :: R) := S27.grow 3 rfl G31 O30' A32
  refine EL_nil ?_
  refine ⟨rfl, ⟨S33.le, fun h => ⟨S33.arr 2 rfl, S33.arr 1 rfl⟩⟩, ?_⟩
  refine EJ_take 8 rfl (by kernel_rfl) (by kernel_rfl) (by kernel_rfl) rfl (by kernel_rfl) (ptr b) rfl (fun _ hw ht => r_nil rfl) ⟨S33.le, fun h => ⟨S33.arr 2 rfl, S33.arr 1 rfl⟩⟩ ?_
  refine EJ_take 9 rfl (by kernel_rfl) (by kernel_rfl) (by kernel_rfl) rfl (by kernel_rfl) (ptr b 3) rfl (fun _ hw ht => r_fieldP (o := 0) (s := 1) rfl Try.underlying60 rfl (by kernel_rfl) (by decide) rfl) ⟨S33.le, fun h => ⟨S33.arr 2 rfl, S33.arr 1 rfl⟩⟩ ?_
  refine EJ_one 10 (by kernel_rfl) ⟨_, rfl, ?_⟩
  refine EL_storeA (j := 3) (u := v28) rfl rfl (S33.arr 2 rfl) (by first | decide | (simp; omega) | simp) (own_one (S33.own 3 rfl)) (by kernel_rfl) ?_
  intro w34 A35 K36 z37
  have S38 : Sat w34 I (Own 65 5 v21 1 [t.cells].flatten :: Blk b11 65 t.cells :: Blk b 60 [.bool false, .slice none 0 0, .int .i64 0, v28, .map (some mb)] :: Own 65 5 v28 ((L ++ [t]).length) (things (L ++ [t])).flatten :: R) := S33.wrote 2 rfl K36 A35
  refine EL_nil ?_
  refine ⟨rfl, ⟨S38.le, fun h => by cases h⟩, ?_⟩
  refine EJ_done (by kernel_rfl) ?_
  refine thn_n ?_
  refine EC_seq ?_
  refine EC_reg ?_
  refine EL_val (ptr b) w34 rfl (r_move rfl) ?_
  refine EL_val (ptr b) w34 rfl (r_nil rfl) ?_
  refine EL_val (ptr b 3) w34 rfl (r_fieldP (o := 0) (s := 1) rfl Try.underlying60 rfl (by kernel_rfl) (by decide) rfl) ?_
  refine EL_val v28 w34 rfl (r_loadA rfl (S38.arr 2 rfl) (u := v28) rfl Try.underlying58 rfl) ?_
  refine EL_val (.int .i64 ((L.length : Int) + 1)) w34 rfl (r_asn (by simp [things_len]) (r_lenW rfl (S38.wrow 3 rfl (things_all _) (by decide)) Try.underlying58)) ?_
  refine EL_val (.int .i64 ((L.length : Int) + 1)) w34 rfl (r_assign rfl) ?_
  refine EL_nil ?_
  refine thn_n ?_
  refine EC_ret ?_
  refine fin1 Try.results34 (show _ = .int .i64 ((L.length : Int) + 1) from rfl) ⟨_, rfl, ?_⟩
  have S39 : Sat w34 I (Blk b11 65 t.cells :: Blk b 60 [.bool false, .slice none 0 0, .int .i64 0, v28, .map (some mb)] :: Own 65 5 v28 ((L ++ [t]).length) (things (L ++ [t])).flatten :: R) := S38.drop 0 rfl
  have S40 : Sat w34 I (Blk b 60 [.bool false, .slice none 0 0, .int .i64 0, v28, .map (some mb)] :: Own 65 5 v28 ((L ++ [t]).length) (things (L ++ [t])).flatten :: R) := S39.drop 0 rfl
  exact ⟨v28, rfl, S40⟩

set_option maxRecDepth 100000 in
set_option maxHeartbeats 4000000 in
theorem once_c (p : Value) (L : List Thing) (t : Thing) (I : Gh) (R : List HP) (w : World) (S : Sat w I (Suite p L :: R)) (hl : L.length ≤ 1000000) (ht : t.ok) (ho : t.once = true) : Ret Try.prog 30 [p, Thing.val t] w fun v w' => .int .i64 (onceN t L : Int) = v ∧ Sat w' I (Suite p (onceL t L) :: R) := by
  obtain ⟨b, lv, mb, K, rfl, hL, hK, S⟩ := Suite.opn S
  refine ret_E Try.func30 rfl Try.ntmps30 (by simp) ?_
  refine EC_seq ?_
  refine EC_reg ?_
  refine EL_box t.cells rfl rfl rfl ?_
  intro b11 w12 k13 A14 B15 z16
  have S17 : Sat w12 I (Blk b11 65 t.cells :: Blk b 60 (sCells lv mb) :: Own 65 5 lv L.length (things L).flatten :: Mp mb (entE K) :: R) := S.newB B15 A14 k13
  refine EL_val (.int .i64 0) w12 rfl (r_assign rfl) ?_
  refine EL_nil ?_
  refine thn_n ?_
  refine EC_seq ?_
  refine EC_quietB (by kernel_rfl) (by kernel_rfl) ?_
  refine EQ_val (ptr b) rfl (fun _ hw => r_move rfl) ?_
  refine EQ_val (ptr b) rfl (fun _ hw => r_nil rfl) ?_
  refine EQ_val (ptr b 4) rfl (fun _ hw => r_fieldP (o := 0) (s := 1) rfl Try.underlying60 rfl (by kernel_rfl) (by decide) rfl) ?_
  refine EQ_val (.map (some mb)) rfl (fun _ hw => r_loadA rfl ((S17.arr 1 rfl).below hw) (u := (.map (some mb))) rfl Try.underlying57 rfl) ?_
  refine EQ_val (.agg (t.cells).toArray) rfl (fun _ hw => r_loadAll rfl ((S17.arr 0 rfl).below hw) Try.underlying65 rfl (by kernel_rfl)) ?_
  obtain ⟨ar, ck, hm, he⟩ := S17.map 3 rfl
  refine EQ_val (.tuple #[.int .i64 (lookN t L), .bool (decide (idx t L ≠ none))]) rfl (fun _ hw => r_lookup (kv := t.val) law_thing Try.underlying57 (by kernel_rfl) rfl rfl (map_below hm hw) he (kv_thing ht) (ent_kv hK hL) (look_no hK ho) (look_yes hK)) ?_
  refine EQ_val (.tuple #[.int .i64 (lookN t L), .bool (decide (idx t L ≠ none))]) rfl (fun _ hw => r_move rfl) ?_
  refine EQ_val (.int .i64 (lookN t L)) rfl (fun _ hw => r_extract rfl rfl) ?_
  refine EQ_val (.bool (decide (idx t L ≠ none))) rfl (fun _ hw => r_extract rfl rfl) ?_
  refine EQ_val (.int .i64 (lookN t L)) rfl (fun _ hw => r_assign rfl) ?_
  refine EQ_val (.bool (decide (idx t L ≠ none))) rfl (fun _ hw => r_assign rfl) ?_
  refine EQ_nil ?_
  intro w18 B19
  have S20 : Sat w18 I (Blk b11 65 t.cells :: Blk b 60 (sCells lv mb) :: Own 65 5 lv L.length (things L).flatten :: Mp mb (entE K) :: R) := S17.below B19
  refine thn_n ?_
  refine EC_seq ?_
  refine EC_seq ?_
  refine EC_reg ?_
  refine EL_val (.bool (decide (idx t L ≠ none))) w18 rfl (r_move rfl) ?_
  refine EL_val (.bool (!(decide (idx t L ≠ none)))) w18 rfl (r_not rfl) ?_
  refine EL_nil ?_
  refine thn_n ?_
  refine EC_cond (t := !(decide (idx t L ≠ none))) rfl (fun h21 => ?_) (fun h21 => ?_)
  · have hn : idx t L = none := by simpa using h21
    refine EC_seq ?_
    refine EC_reg ?_
    refine EL_val (ptr b) w18 rfl (r_move rfl) ?_
    refine EL_val (.agg (t.cells).toArray) w18 rfl (r_loadAll rfl (S20.arr 0 rfl) Try.underlying65 rfl (by kernel_rfl)) ?_
    have S22 : Sat w18 I (Own 65 5 lv L.length (things L).flatten :: Blk b11 65 t.cells :: Blk b 60 (sCells lv mb) :: Mp mb (entE K) :: R) := S20.cons_front (i := 2) rfl
    have S23 : Sat w18 I (Blk b 60 (sCells lv mb) :: Own 65 5 lv L.length (things L).flatten :: Blk b11 65 t.cells :: Mp mb (entE K) :: R) := S22.cons_front (i := 2) rfl
    refine EL_ret [ptr b, Thing.val t] rfl Try.func34 rfl nm34 rfl (add_c b lv mb L t I _ _ S23 (by first | assumption | omega | (simp; done) | (simp; omega))) ?_
    rintro _ w24 ⟨lv'26, rfl, S25⟩
    refine EL_val (.int .i64 ((L.length : Int) + 1)) w24 rfl (r_assign rfl) ?_
    refine EL_nil ?_
    refine thn_n ?_
    refine EC_any 6 (fun w' => Gh.le I (gh w')) (fun w' => Arr w' b 60 (sCells lv'26 mb) ∧ Arr w' b11 65 t.cells) (by kernel_rfl) ?_
    intro w27 B28
    have S29 : Sat w27 I (Blk b 60 (sCells lv'26 mb) :: Own 65 5 lv'26 ((L ++ [t]).length) (things (L ++ [t])).flatten :: Blk b11 65 t.cells :: Mp mb (entE K) :: R) := S25.below B28
    refine EJ_take 0 rfl (by kernel_rfl) (by kernel_rfl) (by kernel_rfl) rfl (by kernel_rfl) (ptr b) rfl (fun _ hw ht => r_move rfl) ⟨S29.le, fun h => ⟨S29.arr 0 rfl, S29.arr 2 rfl⟩⟩ ?_
    refine EJ_take 1 rfl (by kernel_rfl) (by kernel_rfl) (by kernel_rfl) rfl (by kernel_rfl) (ptr b) rfl (fun _ hw ht => r_nil rfl) ⟨S29.le, fun h => ⟨S29.arr 0 rfl, S29.arr 2 rfl⟩⟩ ?_
    refine EJ_take 2 rfl (by kernel_rfl) (by kernel_rfl) (by kernel_rfl) rfl (by kernel_rfl) (ptr b 4) rfl (fun _ hw ht => r_fieldP (o := 0) (s := 1) rfl Try.underlying60 rfl (by kernel_rfl) (by decide) rfl) ⟨S29.le, fun h => ⟨S29.arr 0 rfl, S29.arr 2 rfl⟩⟩ ?_
    refine EJ_take 3 rfl (by kernel_rfl) (by kernel_rfl) (by kernel_rfl) rfl (by kernel_rfl) (.map (some mb)) rfl (fun _ hw ht => r_loadA rfl ht.1 (u := (.map (some mb))) rfl Try.underlying57 rfl) ⟨S29.le, fun h => ⟨S29.arr 0 rfl, S29.arr 2 rfl⟩⟩ ?_
    refine EJ_take 4 rfl (by kernel_rfl) (by kernel_rfl) (by kernel_rfl) rfl (by kernel_rfl) (.agg (t.cells).toArray) rfl (fun _ hw ht => r_loadAll rfl ht.2 Try.underlying65 rfl (by kernel_rfl)) ⟨S29.le, fun h => ⟨S29.arr 0 rfl, S29.arr 2 rfl⟩⟩ ?_
    refine EJ_take 5 rfl (by kernel_rfl) (by kernel_rfl) (by kernel_rfl) rfl (by kernel_rfl) (.int .i64 ((L.length : Int) + 1)) rfl (fun _ hw ht => r_move rfl) ⟨S29.le, fun h => ⟨S29.arr 0 rfl, S29.arr 2 rfl⟩⟩ ?_
    refine EJ_one 6 (by kernel_rfl) ⟨_, rfl, ?_⟩
    obtain ⟨ar2, ck2, hm2, he2⟩ := S29.map 3 rfl
    refine EL_mapNew (kv := t.val) law_thing Try.underlying57 rfl rfl rfl hm2 he2 (kv_thing ht) (ent_kv hK hL) (ent_no hK hn) ?_
    intro w30 ar3 ck3 hm3 he3 G3
    have S31 : Sat w30 I (Blk b 60 (sCells lv'26 mb) :: Own 65 5 lv'26 ((L ++ [t]).length) (things (L ++ [t])).flatten :: Blk b11 65 t.cells :: Mp mb (entE (K ++ [(t, L.length + 1)])) :: R) := S29.mapW 3 rfl G3 hm3 (he3.trans (ent_app K t (L.length + 1)))
    refine EL_nil ?_
    refine ⟨rfl, ⟨S31.le, fun h => by cases h⟩, ?_⟩
    refine EJ_done (by kernel_rfl) ?_
    refine thn_n ?_
    refine EC_seq ?_
    refine EC_reg ?_
    refine EL_val (.int .i64 ((L.length : Int) + 1)) w30 rfl (r_move rfl) ?_
    refine EL_val (.int .i64 ((L.length : Int) + 1)) w30 rfl (r_assign rfl) ?_
    refine EL_nil ?_
    refine thn_n ?_
    refine EC_ret ?_
    refine fin1 Try.results30 (show _ = .int .i64 ((L.length : Int) + 1) from rfl) ⟨_, rfl, ?_⟩
    have S32 : Sat w30 I (Blk b 60 (sCells lv'26 mb) :: Own 65 5 lv'26 ((L ++ [t]).length) (things (L ++ [t])).flatten :: Mp mb (entE (K ++ [(t, L.length + 1)])) :: R) := S31.drop 2 rfl
    rw [(once_no hn).1, (once_no hn).2]
    exact ⟨rfl, Suite.cls (app_ok hL ht) (hK.new hn) S32⟩
  · have hn : idx t L ≠ none := by simpa using h21
    refine EC_skip ?_
    refine thn_n ?_
    refine EC_seq ?_
    refine EC_reg ?_
    refine EL_val (.int .i64 (lookN t L)) w18 rfl (r_move rfl) ?_
    refine EL_val (.int .i64 (lookN t L)) w18 rfl (r_assign rfl) ?_
    refine EL_nil ?_
    refine thn_n ?_
    refine EC_ret ?_
    refine fin1 Try.results30 (show _ = .int .i64 (lookN t L) from rfl) ⟨_, rfl, ?_⟩
    have S33 : Sat w18 I (Blk b 60 (sCells lv mb) :: Own 65 5 lv L.length (things L).flatten :: Mp mb (entE K) :: R) := S20.drop 0 rfl
    rw [(once_yes hn).2, ← (once_yes hn).1]
    exact ⟨rfl, Suite.cls hL hK S33⟩

set_option maxRecDepth 100000 in
set_option maxHeartbeats 4000000 in
theorem Signs_c (I : Gh) (R : List HP) (w : World) (S : Sat w I (R)) : Ret Try.prog 11 [] w fun v w' => ∃ p : Value, p = v ∧ Sat w' I (Suite p ([] : List Thing) :: R) := by
  refine ret_E Try.func11 rfl Try.ntmps11 (by simp) ?_
  refine EC_seq ?_
  refine EC_reg ?_
  refine EL_val (.pointer none) w rfl (r_assign rfl) ?_
  refine EL_nil ?_
  refine thn_n ?_
  refine EC_seq ?_
  refine EC_reg ?_
  refine EL_map rfl ?_
  intro b11 w12 k13 A14 B15
  have S16 : Sat w12 I (Mp b11 ([] : List (Value × Value)) :: R) := S.newM B15 A14 k13
  refine EL_val (.agg ([.bool false, .slice none 0 0, .int .i64 0, .slice none 0 0, .map (some b11)]).toArray) w12 rfl (r_buildS (l := [(4, .map (some b11))]) st_60 (parts1 rfl) (Eq.trans (show Instr.fill _ _ [(4, .map (some b11))] = _ from (fill_one rfl rfl rfl fill_end)) (by first | rfl | kernel_rfl))) ?_
  refine EL_box [.bool false, .slice none 0 0, .int .i64 0, .slice none 0 0, .map (some b11)] rfl rfl rfl ?_
  intro b17 w18 k19 A20 B21 z22
  have S23 : Sat w18 I (Blk b17 60 [.bool false, .slice none 0 0, .int .i64 0, .slice none 0 0, .map (some b11)] :: Mp b11 ([] : List (Value × Value)) :: R) := S16.newB B21 A20 k19
  refine EL_val (ptr b17) w18 rfl (r_assign rfl) ?_
  refine EL_nil ?_
  refine thn_n ?_
  refine EC_ret ?_
  refine fin1 Try.results11 (show _ = ptr b17 from rfl) ⟨_, rfl, ?_⟩
  have S25 : Sat w18 I (Own 65 5 (.slice none 0 0) (([] : List Thing).length) (things []).flatten :: Blk b17 60 [.bool false, .slice none 0 0, .int .i64 0, .slice none 0 0, .map (some b11)] :: Mp b11 ([] : List (Value × Value)) :: R) := S23.nil 65 5
  have S26 : Sat w18 I (Mp b11 ([] : List (Value × Value)) :: Own 65 5 (.slice none 0 0) (([] : List Thing).length) (things []).flatten :: Blk b17 60 [.bool false, .slice none 0 0, .int .i64 0, .slice none 0 0, .map (some b11)] :: R) := S25.cons_front (i := 2) rfl
  have S27 : Sat w18 I (Own 65 5 (.slice none 0 0) (([] : List Thing).length) (things []).flatten :: Mp b11 ([] : List (Value × Value)) :: Blk b17 60 [.bool false, .slice none 0 0, .int .i64 0, .slice none 0 0, .map (some b11)] :: R) := S26.cons_front (i := 1) rfl
  have S28 : Sat w18 I (Blk b17 60 [.bool false, .slice none 0 0, .int .i64 0, .slice none 0 0, .map (some b11)] :: Own 65 5 (.slice none 0 0) (([] : List Thing).length) (things []).flatten :: Mp b11 ([] : List (Value × Value)) :: R) := S27.cons_front (i := 2) rfl
  exact ⟨_, rfl, Suite.cls (L := []) (K := []) (fun t h => by cases h) KOf.nil S28⟩

set_option maxRecDepth 100000 in
set_option maxHeartbeats 4000000 in
theorem Count_c (p : Value) (L : List Thing) (I : Gh) (R : List HP) (w : World) (S : Sat w I (Suite p L :: R)) (hl : L.length ≤ 1000000) : Ret Try.prog 17 [p] w fun v w' => .int .i64 (L.length : Int) = v ∧ Sat w' I (Suite p L :: R) := by
  obtain ⟨b, lv, mb, K, rfl, hL, hK, S⟩ := Suite.opn S
  refine ret_E Try.func17 rfl Try.ntmps17 (by simp) ?_
  refine EC_seq ?_
  refine EC_reg ?_
  refine EL_val (.int .i64 0) w rfl (r_assign rfl) ?_
  refine EL_nil ?_
  refine thn_n ?_
  refine EC_seq ?_
  refine EC_quietB (by kernel_rfl) (by kernel_rfl) ?_
  refine EQ_val (ptr b) rfl (fun _ hw => r_move rfl) ?_
  refine EQ_val (ptr b) rfl (fun _ hw => r_nil rfl) ?_
  refine EQ_val (ptr b 2) rfl (fun _ hw => r_fieldP (o := 0) (s := 1) rfl Try.underlying60 rfl (by kernel_rfl) (by decide) rfl) ?_
  refine EQ_val (.int .i64 0) rfl (fun _ hw => r_loadA rfl ((S.arr 0 rfl).below hw) (u := (.int .i64 0)) rfl Try.underlying3 rfl) ?_
  refine EQ_val (ptr b) rfl (fun _ hw => r_move rfl) ?_
  refine EQ_val (ptr b) rfl (fun _ hw => r_nil rfl) ?_
  refine EQ_val (ptr b 3) rfl (fun _ hw => r_fieldP (o := 0) (s := 1) rfl Try.underlying60 rfl (by kernel_rfl) (by decide) rfl) ?_
  refine EQ_val lv rfl (fun _ hw => r_loadA rfl ((S.arr 0 rfl).below hw) (u := lv) rfl Try.underlying58 rfl) ?_
  refine EQ_val (.int .i64 (L.length : Int)) rfl (fun _ hw => r_asn (by simp [things_len]) (r_lenW rfl ((S.wrow 1 rfl (things_all _) (by decide)).below (hp_below hw)) Try.underlying58)) ?_
  refine EQ_int (0 + (L.length : Int)) rfl (fun _ hw => r_addi rfl rfl (by omega)) ?_
  intro x11 hx11
  refine EQ_val (.int .i64 x11) rfl (fun _ hw => r_assign rfl) ?_
  refine EQ_nil ?_
  intro w12 B13
  have S14 : Sat w12 I (Blk b 60 (sCells lv mb) :: Own 65 5 lv L.length (things L).flatten :: Mp mb (entE K) :: R) := S.below B13
  refine thn_n ?_
  refine EC_ret ?_
  refine fin1 Try.results17 (show _ = .int .i64 x11 from rfl) ⟨_, rfl, ?_⟩
  have S15 : Sat w12 I (Suite (ptr b) L :: R) := Suite.cls hL hK S14
  exact ⟨(by simp [hx11]), S15⟩

set_option maxRecDepth 100000 in
set_option maxHeartbeats 4000000 in
theorem sizes_c (v0 : Value) (k : List UInt8) (v1 : Value) (n : List UInt8) (w : World) (H0 : Bs w v0 k) (H1 : Bs w v1 n) : Ret Try.prog 36 [v0, v1] w fun v w' => .bool (decide ((k.length : Int) = 32) && decide ((n.length : Int) = 12)) = v ∧ w = w' := by
  have S := Sat.start w
  have Q0 := Row.ro H0
  have Q1 := Row.ro H1
  have lq0 := RoB.le Q0 S.le
  have lq1 := RoB.le Q1 S.le
  refine ret_E Try.func36 rfl Try.ntmps36 (by simp) ?_
  refine EC_seq ?_
  refine EC_reg ?_
  refine EL_val (.bool false) w rfl (r_assign rfl) ?_
  refine EL_nil ?_
  refine thn_n ?_
  refine EC_seq ?_
  refine EC_reg ?_
  refine EL_val v0 w rfl (r_move rfl) ?_
  refine EL_val (.int .i64 (k.length : Int)) w rfl (lenB (r_len rfl (Q0 _ S.le) Try.underlying22)) ?_
  refine EL_val (.bool (decide ((k.length : Int) = 32))) w rfl (r_eql rfl rfl) ?_
  refine EL_val (.bool (decide ((k.length : Int) = 32))) w rfl (r_move rfl) ?_
  refine EL_gite 8 rfl rfl rfl v1 rfl (fun g11 => r_move rfl) ?_
  refine EL_gite 8 rfl rfl rfl (.int .i64 (n.length : Int)) rfl (fun g12 => lenB (r_len (cond_of g12 rfl) (Q1 _ S.le) Try.underlying22)) ?_
  refine EL_gite 8 rfl rfl rfl (.bool (decide ((n.length : Int) = 12))) rfl (fun g13 => r_eql (cond_of g13 rfl) rfl) ?_
  refine EL_val (.bool ((decide ((k.length : Int) = 32)) && (decide ((n.length : Int) = 12)))) w rfl (r_and rfl rfl rfl) ?_
  refine EL_val (.bool ((decide ((k.length : Int) = 32)) && (decide ((n.length : Int) = 12)))) w rfl (r_assign rfl) ?_
  refine EL_nil ?_
  refine thn_n ?_
  refine EC_ret ?_
  refine fin1 Try.results36 (show _ = .bool ((decide ((k.length : Int) = 32)) && (decide ((n.length : Int) = 12))) from rfl) ⟨_, rfl, ?_⟩
  exact ⟨rfl, rfl⟩

set_option maxRecDepth 100000 in
set_option maxHeartbeats 4000000 in
theorem Sum_c (p : Value) (L : List Thing) (v0 : Value) (ls : List (List UInt8)) (I : Gh) (R : List HP) (w : World) (S : Sat w I (Suite p L :: R)) (Q0 : RoX I v0 bytesR ls) (hl : L.length ≤ 1000000) (hb : ls.flatten.length ≤ 1000000000) : Ret Try.prog 12 [p, v0] w fun v w' => ∃ v1 : Value, v1 = v ∧ Sat w' I (OwnB v1 (signOf 72 (onceN (tSum ls.flatten) L)) :: Suite p (onceL (tSum ls.flatten) L) :: R) := by
  have lq0 := XRow.le (Q0.row S.le)
  obtain ⟨b, lv, mb, K, rfl, hL, hK, S⟩ := Suite.opn S
  refine ret_E Try.func12 rfl Try.ntmps12 (by simp) ?_
  refine EC_seq ?_
  refine EC_reg ?_
  refine EL_val (.slice none 0 0) w rfl (r_assign rfl) ?_
  refine EL_nil ?_
  refine thn_n ?_
  refine EC_seq ?_
  refine EC_seq ?_
  refine EC_reg ?_
  refine EL_val (ptr b) w rfl (r_move rfl) ?_
  refine EL_val (ptr b) w rfl (r_nil rfl) ?_
  refine EL_val (ptr b 0) w rfl (r_fieldP (o := 0) (s := 1) rfl Try.underlying60 rfl (by kernel_rfl) (by decide) rfl) ?_
  refine EL_val (.bool false) w rfl (r_loadA rfl (S.arr 0 rfl) (u := (.bool false)) rfl Try.underlying4 rfl) ?_
  refine EL_nil ?_
  refine thn_n ?_
  refine EC_cond_false rfl ?_
  refine EC_skip ?_
  refine thn_n ?_
  refine EC_seq ?_
  refine EC_reg ?_
  refine EL_val (ptr b) w rfl (r_move rfl) ?_
  refine EL_val v0 w rfl (r_move rfl) ?_
  refine EL_ret [v0] rfl Try.func31 rfl nm31 rfl (joined_c v0 ls I _ _ S Q0 (by first | assumption | omega | (simp; done) | (simp; omega))) ?_
  rintro _ w11 ⟨rfl, S12⟩
  refine EL_val (.agg ([.int .u8 72, .string (str ([] : List UInt8)), .string (str ([] : List UInt8)), .string (str ls.flatten), .string (str ([] : List UInt8))]).toArray) w11 rfl (r_buildS (l := [(0, .int .u8 72), (3, .string (str ls.flatten))]) st_65 (parts2 rfl rfl) (Eq.trans (show Instr.fill _ _ [(0, .int .u8 72), (3, .string (str ls.flatten))] = _ from (fill_one rfl rfl rfl (fill_one rfl rfl rfl fill_end))) (by first | rfl | kernel_rfl))) ?_
  have S13 : Sat w11 I (Suite (ptr b) L :: R) := Suite.cls hL hK S12
  refine EL_ret [ptr b, Thing.val (⟨(72 : UInt8), [], [], ls.flatten, []⟩ : Thing)] rfl Try.func30 rfl nm30 rfl (once_c (ptr b) L (⟨(72 : UInt8), [], [], ls.flatten, []⟩ : Thing) I _ _ S13 (by first | assumption | omega | (simp; done) | (simp; omega)) (by refine ⟨?_, ?_, ?_, ?_⟩ <;> first | (simp; done) | assumption | (simp; omega)) rfl) ?_
  rintro _ w14 ⟨rfl, S15⟩
  refine EL_ret [.int .u8 72, .int .i64 (onceN (⟨(72 : UInt8), [], [], ls.flatten, []⟩ : Thing) L : Int)] rfl Try.func29 rfl nm29 rfl (signed_c (72 : UInt8) (onceN (⟨(72 : UInt8), [], [], ls.flatten, []⟩ : Thing) L : Int) I _ _ S15 (by have := onceN_le (⟨(72 : UInt8), [], [], ls.flatten, []⟩ : Thing) L; omega)) ?_
  rintro _ w16 ⟨v18, rfl, S17⟩
  refine EL_val v18 w16 rfl (r_assign rfl) ?_
  refine EL_nil ?_
  refine thn_n ?_
  refine EC_ret ?_
  refine fin1 Try.results12 (show _ = v18 from rfl) ⟨_, rfl, ?_⟩
  exact ⟨v18, rfl, S17⟩

set_option maxRecDepth 100000 in
set_option maxHeartbeats 4000000 in
theorem Code_c (p : Value) (L : List Thing) (v0 : Value) (k : List UInt8) (v1 : Value) (ls : List (List UInt8)) (I : Gh) (R : List HP) (w : World) (S : Sat w I (Suite p L :: R)) (Q0 : RoB I v0 k) (Q1 : RoX I v1 bytesR ls) (hl : L.length ≤ 1000000) (hk : k.length ≤ 1000000000) (hb : ls.flatten.length ≤ 1000000000) : Ret Try.prog 13 [p, v0, v1] w fun v w' => ∃ v2 : Value, v2 = v ∧ Sat w' I (OwnB v2 (signOf 77 (onceN (tCode k ls.flatten) L)) :: Suite p (onceL (tCode k ls.flatten) L) :: R) := by
  have lq0 := RoB.le Q0 S.le
  have lq1 := XRow.le (Q1.row S.le)
  obtain ⟨b, lv, mb, K, rfl, hL, hK, S⟩ := Suite.opn S
  refine ret_E Try.func13 rfl Try.ntmps13 (by simp) ?_
  refine EC_seq ?_
  refine EC_reg ?_
  refine EL_val (.slice none 0 0) w rfl (r_assign rfl) ?_
  refine EL_nil ?_
  refine thn_n ?_
  refine EC_seq ?_
  refine EC_seq ?_
  refine EC_reg ?_
  refine EL_val (ptr b) w rfl (r_move rfl) ?_
  refine EL_val (ptr b) w rfl (r_nil rfl) ?_
  refine EL_val (ptr b 0) w rfl (r_fieldP (o := 0) (s := 1) rfl Try.underlying60 rfl (by kernel_rfl) (by decide) rfl) ?_
  refine EL_val (.bool false) w rfl (r_loadA rfl (S.arr 0 rfl) (u := (.bool false)) rfl Try.underlying4 rfl) ?_
  refine EL_nil ?_
  refine thn_n ?_
  refine EC_cond_false rfl ?_
  refine EC_skip ?_
  refine thn_n ?_
  refine EC_seq ?_
  refine EC_any 7 (fun w' => Gh.le I (gh w')) (fun w' => True) (by kernel_rfl) ?_
  intro w11 B12
  have S13 : Sat w11 I (Blk b 60 (sCells lv mb) :: Own 65 5 lv L.length (things L).flatten :: Mp mb (entE K) :: R) := S.below B12
  refine EJ_take 0 rfl (by kernel_rfl) (by kernel_rfl) (by kernel_rfl) rfl (by kernel_rfl) (ptr b) rfl (fun _ hw ht => r_move rfl) ⟨S13.le, fun h => trivial⟩ ?_
  refine EJ_take 1 rfl (by kernel_rfl) (by kernel_rfl) (by kernel_rfl) rfl (by kernel_rfl) v0 rfl (fun _ hw ht => r_move rfl) ⟨S13.le, fun h => trivial⟩ ?_
  refine EJ_take 2 rfl (by kernel_rfl) (by kernel_rfl) (by kernel_rfl) rfl (by kernel_rfl) (.string (str k)) rfl (fun _ hw ht => r_str rfl (Q0 _ hw) Try.underlying22 Try.underlying5 Try.underlying9) ⟨S13.le, fun h => trivial⟩ ?_
  refine EJ_take 3 rfl (by kernel_rfl) (by kernel_rfl) (by kernel_rfl) rfl (by kernel_rfl) v1 rfl (fun _ hw ht => r_move rfl) ⟨S13.le, fun h => trivial⟩ ?_
  refine EJ_one 4 (by kernel_rfl) ⟨_, rfl, ?_⟩
  refine EL_ret [v1] rfl Try.func31 rfl nm31 rfl (joined_c v1 ls I _ _ S13 Q1 (by first | assumption | omega | (simp; done) | (simp; omega))) ?_
  rintro _ w14 ⟨rfl, S15⟩
  refine EL_nil ?_
  refine ⟨rfl, ⟨S15.le, fun h => trivial⟩, ?_⟩
  refine EJ_take 5 rfl (by kernel_rfl) (by kernel_rfl) (by kernel_rfl) rfl (by kernel_rfl) (.agg ([.int .u8 77, .string (str k), .string (str ([] : List UInt8)), .string (str ls.flatten), .string (str ([] : List UInt8))]).toArray) rfl (fun _ hw ht => r_buildS (l := [(0, .int .u8 77), (1, .string (str k)), (3, .string (str ls.flatten))]) st_65 (parts3 rfl rfl rfl) (Eq.trans (show Instr.fill _ _ [(0, .int .u8 77), (1, .string (str k)), (3, .string (str ls.flatten))] = _ from (fill_one rfl rfl rfl (fill_one rfl rfl rfl (fill_one rfl rfl rfl fill_end)))) (by first | rfl | kernel_rfl))) ⟨S15.le, fun h => trivial⟩ ?_
  refine EJ_one 6 (by kernel_rfl) ⟨_, rfl, ?_⟩
  have S16 : Sat w14 I (Suite (ptr b) L :: R) := Suite.cls hL hK S15
  refine EL_ret [ptr b, Thing.val (⟨(77 : UInt8), k, [], ls.flatten, []⟩ : Thing)] rfl Try.func30 rfl nm30 rfl (once_c (ptr b) L (⟨(77 : UInt8), k, [], ls.flatten, []⟩ : Thing) I _ _ S16 (by first | assumption | omega | (simp; done) | (simp; omega)) (by refine ⟨?_, ?_, ?_, ?_⟩ <;> first | (simp; done) | assumption | (simp; omega)) rfl) ?_
  rintro _ w17 ⟨rfl, S18⟩
  refine EL_nil ?_
  refine ⟨rfl, ⟨S18.le, fun h => trivial⟩, ?_⟩
  refine EJ_one 7 (by kernel_rfl) ⟨_, rfl, ?_⟩
  refine EL_ret [.int .u8 77, .int .i64 (onceN (⟨(77 : UInt8), k, [], ls.flatten, []⟩ : Thing) L : Int)] rfl Try.func29 rfl nm29 rfl (signed_c (77 : UInt8) (onceN (⟨(77 : UInt8), k, [], ls.flatten, []⟩ : Thing) L : Int) I _ _ S18 (by have := onceN_le (⟨(77 : UInt8), k, [], ls.flatten, []⟩ : Thing) L; omega)) ?_
  rintro _ w19 ⟨v21, rfl, S20⟩
  refine EL_nil ?_
  refine ⟨rfl, ⟨S20.le, fun h => by cases h⟩, ?_⟩
  refine EJ_float 8 rfl (by kernel_rfl) (by kernel_rfl) (by kernel_rfl) rfl v21 rfl (fun _ hw => r_assign rfl) ⟨S20.le, fun h => by cases h⟩ ?_
  refine EJ_done (by kernel_rfl) ?_
  refine thn_n ?_
  refine EC_ret ?_
  refine fin1 Try.results13 (show _ = v21 from rfl) ⟨_, rfl, ?_⟩
  exact ⟨v21, rfl, S20⟩

set_option maxRecDepth 100000 in
set_option maxHeartbeats 4000000 in
theorem Key_c (p : Value) (L : List Thing) (I : Gh) (R : List HP) (w : World) (S : Sat w I (Suite p L :: R)) (hl : L.length ≤ 1000000) : Ret Try.prog 14 [p] w fun v w' => ∃ v1 : Value, v1 = v ∧ Sat w' I (OwnB v1 (signOf 75 ((L.length : Int) + 1)) :: Suite p (L ++ [tKey]) :: R) := by
  obtain ⟨b, lv, mb, K, rfl, hL, hK, S⟩ := Suite.opn S
  refine ret_E Try.func14 rfl Try.ntmps14 (by simp) ?_
  refine EC_seq ?_
  refine EC_reg ?_
  refine EL_val (.slice none 0 0) w rfl (r_assign rfl) ?_
  refine EL_nil ?_
  refine thn_n ?_
  refine EC_seq ?_
  refine EC_seq ?_
  refine EC_reg ?_
  refine EL_val (ptr b) w rfl (r_move rfl) ?_
  refine EL_val (ptr b) w rfl (r_nil rfl) ?_
  refine EL_val (ptr b 0) w rfl (r_fieldP (o := 0) (s := 1) rfl Try.underlying60 rfl (by kernel_rfl) (by decide) rfl) ?_
  refine EL_val (.bool false) w rfl (r_loadA rfl (S.arr 0 rfl) (u := (.bool false)) rfl Try.underlying4 rfl) ?_
  refine EL_nil ?_
  refine thn_n ?_
  refine EC_cond_false rfl ?_
  refine EC_skip ?_
  refine thn_n ?_
  refine EC_seq ?_
  refine EC_reg ?_
  refine EL_val (ptr b) w rfl (r_move rfl) ?_
  refine EL_val (.agg ([.int .u8 75, .string (str ([] : List UInt8)), .string (str ([] : List UInt8)), .string (str ([] : List UInt8)), .string (str ([] : List UInt8))]).toArray) w rfl (r_buildS (l := [(0, .int .u8 75)]) st_65 (parts1 rfl) (Eq.trans (show Instr.fill _ _ [(0, .int .u8 75)] = _ from (fill_one rfl rfl rfl fill_end)) (by first | rfl | kernel_rfl))) ?_
  refine EL_ret [ptr b, Thing.val (⟨(75 : UInt8), [], [], [], []⟩ : Thing)] rfl Try.func34 rfl nm34 rfl (add_c b lv mb L (⟨(75 : UInt8), [], [], [], []⟩ : Thing) I _ _ S (by first | assumption | omega | (simp; done) | (simp; omega))) ?_
  rintro _ w11 ⟨lv'13, rfl, S12⟩
  refine EL_ret [.int .u8 75, .int .i64 ((L.length : Int) + 1)] rfl Try.func29 rfl nm29 rfl (signed_c (75 : UInt8) ((L.length : Int) + 1) I _ _ S12 (by omega)) ?_
  rintro _ w14 ⟨v16, rfl, S15⟩
  refine EL_val v16 w14 rfl (r_assign rfl) ?_
  refine EL_nil ?_
  refine thn_n ?_
  refine EC_ret ?_
  refine fin1 Try.results14 (show _ = v16 from rfl) ⟨_, rfl, ?_⟩
  have S17 : Sat w14 I (Mp mb (entE K) :: OwnB v16 (signOf (75 : UInt8) ((L.length : Int) + 1)) :: Blk b 60 (sCells lv'13 mb) :: Own 65 5 lv'13 ((L ++ [(⟨(75 : UInt8), [], [], [], []⟩ : Thing)]).length) (things (L ++ [(⟨(75 : UInt8), [], [], [], []⟩ : Thing)])).flatten :: R) := S15.cons_front (i := 3) rfl
  have S18 : Sat w14 I (Own 65 5 lv'13 ((L ++ [(⟨(75 : UInt8), [], [], [], []⟩ : Thing)]).length) (things (L ++ [(⟨(75 : UInt8), [], [], [], []⟩ : Thing)])).flatten :: Mp mb (entE K) :: OwnB v16 (signOf (75 : UInt8) ((L.length : Int) + 1)) :: Blk b 60 (sCells lv'13 mb) :: R) := S17.cons_front (i := 3) rfl
  have S19 : Sat w14 I (Blk b 60 (sCells lv'13 mb) :: Own 65 5 lv'13 ((L ++ [(⟨(75 : UInt8), [], [], [], []⟩ : Thing)]).length) (things (L ++ [(⟨(75 : UInt8), [], [], [], []⟩ : Thing)])).flatten :: Mp mb (entE K) :: OwnB v16 (signOf (75 : UInt8) ((L.length : Int) + 1)) :: R) := S18.cons_front (i := 3) rfl
  have S20 : Sat w14 I (Suite (ptr b) (L ++ [(⟨(75 : UInt8), [], [], [], []⟩ : Thing)]) :: OwnB v16 (signOf (75 : UInt8) ((L.length : Int) + 1)) :: R) := Suite.cls (app_ok hL (by refine ⟨?_, ?_, ?_, ?_⟩ <;> simp)) (hK.other rfl) S19
  have S21 : Sat w14 I (Suite (ptr b) (L ++ [(⟨(75 : UInt8), [], [], [], []⟩ : Thing)]) :: OwnB v16 (signOf (75 : UInt8) ((L.length : Int) + 1)) :: R) := S20.cons_front (i := 0) rfl
  have S22 : Sat w14 I (OwnB v16 (signOf (75 : UInt8) ((L.length : Int) + 1)) :: Suite (ptr b) (L ++ [(⟨(75 : UInt8), [], [], [], []⟩ : Thing)]) :: R) := S21.cons_front (i := 1) rfl
  exact ⟨v16, rfl, S22⟩

set_option maxRecDepth 100000 in
set_option maxHeartbeats 4000000 in
theorem Seal_c (p : Value) (L : List Thing) (v0 : Value) (k : List UInt8) (v1 : Value) (n : List UInt8) (v2 : Value) (o : List UInt8) (v3 : Value) (x : List UInt8) (I : Gh) (R : List HP) (w : World) (S : Sat w I (Suite p L :: R)) (Q0 : RoB I v0 k) (Q1 : RoB I v1 n) (Q2 : RoB I v2 o) (Q3 : RoB I v3 x) (hl : L.length ≤ 1000000) (hk : k.length ≤ 1000000000) (hn : n.length ≤ 1000000000) (ho : o.length ≤ 1000000000) (hx : x.length ≤ 800000000) : Ret Try.prog 16 [p, v0, v1, v2, v3] w fun v w' => ∃ v4 : Value, .tuple #[v4, .int .i64 (sealE k n)] = v ∧ Sat w' I (OwnB v4 (sealB L k n x) :: Suite p (sealL L k n o x) :: R) := by
  have lq0 := RoB.le Q0 S.le
  have lq1 := RoB.le Q1 S.le
  have lq2 := RoB.le Q2 S.le
  have lq3 := RoB.le Q3 S.le
  obtain ⟨b, lv, mb, K, rfl, hL, hK, S⟩ := Suite.opn S
  have hx2 : x.length ≤ 1000000000 := by omega
  refine ret_E Try.func16 rfl Try.ntmps16 (by simp) ?_
  refine EC_seq ?_
  refine EC_reg ?_
  refine EL_val (.slice none 0 0) w rfl (r_assign rfl) ?_
  refine EL_val (.int .i64 0) w rfl (r_assign rfl) ?_
  refine EL_nil ?_
  refine thn_n ?_
  refine EC_seq ?_
  refine EC_block ?_
  refine EC_seq ?_
  refine EC_reg ?_
  refine EL_val (ptr b) w rfl (r_move rfl) ?_
  refine EL_val (ptr b) w rfl (r_nil rfl) ?_
  refine EL_val (ptr b 0) w rfl (r_fieldP (o := 0) (s := 1) rfl Try.underlying60 rfl (by kernel_rfl) (by decide) rfl) ?_
  refine EL_val (.bool false) w rfl (r_loadA rfl (S.arr 0 rfl) (u := (.bool false)) rfl Try.underlying4 rfl) ?_
  refine EL_val (.bool false) w rfl (r_assign rfl) ?_
  refine EL_nil ?_
  refine thn_n ?_
  refine EC_cond_false rfl ?_
  refine EC_seq ?_
  refine EC_reg ?_
  refine EL_val v0 w rfl (r_move rfl) ?_
  refine EL_val v1 w rfl (r_move rfl) ?_
  refine EL_ret [v0, v1] rfl Try.func36 rfl nm36 rfl (sizes_c v0 k v1 n _ (Q0 _ S.le) (Q1 _ S.le)) ?_
  rintro _ _ ⟨rfl, rfl⟩
  refine EL_val (.bool (!(decide ((k.length : Int) = 32) && decide ((n.length : Int) = 12)))) w rfl (r_not rfl) ?_
  refine EL_val (.bool (!(decide ((k.length : Int) = 32) && decide ((n.length : Int) = 12)))) w rfl (r_assign rfl) ?_
  refine EL_nil ?_
  refine thn_n ?_
  refine EC_cond (t := !(decide ((k.length : Int) = 32) && decide ((n.length : Int) = 12))) rfl (fun h11 => ?_) (fun h11 => ?_)
  · have hz : szOk k n = false := (Bool.not_eq_true' _).mp h11
    refine EC_seq ?_
    refine EC_reg ?_
    refine EL_val (.slice none 0 0) w rfl (r_assign rfl) ?_
    refine EL_val (.int .i64 11) w rfl (r_assign rfl) ?_
    refine EL_nil ?_
    refine thn_n ?_
    refine EC_ret ?_
    refine inB_r ?_
    refine thn_r ?_
    refine fin2 Try.results16 (show _ = .slice none 0 0 from rfl) (show _ = .int .i64 11 from rfl) ⟨_, rfl, ?_⟩
    have S12 : Sat w I (Suite (ptr b) L :: R) := Suite.cls hL hK S
    rw [show sealB L k n x = [] from by simp [sealB, hz], show sealL L k n o x = L from by simp [sealL, hz]]
    have S14 : Sat w I (OwnB (.slice none 0 0) ([] : List UInt8) :: Suite (ptr b) L :: R) := S12.nil 5 1
    exact ⟨(.slice none 0 0), (by simp [sealE, hz]), S14⟩
  · have hz : szOk k n = true := (Bool.not_eq_false' _).mp h11
    refine EC_skip ?_
    refine inB_n ?_
    refine thn_n ?_
    refine EC_seq ?_
    refine EC_reg ?_
    refine EL_val (ptr b) w rfl (r_move rfl) ?_
    refine EL_val v0 w rfl (r_move rfl) ?_
    refine EL_val (.string (str k)) w rfl (r_str rfl (Q0 _ S.le) Try.underlying22 Try.underlying5 Try.underlying9) ?_
    refine EL_val v1 w rfl (r_move rfl) ?_
    refine EL_val (.string (str n)) w rfl (r_str rfl (Q1 _ S.le) Try.underlying22 Try.underlying5 Try.underlying9) ?_
    refine EL_val v3 w rfl (r_move rfl) ?_
    refine EL_val (.string (str x)) w rfl (r_str rfl (Q3 _ S.le) Try.underlying22 Try.underlying5 Try.underlying9) ?_
    refine EL_val v2 w rfl (r_move rfl) ?_
    refine EL_val (.string (str o)) w rfl (r_str rfl (Q2 _ S.le) Try.underlying22 Try.underlying5 Try.underlying9) ?_
    refine EL_val (.agg ([.int .u8 66, .string (str k), .string (str n), .string (str x), .string (str o)]).toArray) w rfl (r_buildS (l := [(0, .int .u8 66), (1, .string (str k)), (2, .string (str n)), (3, .string (str x)), (4, .string (str o))]) st_65 (parts5 rfl rfl rfl rfl rfl) (Eq.trans (show Instr.fill _ _ [(0, .int .u8 66), (1, .string (str k)), (2, .string (str n)), (3, .string (str x)), (4, .string (str o))] = _ from (fill_one rfl rfl rfl (fill_one rfl rfl rfl (fill_one rfl rfl rfl (fill_one rfl rfl rfl (fill_one rfl rfl rfl fill_end)))))) (by first | rfl | kernel_rfl))) ?_
    refine EL_ret [ptr b, Thing.val (⟨(66 : UInt8), k, n, x, o⟩ : Thing)] rfl Try.func34 rfl nm34 rfl (add_c b lv mb L (⟨(66 : UInt8), k, n, x, o⟩ : Thing) I _ _ S (by first | assumption | omega | (simp; done) | (simp; omega))) ?_
    rintro _ w15 ⟨lv'17, rfl, S16⟩
    refine EL_val (.int .i64 ((L.length : Int) + 1)) w15 rfl (r_assign rfl) ?_
    refine EL_nil ?_
    refine thn_n ?_
    refine EC_seq ?_
    refine EC_reg ?_
    refine EL_val (.int .i64 ((L.length : Int) + 1)) w15 rfl (r_move rfl) ?_
    refine EL_val v3 w15 rfl (r_move rfl) ?_
    refine EL_val (.int .i64 (x.length : Int)) w15 rfl (lenB (r_len rfl (Q3 _ S16.le) Try.underlying22)) ?_
    refine EL_ret [.int .i64 ((L.length : Int) + 1), .int .i64 (x.length : Int)] rfl Try.func37 rfl nm37 rfl (box_c ((L.length : Int) + 1) (x.length : Int) I _ _ S16 (by first | assumption | omega | (simp; done) | (simp; omega)) (by first | assumption | omega | (simp; done) | (simp; omega))) ?_
    rintro _ w18 ⟨v20, rfl, S19⟩
    refine EL_val v20 w18 rfl (r_assign rfl) ?_
    refine EL_val (.int .i64 0) w18 rfl (r_assign rfl) ?_
    refine EL_nil ?_
    refine thn_n ?_
    refine EC_ret ?_
    refine fin2 Try.results16 (show _ = v20 from rfl) (show _ = .int .i64 0 from rfl) ⟨_, rfl, ?_⟩
    have S21 : Sat w18 I (Mp mb (entE K) :: OwnB v20 (boxOf ((L.length : Int) + 1) (x.length : Int).toNat) :: Blk b 60 (sCells lv'17 mb) :: Own 65 5 lv'17 ((L ++ [(⟨(66 : UInt8), k, n, x, o⟩ : Thing)]).length) (things (L ++ [(⟨(66 : UInt8), k, n, x, o⟩ : Thing)])).flatten :: R) := S19.cons_front (i := 3) rfl
    have S22 : Sat w18 I (Own 65 5 lv'17 ((L ++ [(⟨(66 : UInt8), k, n, x, o⟩ : Thing)]).length) (things (L ++ [(⟨(66 : UInt8), k, n, x, o⟩ : Thing)])).flatten :: Mp mb (entE K) :: OwnB v20 (boxOf ((L.length : Int) + 1) (x.length : Int).toNat) :: Blk b 60 (sCells lv'17 mb) :: R) := S21.cons_front (i := 3) rfl
    have S23 : Sat w18 I (Blk b 60 (sCells lv'17 mb) :: Own 65 5 lv'17 ((L ++ [(⟨(66 : UInt8), k, n, x, o⟩ : Thing)]).length) (things (L ++ [(⟨(66 : UInt8), k, n, x, o⟩ : Thing)])).flatten :: Mp mb (entE K) :: OwnB v20 (boxOf ((L.length : Int) + 1) (x.length : Int).toNat) :: R) := S22.cons_front (i := 3) rfl
    have S24 : Sat w18 I (Suite (ptr b) (L ++ [(⟨(66 : UInt8), k, n, x, o⟩ : Thing)]) :: OwnB v20 (boxOf ((L.length : Int) + 1) (x.length : Int).toNat) :: R) := Suite.cls (app_ok hL (show (tBox k n o x).ok from ⟨by assumption, by assumption, by assumption, by assumption⟩)) (hK.other rfl) S23
    rw [show sealB L k n x = boxOf ((L.length : Int) + 1) x.length from by simp [sealB, hz], show sealL L k n o x = L ++ [tBox k n o x] from by simp [sealL, hz]]
    rw [show ((x.length : Int)).toNat = x.length from by omega] at S24
    have S25 : Sat w18 I (Suite (ptr b) (L ++ [(⟨(66 : UInt8), k, n, x, o⟩ : Thing)]) :: OwnB v20 (boxOf ((L.length : Int) + 1) (x.length : Int).toNat) :: R) := S24.cons_front (i := 0) rfl
    have S26 : Sat w18 I (OwnB v20 (boxOf ((L.length : Int) + 1) (x.length : Int).toNat) :: Suite (ptr b) (L ++ [(⟨(66 : UInt8), k, n, x, o⟩ : Thing)]) :: R) := S25.cons_front (i := 1) rfl
    exact ⟨v20, (by simp [sealE, hz]), S26⟩

set_option maxRecDepth 100000 in
set_option maxHeartbeats 4000000 in
theorem SealK_c (p : Value) (L : List Thing) (v0 : Value) (k : List UInt8) (v1 : Value) (n : List UInt8) (v2 : Value) (o : List UInt8) (v3 : Value) (x : List UInt8) (I : Gh) (R : List HP) (w : World) (S : Sat w I (Suite p L :: OwnB v0 k :: R)) (Q0 : RoB I v1 n) (Q1 : RoB I v2 o) (Q2 : RoB I v3 x) (hl : L.length ≤ 1000000) (hk : k.length ≤ 1000000000) (hn : n.length ≤ 1000000000) (ho : o.length ≤ 1000000000) (hx : x.length ≤ 800000000) : Ret Try.prog 16 [p, v0, v1, v2, v3] w fun v w' => ∃ v4 : Value, .tuple #[v4, .int .i64 (sealE k n)] = v ∧ Sat w' I (OwnB v4 (sealB L k n x) :: Suite p (sealL L k n o x) :: OwnB v0 k :: R) := by
  have lq0 := RoB.le Q0 S.le
  have lq1 := RoB.le Q1 S.le
  have lq2 := RoB.le Q2 S.le
  obtain ⟨b, lv, mb, K, rfl, hL, hK, S⟩ := Suite.opn S
  have hx2 : x.length ≤ 1000000000 := by omega
  refine ret_E Try.func16 rfl Try.ntmps16 (by simp) ?_
  refine EC_seq ?_
  refine EC_reg ?_
  refine EL_val (.slice none 0 0) w rfl (r_assign rfl) ?_
  refine EL_val (.int .i64 0) w rfl (r_assign rfl) ?_
  refine EL_nil ?_
  refine thn_n ?_
  refine EC_seq ?_
  refine EC_block ?_
  refine EC_seq ?_
  refine EC_reg ?_
  refine EL_val (ptr b) w rfl (r_move rfl) ?_
  refine EL_val (ptr b) w rfl (r_nil rfl) ?_
  refine EL_val (ptr b 0) w rfl (r_fieldP (o := 0) (s := 1) rfl Try.underlying60 rfl (by kernel_rfl) (by decide) rfl) ?_
  refine EL_val (.bool false) w rfl (r_loadA rfl (S.arr 0 rfl) (u := (.bool false)) rfl Try.underlying4 rfl) ?_
  refine EL_val (.bool false) w rfl (r_assign rfl) ?_
  refine EL_nil ?_
  refine thn_n ?_
  refine EC_cond_false rfl ?_
  refine EC_seq ?_
  refine EC_reg ?_
  refine EL_val v0 w rfl (r_move rfl) ?_
  refine EL_val v1 w rfl (r_move rfl) ?_
  refine EL_ret [v0, v1] rfl Try.func36 rfl nm36 rfl (sizes_c v0 k v1 n _ (own_row (S.own 3 rfl)) (Q0 _ S.le)) ?_
  rintro _ _ ⟨rfl, rfl⟩
  refine EL_val (.bool (!(decide ((k.length : Int) = 32) && decide ((n.length : Int) = 12)))) w rfl (r_not rfl) ?_
  refine EL_val (.bool (!(decide ((k.length : Int) = 32) && decide ((n.length : Int) = 12)))) w rfl (r_assign rfl) ?_
  refine EL_nil ?_
  refine thn_n ?_
  refine EC_cond (t := !(decide ((k.length : Int) = 32) && decide ((n.length : Int) = 12))) rfl (fun h11 => ?_) (fun h11 => ?_)
  · have hz : szOk k n = false := (Bool.not_eq_true' _).mp h11
    refine EC_seq ?_
    refine EC_reg ?_
    refine EL_val (.slice none 0 0) w rfl (r_assign rfl) ?_
    refine EL_val (.int .i64 11) w rfl (r_assign rfl) ?_
    refine EL_nil ?_
    refine thn_n ?_
    refine EC_ret ?_
    refine inB_r ?_
    refine thn_r ?_
    refine fin2 Try.results16 (show _ = .slice none 0 0 from rfl) (show _ = .int .i64 11 from rfl) ⟨_, rfl, ?_⟩
    have S12 : Sat w I (Suite (ptr b) L :: OwnB v0 k :: R) := Suite.cls hL hK S
    rw [show sealB L k n x = [] from by simp [sealB, hz], show sealL L k n o x = L from by simp [sealL, hz]]
    have S14 : Sat w I (OwnB (.slice none 0 0) ([] : List UInt8) :: Suite (ptr b) L :: OwnB v0 k :: R) := S12.nil 5 1
    exact ⟨(.slice none 0 0), (by simp [sealE, hz]), S14⟩
  · have hz : szOk k n = true := (Bool.not_eq_false' _).mp h11
    refine EC_skip ?_
    refine inB_n ?_
    refine thn_n ?_
    refine EC_seq ?_
    refine EC_reg ?_
    refine EL_val (ptr b) w rfl (r_move rfl) ?_
    refine EL_val v0 w rfl (r_move rfl) ?_
    refine EL_val (.string (str k)) w rfl (r_str rfl (own_row (S.own 3 rfl)) Try.underlying22 Try.underlying5 Try.underlying9) ?_
    refine EL_val v1 w rfl (r_move rfl) ?_
    refine EL_val (.string (str n)) w rfl (r_str rfl (Q0 _ S.le) Try.underlying22 Try.underlying5 Try.underlying9) ?_
    refine EL_val v3 w rfl (r_move rfl) ?_
    refine EL_val (.string (str x)) w rfl (r_str rfl (Q2 _ S.le) Try.underlying22 Try.underlying5 Try.underlying9) ?_
    refine EL_val v2 w rfl (r_move rfl) ?_
    refine EL_val (.string (str o)) w rfl (r_str rfl (Q1 _ S.le) Try.underlying22 Try.underlying5 Try.underlying9) ?_
    refine EL_val (.agg ([.int .u8 66, .string (str k), .string (str n), .string (str x), .string (str o)]).toArray) w rfl (r_buildS (l := [(0, .int .u8 66), (1, .string (str k)), (2, .string (str n)), (3, .string (str x)), (4, .string (str o))]) st_65 (parts5 rfl rfl rfl rfl rfl) (Eq.trans (show Instr.fill _ _ [(0, .int .u8 66), (1, .string (str k)), (2, .string (str n)), (3, .string (str x)), (4, .string (str o))] = _ from (fill_one rfl rfl rfl (fill_one rfl rfl rfl (fill_one rfl rfl rfl (fill_one rfl rfl rfl (fill_one rfl rfl rfl fill_end)))))) (by first | rfl | kernel_rfl))) ?_
    refine EL_ret [ptr b, Thing.val (⟨(66 : UInt8), k, n, x, o⟩ : Thing)] rfl Try.func34 rfl nm34 rfl (add_c b lv mb L (⟨(66 : UInt8), k, n, x, o⟩ : Thing) I _ _ S (by first | assumption | omega | (simp; done) | (simp; omega))) ?_
    rintro _ w15 ⟨lv'17, rfl, S16⟩
    refine EL_val (.int .i64 ((L.length : Int) + 1)) w15 rfl (r_assign rfl) ?_
    refine EL_nil ?_
    refine thn_n ?_
    refine EC_seq ?_
    refine EC_reg ?_
    refine EL_val (.int .i64 ((L.length : Int) + 1)) w15 rfl (r_move rfl) ?_
    refine EL_val v3 w15 rfl (r_move rfl) ?_
    refine EL_val (.int .i64 (x.length : Int)) w15 rfl (lenB (r_len rfl (Q2 _ S16.le) Try.underlying22)) ?_
    refine EL_ret [.int .i64 ((L.length : Int) + 1), .int .i64 (x.length : Int)] rfl Try.func37 rfl nm37 rfl (box_c ((L.length : Int) + 1) (x.length : Int) I _ _ S16 (by first | assumption | omega | (simp; done) | (simp; omega)) (by first | assumption | omega | (simp; done) | (simp; omega))) ?_
    rintro _ w18 ⟨v20, rfl, S19⟩
    refine EL_val v20 w18 rfl (r_assign rfl) ?_
    refine EL_val (.int .i64 0) w18 rfl (r_assign rfl) ?_
    refine EL_nil ?_
    refine thn_n ?_
    refine EC_ret ?_
    refine fin2 Try.results16 (show _ = v20 from rfl) (show _ = .int .i64 0 from rfl) ⟨_, rfl, ?_⟩
    have S21 : Sat w18 I (Mp mb (entE K) :: OwnB v20 (boxOf ((L.length : Int) + 1) (x.length : Int).toNat) :: Blk b 60 (sCells lv'17 mb) :: Own 65 5 lv'17 ((L ++ [(⟨(66 : UInt8), k, n, x, o⟩ : Thing)]).length) (things (L ++ [(⟨(66 : UInt8), k, n, x, o⟩ : Thing)])).flatten :: OwnB v0 k :: R) := S19.cons_front (i := 3) rfl
    have S22 : Sat w18 I (Own 65 5 lv'17 ((L ++ [(⟨(66 : UInt8), k, n, x, o⟩ : Thing)]).length) (things (L ++ [(⟨(66 : UInt8), k, n, x, o⟩ : Thing)])).flatten :: Mp mb (entE K) :: OwnB v20 (boxOf ((L.length : Int) + 1) (x.length : Int).toNat) :: Blk b 60 (sCells lv'17 mb) :: OwnB v0 k :: R) := S21.cons_front (i := 3) rfl
    have S23 : Sat w18 I (Blk b 60 (sCells lv'17 mb) :: Own 65 5 lv'17 ((L ++ [(⟨(66 : UInt8), k, n, x, o⟩ : Thing)]).length) (things (L ++ [(⟨(66 : UInt8), k, n, x, o⟩ : Thing)])).flatten :: Mp mb (entE K) :: OwnB v20 (boxOf ((L.length : Int) + 1) (x.length : Int).toNat) :: OwnB v0 k :: R) := S22.cons_front (i := 3) rfl
    have S24 : Sat w18 I (Suite (ptr b) (L ++ [(⟨(66 : UInt8), k, n, x, o⟩ : Thing)]) :: OwnB v20 (boxOf ((L.length : Int) + 1) (x.length : Int).toNat) :: OwnB v0 k :: R) := Suite.cls (app_ok hL (show (tBox k n o x).ok from ⟨by assumption, by assumption, by assumption, by assumption⟩)) (hK.other rfl) S23
    rw [show sealB L k n x = boxOf ((L.length : Int) + 1) x.length from by simp [sealB, hz], show sealL L k n o x = L ++ [tBox k n o x] from by simp [sealL, hz]]
    rw [show ((x.length : Int)).toNat = x.length from by omega] at S24
    have S25 : Sat w18 I (OwnB v0 k :: Suite (ptr b) (L ++ [(⟨(66 : UInt8), k, n, x, o⟩ : Thing)]) :: OwnB v20 (boxOf ((L.length : Int) + 1) (x.length : Int).toNat) :: R) := S24.cons_front (i := 2) rfl
    have S26 : Sat w18 I (Suite (ptr b) (L ++ [(⟨(66 : UInt8), k, n, x, o⟩ : Thing)]) :: OwnB v0 k :: OwnB v20 (boxOf ((L.length : Int) + 1) (x.length : Int).toNat) :: R) := S25.cons_front (i := 1) rfl
    have S27 : Sat w18 I (OwnB v20 (boxOf ((L.length : Int) + 1) (x.length : Int).toNat) :: Suite (ptr b) (L ++ [(⟨(66 : UInt8), k, n, x, o⟩ : Thing)]) :: OwnB v0 k :: R) := S26.cons_front (i := 2) rfl
    exact ⟨v20, (by simp [sealE, hz]), S27⟩

set_option maxRecDepth 100000 in
set_option maxHeartbeats 4000000 in
theorem Open_c (p : Value) (L : List Thing) (v0 : Value) (k : List UInt8) (v1 : Value) (n : List UInt8) (v2 : Value) (o : List UInt8) (v3 : Value) (x : List UInt8) (I : Gh) (R : List HP) (w : World) (S : Sat w I (Suite p L :: R)) (Q0 : RoB I v0 k) (Q1 : RoB I v1 n) (Q2 : RoB I v2 o) (Q3 : RoB I v3 x) (hl : L.length ≤ 1000000) (hk : k.length ≤ 1000000000) (hn : n.length ≤ 1000000000) (ho : o.length ≤ 1000000000) (hx : x.length ≤ 800000000) (hT : ∀ t ∈ L, t.text.length ≤ 800000000) : Ret Try.prog 18 [p, v0, v1, v2, v3] w fun v w' => ∃ v4 : Value, ∃ J : Gh, Gh.le I J ∧ .tuple #[v4, .int .i64 (openE L k n o x)] = v ∧ RoB J v4 (openB L k n o x) ∧ Sat w' J (Suite p L :: R) := by
  have lq0 := RoB.le Q0 S.le
  have lq1 := RoB.le Q1 S.le
  have lq2 := RoB.le Q2 S.le
  have lq3 := RoB.le Q3 S.le
  obtain ⟨b, lv, mb, K, rfl, hL, hK, S⟩ := Suite.opn S
  have hx2 : x.length ≤ 1000000000 := by omega
  refine ret_E Try.func18 rfl Try.ntmps18 (by simp) ?_
  refine EC_seq ?_
  refine EC_reg ?_
  refine EL_val (.slice none 0 0) w rfl (r_assign rfl) ?_
  refine EL_val (.int .i64 0) w rfl (r_assign rfl) ?_
  refine EL_nil ?_
  refine thn_n ?_
  refine EC_seq ?_
  refine EC_block ?_
  refine EC_seq ?_
  refine EC_reg ?_
  refine EL_val (ptr b) w rfl (r_move rfl) ?_
  refine EL_val (ptr b) w rfl (r_nil rfl) ?_
  refine EL_val (ptr b 0) w rfl (r_fieldP (o := 0) (s := 1) rfl Try.underlying60 rfl (by kernel_rfl) (by decide) rfl) ?_
  refine EL_val (.bool false) w rfl (r_loadA rfl (S.arr 0 rfl) (u := (.bool false)) rfl Try.underlying4 rfl) ?_
  refine EL_val (.bool false) w rfl (r_assign rfl) ?_
  refine EL_nil ?_
  refine thn_n ?_
  refine EC_cond_false rfl ?_
  refine EC_seq ?_
  refine EC_reg ?_
  refine EL_val v0 w rfl (r_move rfl) ?_
  refine EL_val v1 w rfl (r_move rfl) ?_
  refine EL_ret [v0, v1] rfl Try.func36 rfl nm36 rfl (sizes_c v0 k v1 n _ (Q0 _ S.le) (Q1 _ S.le)) ?_
  rintro _ _ ⟨rfl, rfl⟩
  refine EL_val (.bool (!(decide ((k.length : Int) = 32) && decide ((n.length : Int) = 12)))) w rfl (r_not rfl) ?_
  refine EL_val (.bool (!(decide ((k.length : Int) = 32) && decide ((n.length : Int) = 12)))) w rfl (r_assign rfl) ?_
  refine EL_nil ?_
  refine thn_n ?_
  refine EC_cond (t := !(decide ((k.length : Int) = 32) && decide ((n.length : Int) = 12))) rfl (fun h11 => ?_) (fun h11 => ?_)
  · have hz : szOk k n = false := (Bool.not_eq_true' _).mp h11
    refine EC_seq ?_
    refine EC_reg ?_
    refine EL_val (.slice none 0 0) w rfl (r_assign rfl) ?_
    refine EL_val (.int .i64 11) w rfl (r_assign rfl) ?_
    refine EL_nil ?_
    refine thn_n ?_
    refine EC_ret ?_
    refine inB_r ?_
    refine thn_r ?_
    refine fin2 Try.results18 (show _ = .slice none 0 0 from rfl) (show _ = .int .i64 11 from rfl) ⟨_, rfl, ?_⟩
    have S12 : Sat w I (Suite (ptr b) L :: R) := Suite.cls hL hK S
    rw [show openB L k n o x = [] from by simp [openB, hz]]
    exact ⟨(.slice none 0 0), I, (Gh.le_refl _), (by simp [openE, hz]), Ro.nil, S12⟩
  · have hz : szOk k n = true := (Bool.not_eq_false' _).mp h11
    refine EC_seq ?_
    refine EC_reg ?_
    refine EL_val v3 w rfl (r_move rfl) ?_
    refine EL_val (.int .i64 (x.length : Int)) w rfl (lenB (r_len rfl (Q3 _ S.le) Try.underlying22)) ?_
    refine EL_val (.bool (decide ((x.length : Int) < 16))) w rfl (r_lss rfl rfl) ?_
    refine EL_val (.bool (decide ((x.length : Int) < 16))) w rfl (r_assign rfl) ?_
    refine EL_nil ?_
    refine thn_n ?_
    refine EC_if (p := (x.length : Int) < 16) rfl (fun h13 => ?_) (fun h13 => ?_)
    · have hz2 := open_short (L := L) (k := k) (n := n) (o := o) (b := x) (by omega)
      refine EC_seq ?_
      refine EC_reg ?_
      refine EL_val (.slice none 0 0) w rfl (r_assign rfl) ?_
      refine EL_val (.int .i64 20) w rfl (r_assign rfl) ?_
      refine EL_nil ?_
      refine thn_n ?_
      refine EC_ret ?_
      refine inB_r ?_
      refine thn_r ?_
      refine fin2 Try.results18 (show _ = .slice none 0 0 from rfl) (show _ = .int .i64 20 from rfl) ⟨_, rfl, ?_⟩
      have S14 : Sat w I (Suite (ptr b) L :: R) := Suite.cls hL hK S
      rw [show openB L k n o x = [] from by simp [openB, hz, hz2]]
      exact ⟨(.slice none 0 0), I, (Gh.le_refl _), (by simp [openE, hz, hz2]), Ro.nil, S14⟩
    · have hb16 : ¬ x.length < 16 := by omega
      refine EC_skip ?_
      refine inB_n ?_
      refine thn_n ?_
      refine EC_seq ?_
      refine EC_reg ?_
      refine EL_val (.int .i64 0) w rfl (r_assign rfl) ?_
      refine EL_nil ?_
      refine thn_n ?_
      refine EC_seq ?_
      refine EC_seq ?_
      refine EC_reg ?_
      refine EL_val v3 w rfl (r_move rfl) ?_
      refine EL_val v3 w rfl (r_move rfl) ?_
      refine EL_val (.int .i64 (x.length : Int)) w rfl (lenB (r_len rfl (Q3 _ S.le) Try.underlying22)) ?_
      refine EL_int ((x.length : Int) - 8) rfl (r_subi rfl rfl (by omega)) ?_
      intro x15 hx15
      refine EL_val (cutV v3 ((x15 : Int).toNat) ((x.map byt).length)) w rfl (r_slice rfl (Q3 _ S.le) Try.underlying22 (by kernel_rfl) ((x15 : Int).toNat) ((x.map byt).length) (by first | omega | (simp; omega) | simp) (by first | omega | (simp; omega) | simp) (.inr ⟨_, _, rfl, (show _ = Value.int .i64 ((x15 : Int).toNat : Int) from by rw [Int.toNat_of_nonneg (by omega)]; exact rfl)⟩) (.inl ⟨rfl, rfl⟩)) ?_
      have H16 : RoB I (cutV v3 ((x15 : Int).toNat) ((x.map byt).length)) (x.drop ((x15 : Int).toNat)) := rob_as (RoB.cut Q3 ((x15 : Int).toNat) ((x.map byt).length) (by first | omega | (simp; omega) | simp) (by first | omega | (simp; omega) | simp)) (by simp)
      have L17 : (x.drop ((x15 : Int).toNat)).length = x.length - ((x15 : Int).toNat) := by first | (simp; done) | (simp; omega)
      refine EL_val (.int .i64 8) w rfl (r_asn (by simp; omega) (lenB (r_len rfl (H16 _ S.le) Try.underlying22))) ?_
      refine EL_val (.int .i64 0) w rfl (r_move rfl) ?_
      refine EL_nil ?_
      refine thn_n ?_
      refine EC_block ?_
      refine EC_loop (fun m' E' w' => ∃ j : Nat, m' = 8 - j ∧ E' 12 = .int .i64 (IntKind.i64.wrap (numOf ((x.drop (x.length - 8)).take j) : Int)) ∧ E' 43 = .int .i64 (j : Int) ∧ E' 0 = ptr b ∧ E' 1 = v0 ∧ E' 2 = v1 ∧ E' 3 = v2 ∧ E' 4 = v3 ∧ E' 10 = .slice none 0 0 ∧ E' 11 = .int .i64 0 ∧ E' 41 = (cutV v3 ((x15 : Int).toNat) ((x.map byt).length)) ∧ E' 42 = .int .i64 8 ∧ (j ≤ 8) ∧ Sat w' I (Blk b 60 (sCells lv mb) :: Own 65 5 lv L.length (things L).flatten :: Mp mb (entE K) :: R)) _ ⟨0, rfl, rfl, rfl, rfl, rfl, rfl, rfl, rfl, rfl, rfl, rfl, rfl, Nat.zero_le _, S⟩ ?_
      rintro _ E18 w19 ⟨j, rfl, e20, e21, e22, e23, e24, e25, e26, e27, e28, e29, e30, hj, S31⟩
      refine EC_seq ?_
      refine EC_reg ?_
      refine EL_val (.bool (decide ((j : Int) < 8))) w19 rfl (r_lss (by exact e21) (by exact e30)) ?_
      refine EL_nil ?_
      refine thn_n ?_
      refine EC_seq ?_
      refine EC_if (p := (j : Int) < 8) rfl (fun h32 => ?_) (fun h32 => ?_)
      · refine EC_skip ?_
        refine thn_n ?_
        refine EC_seq ?_
        refine EC_block ?_
        refine EC_seq ?_
        refine EC_reg ?_
        refine EL_val (.pointer (some (at_ (cutV v3 ((x15 : Int).toNat) ((x.map byt).length)) (((j : Int) : Int).toNat)))) w19 rfl (r_index (by exact e29) (H16 _ S31.le) (by exact e21) (by omega) (by first | omega | (simp; omega) | simp) Try.underlying22 (by kernel_rfl)) ?_
        obtain ⟨b33, hb34⟩ := get_some (l := x.drop ((x15 : Int).toNat)) (j := ((j : Int) : Int).toNat) (by first | omega | (simp; omega) | simp)
        have hb35 := b33.toNat_lt
        refine EL_val (.int .u8 (b33.toNat : Int)) w19 rfl (r_load rfl ((H16 _ S31.le).cell (bs_get hb34)) Try.underlying5 rfl) ?_
        refine EL_val (.int .u8 (b33.toNat : Int)) w19 rfl (r_assign rfl) ?_
        refine EL_nil ?_
        refine thn_n ?_
        refine EC_reg ?_
        refine EL_val (.int .i64 (IntKind.i64.wrap (numOf ((x.drop (x.length - 8)).take j) : Int))) w19 rfl (r_move (by exact e20)) ?_
        refine EL_val (.int .i64 (IntKind.i64.wrap ((IntKind.i64.wrap (numOf ((x.drop (x.length - 8)).take j) : Int)) * 256))) w19 rfl (r_shl8 rfl rfl) ?_
        refine EL_val (.int .u8 (b33.toNat : Int)) w19 rfl (r_move rfl) ?_
        refine EL_val (.int .i64 (b33.toNat : Int)) w19 rfl (r_convi 5 3 rfl Try.underlying5 Try.underlying3 (by omega)) ?_
        refine EL_val (.int .i64 (IntKind.i64.wrap ((IntKind.i64.wrap (numOf ((x.drop (x.length - 8)).take j) : Int)) * 256 + (b33.toNat : Int)))) w19 rfl (r_or8 rfl rfl) ?_
        refine EL_val (.int .i64 (IntKind.i64.wrap ((IntKind.i64.wrap (numOf ((x.drop (x.length - 8)).take j) : Int)) * 256 + (b33.toNat : Int)))) w19 rfl (r_assign rfl) ?_
        refine EL_nil ?_
        refine inB_n ?_
        refine thn_n ?_
        refine EC_reg ?_
        refine EL_int ((j : Int) + 1) rfl (r_addi (by exact e21) rfl (by omega)) ?_
        intro x36 hx36
        refine EL_val (.int .i64 x36) w19 rfl (r_move rfl) ?_
        refine EL_nil ?_
        refine thn_n ?_
        rw [show (x15 : Int).toNat = x.length - 8 by omega] at hb34
        refine ⟨_, ?_, j + 1, rfl, (Eq.trans (show _ = Value.int .i64 (IntKind.i64.wrap (IntKind.i64.wrap (numOf ((x.drop (x.length - 8)).take j) : Int) * 256 + (b33.toNat : Int))) from rfl) (congrArg _ (num_step (j := j) hb34))), (Eq.trans (show _ = Value.int .i64 x36 from rfl) (congrArg _ (by omega))), (by exact e22), (by exact e23), (by exact e24), (by exact e25), (by exact e26), (by exact e27), (by exact e28), (by exact e29), (by exact e30), by omega, S31⟩
        first | omega | (simp; omega)
      · refine EC_exit ?_
        refine thn_x ?_
        refine thn_x ?_
        refine inB_hit ?_
        refine thn_n ?_
        refine EC_seq ?_
        refine EC_seq ?_
        refine EC_reg ?_
        refine EL_val (.int .i64 (IntKind.i64.wrap (numOf ((x.drop (x.length - 8)).take j) : Int))) w19 rfl (r_move (by exact e20)) ?_
        refine EL_val (.bool (decide ((IntKind.i64.wrap (numOf ((x.drop (x.length - 8)).take j) : Int)) < 1))) w19 rfl (r_lss rfl rfl) ?_
        refine EL_val (.bool (decide ((IntKind.i64.wrap (numOf ((x.drop (x.length - 8)).take j) : Int)) < 1))) w19 rfl (r_move rfl) ?_
        refine EL_gite 55 rfl rfl rfl (.int .i64 (IntKind.i64.wrap (numOf ((x.drop (x.length - 8)).take j) : Int))) rfl (fun g37 => r_move (by exact e20)) ?_
        refine EL_gite 55 rfl rfl rfl (ptr b) rfl (fun g38 => r_move (by exact e22)) ?_
        refine EL_gite 55 rfl rfl rfl (ptr b) rfl (fun g39 => r_nil (cond_of g39 rfl)) ?_
        refine EL_gite 55 rfl rfl rfl (ptr b 3) rfl (fun g40 => r_fieldP (o := 0) (s := 1) (cond_of g40 rfl) Try.underlying60 rfl (by kernel_rfl) (by decide) rfl) ?_
        refine EL_gite 55 rfl rfl rfl lv rfl (fun g41 => r_loadA (cond_of g41 rfl) (S31.arr 0 rfl) (u := lv) rfl Try.underlying58 rfl) ?_
        refine EL_gite 55 rfl rfl rfl (.int .i64 (L.length : Int)) rfl (fun g42 => r_asn (by simp [things_len]) (r_lenW (cond_of g42 rfl) (S31.wrow 1 rfl (things_all _) (by decide)) Try.underlying58)) ?_
        refine EL_gite 55 rfl rfl rfl (.bool (decide ((L.length : Int) < (IntKind.i64.wrap (numOf ((x.drop (x.length - 8)).take j) : Int))))) rfl (fun g43 => r_gtr (cond_of g43 rfl) (cond_of g43 rfl)) ?_
        refine EL_val (.bool ((decide ((IntKind.i64.wrap (numOf ((x.drop (x.length - 8)).take j) : Int)) < 1)) || (decide ((L.length : Int) < (IntKind.i64.wrap (numOf ((x.drop (x.length - 8)).take j) : Int)))))) w19 rfl (r_or rfl rfl rfl) ?_
        refine EL_nil ?_
        refine thn_n ?_
        refine EC_cond (t := (decide ((IntKind.i64.wrap (numOf ((x.drop (x.length - 8)).take j) : Int)) < 1)) || (decide ((L.length : Int) < (IntKind.i64.wrap (numOf ((x.drop (x.length - 8)).take j) : Int))))) rfl (fun h44 => ?_) (fun h44 => ?_)
        · have et : (x.drop (x.length - 8)).take j = x.drop (x.length - 8) := List.take_of_length_le (by simp; omega)
          rw [et] at h44
          have hz2 := open_out (k := k) (n := n) (o := o) hb16 hl (by simpa using h44)
          refine EC_seq ?_
          refine EC_reg ?_
          refine EL_val (.slice none 0 0) w19 rfl (r_assign rfl) ?_
          refine EL_val (.int .i64 20) w19 rfl (r_assign rfl) ?_
          refine EL_nil ?_
          refine thn_n ?_
          refine EC_ret ?_
          refine thn_r ?_
          refine fin2 Try.results18 (show _ = .slice none 0 0 from rfl) (show _ = .int .i64 20 from rfl) ⟨_, rfl, ?_⟩
          have S45 : Sat w19 I (Suite (ptr b) L :: R) := Suite.cls hL hK S31
          rw [show openB L k n o x = [] from by simp [openB, hz, hz2]]
          exact ⟨(.slice none 0 0), I, (Gh.le_refl _), (by simp [openE, hz, hz2]), Ro.nil, S45⟩
        · have et : (x.drop (x.length - 8)).take j = x.drop (x.length - 8) := List.take_of_length_le (by simp; omega)
          rw [et] at h44
          obtain ⟨t, hat, hN, hN1, hN2, hop⟩ := open_at (L := L) (k := k) (n := n) (o := o) hb16 (by simpa using h44)
          have htk := hL t (List.mem_of_getElem? hat)
          have hu : (tBox k n o t.text).ok := ⟨by assumption, by assumption, htk.2.2.1, by assumption⟩
          have htx : t.text.length ≤ 800000000 := hT t (List.mem_of_getElem? hat)
          refine EC_skip ?_
          refine thn_n ?_
          refine EC_seq ?_
          refine EC_reg ?_
          refine EL_val (ptr b) w19 rfl (r_move (by exact e22)) ?_
          refine EL_val (ptr b) w19 rfl (r_nil rfl) ?_
          refine EL_val (ptr b 3) w19 rfl (r_fieldP (o := 0) (s := 1) rfl Try.underlying60 rfl (by kernel_rfl) (by decide) rfl) ?_
          refine EL_val lv w19 rfl (r_loadA rfl (S31.arr 0 rfl) (u := lv) rfl Try.underlying58 rfl) ?_
          refine EL_val (.int .i64 (numOf (x.drop (x.length - 8)) : Int)) w19 rfl (r_asn (m := IntKind.i64.wrap (numOf ((x.drop (x.length - 8)).take j) : Int)) (by rw [et]; exact hN) (r_move (by exact e20))) ?_
          refine EL_int ((numOf (x.drop (x.length - 8)) : Int) - 1) rfl (r_subi rfl rfl (by omega)) ?_
          intro x46 hx46
          refine EL_val (.pointer (some (atW lv 5 (x46 : Int).toNat))) w19 rfl (r_indexW rfl (S31.wrow 1 rfl (things_all _) (by decide)) rfl (by omega) (by rw [things_len]; omega) Try.underlying58 (by kernel_rfl)) ?_
          refine EL_val (.agg (t.cells).toArray) w19 rfl (r_loadW rfl (S31.wrow 1 rfl (things_all _) (by decide)) (things_at (show L[(x46 : Int).toNat]? = some t from by rw [show (x46 : Int).toNat = numOf (x.drop (x.length - 8)) - 1 by omega]; exact hat)) Try.underlying65 rfl (by rw [cells_len]; kernel_rfl)) ?_
          refine EL_alloc (z := .agg #[.int .u8 0, .string (str ([] : List UInt8)), .string (str ([] : List UInt8)), .string (str ([] : List UInt8)), .string (str ([] : List UInt8))]) [.int .u8 0, .string (str ([] : List UInt8)), .string (str ([] : List UInt8)), .string (str ([] : List UInt8)), .string (str ([] : List UInt8))] rfl (by kernel_rfl) rfl ?_
          intro b49 w50 k51 A52 B53 z54
          have S55 : Sat w50 I (Blk b49 65 [.int .u8 0, .string (str ([] : List UInt8)), .string (str ([] : List UInt8)), .string (str ([] : List UInt8)), .string (str ([] : List UInt8))] :: Blk b 60 (sCells lv mb) :: Own 65 5 lv L.length (things L).flatten :: Mp mb (entE K) :: R) := S31.newB B53 A52 k51
          refine EL_storeAll (v := .agg (t.cells).toArray) (cs' := (t.cells).toArray) rfl rfl rfl (S55.arr 0 rfl) rfl (by kernel_rfl) (fun u h => cells_one t u (by simpa using h)) ?_
          intro w56 A57 K58 z59
          have S60 : Sat w56 I (Blk b49 65 [.int .u8 (t.sort.toNat : Int), .string (str t.key), .string (str t.nonce), .string (str t.text), .string (str t.other)] :: Blk b 60 (sCells lv mb) :: Own 65 5 lv L.length (things L).flatten :: Mp mb (entE K) :: R) := S55.wrote 0 rfl K58 A57
          refine EL_nil ?_
          refine thn_n ?_
          refine EC_seq ?_
          refine EC_seq ?_
          rcases Classical.em (t = tBox k n o t.text) with hA | hA
          · refine EC_any 16 (fun w' => Gh.le I (gh w')) (fun w' => Arr w' b49 65 [.int .u8 (t.sort.toNat : Int), .string (str t.key), .string (str t.nonce), .string (str t.text), .string (str t.other)]) (by kernel_rfl) ?_
            intro w61 B62
            have S63 : Sat w61 I (Blk b49 65 [.int .u8 (t.sort.toNat : Int), .string (str t.key), .string (str t.nonce), .string (str t.text), .string (str t.other)] :: Blk b 60 (sCells lv mb) :: Own 65 5 lv L.length (things L).flatten :: Mp mb (entE K) :: R) := S60.below B62
            refine EJ_take 0 rfl (by kernel_rfl) (by kernel_rfl) (by kernel_rfl) rfl (by kernel_rfl) (.agg ([.int .u8 (t.sort.toNat : Int), .string (str t.key), .string (str t.nonce), .string (str t.text), .string (str t.other)]).toArray) rfl (fun _ hw ht => r_loadAll rfl ht Try.underlying65 rfl (by kernel_rfl)) ⟨S63.le, fun h => S63.arr 0 rfl⟩ ?_
            refine EJ_take 1 rfl (by kernel_rfl) (by kernel_rfl) (by kernel_rfl) rfl (by kernel_rfl) v0 rfl (fun _ hw ht => r_move (by exact e23)) ⟨S63.le, fun h => S63.arr 0 rfl⟩ ?_
            refine EJ_take 2 rfl (by kernel_rfl) (by kernel_rfl) (by kernel_rfl) rfl (by kernel_rfl) (.string (str k)) rfl (fun _ hw ht => r_str rfl (Q0 _ hw) Try.underlying22 Try.underlying5 Try.underlying9) ⟨S63.le, fun h => S63.arr 0 rfl⟩ ?_
            refine EJ_take 3 rfl (by kernel_rfl) (by kernel_rfl) (by kernel_rfl) rfl (by kernel_rfl) v1 rfl (fun _ hw ht => r_move (by exact e24)) ⟨S63.le, fun h => S63.arr 0 rfl⟩ ?_
            refine EJ_take 4 rfl (by kernel_rfl) (by kernel_rfl) (by kernel_rfl) rfl (by kernel_rfl) (.string (str n)) rfl (fun _ hw ht => r_str rfl (Q1 _ hw) Try.underlying22 Try.underlying5 Try.underlying9) ⟨S63.le, fun h => S63.arr 0 rfl⟩ ?_
            refine EJ_take 5 rfl (by kernel_rfl) (by kernel_rfl) (by kernel_rfl) rfl (by kernel_rfl) (ptr b49 3) rfl (fun _ hw ht => r_fieldP (o := 0) (s := 1) rfl Try.underlying65 rfl (by kernel_rfl) (by decide) rfl) ⟨S63.le, fun h => S63.arr 0 rfl⟩ ?_
            refine EJ_take 6 rfl (by kernel_rfl) (by kernel_rfl) (by kernel_rfl) rfl (by kernel_rfl) (.string (str t.text)) rfl (fun _ hw ht => r_loadA rfl ht (u := (.string (str t.text))) rfl Try.underlying9 rfl) ⟨S63.le, fun h => S63.arr 0 rfl⟩ ?_
            refine EJ_take 7 rfl (by kernel_rfl) (by kernel_rfl) (by kernel_rfl) rfl (by kernel_rfl) v2 rfl (fun _ hw ht => r_move (by exact e25)) ⟨S63.le, fun h => S63.arr 0 rfl⟩ ?_
            refine EJ_take 8 rfl (by kernel_rfl) (by kernel_rfl) (by kernel_rfl) rfl (by kernel_rfl) (.string (str o)) rfl (fun _ hw ht => r_str rfl (Q2 _ hw) Try.underlying22 Try.underlying5 Try.underlying9) ⟨S63.le, fun h => S63.arr 0 rfl⟩ ?_
            refine EJ_take 9 rfl (by kernel_rfl) (by kernel_rfl) (by kernel_rfl) rfl (by kernel_rfl) (.agg ([.int .u8 66, .string (str k), .string (str n), .string (str t.text), .string (str o)]).toArray) rfl (fun _ hw ht => r_buildS (l := [(0, .int .u8 66), (1, .string (str k)), (2, .string (str n)), (3, .string (str t.text)), (4, .string (str o))]) st_65 (parts5 rfl rfl rfl rfl rfl) (Eq.trans (show Instr.fill _ _ [(0, .int .u8 66), (1, .string (str k)), (2, .string (str n)), (3, .string (str t.text)), (4, .string (str o))] = _ from (fill_one rfl rfl rfl (fill_one rfl rfl rfl (fill_one rfl rfl rfl (fill_one rfl rfl rfl (fill_one rfl rfl rfl fill_end)))))) (by first | rfl | kernel_rfl))) ⟨S63.le, fun h => S63.arr 0 rfl⟩ ?_
            refine EJ_take 10 rfl (by kernel_rfl) (by kernel_rfl) (by kernel_rfl) rfl (by kernel_rfl) (.bool false) rfl (fun _ hw ht => r_neqS (xs := t.cells.toArray) (ys := (tBox k n o t.text).cells.toArray) (b := true) (by kernel_rfl) (by kernel_rfl) (by kernel_rfl) (by kernel_rfl) rfl rfl (kv_thing htk) (kv_thing hu) (by rw [show ((Value.agg t.cells.toArray : Value) = .agg (tBox k n o t.text).cells.toArray) ↔ t = tBox k n o t.text from val_inj]; first | exact ⟨fun _ => hA, fun _ => rfl⟩ | exact ⟨fun h => (by cases h), fun h => absurd h hA⟩)) ⟨S63.le, fun h => S63.arr 0 rfl⟩ ?_
            refine EJ_take 11 rfl (by kernel_rfl) (by kernel_rfl) (by kernel_rfl) rfl (by kernel_rfl) (.bool false) rfl (fun _ hw ht => r_move rfl) ⟨S63.le, fun h => S63.arr 0 rfl⟩ ?_
            refine EJ_gtake 12 rfl (by kernel_rfl) (by kernel_rfl) (by kernel_rfl) rfl (by kernel_rfl) 83 rfl rfl rfl rfl (.int .i64 (numOf (x.drop (x.length - 8)) : Int)) rfl (fun _ hw ht => r_asn (m := IntKind.i64.wrap (numOf ((x.drop (x.length - 8)).take j) : Int)) (by rw [et]; exact hN) (r_move (by exact e20))) ⟨S63.le, fun h => S63.arr 0 rfl⟩ ?_
            refine EJ_gtake 13 rfl (by kernel_rfl) (by kernel_rfl) (by kernel_rfl) rfl (by kernel_rfl) 83 rfl rfl rfl rfl (ptr b49 3) rfl (fun _ hw ht => r_fieldP (o := 0) (s := 1) rfl Try.underlying65 rfl (by kernel_rfl) (by decide) rfl) ⟨S63.le, fun h => S63.arr 0 rfl⟩ ?_
            refine EJ_gtake 14 rfl (by kernel_rfl) (by kernel_rfl) (by kernel_rfl) rfl (by kernel_rfl) 83 rfl rfl rfl rfl (.string (str t.text)) rfl (fun _ hw ht => r_loadA rfl ht (u := (.string (str t.text))) rfl Try.underlying9 rfl) ⟨S63.le, fun h => S63.arr 0 rfl⟩ ?_
            refine EJ_gtake 15 rfl (by kernel_rfl) (by kernel_rfl) (by kernel_rfl) rfl (by kernel_rfl) 83 rfl rfl rfl rfl (.int .i64 (t.text.length : Int)) rfl (fun _ hw ht => r_lenS rfl Try.underlying9) ⟨S63.le, fun h => S63.arr 0 rfl⟩ ?_
            refine EJ_gfloat 18 rfl (by kernel_rfl) (by kernel_rfl) (by kernel_rfl) rfl 83 rfl rfl rfl rfl v3 rfl (fun _ hw => r_move (by exact e26)) ⟨S63.le, fun h => S63.arr 0 rfl⟩ ?_
            refine EJ_gfloat 19 rfl (by kernel_rfl) (by kernel_rfl) (by kernel_rfl) rfl 83 rfl rfl rfl rfl (.string (str x)) rfl (fun _ hw => r_str rfl (Q3 _ hw) Try.underlying22 Try.underlying5 Try.underlying9) ⟨S63.le, fun h => S63.arr 0 rfl⟩ ?_
            refine EJ_one 16 (by kernel_rfl) ⟨_, rfl, ?_⟩
            refine EL_gret 83 rfl rfl rfl rfl [.int .i64 (numOf (x.drop (x.length - 8)) : Int), .int .i64 (t.text.length : Int)] rfl Try.func37 rfl nm37 rfl (box_c (numOf (x.drop (x.length - 8)) : Int) (t.text.length : Int) I _ _ S63 (by omega) (by first | assumption | omega | (simp; done) | (simp; omega))) ?_
            rintro _ w64 ⟨v66, rfl, S65⟩
            refine EL_nil ?_
            refine ⟨rfl, ⟨S65.le, fun h => by cases h⟩, ?_⟩
            obtain ⟨I67, le68, S69, H70⟩ : ∃ J : Gh, Gh.le I J ∧ Sat w64 J (Blk b49 65 [.int .u8 (t.sort.toNat : Int), .string (str t.key), .string (str t.nonce), .string (str t.text), .string (str t.other)] :: Blk b 60 (sCells lv mb) :: Own 65 5 lv L.length (things L).flatten :: Mp mb (entE K) :: R) ∧ Ro J v66 ((boxOf (numOf (x.drop (x.length - 8)) : Int) (t.text.length : Int).toNat).map byt) := S65.frz 0 rfl
            refine EJ_strong (fun w' => Gh.le I67 (gh w')) _ (fun w' hw => Gh.le_trans le68 hw) (fun w' _ ht => ht) ?_
            refine EJ_gfloat 17 rfl (by kernel_rfl) (by kernel_rfl) (by kernel_rfl) rfl 83 rfl rfl rfl rfl (.string (str (boxOf (numOf (x.drop (x.length - 8)) : Int) (t.text.length : Int).toNat))) rfl (fun _ hw => r_str rfl (H70 _ hw) Try.underlying22 Try.underlying5 Try.underlying9) ⟨S69.le, fun h => by cases h⟩ ?_
            refine EJ_gfloat 20 rfl (by kernel_rfl) (by kernel_rfl) (by kernel_rfl) rfl 83 rfl rfl rfl rfl (.bool (decide ((boxOf (numOf (x.drop (x.length - 8)) : Int) (t.text.length : Int).toNat) ≠ x))) rfl (fun _ hw => r_neqs rfl rfl) ⟨S69.le, fun h => by cases h⟩ ?_
            refine EJ_float 21 rfl (by kernel_rfl) (by kernel_rfl) (by kernel_rfl) rfl (.bool (decide ((boxOf (numOf (x.drop (x.length - 8)) : Int) (t.text.length : Int).toNat) ≠ x))) rfl (fun _ hw => r_pickF rfl rfl) ⟨S69.le, fun h => by cases h⟩ ?_
            refine EJ_done (by kernel_rfl) ?_
            refine thn_n ?_
            refine EC_if (p := (boxOf (numOf (x.drop (x.length - 8)) : Int) (t.text.length : Int).toNat) ≠ x) rfl (fun h71 => ?_) (fun h71 => ?_)
            · have hz2 : openOf L k n o x = none := by rw [hop]; exact if_neg (fun h2 => h71 h2.2)
              refine EC_seq ?_
              refine EC_reg ?_
              refine EL_val (.slice none 0 0) w64 rfl (r_assign rfl) ?_
              refine EL_val (.int .i64 20) w64 rfl (r_assign rfl) ?_
              refine EL_nil ?_
              refine thn_n ?_
              refine EC_ret ?_
              refine thn_r ?_
              refine fin2 Try.results18 (show _ = .slice none 0 0 from rfl) (show _ = .int .i64 20 from rfl) ⟨_, rfl, ?_⟩
              have S72 : Sat w64 I67 (Blk b 60 (sCells lv mb) :: Own 65 5 lv L.length (things L).flatten :: Mp mb (entE K) :: R) := S69.drop 0 rfl
              have S73 : Sat w64 I67 (Suite (ptr b) L :: R) := Suite.cls hL hK S72
              rw [show openB L k n o x = [] from by simp [openB, hz, hz2]]
              exact ⟨(.slice none 0 0), I67, le68, (by simp [openE, hz, hz2]), Ro.nil, S73⟩
            · have hz2 : openOf L k n o x = some t.text := by rw [hop]; exact if_pos ⟨hA, Decidable.not_not.mp h71⟩
              refine EC_skip ?_
              refine thn_n ?_
              refine EC_seq ?_
              refine EC_reg ?_
              refine EL_val (ptr b49 3) w64 rfl (r_fieldP (o := 0) (s := 1) rfl Try.underlying65 rfl (by kernel_rfl) (by decide) rfl) ?_
              refine EL_val (.string (str t.text)) w64 rfl (r_loadA rfl (S69.arr 0 rfl) (u := (.string (str t.text))) rfl Try.underlying9 rfl) ?_
              refine EL_bytes (l := t.text) rfl rfl Try.underlying9 Try.underlying22 Try.underlying5 (by first | omega | (simp; omega)) ?_
              intro v74 w75 B76 V77 R78 V77l
              obtain ⟨I79, le80, S81, H82⟩ : ∃ J : Gh, Gh.le I67 J ∧ Sat w75 J (Blk b49 65 [.int .u8 (t.sort.toNat : Int), .string (str t.key), .string (str t.nonce), .string (str t.text), .string (str t.other)] :: Blk b 60 (sCells lv mb) :: Own 65 5 lv L.length (things L).flatten :: Mp mb (entE K) :: R) ∧ Ro J v74 (t.text.map byt) := S69.newR B76 V77 R78 V77l
              refine EL_val v74 w75 rfl (r_assign rfl) ?_
              refine EL_val (.int .i64 0) w75 rfl (r_assign rfl) ?_
              refine EL_nil ?_
              refine thn_n ?_
              refine EC_ret ?_
              refine fin2 Try.results18 (show _ = v74 from rfl) (show _ = .int .i64 0 from rfl) ⟨_, rfl, ?_⟩
              have S83 : Sat w75 I79 (Blk b 60 (sCells lv mb) :: Own 65 5 lv L.length (things L).flatten :: Mp mb (entE K) :: R) := S81.drop 0 rfl
              have S84 : Sat w75 I79 (Suite (ptr b) L :: R) := Suite.cls hL hK S83
              rw [show openB L k n o x = t.text from by simp [openB, hz, hz2]]
              exact ⟨v74, I79, (Gh.le_trans le68 le80), (by simp [openE, hz, hz2]), H82, S84⟩
          · have hz2 : openOf L k n o x = none := by rw [hop]; exact if_neg (fun h => hA h.1)
            refine EC_quietB (by kernel_rfl) (by kernel_rfl) ?_
            refine EQ_val (.agg ([.int .u8 (t.sort.toNat : Int), .string (str t.key), .string (str t.nonce), .string (str t.text), .string (str t.other)]).toArray) rfl (fun _ hw => r_loadAll rfl ((S60.arr 0 rfl).below hw) Try.underlying65 rfl (by kernel_rfl)) ?_
            refine EQ_val v0 rfl (fun _ hw => r_move (by exact e23)) ?_
            refine EQ_val (.string (str k)) rfl (fun _ hw => r_str rfl ((Q0 _ S60.le).below hw) Try.underlying22 Try.underlying5 Try.underlying9) ?_
            refine EQ_val v1 rfl (fun _ hw => r_move (by exact e24)) ?_
            refine EQ_val (.string (str n)) rfl (fun _ hw => r_str rfl ((Q1 _ S60.le).below hw) Try.underlying22 Try.underlying5 Try.underlying9) ?_
            refine EQ_val (ptr b49 3) rfl (fun _ hw => r_fieldP (o := 0) (s := 1) rfl Try.underlying65 rfl (by kernel_rfl) (by decide) rfl) ?_
            refine EQ_val (.string (str t.text)) rfl (fun _ hw => r_loadA rfl ((S60.arr 0 rfl).below hw) (u := (.string (str t.text))) rfl Try.underlying9 rfl) ?_
            refine EQ_val v2 rfl (fun _ hw => r_move (by exact e25)) ?_
            refine EQ_val (.string (str o)) rfl (fun _ hw => r_str rfl ((Q2 _ S60.le).below hw) Try.underlying22 Try.underlying5 Try.underlying9) ?_
            refine EQ_val (.agg ([.int .u8 66, .string (str k), .string (str n), .string (str t.text), .string (str o)]).toArray) rfl (fun _ hw => r_buildS (l := [(0, .int .u8 66), (1, .string (str k)), (2, .string (str n)), (3, .string (str t.text)), (4, .string (str o))]) st_65 (parts5 rfl rfl rfl rfl rfl) (Eq.trans (show Instr.fill _ _ [(0, .int .u8 66), (1, .string (str k)), (2, .string (str n)), (3, .string (str t.text)), (4, .string (str o))] = _ from (fill_one rfl rfl rfl (fill_one rfl rfl rfl (fill_one rfl rfl rfl (fill_one rfl rfl rfl (fill_one rfl rfl rfl fill_end)))))) (by first | rfl | kernel_rfl))) ?_
            refine EQ_val (.bool true) rfl (fun _ hw => r_neqS (xs := t.cells.toArray) (ys := (tBox k n o t.text).cells.toArray) (b := false) (by kernel_rfl) (by kernel_rfl) (by kernel_rfl) (by kernel_rfl) rfl rfl (kv_thing htk) (kv_thing hu) (by rw [show ((Value.agg t.cells.toArray : Value) = .agg (tBox k n o t.text).cells.toArray) ↔ t = tBox k n o t.text from val_inj]; first | exact ⟨fun _ => hA, fun _ => rfl⟩ | exact ⟨fun h => (by cases h), fun h => absurd h hA⟩)) ?_
            refine EQ_val (.bool true) rfl (fun _ hw => r_move rfl) ?_
            refine EQ_pass 83 rfl rfl rfl rfl rfl ?_
            refine EQ_pass 83 rfl rfl rfl rfl rfl ?_
            refine EQ_pass 83 rfl rfl rfl rfl rfl ?_
            refine EQ_pass 83 rfl rfl rfl rfl rfl ?_
            refine EQ_pass 83 rfl rfl rfl rfl rfl ?_
            refine EQ_pass 83 rfl rfl rfl rfl rfl ?_
            refine EQ_pass 83 rfl rfl rfl rfl rfl ?_
            refine EQ_pass 83 rfl rfl rfl rfl rfl ?_
            refine EQ_pass 83 rfl rfl rfl rfl rfl ?_
            refine EQ_val (.bool true) rfl (fun _ hw => r_pickT rfl rfl) ?_
            refine EQ_nil ?_
            intro w85 B86
            have S87 : Sat w85 I (Blk b49 65 [.int .u8 (t.sort.toNat : Int), .string (str t.key), .string (str t.nonce), .string (str t.text), .string (str t.other)] :: Blk b 60 (sCells lv mb) :: Own 65 5 lv L.length (things L).flatten :: Mp mb (entE K) :: R) := S60.below B86
            refine thn_n ?_
            refine EC_cond_true rfl ?_
            refine EC_seq ?_
            refine EC_reg ?_
            refine EL_val (.slice none 0 0) w85 rfl (r_assign rfl) ?_
            refine EL_val (.int .i64 20) w85 rfl (r_assign rfl) ?_
            refine EL_nil ?_
            refine thn_n ?_
            refine EC_ret ?_
            refine thn_r ?_
            refine fin2 Try.results18 (show _ = .slice none 0 0 from rfl) (show _ = .int .i64 20 from rfl) ⟨_, rfl, ?_⟩
            have S88 : Sat w85 I (Blk b 60 (sCells lv mb) :: Own 65 5 lv L.length (things L).flatten :: Mp mb (entE K) :: R) := S87.drop 0 rfl
            have S89 : Sat w85 I (Suite (ptr b) L :: R) := Suite.cls hL hK S88
            rw [show openB L k n o x = [] from by simp [openB, hz, hz2]]
            exact ⟨(.slice none 0 0), I, (Gh.le_refl _), (by simp [openE, hz, hz2]), Ro.nil, S89⟩

end Go.Proofs.Ytamjafnjohiccaa
