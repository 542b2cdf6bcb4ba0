import Derived.Test.YtlhaojpkejpgfaaWalks
import Derived.Test.YtlhaojpkejpgfaaChaD
import Derived.Test.YtlhaojpkejpgfaaPolI
set_option linter.unusedVariables false
set_option linter.unusedSimpArgs false
namespace Go.Proofs.Ytlhaojpkejpgfaa
open Go.RowKit Go.Ecal

set_option maxRecDepth 100000 in
set_option maxHeartbeats 4000000 in
theorem tag5_ok (v0 : Value) (k : List UInt8) (v1 : Value) (n : List UInt8) (v2 : Value) (o : List UInt8) (v3 : Value) (t : List UInt8) (w : World) (H0 : Bs w v0 k) (H1 : Bs w v1 n) (H2 : Bs w v2 o) (H3 : Bs w v3 t) (hk : k.length = 32) (hn : n.length = 12) (ho : o.length ≤ 100000) (ht : t.length ≤ 100000) : Ret Try.prog 17 [v0, v1, v2, v3] w fun v w' => ∃ p, v = .tuple #[p, .int .i64 0] ∧ w'.ownsRow w.heap.size 5 1 p (ctag k n o t).length ((ctag k n o t).map byt) ∧ Below w.heap.size w w' := by
  refine ret_E Try.func17 rfl Try.ntmps17 (by simp) ?_
  refine EC_seq ?_
  refine EC_reg ?_
  refine EL_val (.slice none 0 0) w rfl (r_assign rfl) ?_
  refine EL_val (.int .i64 0) w rfl (r_assign rfl) ?_
  refine EL_nil ?_
  refine thn_n ?_
  refine EC_seq ?_
  refine EC_reg ?_
  refine EL_val v0 w rfl (r_move rfl) ?_
  refine EL_val v1 w rfl (r_move rfl) ?_
  have L14 := kb_len k 0 n
  refine EL_ret [v0, .int .i64 0, v1] rfl Try.func15 rfl nm15 rfl (Block_ok v0 k 0 v1 n w H0 H1 (chk_of (by first | omega | (simp; done) | (simp; omega)) (by first | omega | (simp; done) | (simp; omega)) (by omega))) ?_
  rintro _ w15 ⟨p11, rfl, O12, B13⟩
  have B16 : Below w.heap.size w w15 := B13
  refine EL_val (.tuple #[p11, .int .i64 0]) w15 rfl (r_move rfl) ?_
  refine EL_val p11 w15 rfl (r_extract rfl rfl) ?_
  refine EL_val (.int .i64 0) w15 rfl (r_extract rfl rfl) ?_
  refine EL_val p11 w15 rfl (r_assign rfl) ?_
  refine EL_val (.int .i64 0) w15 rfl (r_assign rfl) ?_
  refine EL_nil ?_
  refine thn_n ?_
  refine EC_seq ?_
  refine EC_seq ?_
  refine EC_reg ?_
  refine EL_val (.int .i64 0) w15 rfl (r_move rfl) ?_
  refine EL_val (.bool false) w15 rfl (r_dec (by decide) (r_neq rfl rfl)) ?_
  refine EL_nil ?_
  refine thn_n ?_
  refine EC_cond_false rfl ?_
  refine EC_skip ?_
  refine thn_n ?_
  refine EC_seq ?_
  refine EC_reg ?_
  refine EL_val v2 w15 rfl (r_move rfl) ?_
  have L22 := fil_len o
  have L23 := padn_lt (o).length
  refine EL_ret [.slice none 0 0, v2] rfl Try.func28 rfl nm28 rfl (filled_c (.slice none 0 0) ([] : List UInt8) v2 o w15 w w15 (Below.refl _ _) B16 B16.size H2 (by first | omega | (simp; done) | (simp; omega)) (by first | omega | (simp; done) | (simp; omega)) (World.ownsRow_nil _ _ _ _)) ?_
  rintro p17 w25 ⟨O18, G19, B20, Q21⟩
  have B24 : Below w15.heap.size w15 w25 := ⟨G19.os, G19.tape, G19.output, G19.size, fun k hk => G19.block k hk (by simp [Value.ownBlock])⟩
  have B26 : Below w.heap.size w w25 := below_full B16 B16.size B24
  have B27 : Below w15.heap.size w15 w25 := B24
  refine EL_val v3 w25 rfl (r_move rfl) ?_
  have L33 := fil_len t
  have L34 := padn_lt (t).length
  refine EL_ret [p17, v3] rfl Try.func28 rfl nm28 rfl (filled_c p17 (([] : List UInt8) ++ (fil o)) v3 t w15 w w25 B27 B26 B16.size H3 (by first | omega | (simp; done) | (simp; omega)) (by first | omega | (simp; done) | (simp; omega)) O18) ?_
  rintro p28 w35 ⟨O29, G30, B31, Q32⟩
  have B36 : Below w.heap.size w w35 := below_grew B26 G30 O18 B16.size (B26.size)
  have B37 : Below w15.heap.size w15 w35 := below_grew B27 G30 O18 (Nat.le_refl _) (B27.size)
  refine EL_val p28 w35 rfl (r_assign rfl) ?_
  refine EL_nil ?_
  refine thn_n ?_
  refine EC_seq ?_
  refine EC_held (fun w' => w35.grownBy w' p28.ownBlock) (by kernel_rfl) ?_
  intro w38 B39 z40
  have K41 : w35.grownBy w38 p28.ownBlock := kept_below (kept_refl _ _) B39
  refine EA_take 0 rfl (by kernel_rfl) (by kernel_rfl) (by kernel_rfl) p11 rfl (fun _ hw => r_move rfl) K41 ?_
  refine EA_take 1 rfl (by kernel_rfl) (by kernel_rfl) (by kernel_rfl) (cutV p11 0 32) rfl (fun _ hw => r_slice rfl ((own_row O12).below (below_grew B37 hw O29 (Nat.le_refl _) B37.size)) Try.underlying22 (by kernel_rfl) 0 32 (by first | omega | (simp; omega) | simp) (by first | omega | (simp; omega) | simp) (.inl ⟨rfl, rfl⟩) (.inr ⟨_, _, rfl, rfl⟩)) K41 ?_
  have R42 : Bs w15 (cutV p11 0 32) ((kb k 0 n).take 32) := Bs.upto (own_row O12) 32 (by first | omega | (simp; omega) | simp)
  have L43 : ((kb k 0 n).take 32).length = 32 - 0 := by first | (simp; done) | (simp; omega)
  refine EA_take 2 rfl (by kernel_rfl) (by kernel_rfl) (by kernel_rfl) p28 rfl (fun _ hw => r_move rfl) K41 ?_
  refine EA_take 3 rfl (by kernel_rfl) (by kernel_rfl) (by kernel_rfl) v2 rfl (fun _ hw => r_move rfl) K41 ?_
  refine EA_take 4 rfl (by kernel_rfl) (by kernel_rfl) (by kernel_rfl) (.int .i64 (o.length : Int)) rfl (fun _ hw => lenB (r_len rfl (H2.below (below_grew B36 hw O29 B16.size B36.size)) Try.underlying22)) K41 ?_
  refine EA_take 6 rfl (by kernel_rfl) (by kernel_rfl) (by kernel_rfl) v3 rfl (fun _ hw => r_move rfl) K41 ?_
  refine EA_take 7 rfl (by kernel_rfl) (by kernel_rfl) (by kernel_rfl) (.int .i64 (t.length : Int)) rfl (fun _ hw => lenB (r_len rfl (H3.below (below_grew B36 hw O29 B16.size B36.size)) Try.underlying22)) K41 ?_
  have B44 : Below w.heap.size w w38 := below_full B36 B36.size B39
  have B45 : Below w15.heap.size w15 w38 := below_full B37 B37.size B39
  have B46 : Below w35.heap.size w35 w38 := B39
  refine EA_one 5 rfl (by kernel_rfl) ?_
  have L52 : (e8 (o.length : Int)).length = 8 := rfl
  refine EL_ret [p28, .int .i64 (o.length : Int)] rfl Try.func29 rfl nm29 rfl (count_c p28 ((([] : List UInt8) ++ (fil o)) ++ (fil t)) (o.length : Int) w15 w38 B45 (by first | omega | (simp; done) | (simp; omega)) (by omega) (own_below O29 B46)) ?_
  rintro p47 w53 ⟨O48, G49, B50, Q51⟩
  have G54 : w35.grownBy w53 p28.ownBlock := kept_trans K41 G49
  have B55 : Below w.heap.size w w53 := below_grew B44 G49 (own_below O29 B46) B16.size (B44.size)
  have B56 : Below w15.heap.size w15 w53 := below_grew B45 G49 (own_below O29 B46) (Nat.le_refl _) (B45.size)
  have Q58 : ∀ g, p47.ownBlock = some g → w35.heap.size ≤ g ∨ p28.ownBlock = some g := fun g hg => (Q51 g hg).elim (fun e => .inl (Nat.le_trans (K41.size) e)) (fun e => (fun g hg => .inr hg) g e)
  refine EL_nil ?_
  refine ⟨rfl, G54, ?_⟩
  refine EA_one 8 rfl (by kernel_rfl) ?_
  have L64 : (e8 (t.length : Int)).length = 8 := rfl
  refine EL_ret [p47, .int .i64 (t.length : Int)] rfl Try.func29 rfl nm29 rfl (count_c p47 (((([] : List UInt8) ++ (fil o)) ++ (fil t)) ++ (e8 (o.length : Int))) (t.length : Int) w15 w53 B56 (by first | omega | (simp; done) | (simp; omega)) (by omega) O48) ?_
  rintro p59 w65 ⟨O60, G61, B62, Q63⟩
  have G66 : w35.grownBy w65 p28.ownBlock := kept_other G54 G61 Q58
  have B67 : Below w.heap.size w w65 := below_grew B55 G61 O48 B16.size (B55.size)
  have B68 : Below w15.heap.size w15 w65 := below_grew B56 G61 O48 (Nat.le_refl _) (B56.size)
  have Q69 : ∀ g, p59.ownBlock = some g → w35.heap.size ≤ g ∨ p28.ownBlock = some g := fun g hg => (Q63 g hg).elim (fun e => .inl (Nat.le_trans (G54.size) e)) (fun e => Q58 g e)
  refine EL_nil ?_
  refine ⟨rfl, G66, ?_⟩
  refine EA_one 9 rfl (by kernel_rfl) ?_
  refine EL_ret [(cutV p11 0 32), p59] rfl Try.func16 rfl nm16 rfl (Tag_ok (cutV p11 0 32) ((kb k 0 n).take 32) p59 ((((([] : List UInt8) ++ (fil o)) ++ (fil t)) ++ (e8 (o.length : Int))) ++ (e8 (t.length : Int))) w65 (R42.below B68) (own_row O60) (by first | omega | (simp; done) | (simp; omega))) ?_
  rintro _ w73 ⟨p70, rfl, O71, B72⟩
  have G74 : w35.grownBy w73 p28.ownBlock := kept_below G66 B72
  have B75 : Below w.heap.size w w73 := below_full B67 B67.size B72
  have B76 : Below w15.heap.size w15 w73 := below_full B68 B68.size B72
  have B77 : Below w65.heap.size w65 w73 := B72
  have L78 := tag_len ((kb k 0 n).take 32) ((((([] : List UInt8) ++ (fil o)) ++ (fil t)) ++ (e8 (o.length : Int))) ++ (e8 (t.length : Int)))
  refine EL_nil ?_
  refine ⟨rfl, G74, ?_⟩
  refine EA_take 10 rfl (by kernel_rfl) (by kernel_rfl) (by kernel_rfl) p70 rfl (fun _ hw => r_extract rfl rfl) G74 ?_
  refine EA_take 11 rfl (by kernel_rfl) (by kernel_rfl) (by kernel_rfl) (.int .i64 0) rfl (fun _ hw => r_extract rfl rfl) G74 ?_
  refine EA_take 12 rfl (by kernel_rfl) (by kernel_rfl) (by kernel_rfl) p70 rfl (fun _ hw => r_assign rfl) G74 ?_
  refine EA_take 13 rfl (by kernel_rfl) (by kernel_rfl) (by kernel_rfl) (.int .i64 0) rfl (fun _ hw => r_assign rfl) G74 ?_
  refine EA_done (by kernel_rfl) ?_
  refine thn_n ?_
  refine EC_ret ?_
  refine fin2 Try.results17 (show _ = p70 from rfl) (show _ = .int .i64 0 from rfl) ⟨_, rfl, ?_⟩
  have ef : tag ((kb k 0 n).take 32) ((((([] : List UInt8) ++ (fil o)) ++ (fil t)) ++ (e8 (o.length : Int))) ++ (e8 (t.length : Int))) = ctag k n o t := by first | rfl | simp [ctag, box]
  exact ⟨_, rfl, own_as (own_mono O71 B67.size) ef, B75⟩

set_option maxRecDepth 100000 in
set_option maxHeartbeats 4000000 in
theorem tag5_no (v0 : Value) (k : List UInt8) (v1 : Value) (n : List UInt8) (v2 : Value) (o : List UInt8) (v3 : Value) (t : List UInt8) (w : World) (H0 : Bs w v0 k) (H1 : Bs w v1 n) (H2 : Bs w v2 o) (H3 : Bs w v3 t) (hno : k.length ≠ 32 ∨ n.length ≠ 12) : Ret Try.prog 17 [v0, v1, v2, v3] w fun v w' => v = .tuple #[.slice none 0 0, .int .i64 11] ∧ w = w' := by
  refine ret_E Try.func17 rfl Try.ntmps17 (by simp) ?_
  refine EC_seq ?_
  refine EC_reg ?_
  refine EL_val (.slice none 0 0) w rfl (r_assign rfl) ?_
  refine EL_val (.int .i64 0) w rfl (r_assign rfl) ?_
  refine EL_nil ?_
  refine thn_n ?_
  refine EC_seq ?_
  refine EC_reg ?_
  refine EL_val v0 w rfl (r_move rfl) ?_
  refine EL_val v1 w rfl (r_move rfl) ?_
  refine EL_ret [v0, .int .i64 0, v1] rfl Try.func15 rfl nm15 rfl (Block_no v0 k 0 v1 n w H0 H1 11 (chk_size hno) (by decide)) ?_
  rintro _ _ ⟨rfl, rfl⟩
  refine EL_val (.tuple #[.slice none 0 0, .int .i64 11]) w rfl (r_move rfl) ?_
  refine EL_val (.slice none 0 0) w rfl (r_extract rfl rfl) ?_
  refine EL_val (.int .i64 11) w rfl (r_extract rfl rfl) ?_
  refine EL_val (.slice none 0 0) w rfl (r_assign rfl) ?_
  refine EL_val (.int .i64 11) w rfl (r_assign rfl) ?_
  refine EL_nil ?_
  refine thn_n ?_
  refine EC_seq ?_
  refine EC_seq ?_
  refine EC_reg ?_
  refine EL_val (.int .i64 11) w rfl (r_move rfl) ?_
  refine EL_val (.bool true) w rfl (r_dec (by decide) (r_neq rfl rfl)) ?_
  refine EL_nil ?_
  refine thn_n ?_
  refine EC_cond_true rfl ?_
  refine EC_seq ?_
  refine EC_reg ?_
  refine EL_val (.int .i64 11) w rfl (r_move rfl) ?_
  refine EL_val (.slice none 0 0) w rfl (r_assign rfl) ?_
  refine EL_val (.int .i64 11) w rfl (r_assign rfl) ?_
  refine EL_nil ?_
  refine thn_n ?_
  refine EC_ret ?_
  refine thn_r ?_
  refine fin2 Try.results17 (show _ = .slice none 0 0 from rfl) (show _ = .int .i64 11 from rfl) ⟨_, rfl, ?_⟩
  exact ⟨rfl, rfl⟩

set_option maxRecDepth 100000 in
set_option maxHeartbeats 4000000 in
theorem rTag5_c (v0 : Value) (k : List UInt8) (v1 : Value) (n : List UInt8) (v2 : Value) (o : List UInt8) (v3 : Value) (t : List UInt8) (w : World) (H0 : Bs w v0 k) (H1 : Bs w v1 n) (H2 : Bs w v2 o) (H3 : Bs w v3 t) (hk : k.length = 32) (hn : n.length = 12) (ho : o.length ≤ 100000) (ht : t.length ≤ 100000) : Ret Try.prog 19 [v0, v1, v2, v3] w fun v w' => w'.ownsRow w.heap.size 5 1 v (ctag k n o t).length ((ctag k n o t).map byt) ∧ Below w.heap.size w w' := by
  refine ret_E Try.func19 rfl Try.ntmps19 (by simp) ?_
  refine EC_seq ?_
  refine EC_reg ?_
  refine EL_val (.slice none 0 0) w rfl (r_assign rfl) ?_
  refine EL_nil ?_
  refine thn_n ?_
  refine EC_seq ?_
  refine EC_reg ?_
  refine EL_val v0 w rfl (r_move rfl) ?_
  refine EL_val v1 w rfl (r_move rfl) ?_
  have L14 := kb_len k 0 n
  refine EL_ret [v0, .int .i64 0, v1] rfl Try.func30 rfl nm30 rfl (rblock_c v0 k 0 v1 n w H0 H1 (by first | omega | (simp; done) | (simp; omega)) (by first | omega | (simp; done) | (simp; omega)) (by omega)) ?_
  rintro p11 w15 ⟨O12, B13⟩
  have B16 : Below w.heap.size w w15 := B13
  refine EL_val p11 w15 rfl (r_assign rfl) ?_
  refine EL_nil ?_
  refine thn_n ?_
  refine EC_seq ?_
  refine EC_reg ?_
  refine EL_val v2 w15 rfl (r_move rfl) ?_
  refine EL_ret [v2] rfl Try.func31 rfl nm31 rfl (fill_c v2 o w15 (H2.below B16) (by first | omega | (simp; done) | (simp; omega))) ?_
  rintro p17 w20 ⟨O18, B19⟩
  have B21 : Below w.heap.size w w20 := below_full B16 B16.size B19
  have B22 : Below w15.heap.size w15 w20 := B19
  have L23 := fil_len o
  have L24 := padn_lt (o).length
  refine EL_val v3 w20 rfl (r_move rfl) ?_
  refine EL_ret [v3] rfl Try.func31 rfl nm31 rfl (fill_c v3 t w20 (H3.below B21) (by first | omega | (simp; done) | (simp; omega))) ?_
  rintro p25 w28 ⟨O26, B27⟩
  have B29 : Below w.heap.size w w28 := below_full B21 B21.size B27
  have B30 : Below w15.heap.size w15 w28 := below_full B22 B22.size B27
  have B31 : Below w20.heap.size w20 w28 := B27
  have L32 := fil_len t
  have L33 := padn_lt (t).length
  refine EL_append (v := p17) (xs := (fil o).map byt) (ys := (fil t).map byt) w15.heap.size elB rfl rfl rfl (by simpa using (own_below O18 B31)) (own_row O26) (byt_one _) (by first | (simp only [List.length_map, List.length_nil]; omega) | (simp; done) | (simp; omega)) (by decide) B30.size ?_
  intro v34 w35 O36 G37 A38
  have O36' := own_app O36
  have B39 : Below w.heap.size w w35 := below_grew B29 G37 (own_below O18 B31) B16.size (B29.size)
  have B40 : Below w15.heap.size w15 w35 := below_grew B30 G37 (own_below O18 B31) (Nat.le_refl _) (B30.size)
  refine EL_val v34 w35 rfl (r_assign rfl) ?_
  refine EL_nil ?_
  refine thn_n ?_
  refine EC_seq ?_
  refine EC_reg ?_
  refine EL_val v34 w35 rfl (r_move rfl) ?_
  refine EL_val v2 w35 rfl (r_move rfl) ?_
  refine EL_val (.int .i64 (o.length : Int)) w35 rfl (lenB (r_len rfl (H2.below B39) Try.underlying22)) ?_
  have L46 : (e8 (o.length : Int)).length = 8 := rfl
  refine EL_ret [.int .i64 (o.length : Int)] rfl Try.func32 rfl nm32 rfl (eight_c (o.length : Int) w35 (by omega)) ?_
  rintro p43 w47 ⟨O44, B45⟩
  have B48 : Below w.heap.size w w47 := below_full B39 B39.size B45
  have B49 : Below w15.heap.size w15 w47 := below_full B40 B40.size B45
  have B50 : Below w35.heap.size w35 w47 := B45
  refine EL_append (v := v34) (xs := ((fil o) ++ (fil t)).map byt) (ys := (e8 (o.length : Int)).map byt) w15.heap.size elB rfl rfl rfl (by simpa using (own_below O36' B50)) (own_row O44) (byt_one _) (by first | (simp only [List.length_map, List.length_nil]; omega) | (simp; done) | (simp; omega)) (by decide) B49.size ?_
  intro v51 w52 O53 G54 A55
  have O53' := own_app O53
  have B56 : Below w.heap.size w w52 := below_grew B48 G54 (own_below O36' B50) B16.size (B48.size)
  have B57 : Below w15.heap.size w15 w52 := below_grew B49 G54 (own_below O36' B50) (Nat.le_refl _) (B49.size)
  refine EL_val v51 w52 rfl (r_assign rfl) ?_
  refine EL_nil ?_
  refine thn_n ?_
  refine EC_seq ?_
  refine EC_reg ?_
  refine EL_val v51 w52 rfl (r_move rfl) ?_
  refine EL_val v3 w52 rfl (r_move rfl) ?_
  refine EL_val (.int .i64 (t.length : Int)) w52 rfl (lenB (r_len rfl (H3.below B56) Try.underlying22)) ?_
  have L63 : (e8 (t.length : Int)).length = 8 := rfl
  refine EL_ret [.int .i64 (t.length : Int)] rfl Try.func32 rfl nm32 rfl (eight_c (t.length : Int) w52 (by omega)) ?_
  rintro p60 w64 ⟨O61, B62⟩
  have B65 : Below w.heap.size w w64 := below_full B56 B56.size B62
  have B66 : Below w15.heap.size w15 w64 := below_full B57 B57.size B62
  have B67 : Below w52.heap.size w52 w64 := B62
  refine EL_append (v := v51) (xs := (((fil o) ++ (fil t)) ++ (e8 (o.length : Int))).map byt) (ys := (e8 (t.length : Int)).map byt) w15.heap.size elB rfl rfl rfl (by simpa using (own_below O53' B67)) (own_row O61) (byt_one _) (by first | (simp only [List.length_map, List.length_nil]; omega) | (simp; done) | (simp; omega)) (by decide) B66.size ?_
  intro v68 w69 O70 G71 A72
  have O70' := own_app O70
  have B73 : Below w.heap.size w w69 := below_grew B65 G71 (own_below O53' B67) B16.size (B65.size)
  have B74 : Below w15.heap.size w15 w69 := below_grew B66 G71 (own_below O53' B67) (Nat.le_refl _) (B66.size)
  refine EL_val v68 w69 rfl (r_assign rfl) ?_
  refine EL_nil ?_
  refine thn_n ?_
  refine EC_seq ?_
  refine EC_reg ?_
  refine EL_val p11 w69 rfl (r_move rfl) ?_
  refine EL_val (cutV p11 0 32) w69 rfl (r_slice rfl ((own_row O12).below B74) Try.underlying22 (by kernel_rfl) 0 32 (by first | omega | (simp; omega) | simp) (by first | omega | (simp; omega) | simp) (.inl ⟨rfl, rfl⟩) (.inr ⟨_, _, rfl, rfl⟩)) ?_
  have R77 : Bs w15 (cutV p11 0 32) ((kb k 0 n).take 32) := Bs.upto (own_row O12) 32 (by first | omega | (simp; omega) | simp)
  have L78 : ((kb k 0 n).take 32).length = 32 - 0 := by first | (simp; done) | (simp; omega)
  refine EL_val v68 w69 rfl (r_move rfl) ?_
  refine EL_ret [(cutV p11 0 32), v68] rfl Try.func33 rfl nm33 rfl (rTag_c (cutV p11 0 32) ((kb k 0 n).take 32) v68 ((((fil o) ++ (fil t)) ++ (e8 (o.length : Int))) ++ (e8 (t.length : Int))) w69 (R77.below B74) (own_row O70') (by first | omega | (simp; done) | (simp; omega)) (by first | omega | (simp; done) | (simp; omega))) ?_
  rintro p79 w82 ⟨O80, B81⟩
  have B83 : Below w.heap.size w w82 := below_full B73 B73.size B81
  have B84 : Below w15.heap.size w15 w82 := below_full B74 B74.size B81
  have B85 : Below w69.heap.size w69 w82 := B81
  have L86 := tag_len ((kb k 0 n).take 32) ((((fil o) ++ (fil t)) ++ (e8 (o.length : Int))) ++ (e8 (t.length : Int)))
  refine EL_val p79 w82 rfl (r_assign rfl) ?_
  refine EL_nil ?_
  refine thn_n ?_
  refine EC_ret ?_
  refine fin1 Try.results19 (show _ = p79 from rfl) ⟨_, rfl, ?_⟩
  have ef : tag ((kb k 0 n).take 32) ((((fil o) ++ (fil t)) ++ (e8 (o.length : Int))) ++ (e8 (t.length : Int))) = ctag k n o t := by first | rfl | simp [ctag, box]
  exact ⟨own_as (own_mono O80 B73.size) ef, B83⟩

set_option maxRecDepth 100000 in
set_option maxHeartbeats 4000000 in
theorem Seal_ok (v0 : Value) (k : List UInt8) (v1 : Value) (n : List UInt8) (v2 : Value) (o : List UInt8) (v3 : Value) (t : List UInt8) (w : World) (H0 : Bs w v0 k) (H1 : Bs w v1 n) (H2 : Bs w v2 o) (H3 : Bs w v3 t) (hk : k.length = 32) (hn : n.length = 12) (ho : o.length ≤ 100000) (ht : t.length ≤ 100000) : Ret Try.prog 10 [v0, v1, v2, v3] w fun v w' => ∃ p, v = .tuple #[p, .int .i64 0] ∧ w'.ownsRow w.heap.size 5 1 p (box k n o t).length ((box k n o t).map byt) ∧ Below w.heap.size w w' := by
  refine ret_E Try.func10 rfl Try.ntmps10 (by simp) ?_
  refine EC_seq ?_
  refine EC_reg ?_
  refine EL_val (.slice none 0 0) w rfl (r_assign rfl) ?_
  refine EL_val (.int .i64 0) w rfl (r_assign rfl) ?_
  refine EL_nil ?_
  refine thn_n ?_
  refine EC_seq ?_
  refine EC_reg ?_
  refine EL_val v0 w rfl (r_move rfl) ?_
  refine EL_val v1 w rfl (r_move rfl) ?_
  refine EL_val v3 w rfl (r_move rfl) ?_
  have L14 := xo_len k 1 n t
  refine EL_ret [v0, .int .i64 1, v1, v3] rfl Try.func14 rfl nm14 rfl (XOR_ok v0 k 1 v1 n v3 t w H0 H1 H3 (chk_of (by first | omega | (simp; done) | (simp; omega)) (by first | omega | (simp; done) | (simp; omega)) (by omega)) (by first | omega | (simp; done) | (simp; omega))) ?_
  rintro _ w15 ⟨p11, rfl, O12, B13⟩
  have B16 : Below w.heap.size w w15 := B13
  refine EL_val (.tuple #[p11, .int .i64 0]) w15 rfl (r_move rfl) ?_
  refine EL_val p11 w15 rfl (r_extract rfl rfl) ?_
  refine EL_val (.int .i64 0) w15 rfl (r_extract rfl rfl) ?_
  refine EL_val p11 w15 rfl (r_assign rfl) ?_
  refine EL_val (.int .i64 0) w15 rfl (r_assign rfl) ?_
  refine EL_nil ?_
  refine thn_n ?_
  refine EC_seq ?_
  refine EC_seq ?_
  refine EC_reg ?_
  refine EL_val (.int .i64 0) w15 rfl (r_move rfl) ?_
  refine EL_val (.bool false) w15 rfl (r_dec (by decide) (r_neq rfl rfl)) ?_
  refine EL_nil ?_
  refine thn_n ?_
  refine EC_cond_false rfl ?_
  refine EC_skip ?_
  refine thn_n ?_
  refine EC_seq ?_
  refine EC_reg ?_
  refine EL_val v0 w15 rfl (r_move rfl) ?_
  refine EL_val v1 w15 rfl (r_move rfl) ?_
  refine EL_val v2 w15 rfl (r_move rfl) ?_
  refine EL_val p11 w15 rfl (r_move rfl) ?_
  refine EL_ret [v0, v1, v2, p11] rfl Try.func17 rfl nm17 rfl (tag5_ok v0 k v1 n v2 o p11 (xo k 1 n t) w15 (H0.below B16) (H1.below B16) (H2.below B16) (own_row O12) (by first | omega | (simp; done) | (simp; omega)) (by first | omega | (simp; done) | (simp; omega)) (by first | omega | (simp; done) | (simp; omega)) (by first | omega | (simp; done) | (simp; omega))) ?_
  rintro _ w20 ⟨p17, rfl, O18, B19⟩
  have B21 : Below w.heap.size w w20 := below_full B16 B16.size B19
  have B22 : Below w15.heap.size w15 w20 := B19
  have L23 := ctag_len k n o (xo k 1 n t)
  refine EL_val (.tuple #[p17, .int .i64 0]) w20 rfl (r_move rfl) ?_
  refine EL_val p17 w20 rfl (r_extract rfl rfl) ?_
  refine EL_val (.int .i64 0) w20 rfl (r_extract rfl rfl) ?_
  refine EL_val p17 w20 rfl (r_assign rfl) ?_
  refine EL_val (.int .i64 0) w20 rfl (r_assign rfl) ?_
  refine EL_nil ?_
  refine thn_n ?_
  refine EC_seq ?_
  refine EC_reg ?_
  refine EL_val p11 w20 rfl (r_move rfl) ?_
  refine EL_val p17 w20 rfl (r_move rfl) ?_
  refine EL_append (v := p11) (xs := (xo k 1 n t).map byt) (ys := (ctag k n o (xo k 1 n t)).map byt) w.heap.size elB rfl rfl rfl (by simpa using (own_below O12 B22)) (own_row O18) (byt_one _) (by first | (simp only [List.length_map, List.length_nil]; omega) | (simp; done) | (simp; omega)) (by decide) B21.size ?_
  intro v24 w25 O26 G27 A28
  have O26' := own_app O26
  have B29 : Below w.heap.size w w25 := below_grew B21 G27 (own_below O12 B22) (Nat.le_refl _) (B21.size)
  refine EL_val v24 w25 rfl (r_assign rfl) ?_
  refine EL_val (.int .i64 0) w25 rfl (r_assign rfl) ?_
  refine EL_nil ?_
  refine thn_n ?_
  refine EC_ret ?_
  refine fin2 Try.results10 (show _ = v24 from rfl) (show _ = .int .i64 0 from rfl) ⟨_, rfl, ?_⟩
  have ef : (xo k 1 n t) ++ (ctag k n o (xo k 1 n t)) = box k n o t := by first | rfl | simp [ctag, box]
  exact ⟨_, rfl, own_as O26' ef, B29⟩

set_option maxRecDepth 100000 in
set_option maxHeartbeats 4000000 in
theorem Seal_no (v0 : Value) (k : List UInt8) (v1 : Value) (n : List UInt8) (v2 : Value) (o : List UInt8) (v3 : Value) (t : List UInt8) (w : World) (H0 : Bs w v0 k) (H1 : Bs w v1 n) (H2 : Bs w v2 o) (H3 : Bs w v3 t) (hno : k.length ≠ 32 ∨ n.length ≠ 12) : Ret Try.prog 10 [v0, v1, v2, v3] w fun v w' => v = .tuple #[.slice none 0 0, .int .i64 11] ∧ w = w' := by
  refine ret_E Try.func10 rfl Try.ntmps10 (by simp) ?_
  refine EC_seq ?_
  refine EC_reg ?_
  refine EL_val (.slice none 0 0) w rfl (r_assign rfl) ?_
  refine EL_val (.int .i64 0) w rfl (r_assign rfl) ?_
  refine EL_nil ?_
  refine thn_n ?_
  refine EC_seq ?_
  refine EC_reg ?_
  refine EL_val v0 w rfl (r_move rfl) ?_
  refine EL_val v1 w rfl (r_move rfl) ?_
  refine EL_val v3 w rfl (r_move rfl) ?_
  refine EL_ret [v0, .int .i64 1, v1, v3] rfl Try.func14 rfl nm14 rfl (XOR_no v0 k 1 v1 n v3 t w H0 H1 H3 11 (chk_size hno) (by decide)) ?_
  rintro _ _ ⟨rfl, rfl⟩
  refine EL_val (.tuple #[.slice none 0 0, .int .i64 11]) w rfl (r_move rfl) ?_
  refine EL_val (.slice none 0 0) w rfl (r_extract rfl rfl) ?_
  refine EL_val (.int .i64 11) w rfl (r_extract rfl rfl) ?_
  refine EL_val (.slice none 0 0) w rfl (r_assign rfl) ?_
  refine EL_val (.int .i64 11) w rfl (r_assign rfl) ?_
  refine EL_nil ?_
  refine thn_n ?_
  refine EC_seq ?_
  refine EC_seq ?_
  refine EC_reg ?_
  refine EL_val (.int .i64 11) w rfl (r_move rfl) ?_
  refine EL_val (.bool true) w rfl (r_dec (by decide) (r_neq rfl rfl)) ?_
  refine EL_nil ?_
  refine thn_n ?_
  refine EC_cond_true rfl ?_
  refine EC_seq ?_
  refine EC_reg ?_
  refine EL_val (.int .i64 11) w rfl (r_move rfl) ?_
  refine EL_val (.slice none 0 0) w rfl (r_assign rfl) ?_
  refine EL_val (.int .i64 11) w rfl (r_assign rfl) ?_
  refine EL_nil ?_
  refine thn_n ?_
  refine EC_ret ?_
  refine thn_r ?_
  refine fin2 Try.results10 (show _ = .slice none 0 0 from rfl) (show _ = .int .i64 11 from rfl) ⟨_, rfl, ?_⟩
  exact ⟨rfl, rfl⟩

set_option maxRecDepth 100000 in
set_option maxHeartbeats 4000000 in
theorem rSeal_c (v0 : Value) (k : List UInt8) (v1 : Value) (n : List UInt8) (v2 : Value) (o : List UInt8) (v3 : Value) (t : List UInt8) (w : World) (H0 : Bs w v0 k) (H1 : Bs w v1 n) (H2 : Bs w v2 o) (H3 : Bs w v3 t) (hk : k.length = 32) (hn : n.length = 12) (ho : o.length ≤ 100000) (ht : t.length ≤ 100000) : Ret Try.prog 11 [v0, v1, v2, v3] w fun v w' => w'.ownsRow w.heap.size 5 1 v (box k n o t).length ((box k n o t).map byt) ∧ Below w.heap.size w w' := by
  refine ret_E Try.func11 rfl Try.ntmps11 (by simp) ?_
  refine EC_seq ?_
  refine EC_reg ?_
  refine EL_val (.slice none 0 0) w rfl (r_assign rfl) ?_
  refine EL_nil ?_
  refine thn_n ?_
  refine EC_seq ?_
  refine EC_reg ?_
  refine EL_val v0 w rfl (r_move rfl) ?_
  refine EL_val v1 w rfl (r_move rfl) ?_
  refine EL_val v3 w rfl (r_move rfl) ?_
  have L14 := xo_len k 1 n t
  refine EL_ret [v0, .int .i64 1, v1, v3] rfl Try.func18 rfl nm18 rfl (rXOR_c v0 k 1 v1 n v3 t w H0 H1 H3 (by first | omega | (simp; done) | (simp; omega)) (by first | omega | (simp; done) | (simp; omega)) (by omega) (by first | omega | (simp; done) | (simp; omega))) ?_
  rintro p11 w15 ⟨O12, B13⟩
  have B16 : Below w.heap.size w w15 := B13
  refine EL_val p11 w15 rfl (r_assign rfl) ?_
  refine EL_nil ?_
  refine thn_n ?_
  refine EC_seq ?_
  refine EC_reg ?_
  refine EL_lit w15.heap.size #[] elB rfl (by decide) rfl (Nat.le_refl _) (by kernel_rfl) ?_
  intro v17 w18 O19 B20 k21 z22
  have B23 : Below w.heap.size w w18 := below_full B16 B16.size B20
  have B24 : Below w15.heap.size w15 w18 := B20
  have O19' := own_eq (l := ([] : List UInt8)) O19 (by simp [bof_val, byt])
  refine EL_val p11 w18 rfl (r_move rfl) ?_
  refine EL_append (v := v17) (xs := ([] : List UInt8).map byt) (ys := (xo k 1 n t).map byt) w15.heap.size elB rfl rfl rfl (by simpa using O19') ((own_row O12).below B24) (byt_one _) (by first | (simp only [List.length_map, List.length_nil]; omega) | (simp; done) | (simp; omega)) (by decide) B24.size ?_
  intro v25 w26 O27 G28 A29
  have O27' := own_app O27
  have B30 : Below w.heap.size w w26 := below_grew B23 G28 O19' B16.size (B23.size)
  have B31 : Below w15.heap.size w15 w26 := below_grew B24 G28 O19' (Nat.le_refl _) (B24.size)
  refine EL_val v0 w26 rfl (r_move rfl) ?_
  refine EL_val v1 w26 rfl (r_move rfl) ?_
  refine EL_val v2 w26 rfl (r_move rfl) ?_
  refine EL_val p11 w26 rfl (r_move rfl) ?_
  refine EL_ret [v0, v1, v2, p11] rfl Try.func19 rfl nm19 rfl (rTag5_c v0 k v1 n v2 o p11 (xo k 1 n t) w26 (H0.below B30) (H1.below B30) (H2.below B30) ((own_row O12).below B31) (by first | omega | (simp; done) | (simp; omega)) (by first | omega | (simp; done) | (simp; omega)) (by first | omega | (simp; done) | (simp; omega)) (by first | omega | (simp; done) | (simp; omega))) ?_
  rintro p33 w36 ⟨O34, B35⟩
  have B37 : Below w.heap.size w w36 := below_full B30 B30.size B35
  have B38 : Below w15.heap.size w15 w36 := below_full B31 B31.size B35
  have B39 : Below w26.heap.size w26 w36 := B35
  have L40 := ctag_len k n o (xo k 1 n t)
  refine EL_append (v := v25) (xs := (([] : List UInt8) ++ (xo k 1 n t)).map byt) (ys := (ctag k n o (xo k 1 n t)).map byt) w15.heap.size elB rfl rfl rfl (by simpa using (own_below O27' B39)) (own_row O34) (byt_one _) (by first | (simp only [List.length_map, List.length_nil]; omega) | (simp; done) | (simp; omega)) (by decide) B38.size ?_
  intro v41 w42 O43 G44 A45
  have O43' := own_app O43
  have B46 : Below w.heap.size w w42 := below_grew B37 G44 (own_below O27' B39) B16.size (B37.size)
  have B47 : Below w15.heap.size w15 w42 := below_grew B38 G44 (own_below O27' B39) (Nat.le_refl _) (B38.size)
  refine EL_val v41 w42 rfl (r_assign rfl) ?_
  refine EL_nil ?_
  refine thn_n ?_
  refine EC_ret ?_
  refine fin1 Try.results11 (show _ = v41 from rfl) ⟨_, rfl, ?_⟩
  have ef : (([] : List UInt8) ++ (xo k 1 n t)) ++ (ctag k n o (xo k 1 n t)) = box k n o t := by first | rfl | simp [ctag, box]
  exact ⟨own_as (own_mono O43' B16.size) ef, B46⟩

set_option maxRecDepth 100000 in
set_option maxHeartbeats 4000000 in
theorem Open_ok (v0 : Value) (k : List UInt8) (v1 : Value) (n : List UInt8) (v2 : Value) (o : List UInt8) (v3 : Value) (t : List UInt8) (w : World) (H0 : Bs w v0 k) (H1 : Bs w v1 n) (H2 : Bs w v2 o) (H3 : Bs w v3 t) (hk : k.length = 32) (hn : n.length = 12) (ho : o.length ≤ 100000) (ht : t.length ≤ 100000) (hb : isbox k n o t = true) : Ret Try.prog 12 [v0, v1, v2, v3] w fun v w' => ∃ p, v = .tuple #[p, .int .i64 0] ∧ w'.ownsRow w.heap.size 5 1 p (xo k 1 n (t.take (t.length - 16))).length ((xo k 1 n (t.take (t.length - 16))).map byt) ∧ Below w.heap.size w w' := by
  refine ret_E Try.func12 rfl Try.ntmps12 (by simp) ?_
  refine EC_seq ?_
  refine EC_reg ?_
  refine EL_val (.slice none 0 0) w rfl (r_assign rfl) ?_
  refine EL_val (.int .i64 0) w rfl (r_assign rfl) ?_
  refine EL_nil ?_
  refine thn_n ?_
  refine EC_seq ?_
  refine EC_reg ?_
  refine EL_val v3 w rfl (r_move rfl) ?_
  refine EL_val (.int .i64 (t.length : Int)) w rfl (lenB (r_len rfl H3 Try.underlying22)) ?_
  refine EL_int ((t.length : Int) - 16) rfl (r_subi rfl rfl (by omega)) ?_
  intro x11 hx11
  refine EL_int (if x11 < 0 then 0 else x11) rfl (r_max rfl rfl) ?_
  intro x12 hx12
  have en : (x12 : Int).toNat = t.length - 16 := by omega
  refine EL_val (.int .i64 x12) w rfl (r_assign rfl) ?_
  refine EL_nil ?_
  refine thn_n ?_
  refine EC_seq ?_
  refine EC_reg ?_
  refine EL_val v0 w rfl (r_move rfl) ?_
  refine EL_val v1 w rfl (r_move rfl) ?_
  refine EL_val v2 w rfl (r_move rfl) ?_
  refine EL_val v3 w rfl (r_move rfl) ?_
  refine EL_val (.int .i64 x12) w rfl (r_move rfl) ?_
  refine EL_val (cutV v3 0 ((x12 : Int).toNat)) w rfl (r_slice rfl H3 Try.underlying22 (by kernel_rfl) 0 ((x12 : Int).toNat) (by first | omega | (simp; omega) | simp) (by first | omega | (simp; omega) | simp) (.inl ⟨rfl, rfl⟩) (.inr ⟨_, _, rfl, (show _ = Value.int .i64 ((x12 : Int).toNat : Int) from by rw [Int.toNat_of_nonneg (by omega)]; exact rfl)⟩)) ?_
  have R13 : Bs w (cutV v3 0 ((x12 : Int).toNat)) (t.take ((x12 : Int).toNat)) := Bs.upto H3 ((x12 : Int).toNat) (by first | omega | (simp; omega) | simp)
  have L14 : (t.take ((x12 : Int).toNat)).length = ((x12 : Int).toNat) - 0 := by first | (simp; done) | (simp; omega)
  refine EL_ret [v0, v1, v2, (cutV v3 0 ((x12 : Int).toNat))] rfl Try.func17 rfl nm17 rfl (tag5_ok v0 k v1 n v2 o (cutV v3 0 ((x12 : Int).toNat)) (t.take ((x12 : Int).toNat)) w H0 H1 H2 R13 (by first | omega | (simp; done) | (simp; omega)) (by first | omega | (simp; done) | (simp; omega)) (by first | omega | (simp; done) | (simp; omega)) (by first | omega | (simp; done) | (simp; omega))) ?_
  rintro _ w18 ⟨p15, rfl, O16, B17⟩
  have B19 : Below w.heap.size w w18 := B17
  have L20 := ctag_len k n o (t.take ((x12 : Int).toNat))
  refine EL_val (.tuple #[p15, .int .i64 0]) w18 rfl (r_move rfl) ?_
  refine EL_val p15 w18 rfl (r_extract rfl rfl) ?_
  refine EL_val (.int .i64 0) w18 rfl (r_extract rfl rfl) ?_
  refine EL_val p15 w18 rfl (r_assign rfl) ?_
  refine EL_val (.int .i64 0) w18 rfl (r_assign rfl) ?_
  refine EL_nil ?_
  refine thn_n ?_
  refine EC_seq ?_
  refine EC_block ?_
  refine EC_seq ?_
  refine EC_reg ?_
  refine EL_val (.int .i64 0) w18 rfl (r_move rfl) ?_
  refine EL_val (.bool false) w18 rfl (r_dec (by decide) (r_neq rfl rfl)) ?_
  refine EL_val (.bool false) w18 rfl (r_assign rfl) ?_
  refine EL_nil ?_
  refine thn_n ?_
  refine EC_cond_false rfl ?_
  refine EC_seq ?_
  refine EC_reg ?_
  refine EL_val p15 w18 rfl (r_move rfl) ?_
  refine EL_val v3 w18 rfl (r_move rfl) ?_
  refine EL_val (.int .i64 x12) w18 rfl (r_move rfl) ?_
  refine EL_val (cutV v3 ((x12 : Int).toNat) t.length) w18 rfl (r_slice rfl (H3.below B19) Try.underlying22 (by kernel_rfl) ((x12 : Int).toNat) t.length (by first | omega | (simp; omega) | simp) (by first | omega | (simp; omega) | simp) (.inr ⟨_, _, rfl, (show _ = Value.int .i64 ((x12 : Int).toNat : Int) from by rw [Int.toNat_of_nonneg (by omega)]; exact rfl)⟩) (.inl ⟨rfl, by simp⟩)) ?_
  have R21 : Bs w (cutV v3 ((x12 : Int).toNat) t.length) (t.drop ((x12 : Int).toNat)) := Bs.from H3 ((x12 : Int).toNat) (by first | omega | (simp; omega) | simp)
  have L22 : (t.drop ((x12 : Int).toNat)).length = t.length - ((x12 : Int).toNat) := by first | (simp; done) | (simp; omega)
  refine EL_ret [p15, (cutV v3 ((x12 : Int).toNat) t.length)] rfl Try.func20 rfl nm20 rfl (Equal_c p15 (ctag k n o (t.take ((x12 : Int).toNat))) (cutV v3 ((x12 : Int).toNat) t.length) (t.drop ((x12 : Int).toNat)) w18 (own_row O16) (R21.below B19)) ?_
  rintro _ w23 ⟨rfl, B24⟩
  have B25 : Below w.heap.size w w23 := below_full B19 B19.size B24
  have B26 : Below w18.heap.size w18 w23 := B24
  refine EL_val (.bool (!(decide (ctag k n o (t.take ((x12 : Int).toNat)) = t.drop ((x12 : Int).toNat))))) w23 rfl (r_not rfl) ?_
  refine EL_val (.bool (!(decide (ctag k n o (t.take ((x12 : Int).toNat)) = t.drop ((x12 : Int).toNat))))) w23 rfl (r_assign rfl) ?_
  refine EL_nil ?_
  refine thn_n ?_
  refine EC_cond_false (Eq.trans (show _ = Value.bool (!(decide (ctag k n o (t.take ((x12 : Int).toNat)) = t.drop ((x12 : Int).toNat)))) from rfl) (congrArg Value.bool (show (!(decide (ctag k n o (t.take ((x12 : Int).toNat)) = t.drop ((x12 : Int).toNat)))) = false from by simp only [Bool.not_eq_false', Bool.not_eq_eq_eq_not, Bool.not_false, decide_eq_true_eq]; exact isbox_eq en hb))) ?_
  refine EC_skip ?_
  refine inB_n ?_
  refine thn_n ?_
  refine EC_seq ?_
  refine EC_reg ?_
  refine EL_val v0 w23 rfl (r_move rfl) ?_
  refine EL_val v1 w23 rfl (r_move rfl) ?_
  refine EL_val v3 w23 rfl (r_move rfl) ?_
  refine EL_val (.int .i64 x12) w23 rfl (r_move rfl) ?_
  refine EL_val (cutV v3 0 ((x12 : Int).toNat)) w23 rfl (r_slice rfl (H3.below B25) Try.underlying22 (by kernel_rfl) 0 ((x12 : Int).toNat) (by first | omega | (simp; omega) | simp) (by first | omega | (simp; omega) | simp) (.inl ⟨rfl, rfl⟩) (.inr ⟨_, _, rfl, (show _ = Value.int .i64 ((x12 : Int).toNat : Int) from by rw [Int.toNat_of_nonneg (by omega)]; exact rfl)⟩)) ?_
  have R27 : Bs w (cutV v3 0 ((x12 : Int).toNat)) (t.take ((x12 : Int).toNat)) := Bs.upto H3 ((x12 : Int).toNat) (by first | omega | (simp; omega) | simp)
  have L28 : (t.take ((x12 : Int).toNat)).length = ((x12 : Int).toNat) - 0 := by first | (simp; done) | (simp; omega)
  have L32 := xo_len k 1 n (t.take ((x12 : Int).toNat))
  refine EL_ret [v0, .int .i64 1, v1, (cutV v3 0 ((x12 : Int).toNat))] rfl Try.func14 rfl nm14 rfl (XOR_ok v0 k 1 v1 n (cutV v3 0 ((x12 : Int).toNat)) (t.take ((x12 : Int).toNat)) w23 (H0.below B25) (H1.below B25) (R27.below B25) (chk_of (by first | omega | (simp; done) | (simp; omega)) (by first | omega | (simp; done) | (simp; omega)) (by omega)) (by first | omega | (simp; done) | (simp; omega))) ?_
  rintro _ w33 ⟨p29, rfl, O30, B31⟩
  have B34 : Below w.heap.size w w33 := below_full B25 B25.size B31
  have B35 : Below w18.heap.size w18 w33 := below_full B26 B26.size B31
  have B36 : Below w23.heap.size w23 w33 := B31
  refine EL_val p29 w33 rfl (r_extract rfl rfl) ?_
  refine EL_val (.int .i64 0) w33 rfl (r_extract rfl rfl) ?_
  refine EL_val p29 w33 rfl (r_assign rfl) ?_
  refine EL_val (.int .i64 0) w33 rfl (r_assign rfl) ?_
  refine EL_nil ?_
  refine thn_n ?_
  refine EC_ret ?_
  refine fin2 Try.results12 (show _ = p29 from rfl) (show _ = .int .i64 0 from rfl) ⟨_, rfl, ?_⟩
  exact ⟨_, rfl, own_as (own_mono O30 B25.size) (by rw [en]), B34⟩

set_option maxRecDepth 100000 in
set_option maxHeartbeats 4000000 in
theorem Open_nobox (v0 : Value) (k : List UInt8) (v1 : Value) (n : List UInt8) (v2 : Value) (o : List UInt8) (v3 : Value) (t : List UInt8) (w : World) (H0 : Bs w v0 k) (H1 : Bs w v1 n) (H2 : Bs w v2 o) (H3 : Bs w v3 t) (hk : k.length = 32) (hn : n.length = 12) (ho : o.length ≤ 100000) (ht : t.length ≤ 100000) (hb : isbox k n o t = false) : Ret Try.prog 12 [v0, v1, v2, v3] w fun v w' => v = .tuple #[.slice none 0 0, .int .i64 20] ∧ Below w.heap.size w w' := by
  refine ret_E Try.func12 rfl Try.ntmps12 (by simp) ?_
  refine EC_seq ?_
  refine EC_reg ?_
  refine EL_val (.slice none 0 0) w rfl (r_assign rfl) ?_
  refine EL_val (.int .i64 0) w rfl (r_assign rfl) ?_
  refine EL_nil ?_
  refine thn_n ?_
  refine EC_seq ?_
  refine EC_reg ?_
  refine EL_val v3 w rfl (r_move rfl) ?_
  refine EL_val (.int .i64 (t.length : Int)) w rfl (lenB (r_len rfl H3 Try.underlying22)) ?_
  refine EL_int ((t.length : Int) - 16) rfl (r_subi rfl rfl (by omega)) ?_
  intro x11 hx11
  refine EL_int (if x11 < 0 then 0 else x11) rfl (r_max rfl rfl) ?_
  intro x12 hx12
  have en : (x12 : Int).toNat = t.length - 16 := by omega
  refine EL_val (.int .i64 x12) w rfl (r_assign rfl) ?_
  refine EL_nil ?_
  refine thn_n ?_
  refine EC_seq ?_
  refine EC_reg ?_
  refine EL_val v0 w rfl (r_move rfl) ?_
  refine EL_val v1 w rfl (r_move rfl) ?_
  refine EL_val v2 w rfl (r_move rfl) ?_
  refine EL_val v3 w rfl (r_move rfl) ?_
  refine EL_val (.int .i64 x12) w rfl (r_move rfl) ?_
  refine EL_val (cutV v3 0 ((x12 : Int).toNat)) w rfl (r_slice rfl H3 Try.underlying22 (by kernel_rfl) 0 ((x12 : Int).toNat) (by first | omega | (simp; omega) | simp) (by first | omega | (simp; omega) | simp) (.inl ⟨rfl, rfl⟩) (.inr ⟨_, _, rfl, (show _ = Value.int .i64 ((x12 : Int).toNat : Int) from by rw [Int.toNat_of_nonneg (by omega)]; exact rfl)⟩)) ?_
  have R13 : Bs w (cutV v3 0 ((x12 : Int).toNat)) (t.take ((x12 : Int).toNat)) := Bs.upto H3 ((x12 : Int).toNat) (by first | omega | (simp; omega) | simp)
  have L14 : (t.take ((x12 : Int).toNat)).length = ((x12 : Int).toNat) - 0 := by first | (simp; done) | (simp; omega)
  refine EL_ret [v0, v1, v2, (cutV v3 0 ((x12 : Int).toNat))] rfl Try.func17 rfl nm17 rfl (tag5_ok v0 k v1 n v2 o (cutV v3 0 ((x12 : Int).toNat)) (t.take ((x12 : Int).toNat)) w H0 H1 H2 R13 (by first | omega | (simp; done) | (simp; omega)) (by first | omega | (simp; done) | (simp; omega)) (by first | omega | (simp; done) | (simp; omega)) (by first | omega | (simp; done) | (simp; omega))) ?_
  rintro _ w18 ⟨p15, rfl, O16, B17⟩
  have B19 : Below w.heap.size w w18 := B17
  have L20 := ctag_len k n o (t.take ((x12 : Int).toNat))
  refine EL_val (.tuple #[p15, .int .i64 0]) w18 rfl (r_move rfl) ?_
  refine EL_val p15 w18 rfl (r_extract rfl rfl) ?_
  refine EL_val (.int .i64 0) w18 rfl (r_extract rfl rfl) ?_
  refine EL_val p15 w18 rfl (r_assign rfl) ?_
  refine EL_val (.int .i64 0) w18 rfl (r_assign rfl) ?_
  refine EL_nil ?_
  refine thn_n ?_
  refine EC_seq ?_
  refine EC_block ?_
  refine EC_seq ?_
  refine EC_reg ?_
  refine EL_val (.int .i64 0) w18 rfl (r_move rfl) ?_
  refine EL_val (.bool false) w18 rfl (r_dec (by decide) (r_neq rfl rfl)) ?_
  refine EL_val (.bool false) w18 rfl (r_assign rfl) ?_
  refine EL_nil ?_
  refine thn_n ?_
  refine EC_cond_false rfl ?_
  refine EC_seq ?_
  refine EC_reg ?_
  refine EL_val p15 w18 rfl (r_move rfl) ?_
  refine EL_val v3 w18 rfl (r_move rfl) ?_
  refine EL_val (.int .i64 x12) w18 rfl (r_move rfl) ?_
  refine EL_val (cutV v3 ((x12 : Int).toNat) t.length) w18 rfl (r_slice rfl (H3.below B19) Try.underlying22 (by kernel_rfl) ((x12 : Int).toNat) t.length (by first | omega | (simp; omega) | simp) (by first | omega | (simp; omega) | simp) (.inr ⟨_, _, rfl, (show _ = Value.int .i64 ((x12 : Int).toNat : Int) from by rw [Int.toNat_of_nonneg (by omega)]; exact rfl)⟩) (.inl ⟨rfl, by simp⟩)) ?_
  have R21 : Bs w (cutV v3 ((x12 : Int).toNat) t.length) (t.drop ((x12 : Int).toNat)) := Bs.from H3 ((x12 : Int).toNat) (by first | omega | (simp; omega) | simp)
  have L22 : (t.drop ((x12 : Int).toNat)).length = t.length - ((x12 : Int).toNat) := by first | (simp; done) | (simp; omega)
  refine EL_ret [p15, (cutV v3 ((x12 : Int).toNat) t.length)] rfl Try.func20 rfl nm20 rfl (Equal_c p15 (ctag k n o (t.take ((x12 : Int).toNat))) (cutV v3 ((x12 : Int).toNat) t.length) (t.drop ((x12 : Int).toNat)) w18 (own_row O16) (R21.below B19)) ?_
  rintro _ w23 ⟨rfl, B24⟩
  have B25 : Below w.heap.size w w23 := below_full B19 B19.size B24
  have B26 : Below w18.heap.size w18 w23 := B24
  refine EL_val (.bool (!(decide (ctag k n o (t.take ((x12 : Int).toNat)) = t.drop ((x12 : Int).toNat))))) w23 rfl (r_not rfl) ?_
  refine EL_val (.bool (!(decide (ctag k n o (t.take ((x12 : Int).toNat)) = t.drop ((x12 : Int).toNat))))) w23 rfl (r_assign rfl) ?_
  refine EL_nil ?_
  refine thn_n ?_
  refine EC_cond_true (Eq.trans (show _ = Value.bool (!(decide (ctag k n o (t.take ((x12 : Int).toNat)) = t.drop ((x12 : Int).toNat)))) from rfl) (congrArg Value.bool (show (!(decide (ctag k n o (t.take ((x12 : Int).toNat)) = t.drop ((x12 : Int).toNat)))) = true from by simp only [Bool.not_eq_true', Bool.not_eq_eq_eq_not, Bool.not_true, decide_eq_false_iff_not]; exact isbox_ne en hb))) ?_
  refine EC_seq ?_
  refine EC_reg ?_
  refine EL_val (.slice none 0 0) w23 rfl (r_assign rfl) ?_
  refine EL_val (.int .i64 20) w23 rfl (r_assign rfl) ?_
  refine EL_nil ?_
  refine thn_n ?_
  refine EC_ret ?_
  refine inB_r ?_
  refine thn_r ?_
  refine fin2 Try.results12 (show _ = .slice none 0 0 from rfl) (show _ = .int .i64 20 from rfl) ⟨_, rfl, ?_⟩
  exact ⟨rfl, B25⟩

set_option maxRecDepth 100000 in
set_option maxHeartbeats 4000000 in
theorem Open_no (v0 : Value) (k : List UInt8) (v1 : Value) (n : List UInt8) (v2 : Value) (o : List UInt8) (v3 : Value) (t : List UInt8) (w : World) (H0 : Bs w v0 k) (H1 : Bs w v1 n) (H2 : Bs w v2 o) (H3 : Bs w v3 t) (hno : k.length ≠ 32 ∨ n.length ≠ 12) (ho : o.length ≤ 100000) (ht : t.length ≤ 100000) : Ret Try.prog 12 [v0, v1, v2, v3] w fun v w' => v = .tuple #[.slice none 0 0, .int .i64 11] ∧ w = w' := by
  refine ret_E Try.func12 rfl Try.ntmps12 (by simp) ?_
  refine EC_seq ?_
  refine EC_reg ?_
  refine EL_val (.slice none 0 0) w rfl (r_assign rfl) ?_
  refine EL_val (.int .i64 0) w rfl (r_assign rfl) ?_
  refine EL_nil ?_
  refine thn_n ?_
  refine EC_seq ?_
  refine EC_reg ?_
  refine EL_val v3 w rfl (r_move rfl) ?_
  refine EL_val (.int .i64 (t.length : Int)) w rfl (lenB (r_len rfl H3 Try.underlying22)) ?_
  refine EL_int ((t.length : Int) - 16) rfl (r_subi rfl rfl (by omega)) ?_
  intro x11 hx11
  refine EL_int (if x11 < 0 then 0 else x11) rfl (r_max rfl rfl) ?_
  intro x12 hx12
  refine EL_val (.int .i64 x12) w rfl (r_assign rfl) ?_
  refine EL_nil ?_
  refine thn_n ?_
  refine EC_seq ?_
  refine EC_reg ?_
  refine EL_val v0 w rfl (r_move rfl) ?_
  refine EL_val v1 w rfl (r_move rfl) ?_
  refine EL_val v2 w rfl (r_move rfl) ?_
  refine EL_val v3 w rfl (r_move rfl) ?_
  refine EL_val (.int .i64 x12) w rfl (r_move rfl) ?_
  refine EL_val (cutV v3 0 ((x12 : Int).toNat)) w rfl (r_slice rfl H3 Try.underlying22 (by kernel_rfl) 0 ((x12 : Int).toNat) (by first | omega | (simp; omega) | simp) (by first | omega | (simp; omega) | simp) (.inl ⟨rfl, rfl⟩) (.inr ⟨_, _, rfl, (show _ = Value.int .i64 ((x12 : Int).toNat : Int) from by rw [Int.toNat_of_nonneg (by omega)]; exact rfl)⟩)) ?_
  have R13 : Bs w (cutV v3 0 ((x12 : Int).toNat)) (t.take ((x12 : Int).toNat)) := Bs.upto H3 ((x12 : Int).toNat) (by first | omega | (simp; omega) | simp)
  have L14 : (t.take ((x12 : Int).toNat)).length = ((x12 : Int).toNat) - 0 := by first | (simp; done) | (simp; omega)
  refine EL_ret [v0, v1, v2, (cutV v3 0 ((x12 : Int).toNat))] rfl Try.func17 rfl nm17 rfl (tag5_no v0 k v1 n v2 o (cutV v3 0 ((x12 : Int).toNat)) (t.take ((x12 : Int).toNat)) w H0 H1 H2 R13 hno) ?_
  rintro _ _ ⟨rfl, rfl⟩
  refine EL_val (.tuple #[.slice none 0 0, .int .i64 11]) w rfl (r_move rfl) ?_
  refine EL_val (.slice none 0 0) w rfl (r_extract rfl rfl) ?_
  refine EL_val (.int .i64 11) w rfl (r_extract rfl rfl) ?_
  refine EL_val (.slice none 0 0) w rfl (r_assign rfl) ?_
  refine EL_val (.int .i64 11) w rfl (r_assign rfl) ?_
  refine EL_nil ?_
  refine thn_n ?_
  refine EC_seq ?_
  refine EC_block ?_
  refine EC_seq ?_
  refine EC_reg ?_
  refine EL_val (.int .i64 11) w rfl (r_move rfl) ?_
  refine EL_val (.bool true) w rfl (r_dec (by decide) (r_neq rfl rfl)) ?_
  refine EL_val (.bool true) w rfl (r_assign rfl) ?_
  refine EL_nil ?_
  refine thn_n ?_
  refine EC_cond_true rfl ?_
  refine EC_seq ?_
  refine EC_reg ?_
  refine EL_val (.int .i64 11) w rfl (r_move rfl) ?_
  refine EL_val (.slice none 0 0) w rfl (r_assign rfl) ?_
  refine EL_val (.int .i64 11) w rfl (r_assign rfl) ?_
  refine EL_nil ?_
  refine thn_n ?_
  refine EC_ret ?_
  refine inB_r ?_
  refine thn_r ?_
  refine fin2 Try.results12 (show _ = .slice none 0 0 from rfl) (show _ = .int .i64 11 from rfl) ⟨_, rfl, ?_⟩
  exact ⟨rfl, rfl⟩

set_option maxRecDepth 100000 in
set_option maxHeartbeats 4000000 in
theorem rOpen_ok (v0 : Value) (k : List UInt8) (v1 : Value) (n : List UInt8) (v2 : Value) (o : List UInt8) (v3 : Value) (t : List UInt8) (w : World) (H0 : Bs w v0 k) (H1 : Bs w v1 n) (H2 : Bs w v2 o) (H3 : Bs w v3 t) (hk : k.length = 32) (hn : n.length = 12) (ho : o.length ≤ 100000) (ht : t.length ≤ 100000) (hb : isbox k n o t = true) : Ret Try.prog 13 [v0, v1, v2, v3] w fun v w' => ∃ p, v = .tuple #[p, .bool true] ∧ w'.ownsRow w.heap.size 5 1 p (xo k 1 n (t.take (t.length - 16))).length ((xo k 1 n (t.take (t.length - 16))).map byt) ∧ Below w.heap.size w w' := by
  have h16 : 16 ≤ t.length := by rw [isbox, Bool.and_eq_true] at hb; exact of_decide_eq_true hb.1
  refine ret_E Try.func13 rfl Try.ntmps13 (by simp) ?_
  refine EC_seq ?_
  refine EC_reg ?_
  refine EL_val (.slice none 0 0) w rfl (r_assign rfl) ?_
  refine EL_val (.bool false) w rfl (r_assign rfl) ?_
  refine EL_nil ?_
  refine thn_n ?_
  refine EC_seq ?_
  refine EC_seq ?_
  refine EC_reg ?_
  refine EL_val v3 w rfl (r_move rfl) ?_
  refine EL_val (.int .i64 (t.length : Int)) w rfl (lenB (r_len rfl H3 Try.underlying22)) ?_
  refine EL_val (.bool (decide ((t.length : Int) < 16))) w rfl (r_lss rfl rfl) ?_
  refine EL_nil ?_
  refine thn_n ?_
  refine EC_cond_false (Eq.trans (show _ = Value.bool (decide ((t.length : Int) < 16)) from rfl) (congrArg Value.bool (show (decide ((t.length : Int) < 16)) = false from by simp; omega))) ?_
  refine EC_skip ?_
  refine thn_n ?_
  refine EC_seq ?_
  refine EC_reg ?_
  refine EL_val v3 w rfl (r_move rfl) ?_
  refine EL_val v3 w rfl (r_move rfl) ?_
  refine EL_val (.int .i64 (t.length : Int)) w rfl (lenB (r_len rfl H3 Try.underlying22)) ?_
  refine EL_int ((t.length : Int) - 16) rfl (r_subi rfl rfl (by omega)) ?_
  intro x11 hx11
  have en : (x11 : Int).toNat = t.length - 16 := by omega
  refine EL_val (cutV v3 0 ((x11 : Int).toNat)) w rfl (r_slice rfl H3 Try.underlying22 (by kernel_rfl) 0 ((x11 : Int).toNat) (by first | omega | (simp; omega) | simp) (by first | omega | (simp; omega) | simp) (.inl ⟨rfl, rfl⟩) (.inr ⟨_, _, rfl, (show _ = Value.int .i64 ((x11 : Int).toNat : Int) from by rw [Int.toNat_of_nonneg (by omega)]; exact rfl)⟩)) ?_
  have R12 : Bs w (cutV v3 0 ((x11 : Int).toNat)) (t.take ((x11 : Int).toNat)) := Bs.upto H3 ((x11 : Int).toNat) (by first | omega | (simp; omega) | simp)
  have L13 : (t.take ((x11 : Int).toNat)).length = ((x11 : Int).toNat) - 0 := by first | (simp; done) | (simp; omega)
  refine EL_val (cutV v3 0 ((x11 : Int).toNat)) w rfl (r_assign rfl) ?_
  refine EL_nil ?_
  refine thn_n ?_
  refine EC_seq ?_
  refine EC_seq ?_
  refine EC_held (fun w' => Below w.heap.size w w') (by kernel_rfl) ?_
  intro w14 B15 z16
  have B17 : Below w.heap.size w w14 := B15
  refine EA_strong (fun w' => Below w14.heap.size w14 w') (fun _ hw => below_full B17 B17.size hw) ?_
  refine EA_take 0 rfl (by kernel_rfl) (by kernel_rfl) (by kernel_rfl) v0 rfl (fun _ hw => r_move rfl) (Below.refl _ _) ?_
  refine EA_take 1 rfl (by kernel_rfl) (by kernel_rfl) (by kernel_rfl) v1 rfl (fun _ hw => r_move rfl) (Below.refl _ _) ?_
  refine EA_take 2 rfl (by kernel_rfl) (by kernel_rfl) (by kernel_rfl) v2 rfl (fun _ hw => r_move rfl) (Below.refl _ _) ?_
  refine EA_take 3 rfl (by kernel_rfl) (by kernel_rfl) (by kernel_rfl) (cutV v3 0 ((x11 : Int).toNat)) rfl (fun _ hw => r_move rfl) (Below.refl _ _) ?_
  refine EA_take 6 rfl (by kernel_rfl) (by kernel_rfl) (by kernel_rfl) v3 rfl (fun _ hw => r_move rfl) (Below.refl _ _) ?_
  refine EA_take 7 rfl (by kernel_rfl) (by kernel_rfl) (by kernel_rfl) v3 rfl (fun _ hw => r_move rfl) (Below.refl _ _) ?_
  refine EA_take 8 rfl (by kernel_rfl) (by kernel_rfl) (by kernel_rfl) (.int .i64 (t.length : Int)) rfl (fun _ hw => lenB (r_len rfl ((H3.below B17).below hw) Try.underlying22)) (Below.refl _ _) ?_
  refine EA_take 9 rfl (by kernel_rfl) (by kernel_rfl) (by kernel_rfl) (.int .i64 ((t.length : Int) - 16)) rfl (fun _ hw => r_subi rfl rfl (by omega)) (Below.refl _ _) ?_
  have en2 : ((t.length : Int) - 16 : Int).toNat = (x11 : Int).toNat := by omega
  refine EA_take 10 rfl (by kernel_rfl) (by kernel_rfl) (by kernel_rfl) (cutV v3 (((t.length : Int) - 16 : Int).toNat) t.length) rfl (fun _ hw => r_slice rfl ((H3.below B17).below hw) Try.underlying22 (by kernel_rfl) (((t.length : Int) - 16 : Int).toNat) t.length (by first | omega | (simp; omega) | simp) (by first | omega | (simp; omega) | simp) (.inr ⟨_, _, rfl, (show _ = Value.int .i64 (((t.length : Int) - 16 : Int).toNat : Int) from by rw [Int.toNat_of_nonneg (by omega)]; exact rfl)⟩) (.inl ⟨rfl, by simp⟩)) (Below.refl _ _) ?_
  have R19 : Bs w (cutV v3 (((t.length : Int) - 16 : Int).toNat) t.length) (t.drop (((t.length : Int) - 16 : Int).toNat)) := Bs.from H3 (((t.length : Int) - 16 : Int).toNat) (by first | omega | (simp; omega) | simp)
  have L20 : (t.drop (((t.length : Int) - 16 : Int).toNat)).length = t.length - (((t.length : Int) - 16 : Int).toNat) := by first | (simp; done) | (simp; omega)
  refine EA_take 11 rfl (by kernel_rfl) (by kernel_rfl) (by kernel_rfl) (.string (str (t.drop (((t.length : Int) - 16 : Int).toNat)))) rfl (fun _ hw => r_str rfl ((R19.below B17).below hw) Try.underlying22 Try.underlying5 Try.underlying9) (Below.refl _ _) ?_
  refine EA_call 4 rfl (by kernel_rfl) [v0, v1, v2, (cutV v3 0 ((x11 : Int).toNat))] (.inl rfl) rfl Try.func19 rfl nm19 rfl (rTag5_c v0 k v1 n v2 o (cutV v3 0 ((x11 : Int).toNat)) (t.take ((x11 : Int).toNat)) w14 (H0.below B17) (H1.below B17) (H2.below B17) (R12.below B17) (by first | omega | (simp; done) | (simp; omega)) (by first | omega | (simp; done) | (simp; omega)) (by first | omega | (simp; done) | (simp; omega)) (by first | omega | (simp; done) | (simp; omega))) ?_
  rintro p21 w24 ⟨O22, B23⟩
  have B25 : Below w.heap.size w w24 := below_full B17 B17.size B23
  have B26 : Below w14.heap.size w14 w24 := B23
  refine ⟨B26, ?_⟩
  refine EA_strong (fun w' => Below w24.heap.size w24 w') (fun _ hw => below_full B26 B26.size hw) ?_
  have L27 := ctag_len k n o (t.take ((x11 : Int).toNat))
  refine EA_take 5 rfl (by kernel_rfl) (by kernel_rfl) (by kernel_rfl) (.string (str (ctag k n o (t.take ((x11 : Int).toNat))))) rfl (fun _ hw => r_str rfl ((own_row O22).below hw) Try.underlying22 Try.underlying5 Try.underlying9) (Below.refl _ _) ?_
  refine EA_take 12 rfl (by kernel_rfl) (by kernel_rfl) (by kernel_rfl) (.bool false) rfl (fun _ hw => r_dec (show (decide ((ctag k n o (t.take ((x11 : Int).toNat))) ≠ (t.drop (((t.length : Int) - 16 : Int).toNat)))) = false from by simp only [ne_eq, decide_not, Bool.not_eq_false', Bool.not_eq_eq_eq_not, Bool.not_false, decide_eq_true_eq]; rw [en2]; exact isbox_eq en hb) (r_neqs rfl rfl)) (Below.refl _ _) ?_
  refine EA_done (by kernel_rfl) ?_
  refine thn_n ?_
  refine EC_cond_false rfl ?_
  refine EC_skip ?_
  refine thn_n ?_
  refine EC_seq ?_
  refine EC_reg ?_
  refine EL_val v0 w24 rfl (r_move rfl) ?_
  refine EL_val v1 w24 rfl (r_move rfl) ?_
  refine EL_val (cutV v3 0 ((x11 : Int).toNat)) w24 rfl (r_move rfl) ?_
  have L31 := xo_len k 1 n (t.take ((x11 : Int).toNat))
  refine EL_ret [v0, .int .i64 1, v1, (cutV v3 0 ((x11 : Int).toNat))] rfl Try.func18 rfl nm18 rfl (rXOR_c v0 k 1 v1 n (cutV v3 0 ((x11 : Int).toNat)) (t.take ((x11 : Int).toNat)) w24 (H0.below B25) (H1.below B25) (R12.below B25) (by first | omega | (simp; done) | (simp; omega)) (by first | omega | (simp; done) | (simp; omega)) (by omega) (by first | omega | (simp; done) | (simp; omega))) ?_
  rintro p28 w32 ⟨O29, B30⟩
  have B33 : Below w.heap.size w w32 := below_full B25 B25.size B30
  have B34 : Below w14.heap.size w14 w32 := below_full B26 B26.size B30
  have B35 : Below w24.heap.size w24 w32 := B30
  refine EL_val p28 w32 rfl (r_assign rfl) ?_
  refine EL_val (.bool true) w32 rfl (r_assign rfl) ?_
  refine EL_nil ?_
  refine thn_n ?_
  refine EC_ret ?_
  refine fin2 Try.results13 (show _ = p28 from rfl) (show _ = .bool true from rfl) ⟨_, rfl, ?_⟩
  exact ⟨_, rfl, own_as (own_mono O29 B25.size) (by rw [en]), B33⟩

set_option maxRecDepth 100000 in
set_option maxHeartbeats 4000000 in
theorem rOpen_nobox (v0 : Value) (k : List UInt8) (v1 : Value) (n : List UInt8) (v2 : Value) (o : List UInt8) (v3 : Value) (t : List UInt8) (w : World) (H0 : Bs w v0 k) (H1 : Bs w v1 n) (H2 : Bs w v2 o) (H3 : Bs w v3 t) (hk : k.length = 32) (hn : n.length = 12) (ho : o.length ≤ 100000) (ht : t.length ≤ 100000) (hb : isbox k n o t = false) : Ret Try.prog 13 [v0, v1, v2, v3] w fun v w' => v = .tuple #[.slice none 0 0, .bool false] ∧ Below w.heap.size w w' := by
  refine ret_E Try.func13 rfl Try.ntmps13 (by simp) ?_
  refine EC_seq ?_
  refine EC_reg ?_
  refine EL_val (.slice none 0 0) w rfl (r_assign rfl) ?_
  refine EL_val (.bool false) w rfl (r_assign rfl) ?_
  refine EL_nil ?_
  refine thn_n ?_
  refine EC_seq ?_
  refine EC_seq ?_
  refine EC_reg ?_
  refine EL_val v3 w rfl (r_move rfl) ?_
  refine EL_val (.int .i64 (t.length : Int)) w rfl (lenB (r_len rfl H3 Try.underlying22)) ?_
  refine EL_val (.bool (decide ((t.length : Int) < 16))) w rfl (r_lss rfl rfl) ?_
  refine EL_nil ?_
  refine thn_n ?_
  refine EC_if (p := (t.length : Int) < 16) rfl (fun h11 => ?_) (fun h11 => ?_)
  · refine EC_seq ?_
    refine EC_reg ?_
    refine EL_val (.slice none 0 0) w rfl (r_assign rfl) ?_
    refine EL_val (.bool false) w rfl (r_assign rfl) ?_
    refine EL_nil ?_
    refine thn_n ?_
    refine EC_ret ?_
    refine thn_r ?_
    refine fin2 Try.results13 (show _ = .slice none 0 0 from rfl) (show _ = .bool false from rfl) ⟨_, rfl, ?_⟩
    exact ⟨rfl, (Below.refl _ _)⟩
  · refine EC_skip ?_
    refine thn_n ?_
    refine EC_seq ?_
    refine EC_reg ?_
    refine EL_val v3 w rfl (r_move rfl) ?_
    refine EL_val v3 w rfl (r_move rfl) ?_
    refine EL_val (.int .i64 (t.length : Int)) w rfl (lenB (r_len rfl H3 Try.underlying22)) ?_
    refine EL_int ((t.length : Int) - 16) rfl (r_subi rfl rfl (by omega)) ?_
    intro x12 hx12
    have en : (x12 : Int).toNat = t.length - 16 := by omega
    refine EL_val (cutV v3 0 ((x12 : Int).toNat)) w rfl (r_slice rfl H3 Try.underlying22 (by kernel_rfl) 0 ((x12 : Int).toNat) (by first | omega | (simp; omega) | simp) (by first | omega | (simp; omega) | simp) (.inl ⟨rfl, rfl⟩) (.inr ⟨_, _, rfl, (show _ = Value.int .i64 ((x12 : Int).toNat : Int) from by rw [Int.toNat_of_nonneg (by omega)]; exact rfl)⟩)) ?_
    have R13 : Bs w (cutV v3 0 ((x12 : Int).toNat)) (t.take ((x12 : Int).toNat)) := Bs.upto H3 ((x12 : Int).toNat) (by first | omega | (simp; omega) | simp)
    have L14 : (t.take ((x12 : Int).toNat)).length = ((x12 : Int).toNat) - 0 := by first | (simp; done) | (simp; omega)
    refine EL_val (cutV v3 0 ((x12 : Int).toNat)) w rfl (r_assign rfl) ?_
    refine EL_nil ?_
    refine thn_n ?_
    refine EC_seq ?_
    refine EC_seq ?_
    refine EC_held (fun w' => Below w.heap.size w w') (by kernel_rfl) ?_
    intro w15 B16 z17
    have B18 : Below w.heap.size w w15 := B16
    refine EA_strong (fun w' => Below w15.heap.size w15 w') (fun _ hw => below_full B18 B18.size hw) ?_
    refine EA_take 0 rfl (by kernel_rfl) (by kernel_rfl) (by kernel_rfl) v0 rfl (fun _ hw => r_move rfl) (Below.refl _ _) ?_
    refine EA_take 1 rfl (by kernel_rfl) (by kernel_rfl) (by kernel_rfl) v1 rfl (fun _ hw => r_move rfl) (Below.refl _ _) ?_
    refine EA_take 2 rfl (by kernel_rfl) (by kernel_rfl) (by kernel_rfl) v2 rfl (fun _ hw => r_move rfl) (Below.refl _ _) ?_
    refine EA_take 3 rfl (by kernel_rfl) (by kernel_rfl) (by kernel_rfl) (cutV v3 0 ((x12 : Int).toNat)) rfl (fun _ hw => r_move rfl) (Below.refl _ _) ?_
    refine EA_take 6 rfl (by kernel_rfl) (by kernel_rfl) (by kernel_rfl) v3 rfl (fun _ hw => r_move rfl) (Below.refl _ _) ?_
    refine EA_take 7 rfl (by kernel_rfl) (by kernel_rfl) (by kernel_rfl) v3 rfl (fun _ hw => r_move rfl) (Below.refl _ _) ?_
    refine EA_take 8 rfl (by kernel_rfl) (by kernel_rfl) (by kernel_rfl) (.int .i64 (t.length : Int)) rfl (fun _ hw => lenB (r_len rfl ((H3.below B18).below hw) Try.underlying22)) (Below.refl _ _) ?_
    refine EA_take 9 rfl (by kernel_rfl) (by kernel_rfl) (by kernel_rfl) (.int .i64 ((t.length : Int) - 16)) rfl (fun _ hw => r_subi rfl rfl (by omega)) (Below.refl _ _) ?_
    have en2 : ((t.length : Int) - 16 : Int).toNat = (x12 : Int).toNat := by omega
    refine EA_take 10 rfl (by kernel_rfl) (by kernel_rfl) (by kernel_rfl) (cutV v3 (((t.length : Int) - 16 : Int).toNat) t.length) rfl (fun _ hw => r_slice rfl ((H3.below B18).below hw) Try.underlying22 (by kernel_rfl) (((t.length : Int) - 16 : Int).toNat) t.length (by first | omega | (simp; omega) | simp) (by first | omega | (simp; omega) | simp) (.inr ⟨_, _, rfl, (show _ = Value.int .i64 (((t.length : Int) - 16 : Int).toNat : Int) from by rw [Int.toNat_of_nonneg (by omega)]; exact rfl)⟩) (.inl ⟨rfl, by simp⟩)) (Below.refl _ _) ?_
    have R20 : Bs w (cutV v3 (((t.length : Int) - 16 : Int).toNat) t.length) (t.drop (((t.length : Int) - 16 : Int).toNat)) := Bs.from H3 (((t.length : Int) - 16 : Int).toNat) (by first | omega | (simp; omega) | simp)
    have L21 : (t.drop (((t.length : Int) - 16 : Int).toNat)).length = t.length - (((t.length : Int) - 16 : Int).toNat) := by first | (simp; done) | (simp; omega)
    refine EA_take 11 rfl (by kernel_rfl) (by kernel_rfl) (by kernel_rfl) (.string (str (t.drop (((t.length : Int) - 16 : Int).toNat)))) rfl (fun _ hw => r_str rfl ((R20.below B18).below hw) Try.underlying22 Try.underlying5 Try.underlying9) (Below.refl _ _) ?_
    refine EA_call 4 rfl (by kernel_rfl) [v0, v1, v2, (cutV v3 0 ((x12 : Int).toNat))] (.inl rfl) rfl Try.func19 rfl nm19 rfl (rTag5_c v0 k v1 n v2 o (cutV v3 0 ((x12 : Int).toNat)) (t.take ((x12 : Int).toNat)) w15 (H0.below B18) (H1.below B18) (H2.below B18) (R13.below B18) (by first | omega | (simp; done) | (simp; omega)) (by first | omega | (simp; done) | (simp; omega)) (by first | omega | (simp; done) | (simp; omega)) (by first | omega | (simp; done) | (simp; omega))) ?_
    rintro p22 w25 ⟨O23, B24⟩
    have B26 : Below w.heap.size w w25 := below_full B18 B18.size B24
    have B27 : Below w15.heap.size w15 w25 := B24
    refine ⟨B27, ?_⟩
    refine EA_strong (fun w' => Below w25.heap.size w25 w') (fun _ hw => below_full B27 B27.size hw) ?_
    have L28 := ctag_len k n o (t.take ((x12 : Int).toNat))
    refine EA_take 5 rfl (by kernel_rfl) (by kernel_rfl) (by kernel_rfl) (.string (str (ctag k n o (t.take ((x12 : Int).toNat))))) rfl (fun _ hw => r_str rfl ((own_row O23).below hw) Try.underlying22 Try.underlying5 Try.underlying9) (Below.refl _ _) ?_
    refine EA_take 12 rfl (by kernel_rfl) (by kernel_rfl) (by kernel_rfl) (.bool true) rfl (fun _ hw => r_dec (show (decide ((ctag k n o (t.take ((x12 : Int).toNat))) ≠ (t.drop (((t.length : Int) - 16 : Int).toNat)))) = true from by simp only [ne_eq, decide_not, Bool.not_eq_true', Bool.not_eq_eq_eq_not, Bool.not_true, decide_eq_false_iff_not]; rw [en2]; exact isbox_ne en hb) (r_neqs rfl rfl)) (Below.refl _ _) ?_
    refine EA_done (by kernel_rfl) ?_
    refine thn_n ?_
    refine EC_cond_true rfl ?_
    refine EC_seq ?_
    refine EC_reg ?_
    refine EL_val (.slice none 0 0) w25 rfl (r_assign rfl) ?_
    refine EL_val (.bool false) w25 rfl (r_assign rfl) ?_
    refine EL_nil ?_
    refine thn_n ?_
    refine EC_ret ?_
    refine thn_r ?_
    refine fin2 Try.results13 (show _ = .slice none 0 0 from rfl) (show _ = .bool false from rfl) ⟨_, rfl, ?_⟩
    exact ⟨rfl, B26⟩

end Go.Proofs.Ytlhaojpkejpgfaa
