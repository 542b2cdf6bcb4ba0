import Derived.Test.YtanpinfhlbbjkaaGreatQClientSeesReplay
import Derived.Test.YtanpinfhlbbjkaaGreatQClientSeesDocB
set_option linter.unusedVariables false
set_option linter.unusedSimpArgs false
set_option maxRecDepth 100000
set_option maxHeartbeats 4000000
namespace Go.Proofs.YtanpinfhlbbjkaaGreat
open Go.RowKit Go.Ecal

theorem MDocs_c (v0 : Value) (l : List Doc) (I : Gh) (R : List HP) (w : World) (S : Sat w I (R)) (Q0 : RoX I v0 docR l) (hl : l.length ≤ 1000000) : Ret Tryz.prog 35 [v0] w fun v w' => ∃ v1 : Value, ∃ J : Gh, Gh.le I J ∧ v1 = v ∧ Sat w' J (OwnX 161 docR v1 l :: R) := by
  have lq0 := XRow.le (Q0.row S.le)
  refine ret_E Tryz.func35 rfl Tryz.ntmps35 (by simp) ?_
  refine g14 ?_
  refine vl _ rfl (r_lenX rfl (Q0.row S.le) U73) ?_
  refine g4 ?_
  have S0 : Sat w I (OwnX 161 docR (.slice none 0 0) [] :: R) := OwnX.nil S 161 docR
  have q0 : [] = l.take 0 := by simp
  have S1 := S0.ax0 q0
  refine EC_loop (fun m' E' w' => ∃ j : Nat, ∃ ov : Value, ∃ J : Gh, m' = l.length - j ∧ E' 8 = .int .i64 (j : Int) ∧ E' 3 = ov ∧ E' 2 = .slice none 0 0 ∧ E' 6 = v0 ∧ E' 7 = .int .i64 (l.length : Int) ∧ (j ≤ l.length) ∧ Gh.le I J ∧ Sat w' J (OwnX 161 docR ov (l.take j) :: R)) _ ⟨0, .slice none 0 0, I, rfl, rfl, rfl, rfl, rfl, rfl, Nat.zero_le _, (Gh.le_refl _), S1⟩ ?_
  rintro _ E0 w0 ⟨j, ov, I0, rfl, e0, e1, e2, e3, e4, hj, le0, S2⟩
  refine g6 ?_
  refine EC_if rfl (fun h0 => ?_) (fun h0 => ?_)
  refine g6 ?_
  refine vl (ptr (blkOf v0) (offOf v0 + ((j : Int) : Int).toNat * 2)) rfl (r_indexX (by exact e3) (Q0.row (lT le0 S2.le)) (by exact e0) (by omega) as' U73 (by kernel_rfl)) ?_
  obtain ⟨a0, ha0⟩ := get_some (l := l) (j := ((j : Int) : Int).toNat) as'
  obtain ⟨cs0, hc0, he0⟩ := Q0.el ha0
  obtain ⟨v2, v3, rfl, ⟨o0, H0⟩, ⟨o1, H1⟩⟩ := hc0
  refine vl (.agg ([v2, v3]).toArray) rfl (r_loadR (cs := [v2, v3]) rfl (he0 _ (lT le0 S2.le)) U157 rfl (by kernel_rfl)) ?_
  refine yN [.slice none 0 0, .slice none 0 0] S2 ?_
  intro b0 w1 S3
  refine yW0 S3 ?_ (h1 := ones_cons o0 (ones_cons o1 ones_nil))
  intro w2 S4
  refine g5 ?_
  refine EL_litW (z := #[.slice none 0 0, .slice none 0 0]) (cs := ([v2, v3]).toArray) (sz := 2) (l := [(0, .agg ([v2, v3]).toArray)]) rfl U76 (by kernel_rfl) (parts1 rfl) (by kernel_rfl) rfl (by decide) ?_
  intro v4 w3 O0 B0 k0
  have S5 : Sat _ _ (OwnX 161 docR v4 [a0] :: _) := OwnX.cls (xss := [[v2, v3]]) (.cons ⟨v2, v3, rfl, ⟨o0, (H0.up le0)⟩, ⟨o1, (H1.up le0)⟩⟩ .nil) (S4.newO B0 O0)
  have oH60 := (OwnX.one S5 0 rfl (by decide))
  obtain ⟨I1, le1, S6, H2⟩ := S5.fx0 (by decide)
  refine EL_appX (z := (.agg #[.slice none 0 0, .slice none 0 0])) (bytes := 48) rfl U76 (by kernel_rfl) rfl (by decide) rfl rfl S6.fr1 H2 ac ac ?_
  intro v5 w4 S7
  refine g5 ?_
  refine EL_int ((j : Int) + 1) rfl (r_addi (by exact e0) rfl (by omega)) ?_
  intro x0 hx62
  refine g3 ?_
  have q1 : (l.take j) ++ [a0] = l.take (j + 1) := by rw [List.take_add_one, (show l[j]? = _ from ha0)]; rfl
  have S8 := S7.ax0 q1
  refine ⟨_, ?_, j + 1, v5, I1, rfl, (Eq.trans (show _ = Value.int .i64 x0 from rfl) (congrArg _ (by omega))), rfl, (by exact e2), (by exact e3), (by exact e4), by omega, (lT le0 le1), S8.dr1⟩
  first | omega | (simp; omega)
  refine g12 ?_
  refine f1 Tryz.results35 ?_
  have q2 : l.take j = l := by rw [List.take_of_length_le (by omega)]
  have S9 := S2.ax0 q2
  exact ⟨ov, I0, le0, rfl, S9⟩

theorem Same11_c (v0 : Value) (a : List Doc) (v1 : Value) (b : List Doc) (I : Gh) (R : List HP) (w : World) (S : Sat w I (R)) (Q0 : RoX I v0 docR a) (Q1 : RoX I v1 docR b) : Ret Tryz.prog 34 [v0, v1] w fun v w' => .bool (decide (a = b)) = v ∧ Sat w' I (R) := by
  have lq0 := XRow.le (Q0.row S.le)
  have lq1 := XRow.le (Q1.row S.le)
  refine ret_E Tryz.func34 rfl Tryz.ntmps34 (by simp) ?_
  refine g9 ?_
  refine vl _ rfl (r_lenX rfl (Q0.row S.le) U76) ?_
  refine g1 ?_
  refine vl _ rfl (r_lenX rfl (Q1.row S.le) U76) ?_
  refine g3 ?_
  refine EC_if rfl (fun h0 => ?_) (fun h0 => ?_)
  have hne : ¬ a.length = b.length := by simp at h0; omega
  refine g7 ?_
  refine f1 Tryz.results34 ?_
  exact ⟨(by rw [decide_eq_false (fun h => hne (by rw [h]))]), S⟩
  have hle : a.length = b.length := by simp at h0; omega
  refine g9 ?_
  refine EC_loop (fun m' E' w' => ∃ j : Nat, m' = a.length - j ∧ E' 5 = .int .i64 (j : Int) ∧ E' 0 = v0 ∧ E' 1 = v1 ∧ (j ≤ a.length) ∧ (a.take j = b.take j) ∧ Sat w' I (R)) _ ⟨0, rfl, rfl, rfl, rfl, Nat.zero_le _, by simp, S⟩ ?_
  rintro _ E0 w0 ⟨j, rfl, e0, e1, e2, hj, hab, S0⟩
  refine g5 ?_
  refine vl _ rfl (r_lenX rfl (Q0.row S0.le) U76) ?_
  refine g3 ?_
  refine EC_if rfl (fun h2 => ?_) (fun h2 => ?_)
  refine g5 ?_
  obtain ⟨a0, ha0⟩ := get_some (l := a) (j := ((j : Int) : Int).toNat) as'
  obtain ⟨cs0, hc0, he0⟩ := Q0.el ha0
  obtain ⟨v2, v3, rfl, ⟨o0, H0⟩, ⟨o1, H1⟩⟩ := hc0
  obtain ⟨a1, ha1⟩ := get_some (l := b) (j := ((j : Int) : Int).toNat) as'
  obtain ⟨cs1, hc1, he1⟩ := Q1.el ha1
  obtain ⟨v4, v5, rfl, ⟨o2, H2⟩, ⟨o3, H3⟩⟩ := hc1
  rcases first2 (a0.1 = a1.1) (a0.2 = a1.2) with hq | hq | hq
  have hxy : ¬ a0 = a1 := fun h => hq (by rw [h])
  refine EC_quietB (by kernel_rfl) (by kernel_rfl) ?_
  refine g2 ?_
  refine EQ_val (ptr (blkOf v0) (offOf v0 + ((j : Int) : Int).toNat * 2)) rfl (fun _ hw => r_indexX rfl (XRow.below (Q0.row S0.le) (hp_below hw)) rfl (by omega) as' U76 (by kernel_rfl)) (EQ_val (ptr (blkOf v0) (offOf v0 + ((j : Int) : Int).toNat * 2 + 0)) rfl (fun _ hw => r_fieldP (s := 1) rfl U161 rfl (by kernel_rfl) (by decide) rfl) ?_)
  obtain ⟨cs2, hc2, he2⟩ := Q0.el ha0
  obtain ⟨v6, v7, rfl, ⟨o4, H4⟩, ⟨o5, H5⟩⟩ := hc2
  refine EQ_val v6 rfl (fun _ hw => r_loadF (k := 0) rfl (ElAt.below (he2 _ S0.le) (hp_below hw)) rfl U26 rfl) (EQ_val (.string (str a0.1)) rfl (fun _ hw => r_str rfl ((H4 _ S0.le).below hw) U26 U5 U9) ?_)
  refine g2 ?_
  refine EQ_val (ptr (blkOf v1) (offOf v1 + ((j : Int) : Int).toNat * 2)) rfl (fun _ hw => r_indexX rfl (XRow.below (Q1.row S0.le) (hp_below hw)) rfl (by omega) as' U76 (by kernel_rfl)) (EQ_val (ptr (blkOf v1) (offOf v1 + ((j : Int) : Int).toNat * 2 + 0)) rfl (fun _ hw => r_fieldP (s := 1) rfl U161 rfl (by kernel_rfl) (by decide) rfl) ?_)
  obtain ⟨cs3, hc3, he3⟩ := Q1.el ha1
  obtain ⟨v8, v9, rfl, ⟨o6, H6⟩, ⟨o7, H7⟩⟩ := hc3
  refine EQ_val v8 rfl (fun _ hw => r_loadF (k := 0) rfl (ElAt.below (he3 _ S0.le) (hp_below hw)) rfl U26 rfl) (EQ_val (.string (str a1.1)) rfl (fun _ hw => r_str rfl ((H6 _ S0.le).below hw) U26 U5 U9) (EQ_val _ rfl (fun _ hw => dcT (r_neqs rfl rfl) (by simp [hq])) ?_))
  refine g15 ?_
  refine yE S0 ?_
  intro w1 S1
  refine g13 ?_
  refine f1 Tryz.results34 ?_
  exact ⟨(by rw [decide_eq_false (fun h => hxy (by have h1 := ha0; rw [h] at h1; exact Option.some.inj (h1.symm.trans ha1)))]), S1⟩
  have hxy : ¬ a0 = a1 := fun h => hq.2 (by rw [h])
  refine EC_quietB (by kernel_rfl) (by kernel_rfl) ?_
  refine g2 ?_
  refine EQ_val (ptr (blkOf v0) (offOf v0 + ((j : Int) : Int).toNat * 2)) rfl (fun _ hw => r_indexX rfl (XRow.below (Q0.row S0.le) (hp_below hw)) rfl (by omega) as' U76 (by kernel_rfl)) (EQ_val (ptr (blkOf v0) (offOf v0 + ((j : Int) : Int).toNat * 2 + 0)) rfl (fun _ hw => r_fieldP (s := 1) rfl U161 rfl (by kernel_rfl) (by decide) rfl) ?_)
  obtain ⟨cs4, hc4, he4⟩ := Q0.el ha0
  obtain ⟨v10, v11, rfl, ⟨o8, H8⟩, ⟨o9, H9⟩⟩ := hc4
  refine EQ_val v10 rfl (fun _ hw => r_loadF (k := 0) rfl (ElAt.below (he4 _ S0.le) (hp_below hw)) rfl U26 rfl) (EQ_val (.string (str a0.1)) rfl (fun _ hw => r_str rfl ((H8 _ S0.le).below hw) U26 U5 U9) ?_)
  refine g2 ?_
  refine EQ_val (ptr (blkOf v1) (offOf v1 + ((j : Int) : Int).toNat * 2)) rfl (fun _ hw => r_indexX rfl (XRow.below (Q1.row S0.le) (hp_below hw)) rfl (by omega) as' U76 (by kernel_rfl)) (EQ_val (ptr (blkOf v1) (offOf v1 + ((j : Int) : Int).toNat * 2 + 0)) rfl (fun _ hw => r_fieldP (s := 1) rfl U161 rfl (by kernel_rfl) (by decide) rfl) ?_)
  obtain ⟨cs5, hc5, he5⟩ := Q1.el ha1
  obtain ⟨v12, v13, rfl, ⟨o10, H10⟩, ⟨o11, H11⟩⟩ := hc5
  refine EQ_val v12 rfl (fun _ hw => r_loadF (k := 0) rfl (ElAt.below (he5 _ S0.le) (hp_below hw)) rfl U26 rfl) (EQ_val (.string (str a1.1)) rfl (fun _ hw => r_str rfl ((H10 _ S0.le).below hw) U26 U5 U9) (EQ_val _ rfl (fun _ hw => dcF (r_neqs rfl rfl) (by simp [hq.1])) ?_))
  refine g3 ?_
  refine EQ_gval 30 rfl rfl rfl rfl (ptr (blkOf v0) (offOf v0 + ((j : Int) : Int).toNat * 2)) rfl (fun _ hw => r_indexX rfl (XRow.below (Q0.row S0.le) (hp_below hw)) rfl (by omega) as' U76 (by kernel_rfl)) (EQ_gval 30 rfl rfl rfl rfl (ptr (blkOf v0) (offOf v0 + ((j : Int) : Int).toNat * 2 + 1)) rfl (fun _ hw => r_fieldP (s := 1) rfl U161 rfl (by kernel_rfl) (by decide) rfl) ?_)
  obtain ⟨cs6, hc6, he6⟩ := Q0.el ha0
  obtain ⟨v14, v15, rfl, ⟨o12, H12⟩, ⟨o13, H13⟩⟩ := hc6
  refine EQ_gval 30 rfl rfl rfl rfl v15 rfl (fun _ hw => r_loadF (k := 1) rfl (ElAt.below (he6 _ S0.le) (hp_below hw)) rfl U26 rfl) (EQ_gval 30 rfl rfl rfl rfl (.string (str a0.2)) rfl (fun _ hw => r_str rfl ((H13 _ S0.le).below hw) U26 U5 U9) ?_)
  refine g2 ?_
  refine EQ_gval 30 rfl rfl rfl rfl (ptr (blkOf v1) (offOf v1 + ((j : Int) : Int).toNat * 2)) rfl (fun _ hw => r_indexX rfl (XRow.below (Q1.row S0.le) (hp_below hw)) rfl (by omega) as' U76 (by kernel_rfl)) (EQ_gval 30 rfl rfl rfl rfl (ptr (blkOf v1) (offOf v1 + ((j : Int) : Int).toNat * 2 + 1)) rfl (fun _ hw => r_fieldP (s := 1) rfl U161 rfl (by kernel_rfl) (by decide) rfl) ?_)
  obtain ⟨cs7, hc7, he7⟩ := Q1.el ha1
  obtain ⟨v16, v17, rfl, ⟨o14, H14⟩, ⟨o15, H15⟩⟩ := hc7
  refine EQ_gval 30 rfl rfl rfl rfl v17 rfl (fun _ hw => r_loadF (k := 1) rfl (ElAt.below (he7 _ S0.le) (hp_below hw)) rfl U26 rfl) (EQ_gval 30 rfl rfl rfl rfl (.string (str a1.2)) rfl (fun _ hw => r_str rfl ((H15 _ S0.le).below hw) U26 U5 U9) (EQ_gval 30 rfl rfl rfl rfl _ rfl (fun _ hw => dcT (r_neqs rfl rfl) (by simp [hq.2])) ?_))
  refine g1 ?_
  refine yE S0 ?_
  intro w2 S2
  refine g13 ?_
  refine f1 Tryz.results34 ?_
  exact ⟨(by rw [decide_eq_false (fun h => hxy (by have h1 := ha0; rw [h] at h1; exact Option.some.inj (h1.symm.trans ha1)))]), S2⟩
  have hxy : a0 = a1 := Prod.ext hq.1 hq.2
  refine EC_quietB (by kernel_rfl) (by kernel_rfl) ?_
  refine g2 ?_
  refine EQ_val (ptr (blkOf v0) (offOf v0 + ((j : Int) : Int).toNat * 2)) rfl (fun _ hw => r_indexX rfl (XRow.below (Q0.row S0.le) (hp_below hw)) rfl (by omega) as' U76 (by kernel_rfl)) (EQ_val (ptr (blkOf v0) (offOf v0 + ((j : Int) : Int).toNat * 2 + 0)) rfl (fun _ hw => r_fieldP (s := 1) rfl U161 rfl (by kernel_rfl) (by decide) rfl) ?_)
  obtain ⟨cs8, hc8, he8⟩ := Q0.el ha0
  obtain ⟨v18, v19, rfl, ⟨o16, H16⟩, ⟨o17, H17⟩⟩ := hc8
  refine EQ_val v18 rfl (fun _ hw => r_loadF (k := 0) rfl (ElAt.below (he8 _ S0.le) (hp_below hw)) rfl U26 rfl) (EQ_val (.string (str a0.1)) rfl (fun _ hw => r_str rfl ((H16 _ S0.le).below hw) U26 U5 U9) ?_)
  refine g2 ?_
  refine EQ_val (ptr (blkOf v1) (offOf v1 + ((j : Int) : Int).toNat * 2)) rfl (fun _ hw => r_indexX rfl (XRow.below (Q1.row S0.le) (hp_below hw)) rfl (by omega) as' U76 (by kernel_rfl)) (EQ_val (ptr (blkOf v1) (offOf v1 + ((j : Int) : Int).toNat * 2 + 0)) rfl (fun _ hw => r_fieldP (s := 1) rfl U161 rfl (by kernel_rfl) (by decide) rfl) ?_)
  obtain ⟨cs9, hc9, he9⟩ := Q1.el ha1
  obtain ⟨v20, v21, rfl, ⟨o18, H18⟩, ⟨o19, H19⟩⟩ := hc9
  refine EQ_val v20 rfl (fun _ hw => r_loadF (k := 0) rfl (ElAt.below (he9 _ S0.le) (hp_below hw)) rfl U26 rfl) (EQ_val (.string (str a1.1)) rfl (fun _ hw => r_str rfl ((H18 _ S0.le).below hw) U26 U5 U9) (EQ_val _ rfl (fun _ hw => dcF (r_neqs rfl rfl) (by simp [hq.1])) ?_))
  refine g3 ?_
  refine EQ_gval 30 rfl rfl rfl rfl (ptr (blkOf v0) (offOf v0 + ((j : Int) : Int).toNat * 2)) rfl (fun _ hw => r_indexX rfl (XRow.below (Q0.row S0.le) (hp_below hw)) rfl (by omega) as' U76 (by kernel_rfl)) (EQ_gval 30 rfl rfl rfl rfl (ptr (blkOf v0) (offOf v0 + ((j : Int) : Int).toNat * 2 + 1)) rfl (fun _ hw => r_fieldP (s := 1) rfl U161 rfl (by kernel_rfl) (by decide) rfl) ?_)
  obtain ⟨cs10, hc10, he10⟩ := Q0.el ha0
  obtain ⟨v22, v23, rfl, ⟨o20, H20⟩, ⟨o21, H21⟩⟩ := hc10
  refine EQ_gval 30 rfl rfl rfl rfl v23 rfl (fun _ hw => r_loadF (k := 1) rfl (ElAt.below (he10 _ S0.le) (hp_below hw)) rfl U26 rfl) (EQ_gval 30 rfl rfl rfl rfl (.string (str a0.2)) rfl (fun _ hw => r_str rfl ((H21 _ S0.le).below hw) U26 U5 U9) ?_)
  refine g2 ?_
  refine EQ_gval 30 rfl rfl rfl rfl (ptr (blkOf v1) (offOf v1 + ((j : Int) : Int).toNat * 2)) rfl (fun _ hw => r_indexX rfl (XRow.below (Q1.row S0.le) (hp_below hw)) rfl (by omega) as' U76 (by kernel_rfl)) (EQ_gval 30 rfl rfl rfl rfl (ptr (blkOf v1) (offOf v1 + ((j : Int) : Int).toNat * 2 + 1)) rfl (fun _ hw => r_fieldP (s := 1) rfl U161 rfl (by kernel_rfl) (by decide) rfl) ?_)
  obtain ⟨cs11, hc11, he11⟩ := Q1.el ha1
  obtain ⟨v24, v25, rfl, ⟨o22, H22⟩, ⟨o23, H23⟩⟩ := hc11
  refine EQ_gval 30 rfl rfl rfl rfl v25 rfl (fun _ hw => r_loadF (k := 1) rfl (ElAt.below (he11 _ S0.le) (hp_below hw)) rfl U26 rfl) (EQ_gval 30 rfl rfl rfl rfl (.string (str a1.2)) rfl (fun _ hw => r_str rfl ((H23 _ S0.le).below hw) U26 U5 U9) (EQ_gval 30 rfl rfl rfl rfl _ rfl (fun _ hw => dcF (r_neqs rfl rfl) (by simp [hq.2])) ?_))
  refine g1 ?_
  refine yE S0 ?_
  intro w3 S3
  refine g7 ?_
  refine EL_int ((j : Int) + 1) rfl (r_addi rfl rfl (by omega)) ?_
  intro x0 hx140
  refine g3 ?_
  refine ⟨_, ?_, j + 1, rfl, (Eq.trans (show _ = Value.int .i64 x0 from rfl) (congrArg _ (by omega))), (by exact e1), (by exact e2), by omega, (by rw [List.take_add_one, List.take_add_one, hab, (show a[j]? = _ from ha0), (show b[j]? = _ from ha1), hxy]), S3⟩
  first | omega | (simp; omega)
  refine g11 ?_
  refine f1 Tryz.results34 ?_
  exact ⟨(by rw [decide_eq_true (by rwa [List.take_of_length_le (by omega), List.take_of_length_le (by omega)] at hab)]), S0⟩

end Go.Proofs.YtanpinfhlbbjkaaGreat

namespace Go.Ecal
open Go.RowKit
theorem less_before : ∀ (a b : List UInt8), Op.bytesLess a b = bytesBefore a b
  | [], [] => rfl
  | [], _ :: _ => rfl
  | _ :: _, [] => rfl
  | a :: x, b :: y => by rw [Op.bytesLess, bytesBefore, less_before x y]
section
variable {P : Program} {E : Env} {w : World} {dst : Option Tmp} {ty : TypeId} {pos : String} {aft : Array Edge} {gd : Option (Nat × Bool)} {t t2 : TypeId} {x y : Operand}
theorem r_geqs {a b : List UInt8} (hx : ev E x = .string (str a)) (hy : ev E y = .string (str b)) : Gives P E w ⟨dst, .binOp .geq t x y t2, ty, pos, aft, gd⟩ (.bool (!(bytesBefore a b))) w := by
  simp only [Gives, execOp, hx, hy, eqGuard]; simp [binOp, Op.stringOp, str_list, less_before]
end
end Go.Ecal
namespace Go.Proofs.YtanpinfhlbbjkaaGreat
open Go.RowKit Go.Ecal
/-- What an entry does to a rising list. -/
def apD (K : List Doc) (e : Entry) : List Doc := if e.kind = 1 then putD K e.name e.value else if e.kind = 2 then delD K e.name else K
def ap1 (e : Entry) (x : List Doc × Bool × Bool) (d : Doc) : List Doc × Bool × Bool :=
  (x.1 ++ (if e.kind = 1 ∧ x.2.2 = false ∧ bytesBefore d.1 e.name = false then [(e.name, e.value)] else []) ++ (if d.1 = e.name then [] else [d]), x.2.1 || decide (d.1 = e.name), x.2.2 || decide (e.kind = 1 ∧ x.2.2 = false ∧ bytesBefore d.1 e.name = false))
def apGo (e : Entry) (K : List Doc) : List Doc × Bool × Bool := K.foldl (ap1 e) ([], false, false)
theorem apGo_step {e : Entry} {K : List Doc} {j : Nat} {d : Doc} (hd : K[j]? = some d) : apGo e (K.take (j + 1)) = ap1 e (apGo e (K.take j)) d := by
  rw [apGo, List.take_add_one, hd, Option.toList_some, List.foldl_append]; rfl
section
variable {e : Entry}
theorem ap1_of {bs : List Doc} {th dn s p : Bool} {d : Doc} (hs : decide (d.1 = e.name) = s) (hp : decide (e.kind = 1 ∧ dn = false ∧ bytesBefore d.1 e.name = false) = p) :
    ap1 e (bs, th, dn) d = (bs ++ (if p then [(e.name, e.value)] else []) ++ (if s then [] else [d]), th || s, dn || p) := by
  subst hs hp; simp [ap1]
theorem del_cons (d : Doc) (K : List Doc) (n : List UInt8) : delD (d :: K) n = (if d.1 = n then [] else [d]) ++ delD K n := by
  by_cases h : d.1 = n
  · rw [delD, List.filter_cons_of_neg (by simp [h]), if_pos h]; rfl
  · rw [delD, List.filter_cons_of_pos (by simp [h]), if_neg h]; rfl
theorem ap_done : ∀ (K : List Doc) (a : List Doc) (t : Bool), (K.foldl (ap1 e) (a, t, true)).1 = a ++ delD K e.name ∧ (K.foldl (ap1 e) (a, t, true)).2.2 = true
  | [], a, t => by simp [delD]
  | d :: K, a, t => by
    have hs : ap1 e (a, t, true) d = (a ++ (if d.1 = e.name then [] else [d]), t || decide (d.1 = e.name), true) := by simp [ap1]
    rw [List.foldl_cons, hs, del_cons]
    have := ap_done K (a ++ (if d.1 = e.name then [] else [d])) (t || decide (d.1 = e.name))
    rw [this.1, this.2, List.append_assoc]; exact ⟨rfl, rfl⟩
theorem ap_else (hk : ¬ e.kind = 1) : ∀ (K : List Doc) (a : List Doc) (t u : Bool), (K.foldl (ap1 e) (a, t, u)).1 = a ++ delD K e.name ∧ (K.foldl (ap1 e) (a, t, u)).2.2 = u ∧ (K.foldl (ap1 e) (a, t, u)).2.1 = (t || (lkD K e.name).isSome)
  | [], a, t, u => by simp [delD, lkD]
  | d :: K, a, t, u => by
    have hs : ap1 e (a, t, u) d = (a ++ (if d.1 = e.name then [] else [d]), t || decide (d.1 = e.name), u) := by simp [ap1, hk]
    rw [List.foldl_cons, hs, del_cons]
    have := ap_else hk K (a ++ (if d.1 = e.name then [] else [d])) (t || decide (d.1 = e.name)) u
    rw [this.1, this.2.1, this.2.2, List.append_assoc]
    refine ⟨rfl, rfl, ?_⟩
    by_cases h : d.1 = e.name <;> simp [lkD, h]
theorem ins_first {n v : List UInt8} {K : List Doc} (h : ∀ d ∈ K, bytesBefore n d.1 = true) : insD (n, v) K = (n, v) :: K := by
  cases K with
  | nil => rfl
  | cons y r => rw [insD, if_pos (h y (by simp))]
theorem ap_put (hk : e.kind = 1) : ∀ (K : List Doc) (a : List Doc) (t : Bool), RiseD K → (K.foldl (ap1 e) (a, t, false)).1 ++ (if (K.foldl (ap1 e) (a, t, false)).2.2 = true then [] else [(e.name, e.value)]) = a ++ putD K e.name e.value
  | [], a, t, _ => by simp [putD, delD, insD]
  | d :: K, a, t, hr => by
    have hc := List.pairwise_cons.1 hr
    rw [List.foldl_cons]
    cases hb : bytesBefore d.1 e.name with
    | true =>
      have hne : ¬ d.1 = e.name := fun q => by rw [q, Go.WideAt.bytes_irrefl] at hb; cases hb
      have hs : ap1 e (a, t, false) d = (a ++ [d], t, false) := by simp [ap1, hb, hne]
      rw [hs, ap_put hk K (a ++ [d]) t hc.2, putD, putD, del_cons, if_neg hne, List.append_assoc]
      have hno : ¬ bytesBefore e.name d.1 = true := fun q => by
        have := Go.WideShapes.bytes_trans _ _ _ hb q
        rw [Go.WideAt.bytes_irrefl] at this; cases this
      simp [insD, hno]
    | false =>
      have hs : ap1 e (a, t, false) d = (a ++ [(e.name, e.value)] ++ (if d.1 = e.name then [] else [d]), t || decide (d.1 = e.name), true) := by simp [ap1, hb, hk]
      have hd := ap_done (e := e) K (a ++ [(e.name, e.value)] ++ (if d.1 = e.name then [] else [d])) (t || decide (d.1 = e.name))
      rw [hs, hd.1, hd.2, if_pos rfl, List.append_nil, putD, del_cons]
      by_cases h : d.1 = e.name
      · rw [if_pos h, List.append_nil, List.nil_append, ins_first, List.append_assoc]; rfl
        intro y hy
        have := hc.1 y (List.mem_filter.1 hy).1
        rwa [h] at this
      · have hb2 : bytesBefore e.name d.1 = true := (Go.WideAt.bytes_total d.1 e.name h).resolve_left (by rw [hb]; decide)
        rw [if_neg h]
        simp [insD, hb2, List.append_assoc]
theorem ap_is {K : List Doc} (hr : RiseD K) (hk : 1 ≤ e.kind) (h2 : ¬ 2 < e.kind) : (if e.kind = 1 ∧ (apGo e K).2.2 = false then (apGo e K).1 ++ [(e.name, e.value)] else (apGo e K).1) = apD K e ∧ (e.kind = 2 → (apGo e K).2.1 = (lkD K e.name).isSome) := by
  by_cases h : e.kind = 1
  · refine ⟨?_, fun q => by omega⟩
    rw [apD, if_pos h]
    have := ap_put h K [] false hr
    rw [show K.foldl (ap1 e) ([], false, false) = apGo e K from rfl, List.nil_append] at this
    rw [← this]
    cases (apGo e K).2.2 <;> simp [h]
  · have hq := ap_else h K [] false false
    rw [show K.foldl (ap1 e) ([], false, false) = apGo e K from rfl] at hq
    rw [if_neg (fun q => h q.1), apD, if_neg h, if_pos (by omega), hq.1]
    exact ⟨rfl, fun _ => by rw [hq.2.2]; simp⟩
theorem apD_right {K : List Doc} (h : e.right = true) (hk : e.kind ≠ 5) : applyD K e = apD K e := by
  rw [applyD, if_neg (by rw [h]; decide), apD]
end
end Go.Proofs.YtanpinfhlbbjkaaGreat
