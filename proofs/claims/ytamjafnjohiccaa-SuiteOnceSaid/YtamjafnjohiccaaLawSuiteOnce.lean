/-
  Of signs what was summed and coded ahead is found again, whatever came in between; keys and boxes are new each time.
  Its conditions: none: whatever the input, in whatever memory.
-/
import Derived.Test.YtamjafnjohiccaaRows
import Derived.Test.YtamjafnjohiccaaWalksC
import Derived.Test.YtamjafnjohiccaaOpen
import Derived.ProofKit
import Derived.OpenShut
import Derived.ShutString
import Derived.ChangeOld
set_option linter.unusedVariables false
set_option linter.unusedSimpArgs false
namespace Go.Proofs.Ytamjafnjohiccaa.suiteOnce
open Go.ChangeShapes Go.WideShapes Go.ChangeAt Go.RowKit Go.Ecal
open Go.ChangeMaps (open_string shut_string)
set_option maxRecDepth 100000 in
set_option maxHeartbeats 4000000 in
theorem SuiteOnce_w (v0 : Value) (l : (List (List UInt8))) (v1 : Value) (k : List UInt8) (I : Gh) (R : List HP) (w : World) (S : Sat w I (R)) (Q0 : RoX I v0 bytesR l) (Q1 : RoB I v1 k) : Ret Try.prog 5 [v0, v1] w fun v w' => ∃ J : Gh, Gh.le I J ∧ .bool true = v ∧ Sat w' J (R) := by
  have lq0 := XRow.le (Q0.row S.le)
  have lq1 := RoB.le Q1 S.le
  refine ret_E Try.func5 rfl Try.ntmps5 (by simp) ?_
  refine EC_seq ?_
  refine EC_reg ?_
  refine EL_val (.bool false) w rfl (r_assign rfl) ?_
  refine EL_nil ?_
  refine thn_n ?_
  refine EC_seq ?_
  refine EC_seq ?_
  refine EC_reg ?_
  refine EL_ret [] rfl Try.func10 rfl nm10 rfl (anchor_c I _ _ S) ?_
  rintro _ w11 ⟨I13, le14, rfl, S12⟩
  refine EL_val (.bool false) w11 rfl (r_dec (show (!true) = false from rfl) (r_not rfl)) ?_
  refine EL_nil ?_
  refine thn_n ?_
  refine EC_cond_false rfl ?_
  refine EC_skip ?_
  refine thn_n ?_
  refine EC_seq ?_
  refine EC_seq ?_
  refine EC_reg ?_
  refine EL_val v0 w11 rfl (r_move rfl) ?_
  refine EL_val (.int .i64 (l.length : Int)) w11 rfl (r_lenX rfl (Q0.row (Gh.le_trans le14 S12.le)) Try.underlying36) ?_
  refine EL_val (.bool (decide (20 < (l.length : Int)))) w11 rfl (r_gtr rfl rfl) ?_
  refine EL_val (.bool (decide (20 < (l.length : Int)))) w11 rfl (r_move rfl) ?_
  refine EL_gite 23 rfl rfl rfl v1 rfl (fun g15 => r_move rfl) ?_
  refine EL_gite 23 rfl rfl rfl (.int .i64 (k.length : Int)) rfl (fun g16 => lenB (r_len (cond_of g16 rfl) (Q1 _ (Gh.le_trans le14 S12.le)) Try.underlying22)) ?_
  refine EL_gite 23 rfl rfl rfl (.bool (decide (100 < (k.length : Int)))) rfl (fun g17 => r_gtr (cond_of g17 rfl) rfl) ?_
  refine EL_val (.bool ((decide (20 < (l.length : Int))) || (decide (100 < (k.length : Int))))) w11 rfl (r_or rfl rfl rfl) ?_
  refine EL_nil ?_
  refine thn_n ?_
  refine EC_cond (t := (decide (20 < (l.length : Int))) || (decide (100 < (k.length : Int)))) rfl (fun h18 => ?_) (fun h18 => ?_)
  · simp at h18
    refine EC_seq ?_
    refine EC_reg ?_
    refine EL_val (.bool true) w11 rfl (r_assign rfl) ?_
    refine EL_nil ?_
    refine thn_n ?_
    refine EC_ret ?_
    refine thn_r ?_
    refine fin1 Try.results5 (show _ = .bool true from rfl) ⟨_, rfl, ?_⟩
    exact ⟨I13, le14, rfl, S12⟩
  · simp at h18
    refine EC_skip ?_
    refine thn_n ?_
    refine EC_seq ?_
    refine EC_reg ?_
    refine EL_ret [] rfl Try.func11 rfl nm11 rfl (Signs_c I13 _ _ S12) ?_
    rintro _ w19 ⟨p21, rfl, S20⟩
    refine EL_val p21 w19 rfl (r_assign rfl) ?_
    refine EL_nil ?_
    refine thn_n ?_
    refine EC_seq ?_
    refine EC_reg ?_
    refine EL_val (.slice none 0 0) w19 rfl (r_assign rfl) ?_
    refine EL_val (.slice none 0 0) w19 rfl (r_assign rfl) ?_
    refine EL_nil ?_
    refine thn_n ?_
    refine EC_seq ?_
    refine EC_seq ?_
    refine EC_reg ?_
    refine EL_val v0 w19 rfl (r_move rfl) ?_
    refine EL_val (.int .i64 (l.length : Int)) w19 rfl (r_lenX rfl (Q0.row (Gh.le_trans le14 S20.le)) Try.underlying36) ?_
    refine EL_val (.int .i64 0) w19 rfl (r_move rfl) ?_
    refine EL_nil ?_
    refine thn_n ?_
    refine EC_block ?_
    have S22 : Sat w19 I13 (OwnX 22 bytesR (.slice none 0 0) [] :: Suite p21 ([] : List Thing) :: R) := OwnX.nil S20 22 bytesR
    have S23 : Sat w19 I13 (OwnX 22 bytesR (.slice none 0 0) [] :: OwnX 22 bytesR (.slice none 0 0) [] :: Suite p21 ([] : List Thing) :: R) := OwnX.nil S22 22 bytesR
    refine EC_loop (fun m' E' w' => ∃ j : Nat, ∃ sv : Value, ∃ cv : Value, ∃ L : List Thing, ∃ ss : List (List UInt8), ∃ cs : List (List UInt8), ∃ J : Gh, m' = l.length - j ∧ E' 31 = .int .i64 (j : Int) ∧ E' 6 = sv ∧ E' 7 = cv ∧ E' 0 = v0 ∧ E' 1 = v1 ∧ E' 5 = p21 ∧ E' 29 = v0 ∧ E' 30 = .int .i64 (l.length : Int) ∧ (j ≤ l.length) ∧ (L.length ≤ 3 * j) ∧ (ss.length = j) ∧ (cs.length = j) ∧ (Found k l L ss cs j) ∧ (∀ t ∈ L, t.text.length ≤ 800000000) ∧ Gh.le I13 J ∧ Sat w' J (OwnX 22 bytesR sv ss :: OwnX 22 bytesR cv cs :: Suite p21 L :: R)) _ ⟨0, .slice none 0 0, .slice none 0 0, [], [], [], I13, rfl, rfl, rfl, rfl, rfl, rfl, rfl, rfl, rfl, Nat.zero_le _, by simp, rfl, rfl, Found.none, small_nil, (Gh.le_refl _), S23⟩ ?_
    rintro _ E24 w25 ⟨j, sv, cv, L, ss, cs, I26, rfl, e27, e28, e29, e30, e31, e32, e33, e34, hj, hL, hs, hc, hF, hT, le35, S36⟩
    refine EC_seq ?_
    refine EC_reg ?_
    refine EL_val (.bool (decide ((j : Int) < (l.length : Int)))) w25 rfl (r_lss (by exact e27) (by exact e34)) ?_
    refine EL_nil ?_
    refine thn_n ?_
    refine EC_seq ?_
    refine EC_if (p := (j : Int) < (l.length : Int)) rfl (fun h37 => ?_) (fun h37 => ?_)
    · refine EC_skip ?_
      refine thn_n ?_
      refine EC_seq ?_
      refine EC_block ?_
      refine EC_seq ?_
      refine EC_reg ?_
      refine EL_val (ptr (blkOf v0) (offOf v0 + ((j : Int) : Int).toNat * 1)) w25 rfl (r_indexX (by exact e33) (Q0.row (Gh.le_trans (Gh.le_trans le14 le35) S36.le)) (by exact e27) (by omega) (by first | omega | (simp; omega) | simp) Try.underlying36 (by kernel_rfl)) ?_
      obtain ⟨a38, ha39⟩ := get_some (l := l) (j := ((j : Int) : Int).toNat) (by first | omega | (simp; omega) | simp)
      obtain ⟨cs40, hc41, he42⟩ := Q0.el ha39
      obtain ⟨v43, rfl, o44, H45⟩ := hc41
      refine EL_val v43 w25 rfl (r_load0 rfl (he42 _ (Gh.le_trans (Gh.le_trans le14 le35) S36.le)) Try.underlying22 rfl) ?_
      refine EL_val v43 w25 rfl (r_assign rfl) ?_
      refine EL_nil ?_
      refine thn_n ?_
      refine EC_seq ?_
      refine EC_seq ?_
      refine EC_reg ?_
      refine EL_val v43 w25 rfl (r_move rfl) ?_
      refine EL_val (.int .i64 (a38.length : Int)) w25 rfl (lenB (r_len rfl (H45 _ (Gh.le_trans (Gh.le_trans le14 le35) S36.le)) Try.underlying22)) ?_
      refine EL_val (.bool (decide (100 < (a38.length : Int)))) w25 rfl (r_gtr rfl rfl) ?_
      refine EL_nil ?_
      refine thn_n ?_
      refine EC_if (p := 100 < (a38.length : Int)) rfl (fun h46 => ?_) (fun h46 => ?_)
      · refine EC_seq ?_
        refine EC_reg ?_
        refine EL_val (.bool true) w25 rfl (r_assign rfl) ?_
        refine EL_nil ?_
        refine thn_n ?_
        refine EC_ret ?_
        refine thn_r ?_
        refine inB_r ?_
        refine thn_r ?_
        refine thn_r ?_
        refine inB_r ?_
        refine thn_r ?_
        refine fin1 Try.results5 (show _ = .bool true from rfl) ⟨_, rfl, ?_⟩
        have S47 : Sat w25 I26 (OwnX 22 bytesR cv cs :: Suite p21 L :: R) := S36.drop 0 rfl
        have S48 : Sat w25 I26 (Suite p21 L :: R) := S47.drop 0 rfl
        have S49 : Sat w25 I26 (R) := S48.drop 0 rfl
        exact ⟨I26, (Gh.le_trans le14 le35), rfl, S49⟩
      · refine EC_skip ?_
        refine thn_n ?_
        refine EC_seq ?_
        refine EC_reg ?_
        refine EL_val sv w25 rfl (r_move (by exact e28)) ?_
        refine EL_val p21 w25 rfl (r_move (by exact e32)) ?_
        refine EL_val v43 w25 rfl (r_move rfl) ?_
        refine EL_lit1 (l := [(0, v43)]) w25.heap.size [v43] el_36 rfl (by decide) rfl (Nat.le_refl _) (parts1 rfl) (Eq.trans (show Instr.fill _ _ [(0, v43)] = _ from (fill_one rfl (one_cells o44) (by kernel_rfl) fill_end)) (by kernel_rfl)) ?_
        intro v50 w51 O52 B53 k54
        have S55 : Sat w51 I26 (OwnX 22 bytesR v50 [a38] :: OwnX 22 bytesR sv ss :: OwnX 22 bytesR cv cs :: Suite p21 L :: R) := OwnX.cls (xss := [[v43]]) (.cons ⟨_, rfl, o44, (H45.up (Gh.le_trans le14 le35))⟩ .nil) (S36.newO B53 O52)
        have oH59 := (OwnX.one S55 0 rfl (by decide))
        obtain ⟨I56, le57, S58, H59⟩ : ∃ J : Gh, Gh.le I26 J ∧ Sat w51 J (OwnX 22 bytesR sv ss :: OwnX 22 bytesR cv cs :: Suite p21 L :: R) ∧ RoX J v50 bytesR [a38] := OwnX.frz S55 0 rfl (by decide)
        have S60 : Sat w51 I56 (Suite p21 L :: OwnX 22 bytesR sv ss :: OwnX 22 bytesR cv cs :: R) := S58.cons_front (i := 2) rfl
        refine EL_ret [p21, v50] rfl Try.func12 rfl nm12 rfl (Sum_c p21 L v50 [a38] I56 _ _ S60 H59 (Nat.le_trans (Nat.le_refl _) (by first | decide | (simp; done) | omega | (simp; omega))) (by simp; omega)) ?_
        rintro _ w61 ⟨v63, rfl, S62⟩
        have q65 : signOf 72 (onceN (tSum [a38].flatten) L) = signOf 72 (onceN (tSum a38) L) := by simp only [List.flatten_cons, List.flatten_nil, List.append_nil]
        have S64 : Sat w61 I56 (OwnB v63 (signOf 72 (onceN (tSum a38) L)) :: Suite p21 (onceL (tSum [a38].flatten) L) :: OwnX 22 bytesR sv ss :: OwnX 22 bytesR cv cs :: R) := S62.as 0 rfl (congrArg (fun zz => OwnB v63 zz) q65)
        have q67 : onceL (tSum [a38].flatten) L = onceL (tSum a38) L := by simp only [List.flatten_cons, List.flatten_nil, List.append_nil]
        have S66 : Sat w61 I56 (OwnB v63 (signOf 72 (onceN (tSum a38) L)) :: Suite p21 (onceL (tSum a38) L) :: OwnX 22 bytesR sv ss :: OwnX 22 bytesR cv cs :: R) := S64.as 1 rfl (congrArg (fun zz => Suite p21 zz) q67)
        obtain ⟨I68, le69, S70, H71⟩ : ∃ J : Gh, Gh.le I56 J ∧ Sat w61 J (Suite p21 (onceL (tSum a38) L) :: OwnX 22 bytesR sv ss :: OwnX 22 bytesR cv cs :: R) ∧ Ro J v63 ((signOf 72 (onceN (tSum a38) L)).map byt) := S66.frz 0 rfl
        refine EL_lit1 (l := [(0, v63)]) w61.heap.size [v63] el_36 rfl (by decide) rfl (Nat.le_refl _) (parts1 rfl) (Eq.trans (show Instr.fill _ _ [(0, v63)] = _ from (fill_one rfl (row_cells (H71 _ S70.le)) (by kernel_rfl) fill_end)) (by kernel_rfl)) ?_
        intro v72 w73 O74 B75 k76
        have S77 : Sat w73 I68 (OwnX 22 bytesR v72 [signOf 72 (onceN (tSum a38) L)] :: Suite p21 (onceL (tSum a38) L) :: OwnX 22 bytesR sv ss :: OwnX 22 bytesR cv cs :: R) := OwnX.cls (xss := [[v63]]) (.cons ⟨_, rfl, (row_one (H71 _ S70.le)), H71⟩ .nil) (S70.newO B75 O74)
        have oH84 := (OwnX.one S77 0 rfl (by decide))
        obtain ⟨I81, le82, S83, H84⟩ : ∃ J : Gh, Gh.le I68 J ∧ Sat w73 J (Suite p21 (onceL (tSum a38) L) :: OwnX 22 bytesR sv ss :: OwnX 22 bytesR cv cs :: R) ∧ RoX J v72 bytesR [signOf 72 (onceN (tSum a38) L)] := OwnX.frz S77 0 rfl (by decide)
        have S85 : Sat w73 I81 (OwnX 22 bytesR sv ss :: Suite p21 (onceL (tSum a38) L) :: OwnX 22 bytesR cv cs :: R) := S83.cons_front (i := 1) rfl
        refine EL_appX (z := (.slice none 0 0)) (bytes := 24) rfl Try.underlying36 (by kernel_rfl) rfl (by decide) rfl rfl S85 H84 (by first | omega | (simp; omega)) (by first | omega | (simp; omega)) ?_
        intro v78 w79 S80
        refine EL_val v78 w79 rfl (r_assign rfl) ?_
        refine EL_nil ?_
        refine thn_n ?_
        refine EC_seq ?_
        refine EC_reg ?_
        refine EL_val cv w79 rfl (r_move (by exact e29)) ?_
        refine EL_val p21 w79 rfl (r_move (by exact e32)) ?_
        refine EL_val v1 w79 rfl (r_move (by exact e31)) ?_
        refine EL_val v43 w79 rfl (r_move rfl) ?_
        refine EL_lit1 (l := [(0, v43)]) w79.heap.size [v43] el_36 rfl (by decide) rfl (Nat.le_refl _) (parts1 rfl) (Eq.trans (show Instr.fill _ _ [(0, v43)] = _ from (fill_one rfl (one_cells o44) (by kernel_rfl) fill_end)) (by kernel_rfl)) ?_
        intro v86 w87 O88 B89 k90
        have S91 : Sat w87 I81 (OwnX 22 bytesR v86 [a38] :: OwnX 22 bytesR v78 (ss ++ [signOf 72 (onceN (tSum a38) L)]) :: Suite p21 (onceL (tSum a38) L) :: OwnX 22 bytesR cv cs :: R) := OwnX.cls (xss := [[v43]]) (.cons ⟨_, rfl, o44, (H45.up (Gh.le_trans (Gh.le_trans (Gh.le_trans (Gh.le_trans le14 le35) le57) le69) le82))⟩ .nil) (S80.newO B89 O88)
        have oH95 := (OwnX.one S91 0 rfl (by decide))
        obtain ⟨I92, le93, S94, H95⟩ : ∃ J : Gh, Gh.le I81 J ∧ Sat w87 J (OwnX 22 bytesR v78 (ss ++ [signOf 72 (onceN (tSum a38) L)]) :: Suite p21 (onceL (tSum a38) L) :: OwnX 22 bytesR cv cs :: R) ∧ RoX J v86 bytesR [a38] := OwnX.frz S91 0 rfl (by decide)
        have S96 : Sat w87 I92 (Suite p21 (onceL (tSum a38) L) :: OwnX 22 bytesR v78 (ss ++ [signOf 72 (onceN (tSum a38) L)]) :: OwnX 22 bytesR cv cs :: R) := S94.cons_front (i := 1) rfl
        refine EL_ret [p21, v1, v86] rfl Try.func13 rfl nm13 rfl (Code_c p21 (onceL (tSum a38) L) v1 k v86 [a38] I92 _ _ S96 (Q1.up (Gh.le_trans (Gh.le_trans (Gh.le_trans (Gh.le_trans (Gh.le_trans le14 le35) le57) le69) le82) le93)) H95 (Nat.le_trans (Nat.le_trans (onceL_len _ _) (Nat.succ_le_succ (Nat.le_refl _))) (by first | decide | (simp; done) | omega | (simp; omega))) (by first | assumption | omega | (simp; done) | (simp; omega)) (by simp; omega)) ?_
        rintro _ w97 ⟨v99, rfl, S98⟩
        have q101 : signOf 77 (onceN (tCode k [a38].flatten) (onceL (tSum a38) L)) = signOf 77 (onceN (tCode k a38) (onceL (tSum a38) L)) := by simp only [List.flatten_cons, List.flatten_nil, List.append_nil]
        have S100 : Sat w97 I92 (OwnB v99 (signOf 77 (onceN (tCode k a38) (onceL (tSum a38) L))) :: Suite p21 (onceL (tCode k [a38].flatten) (onceL (tSum a38) L)) :: OwnX 22 bytesR v78 (ss ++ [signOf 72 (onceN (tSum a38) L)]) :: OwnX 22 bytesR cv cs :: R) := S98.as 0 rfl (congrArg (fun zz => OwnB v99 zz) q101)
        have q103 : onceL (tCode k [a38].flatten) (onceL (tSum a38) L) = onceL (tCode k a38) (onceL (tSum a38) L) := by simp only [List.flatten_cons, List.flatten_nil, List.append_nil]
        have S102 : Sat w97 I92 (OwnB v99 (signOf 77 (onceN (tCode k a38) (onceL (tSum a38) L))) :: Suite p21 (onceL (tCode k a38) (onceL (tSum a38) L)) :: OwnX 22 bytesR v78 (ss ++ [signOf 72 (onceN (tSum a38) L)]) :: OwnX 22 bytesR cv cs :: R) := S100.as 1 rfl (congrArg (fun zz => Suite p21 zz) q103)
        obtain ⟨I104, le105, S106, H107⟩ : ∃ J : Gh, Gh.le I92 J ∧ Sat w97 J (Suite p21 (onceL (tCode k a38) (onceL (tSum a38) L)) :: OwnX 22 bytesR v78 (ss ++ [signOf 72 (onceN (tSum a38) L)]) :: OwnX 22 bytesR cv cs :: R) ∧ Ro J v99 ((signOf 77 (onceN (tCode k a38) (onceL (tSum a38) L))).map byt) := S102.frz 0 rfl
        refine EL_lit1 (l := [(0, v99)]) w97.heap.size [v99] el_36 rfl (by decide) rfl (Nat.le_refl _) (parts1 rfl) (Eq.trans (show Instr.fill _ _ [(0, v99)] = _ from (fill_one rfl (row_cells (H107 _ S106.le)) (by kernel_rfl) fill_end)) (by kernel_rfl)) ?_
        intro v108 w109 O110 B111 k112
        have S113 : Sat w109 I104 (OwnX 22 bytesR v108 [signOf 77 (onceN (tCode k a38) (onceL (tSum a38) L))] :: Suite p21 (onceL (tCode k a38) (onceL (tSum a38) L)) :: OwnX 22 bytesR v78 (ss ++ [signOf 72 (onceN (tSum a38) L)]) :: OwnX 22 bytesR cv cs :: R) := OwnX.cls (xss := [[v99]]) (.cons ⟨_, rfl, (row_one (H107 _ S106.le)), H107⟩ .nil) (S106.newO B111 O110)
        have oH120 := (OwnX.one S113 0 rfl (by decide))
        obtain ⟨I117, le118, S119, H120⟩ : ∃ J : Gh, Gh.le I104 J ∧ Sat w109 J (Suite p21 (onceL (tCode k a38) (onceL (tSum a38) L)) :: OwnX 22 bytesR v78 (ss ++ [signOf 72 (onceN (tSum a38) L)]) :: OwnX 22 bytesR cv cs :: R) ∧ RoX J v108 bytesR [signOf 77 (onceN (tCode k a38) (onceL (tSum a38) L))] := OwnX.frz S113 0 rfl (by decide)
        have S121 : Sat w109 I117 (OwnX 22 bytesR cv cs :: Suite p21 (onceL (tCode k a38) (onceL (tSum a38) L)) :: OwnX 22 bytesR v78 (ss ++ [signOf 72 (onceN (tSum a38) L)]) :: R) := S119.cons_front (i := 2) rfl
        refine EL_appX (z := (.slice none 0 0)) (bytes := 24) rfl Try.underlying36 (by kernel_rfl) rfl (by decide) rfl rfl S121 H120 (by first | omega | (simp; omega)) (by first | omega | (simp; omega)) ?_
        intro v114 w115 S116
        refine EL_val v114 w115 rfl (r_assign rfl) ?_
        refine EL_nil ?_
        refine thn_n ?_
        refine EC_reg ?_
        refine EL_val p21 w115 rfl (r_move (by exact e32)) ?_
        have S122 : Sat w115 I117 (Suite p21 (onceL (tCode k a38) (onceL (tSum a38) L)) :: OwnX 22 bytesR v114 (cs ++ [signOf 77 (onceN (tCode k a38) (onceL (tSum a38) L))]) :: OwnX 22 bytesR v78 (ss ++ [signOf 72 (onceN (tSum a38) L)]) :: R) := S116.cons_front (i := 1) rfl
        refine EL_ret [p21] rfl Try.func14 rfl nm14 rfl (Key_c p21 (onceL (tCode k a38) (onceL (tSum a38) L)) I117 _ _ S122 (Nat.le_trans (Nat.le_trans (onceL_len _ _) (Nat.succ_le_succ (Nat.le_trans (onceL_len _ _) (Nat.succ_le_succ (Nat.le_refl _))))) (by first | decide | (simp; done) | omega | (simp; omega)))) ?_
        rintro _ w123 ⟨v125, rfl, S124⟩
        refine EL_nil ?_
        refine inB_n ?_
        refine thn_n ?_
        refine EC_reg ?_
        refine EL_int ((j : Int) + 1) rfl (r_addi (by exact e27) rfl (by omega)) ?_
        intro x126 hx126
        refine EL_val (.int .i64 x126) w123 rfl (r_move rfl) ?_
        refine EL_nil ?_
        refine thn_n ?_
        have S127 : Sat w123 I117 (Suite p21 ((onceL (tCode k a38) (onceL (tSum a38) L)) ++ [tKey]) :: OwnX 22 bytesR v114 (cs ++ [signOf 77 (onceN (tCode k a38) (onceL (tSum a38) L))]) :: OwnX 22 bytesR v78 (ss ++ [signOf 72 (onceN (tSum a38) L)]) :: R) := S124.drop 0 rfl
        have S128 : Sat w123 I117 (Suite p21 ((onceL (tCode k a38) (onceL (tSum a38) L)) ++ [tKey]) :: OwnX 22 bytesR v114 (cs ++ [signOf 77 (onceN (tCode k a38) (onceL (tSum a38) L))]) :: OwnX 22 bytesR v78 (ss ++ [signOf 72 (onceN (tSum a38) L)]) :: R) := S127.cons_front (i := 0) rfl
        have S129 : Sat w123 I117 (OwnX 22 bytesR v114 (cs ++ [signOf 77 (onceN (tCode k a38) (onceL (tSum a38) L))]) :: Suite p21 ((onceL (tCode k a38) (onceL (tSum a38) L)) ++ [tKey]) :: OwnX 22 bytesR v78 (ss ++ [signOf 72 (onceN (tSum a38) L)]) :: R) := S128.cons_front (i := 1) rfl
        have S130 : Sat w123 I117 (OwnX 22 bytesR v78 (ss ++ [signOf 72 (onceN (tSum a38) L)]) :: OwnX 22 bytesR v114 (cs ++ [signOf 77 (onceN (tCode k a38) (onceL (tSum a38) L))]) :: Suite p21 ((onceL (tCode k a38) (onceL (tSum a38) L)) ++ [tKey]) :: R) := S129.cons_front (i := 2) rfl
        refine ⟨_, ?_, j + 1, v78, v114, (onceL (tCode k a38) (onceL (tSum a38) L)) ++ [tKey], ss ++ [signOf 72 (onceN (tSum a38) L)], cs ++ [signOf 77 (onceN (tCode k a38) (onceL (tSum a38) L))], I117, rfl, (Eq.trans (show _ = Value.int .i64 x126 from rfl) (congrArg _ (by omega))), rfl, rfl, (by exact e30), (by exact e31), (by exact e32), (by exact e33), (by exact e34), by omega, (Nat.le_trans (Nat.le_trans (Nat.le_of_eq (List.length_append ..)) (Nat.succ_le_succ (Nat.le_trans (onceL_len _ _) (Nat.succ_le_succ (Nat.le_trans (onceL_len _ _) (Nat.succ_le_succ (Nat.le_refl _))))))) (by omega)), by simp; omega, by simp; omega, hF.next ha39 hs hc (by omega), (small_snoc (small_once (small_once hT (by dsimp only; omega)) (by dsimp only; omega)) (by decide)), (Gh.le_trans (Gh.le_trans (Gh.le_trans (Gh.le_trans (Gh.le_trans (Gh.le_trans le35 le57) le69) le82) le93) le105) le118), S130⟩
        first | omega | (simp; omega)
    · refine EC_exit ?_
      refine thn_x ?_
      refine thn_x ?_
      refine inB_hit ?_
      refine thn_n ?_
      refine EC_seq ?_
      refine EC_reg ?_
      have oH134 := (OwnX.one S36 0 rfl (by decide))
      obtain ⟨I131, le132, S133, H134⟩ : ∃ J : Gh, Gh.le I26 J ∧ Sat w25 J (OwnX 22 bytesR cv cs :: Suite p21 L :: R) ∧ RoX J sv bytesR ss := OwnX.frz S36 0 rfl (by decide)
      have oH138 := (OwnX.one S133 0 rfl (by decide))
      obtain ⟨I135, le136, S137, H138⟩ : ∃ J : Gh, Gh.le I131 J ∧ Sat w25 J (Suite p21 L :: R) ∧ RoX J cv bytesR cs := OwnX.frz S133 0 rfl (by decide)
      refine EL_val p21 w25 rfl (r_move (by exact e32)) ?_
      refine EL_ret [p21] rfl Try.func17 rfl nm17 rfl (Count_c p21 L I135 _ _ S137 (Nat.le_trans (Nat.le_refl _) (by first | decide | (simp; done) | omega | (simp; omega)))) ?_
      rintro _ w139 ⟨rfl, S140⟩
      refine EL_val (.int .i64 (L.length : Int)) w139 rfl (r_assign rfl) ?_
      refine EL_nil ?_
      refine thn_n ?_
      refine EC_seq ?_
      refine EC_seq ?_
      refine EC_reg ?_
      refine EL_val v0 w139 rfl (r_move (by exact e30)) ?_
      refine EL_val (.int .i64 (l.length : Int)) w139 rfl (r_lenX rfl (Q0.row (Gh.le_trans (Gh.le_trans (Gh.le_trans (Gh.le_trans le14 le35) le132) le136) S140.le)) Try.underlying36) ?_
      refine EL_val (.int .i64 0) w139 rfl (r_move rfl) ?_
      refine EL_nil ?_
      refine thn_n ?_
      refine EC_block ?_
      refine EC_loop (fun m' E' w' => ∃ q : Nat, ∃ J : Gh, m' = l.length - q ∧ E' 60 = .int .i64 (q : Int) ∧ E' 1 = v1 ∧ E' 5 = p21 ∧ E' 6 = sv ∧ E' 7 = cv ∧ E' 10 = .int .i64 (L.length : Int) ∧ E' 58 = v0 ∧ E' 59 = .int .i64 (l.length : Int) ∧ (q ≤ l.length) ∧ Gh.le I135 J ∧ Sat w' J (Suite p21 L :: R)) _ ⟨0, I135, rfl, rfl, (by exact e31), (by exact e32), (by exact e28), (by exact e29), rfl, rfl, rfl, Nat.zero_le _, (Gh.le_refl _), S140⟩ ?_
      rintro _ E141 w142 ⟨q, I143, rfl, e144, e145, e146, e147, e148, e149, e150, e151, hq, le152, S153⟩
      refine EC_seq ?_
      refine EC_reg ?_
      refine EL_val (.bool (decide ((q : Int) < (l.length : Int)))) w142 rfl (r_lss (by exact e144) (by exact e151)) ?_
      refine EL_nil ?_
      refine thn_n ?_
      refine EC_seq ?_
      refine EC_if (p := (q : Int) < (l.length : Int)) rfl (fun h154 => ?_) (fun h154 => ?_)
      · refine EC_skip ?_
        refine thn_n ?_
        refine EC_seq ?_
        refine EC_block ?_
        refine EC_seq ?_
        refine EC_reg ?_
        refine EL_val (.int .i64 (q : Int)) w142 rfl (r_move (by exact e144)) ?_
        refine EL_val (ptr (blkOf v0) (offOf v0 + ((q : Int) : Int).toNat * 1)) w142 rfl (r_indexX (by exact e150) (Q0.row (Gh.le_trans (Gh.le_trans (Gh.le_trans (Gh.le_trans (Gh.le_trans le14 le35) le132) le136) le152) S153.le)) (by exact e144) (by omega) (by first | omega | (simp; omega) | simp) Try.underlying36 (by kernel_rfl)) ?_
        obtain ⟨a155, ha156⟩ := get_some (l := l) (j := ((q : Int) : Int).toNat) (by first | omega | (simp; omega) | simp)
        obtain ⟨cs157, hc158, he159⟩ := Q0.el ha156
        obtain ⟨v160, rfl, o161, H162⟩ := hc158
        refine EL_val v160 w142 rfl (r_load0 rfl (he159 _ (Gh.le_trans (Gh.le_trans (Gh.le_trans (Gh.le_trans (Gh.le_trans le14 le35) le132) le136) le152) S153.le)) Try.underlying22 rfl) ?_
        refine EL_val (.int .i64 (q : Int)) w142 rfl (r_assign rfl) ?_
        refine EL_val v160 w142 rfl (r_assign rfl) ?_
        refine EL_nil ?_
        refine thn_n ?_
        refine EC_seq ?_
        obtain ⟨m, m2, hbl, hm, hss, hm2, hcs⟩ := hF q a155 (by omega) ha156
        · refine EC_any 16 (fun w' => Gh.le I143 (gh w')) (fun w' => True) (by kernel_rfl) ?_
          intro w163 B164
          have S165 : Sat w163 I143 (Suite p21 L :: R) := S153.below B164
          refine EJ_take 0 rfl (by kernel_rfl) (by kernel_rfl) (by kernel_rfl) rfl (by kernel_rfl) p21 rfl (fun _ hw ht => r_move (by exact e146)) ⟨S165.le, fun h => trivial⟩ ?_
          refine EJ_take 1 rfl (by kernel_rfl) (by kernel_rfl) (by kernel_rfl) rfl (by kernel_rfl) v160 rfl (fun _ hw ht => r_move rfl) ⟨S165.le, fun h => trivial⟩ ?_
          refine EJ_take 5 rfl (by kernel_rfl) (by kernel_rfl) (by kernel_rfl) rfl (by kernel_rfl) sv rfl (fun _ hw ht => r_move (by exact e147)) ⟨S165.le, fun h => trivial⟩ ?_
          refine EJ_take 6 rfl (by kernel_rfl) (by kernel_rfl) (by kernel_rfl) rfl (by kernel_rfl) (.int .i64 (q : Int)) rfl (fun _ hw ht => r_move rfl) ⟨S165.le, fun h => trivial⟩ ?_
          refine EJ_take 7 rfl (by kernel_rfl) (by kernel_rfl) (by kernel_rfl) rfl (by kernel_rfl) (ptr (blkOf sv) (offOf sv + ((q : Int) : Int).toNat * 1)) rfl (fun _ hw ht => r_indexX rfl (H134.row (Gh.le_trans (Gh.le_trans le136 le152) hw)) rfl (by omega) (by first | omega | (simp; omega) | simp) Try.underlying36 (by kernel_rfl)) ⟨S165.le, fun h => trivial⟩ ?_
          obtain ⟨cs166, hc167, he168⟩ := H134.el hss
          obtain ⟨v169, rfl, o170, H171⟩ := hc167
          refine EJ_take 8 rfl (by kernel_rfl) (by kernel_rfl) (by kernel_rfl) rfl (by kernel_rfl) v169 rfl (fun _ hw ht => r_load0 rfl (he168 _ (Gh.le_trans (Gh.le_trans le136 le152) hw)) Try.underlying22 rfl) ⟨S165.le, fun h => trivial⟩ ?_
          refine EJ_take 9 rfl (by kernel_rfl) (by kernel_rfl) (by kernel_rfl) rfl (by kernel_rfl) (.string (str (signOf 72 ((m : Int) + 1)))) rfl (fun _ hw ht => r_str rfl (H171 _ (Gh.le_trans (Gh.le_trans le136 le152) hw)) Try.underlying22 Try.underlying5 Try.underlying9) ⟨S165.le, fun h => trivial⟩ ?_
          refine EJ_one 2 (by kernel_rfl) ⟨_, rfl, ?_⟩
          refine EL_lit1 (l := [(0, v160)]) w163.heap.size [v160] el_36 rfl (by decide) rfl (Nat.le_refl _) (parts1 rfl) (Eq.trans (show Instr.fill _ _ [(0, v160)] = _ from (fill_one rfl (one_cells o161) (by kernel_rfl) fill_end)) (by kernel_rfl)) ?_
          intro v172 w173 O174 B175 k176
          have S177 : Sat w173 I143 (OwnX 22 bytesR v172 [a155] :: Suite p21 L :: R) := OwnX.cls (xss := [[v160]]) (.cons ⟨_, rfl, o161, (H162.up (Gh.le_trans (Gh.le_trans (Gh.le_trans (Gh.le_trans le14 le35) le132) le136) le152))⟩ .nil) (S165.newO B175 O174)
          refine EL_nil ?_
          refine ⟨rfl, ⟨S177.le, fun h => trivial⟩, ?_⟩
          refine EJ_one 3 (by kernel_rfl) ⟨_, rfl, ?_⟩
          have oH181 := (OwnX.one S177 0 rfl (by decide))
          obtain ⟨I178, le179, S180, H181⟩ : ∃ J : Gh, Gh.le I143 J ∧ Sat w173 J (Suite p21 L :: R) ∧ RoX J v172 bytesR [a155] := OwnX.frz S177 0 rfl (by decide)
          refine EL_ret [p21, v172] rfl Try.func12 rfl nm12 rfl (Sum_c p21 L v172 [a155] I178 _ _ S180 H181 (Nat.le_trans (Nat.le_refl _) (by first | decide | (simp; done) | omega | (simp; omega))) (by simp; omega)) ?_
          rintro _ w182 ⟨v184, rfl, S183⟩
          have q186 : signOf 72 (onceN (tSum [a155].flatten) L) = signOf 72 (onceN (tSum a155) L) := by simp only [List.flatten_cons, List.flatten_nil, List.append_nil]
          have S185 : Sat w182 I178 (OwnB v184 (signOf 72 (onceN (tSum a155) L)) :: Suite p21 (onceL (tSum [a155].flatten) L) :: R) := S183.as 0 rfl (congrArg (fun zz => OwnB v184 zz) q186)
          have q188 : onceL (tSum [a155].flatten) L = onceL (tSum a155) L := by simp only [List.flatten_cons, List.flatten_nil, List.append_nil]
          have S187 : Sat w182 I178 (OwnB v184 (signOf 72 (onceN (tSum a155) L)) :: Suite p21 (onceL (tSum a155) L) :: R) := S185.as 1 rfl (congrArg (fun zz => Suite p21 zz) q188)
          have q190 : signOf 72 (onceN (tSum a155) L) = signOf 72 ((m : Int) + 1) := by rw [onceN_of hm]; rfl
          have S189 : Sat w182 I178 (OwnB v184 (signOf 72 ((m : Int) + 1)) :: Suite p21 (onceL (tSum a155) L) :: R) := S187.as 0 rfl (congrArg (fun zz => OwnB v184 zz) q190)
          have q192 : onceL (tSum a155) L = L := onceL_of hm
          have S191 : Sat w182 I178 (OwnB v184 (signOf 72 ((m : Int) + 1)) :: Suite p21 L :: R) := S189.as 1 rfl (congrArg (fun zz => Suite p21 zz) q192)
          refine EL_nil ?_
          refine ⟨rfl, ⟨(Gh.le_trans le179 S191.le), fun h => trivial⟩, ?_⟩
          refine EJ_strong (fun w' => Gh.le I178 (gh w')) _ (fun w' hw => Gh.le_trans le179 hw) (fun w' _ ht => ht) ?_
          obtain ⟨I193, le194, S195, H196⟩ : ∃ J : Gh, Gh.le I178 J ∧ Sat w182 J (Suite p21 L :: R) ∧ Ro J v184 ((signOf 72 ((m : Int) + 1)).map byt) := S191.frz 0 rfl
          refine EJ_strong (fun w' => Gh.le I193 (gh w')) _ (fun w' hw => Gh.le_trans le194 hw) (fun w' _ ht => ht) ?_
          refine EJ_take 4 rfl (by kernel_rfl) (by kernel_rfl) (by kernel_rfl) rfl (by kernel_rfl) (.string (str (signOf 72 ((m : Int) + 1)))) rfl (fun _ hw ht => r_str rfl (H196 _ hw) Try.underlying22 Try.underlying5 Try.underlying9) ⟨S195.le, fun h => trivial⟩ ?_
          refine EJ_take 10 rfl (by kernel_rfl) (by kernel_rfl) (by kernel_rfl) rfl (by kernel_rfl) (.bool false) rfl (fun _ hw ht => r_dec (show decide ((signOf 72 ((m : Int) + 1)) ≠ (signOf 72 ((m : Int) + 1))) = false from by simp) (r_neqs rfl rfl)) ⟨S195.le, fun h => trivial⟩ ?_
          refine EJ_take 11 rfl (by kernel_rfl) (by kernel_rfl) (by kernel_rfl) rfl (by kernel_rfl) (.bool false) rfl (fun _ hw ht => r_move rfl) ⟨S195.le, fun h => trivial⟩ ?_
          refine EJ_gtake 12 rfl (by kernel_rfl) (by kernel_rfl) (by kernel_rfl) rfl (by kernel_rfl) 76 rfl rfl rfl rfl p21 rfl (fun _ hw ht => r_move (by exact e146)) ⟨S195.le, fun h => trivial⟩ ?_
          refine EJ_gtake 13 rfl (by kernel_rfl) (by kernel_rfl) (by kernel_rfl) rfl (by kernel_rfl) 76 rfl rfl rfl rfl v1 rfl (fun _ hw ht => r_move (by exact e145)) ⟨S195.le, fun h => trivial⟩ ?_
          refine EJ_gtake 14 rfl (by kernel_rfl) (by kernel_rfl) (by kernel_rfl) rfl (by kernel_rfl) 76 rfl rfl rfl rfl v160 rfl (fun _ hw ht => r_move rfl) ⟨S195.le, fun h => trivial⟩ ?_
          refine EJ_gfloat 18 rfl (by kernel_rfl) (by kernel_rfl) (by kernel_rfl) rfl 76 rfl rfl rfl rfl cv rfl (fun _ hw => r_move (by exact e148)) ⟨S195.le, fun h => trivial⟩ ?_
          refine EJ_gfloat 19 rfl (by kernel_rfl) (by kernel_rfl) (by kernel_rfl) rfl 76 rfl rfl rfl rfl (.int .i64 (q : Int)) rfl (fun _ hw => r_move rfl) ⟨S195.le, fun h => trivial⟩ ?_
          refine EJ_gfloat 20 rfl (by kernel_rfl) (by kernel_rfl) (by kernel_rfl) rfl 76 rfl rfl rfl rfl (ptr (blkOf cv) (offOf cv + ((q : Int) : Int).toNat * 1)) rfl (fun _ hw => r_indexX rfl (H138.row (Gh.le_trans (Gh.le_trans (Gh.le_trans le152 le179) le194) hw)) rfl (by omega) (by first | omega | (simp; omega) | simp) Try.underlying36 (by kernel_rfl)) ⟨S195.le, fun h => trivial⟩ ?_
          obtain ⟨cs197, hc198, he199⟩ := H138.el hcs
          obtain ⟨v200, rfl, o201, H202⟩ := hc198
          refine EJ_gfloat 21 rfl (by kernel_rfl) (by kernel_rfl) (by kernel_rfl) rfl 76 rfl rfl rfl rfl v200 rfl (fun _ hw => r_load0 rfl (he199 _ (Gh.le_trans (Gh.le_trans (Gh.le_trans le152 le179) le194) hw)) Try.underlying22 rfl) ⟨S195.le, fun h => trivial⟩ ?_
          refine EJ_gfloat 22 rfl (by kernel_rfl) (by kernel_rfl) (by kernel_rfl) rfl 76 rfl rfl rfl rfl (.string (str (signOf 77 ((m2 : Int) + 1)))) rfl (fun _ hw => r_str rfl (H202 _ (Gh.le_trans (Gh.le_trans (Gh.le_trans le152 le179) le194) hw)) Try.underlying22 Try.underlying5 Try.underlying9) ⟨S195.le, fun h => trivial⟩ ?_
          refine EJ_one 15 (by kernel_rfl) ⟨_, rfl, ?_⟩
          refine EL_un 76 rfl rfl rfl rfl ?_
          refine EL_lit1 (l := [(0, v160)]) w182.heap.size [v160] el_36 rfl (by decide) rfl (Nat.le_refl _) (parts1 rfl) (Eq.trans (show Instr.fill _ _ [(0, v160)] = _ from (fill_one rfl (one_cells o161) (by kernel_rfl) fill_end)) (by kernel_rfl)) ?_
          intro v203 w204 O205 B206 k207
          have S208 : Sat w204 I193 (OwnX 22 bytesR v203 [a155] :: Suite p21 L :: R) := OwnX.cls (xss := [[v160]]) (.cons ⟨_, rfl, o161, (H162.up (Gh.le_trans (Gh.le_trans (Gh.le_trans (Gh.le_trans (Gh.le_trans (Gh.le_trans le14 le35) le132) le136) le152) le179) le194))⟩ .nil) (S195.newO B206 O205)
          refine EL_nil ?_
          refine ⟨rfl, ⟨S208.le, fun h => trivial⟩, ?_⟩
          refine EJ_one 16 (by kernel_rfl) ⟨_, rfl, ?_⟩
          have oH212 := (OwnX.one S208 0 rfl (by decide))
          obtain ⟨I209, le210, S211, H212⟩ : ∃ J : Gh, Gh.le I193 J ∧ Sat w204 J (Suite p21 L :: R) ∧ RoX J v203 bytesR [a155] := OwnX.frz S208 0 rfl (by decide)
          refine EL_gret 76 rfl rfl rfl rfl [p21, v1, v203] rfl Try.func13 rfl nm13 rfl (Code_c p21 L v1 k v203 [a155] I209 _ _ S211 (Q1.up (Gh.le_trans (Gh.le_trans (Gh.le_trans (Gh.le_trans (Gh.le_trans (Gh.le_trans (Gh.le_trans le14 le35) le132) le136) le152) le179) le194) le210)) H212 (Nat.le_trans (Nat.le_refl _) (by first | decide | (simp; done) | omega | (simp; omega))) (by first | assumption | omega | (simp; done) | (simp; omega)) (by simp; omega)) ?_
          rintro _ w213 ⟨v215, rfl, S214⟩
          have q217 : signOf 77 (onceN (tCode k [a155].flatten) L) = signOf 77 (onceN (tCode k a155) L) := by simp only [List.flatten_cons, List.flatten_nil, List.append_nil]
          have S216 : Sat w213 I209 (OwnB v215 (signOf 77 (onceN (tCode k a155) L)) :: Suite p21 (onceL (tCode k [a155].flatten) L) :: R) := S214.as 0 rfl (congrArg (fun zz => OwnB v215 zz) q217)
          have q219 : onceL (tCode k [a155].flatten) L = onceL (tCode k a155) L := by simp only [List.flatten_cons, List.flatten_nil, List.append_nil]
          have S218 : Sat w213 I209 (OwnB v215 (signOf 77 (onceN (tCode k a155) L)) :: Suite p21 (onceL (tCode k a155) L) :: R) := S216.as 1 rfl (congrArg (fun zz => Suite p21 zz) q219)
          have q221 : signOf 77 (onceN (tCode k a155) L) = signOf 77 ((m2 : Int) + 1) := by rw [onceN_of hm2]; rfl
          have S220 : Sat w213 I209 (OwnB v215 (signOf 77 ((m2 : Int) + 1)) :: Suite p21 (onceL (tCode k a155) L) :: R) := S218.as 0 rfl (congrArg (fun zz => OwnB v215 zz) q221)
          have q223 : onceL (tCode k a155) L = L := onceL_of hm2
          have S222 : Sat w213 I209 (OwnB v215 (signOf 77 ((m2 : Int) + 1)) :: Suite p21 L :: R) := S220.as 1 rfl (congrArg (fun zz => Suite p21 zz) q223)
          refine EL_nil ?_
          refine ⟨rfl, ⟨(Gh.le_trans le210 S222.le), fun h => by cases h⟩, ?_⟩
          refine EJ_strong (fun w' => Gh.le I209 (gh w')) _ (fun w' hw => Gh.le_trans le210 hw) (fun w' _ ht => ht) ?_
          obtain ⟨I224, le225, S226, H227⟩ : ∃ J : Gh, Gh.le I209 J ∧ Sat w213 J (Suite p21 L :: R) ∧ Ro J v215 ((signOf 77 ((m2 : Int) + 1)).map byt) := S222.frz 0 rfl
          refine EJ_strong (fun w' => Gh.le I224 (gh w')) _ (fun w' hw => Gh.le_trans le225 hw) (fun w' _ ht => ht) ?_
          refine EJ_gfloat 17 rfl (by kernel_rfl) (by kernel_rfl) (by kernel_rfl) rfl 76 rfl rfl rfl rfl (.string (str (signOf 77 ((m2 : Int) + 1)))) rfl (fun _ hw => r_str rfl (H227 _ hw) Try.underlying22 Try.underlying5 Try.underlying9) ⟨S226.le, fun h => by cases h⟩ ?_
          refine EJ_gfloat 23 rfl (by kernel_rfl) (by kernel_rfl) (by kernel_rfl) rfl 76 rfl rfl rfl rfl (.bool false) rfl (fun _ hw => r_dec (show decide ((signOf 77 ((m2 : Int) + 1)) ≠ (signOf 77 ((m2 : Int) + 1))) = false from by simp) (r_neqs rfl rfl)) ⟨S226.le, fun h => by cases h⟩ ?_
          refine EJ_float 24 rfl (by kernel_rfl) (by kernel_rfl) (by kernel_rfl) rfl (.bool false) rfl (fun _ hw => r_pickF rfl rfl) ⟨S226.le, fun h => by cases h⟩ ?_
          refine EJ_done (by kernel_rfl) ?_
          refine thn_n ?_
          refine EC_cond_false rfl ?_
          refine EC_skip ?_
          refine inB_n ?_
          refine thn_n ?_
          refine EC_reg ?_
          refine EL_int ((q : Int) + 1) rfl (r_addi (by exact e144) rfl (by omega)) ?_
          intro x228 hx228
          refine EL_val (.int .i64 x228) w213 rfl (r_move rfl) ?_
          refine EL_nil ?_
          refine thn_n ?_
          refine ⟨_, ?_, q + 1, I224, rfl, (Eq.trans (show _ = Value.int .i64 x228 from rfl) (congrArg _ (by omega))), (by exact e145), (by exact e146), (by exact e147), (by exact e148), (by exact e149), (by exact e150), (by exact e151), by omega, (Gh.le_trans (Gh.le_trans (Gh.le_trans (Gh.le_trans le152 le179) le194) le210) le225), S226⟩
          first | omega | (simp; omega)
      · refine EC_exit ?_
        refine thn_x ?_
        refine thn_x ?_
        refine inB_hit ?_
        refine thn_n ?_
        refine EC_seq ?_
        refine EC_seq ?_
        refine EC_reg ?_
        refine EL_val p21 w142 rfl (r_move (by exact e146)) ?_
        refine EL_ret [p21] rfl Try.func17 rfl nm17 rfl (Count_c p21 L I143 _ _ S153 (Nat.le_trans (Nat.le_refl _) (by first | decide | (simp; done) | omega | (simp; omega)))) ?_
        rintro _ w229 ⟨rfl, S230⟩
        refine EL_val (.int .i64 (L.length : Int)) w229 rfl (r_move (by exact e149)) ?_
        refine EL_val (.bool (decide ((L.length : Int) ≠ (L.length : Int)))) w229 rfl (r_neq rfl rfl) ?_
        refine EL_nil ?_
        refine thn_n ?_
        refine EC_cond_false (Eq.trans (show _ = Value.bool (decide ((L.length : Int) ≠ (L.length : Int))) from rfl) (congrArg Value.bool (show (decide ((L.length : Int) ≠ (L.length : Int))) = false from by simp))) ?_
        refine EC_skip ?_
        refine thn_n ?_
        refine EC_seq ?_
        refine EC_reg ?_
        refine EL_val p21 w229 rfl (r_move (by exact e146)) ?_
        refine EL_ret [p21] rfl Try.func14 rfl nm14 rfl (Key_c p21 L I143 _ _ S230 (Nat.le_trans (Nat.le_refl _) (by first | decide | (simp; done) | omega | (simp; omega)))) ?_
        rintro _ w231 ⟨v233, rfl, S232⟩
        refine EL_val v233 w231 rfl (r_assign rfl) ?_
        refine EL_nil ?_
        refine thn_n ?_
        refine EC_seq ?_
        refine EC_reg ?_
        refine EL_val p21 w231 rfl (r_move (by exact e146)) ?_
        refine EL_val v233 w231 rfl (r_move rfl) ?_
        refine EL_make w231.heap.size elB rfl rfl rfl rfl (by omega) (by omega) (by omega) (by omega) (Nat.le_refl _) ?_
        intro v234 w235 O236 B237 k238 z239
        have S240 : Sat w235 I143 (OwnB v234 (List.replicate 12 (0 : UInt8)) :: OwnB v233 (signOf 75 ((L.length : Int) + 1)) :: Suite p21 (L ++ [tKey]) :: R) := S232.newO B237 (own_rep O236)
        obtain ⟨I241, le242, S243, H244⟩ : ∃ J : Gh, Gh.le I143 J ∧ Sat w235 J (OwnB v234 (List.replicate 12 (0 : UInt8)) :: Suite p21 (L ++ [tKey]) :: R) ∧ Ro J v233 ((signOf 75 ((L.length : Int) + 1)).map byt) := S240.frz 1 rfl
        obtain ⟨I245, le246, S247, H248⟩ : ∃ J : Gh, Gh.le I241 J ∧ Sat w235 J (Suite p21 (L ++ [tKey]) :: R) ∧ Ro J v234 ((List.replicate 12 (0 : UInt8)).map byt) := S243.frz 0 rfl
        refine EL_ret [p21, v233, v234, .slice none 0 0, .slice none 0 0] rfl Try.func16 rfl nm16 rfl (SealOk_c p21 (L ++ [tKey]) v233 (signOf 75 ((L.length : Int) + 1)) v234 (List.replicate 12 (0 : UInt8)) (.slice none 0 0) ([] : List UInt8) (.slice none 0 0) ([] : List UInt8) I245 _ _ S247 (H244.up le246) H248 Ro.nil Ro.nil (Nat.le_trans (Nat.le_trans (Nat.le_of_eq (List.length_append ..)) (Nat.succ_le_succ (Nat.le_refl _))) (by first | decide | (simp; done) | omega | (simp; omega))) (by rw [sign_len]; decide) (by decide) (by decide) (by decide) (szOk_iff.2 ⟨rfl, rfl⟩)) ?_
        rintro _ w249 ⟨v251, rfl, S250⟩
        refine EL_val (.tuple #[v251, .int .i64 0]) w249 rfl (r_move rfl) ?_
        refine EL_val v251 w249 rfl (r_extract rfl rfl) ?_
        refine EL_val (.int .i64 0) w249 rfl (r_extract rfl rfl) ?_
        refine EL_val v251 w249 rfl (r_assign rfl) ?_
        refine EL_val (.int .i64 0) w249 rfl (r_assign rfl) ?_
        refine EL_nil ?_
        refine thn_n ?_
        refine EC_seq ?_
        refine EC_reg ?_
        refine EL_val p21 w249 rfl (r_move (by exact e146)) ?_
        refine EL_val v233 w249 rfl (r_move rfl) ?_
        refine EL_make w249.heap.size elB rfl rfl rfl rfl (by omega) (by omega) (by omega) (by omega) (Nat.le_refl _) ?_
        intro v252 w253 O254 B255 k256 z257
        have S258 : Sat w253 I245 (OwnB v252 (List.replicate 12 (0 : UInt8)) :: OwnB v251 (boxOf (((L ++ [tKey]).length : Int) + 1) ([] : List UInt8).length) :: Suite p21 ((L ++ [tKey]) ++ [tBox (signOf 75 ((L.length : Int) + 1)) (List.replicate 12 (0 : UInt8)) ([] : List UInt8) ([] : List UInt8)]) :: R) := S250.newO B255 (own_rep O254)
        obtain ⟨I259, le260, S261, H262⟩ : ∃ J : Gh, Gh.le I245 J ∧ Sat w253 J (OwnB v251 (boxOf (((L ++ [tKey]).length : Int) + 1) ([] : List UInt8).length) :: Suite p21 ((L ++ [tKey]) ++ [tBox (signOf 75 ((L.length : Int) + 1)) (List.replicate 12 (0 : UInt8)) ([] : List UInt8) ([] : List UInt8)]) :: R) ∧ Ro J v252 ((List.replicate 12 (0 : UInt8)).map byt) := S258.frz 0 rfl
        have S263 : Sat w253 I259 (Suite p21 ((L ++ [tKey]) ++ [tBox (signOf 75 ((L.length : Int) + 1)) (List.replicate 12 (0 : UInt8)) ([] : List UInt8) ([] : List UInt8)]) :: OwnB v251 (boxOf (((L ++ [tKey]).length : Int) + 1) ([] : List UInt8).length) :: R) := S261.cons_front (i := 1) rfl
        refine EL_ret [p21, v233, v252, .slice none 0 0, .slice none 0 0] rfl Try.func16 rfl nm16 rfl (SealOk_c p21 ((L ++ [tKey]) ++ [tBox (signOf 75 ((L.length : Int) + 1)) (List.replicate 12 (0 : UInt8)) ([] : List UInt8) ([] : List UInt8)]) v233 (signOf 75 ((L.length : Int) + 1)) v252 (List.replicate 12 (0 : UInt8)) (.slice none 0 0) ([] : List UInt8) (.slice none 0 0) ([] : List UInt8) I259 _ _ S263 (H244.up (Gh.le_trans le246 le260)) H262 Ro.nil Ro.nil (Nat.le_trans (Nat.le_trans (Nat.le_of_eq (List.length_append ..)) (Nat.succ_le_succ (Nat.le_trans (Nat.le_of_eq (List.length_append ..)) (Nat.succ_le_succ (Nat.le_refl _))))) (by first | decide | (simp; done) | omega | (simp; omega))) (by rw [sign_len]; decide) (by decide) (by decide) (by decide) (szOk_iff.2 ⟨rfl, rfl⟩)) ?_
        rintro _ w264 ⟨v266, rfl, S265⟩
        refine EL_val (.tuple #[v266, .int .i64 0]) w264 rfl (r_move rfl) ?_
        refine EL_val v266 w264 rfl (r_extract rfl rfl) ?_
        refine EL_val (.int .i64 0) w264 rfl (r_extract rfl rfl) ?_
        refine EL_val v266 w264 rfl (r_assign rfl) ?_
        refine EL_val (.int .i64 0) w264 rfl (r_assign rfl) ?_
        refine EL_nil ?_
        refine thn_n ?_
        refine EC_seq ?_
        refine EC_reg ?_
        refine EL_val (.int .i64 0) w264 rfl (r_move rfl) ?_
        refine EL_val (.bool true) w264 rfl (r_dec (by decide) (r_eql rfl rfl)) ?_
        refine EL_val (.bool true) w264 rfl (r_move rfl) ?_
        refine EL_gval 113 rfl rfl rfl rfl (.int .i64 0) w264 rfl (r_move rfl) ?_
        refine EL_gval 113 rfl rfl rfl rfl (.bool true) w264 rfl (r_dec (by decide) (r_eql rfl rfl)) ?_
        refine EL_val (.bool true) w264 rfl (r_pickT rfl rfl) ?_
        refine EL_val (.bool true) w264 rfl (r_move rfl) ?_
        refine EL_gval 117 rfl rfl rfl rfl v251 w264 rfl (r_move rfl) ?_
        refine EL_gval 117 rfl rfl rfl rfl (.string (str (boxOf (((L ++ [tKey]).length : Int) + 1) ([] : List UInt8).length))) w264 rfl (r_str rfl (own_row (S265.own 2 rfl)) Try.underlying22 Try.underlying5 Try.underlying9) ?_
        refine EL_gval 117 rfl rfl rfl rfl v266 w264 rfl (r_move rfl) ?_
        refine EL_gval 117 rfl rfl rfl rfl (.string (str (boxOf ((((L ++ [tKey]) ++ [tBox (signOf 75 ((L.length : Int) + 1)) (List.replicate 12 (0 : UInt8)) ([] : List UInt8) ([] : List UInt8)]).length : Int) + 1) ([] : List UInt8).length))) w264 rfl (r_str rfl (own_row (S265.own 0 rfl)) Try.underlying22 Try.underlying5 Try.underlying9) ?_
        refine EL_gval 117 rfl rfl rfl rfl (.bool true) w264 rfl (r_dec (show (decide ((boxOf (((L ++ [tKey]).length : Int) + 1) ([] : List UInt8).length) ≠ (boxOf ((((L ++ [tKey]) ++ [tBox (signOf 75 ((L.length : Int) + 1)) (List.replicate 12 (0 : UInt8)) ([] : List UInt8) ([] : List UInt8)]).length : Int) + 1) ([] : List UInt8).length))) = true from boxes_ne (by first | omega | (simp; omega)) (by first | omega | (simp; omega)) (by first | omega | (simp; omega) | simp)) (r_neqs rfl rfl)) ?_
        refine EL_val (.bool true) w264 rfl (r_pickT rfl rfl) ?_
        refine EL_val (.bool true) w264 rfl (r_move rfl) ?_
        refine EL_gval 124 rfl rfl rfl rfl p21 w264 rfl (r_move (by exact e146)) ?_
        have S267 : Sat w264 I259 (Suite p21 (((L ++ [tKey]) ++ [tBox (signOf 75 ((L.length : Int) + 1)) (List.replicate 12 (0 : UInt8)) ([] : List UInt8) ([] : List UInt8)]) ++ [tBox (signOf 75 ((L.length : Int) + 1)) (List.replicate 12 (0 : UInt8)) ([] : List UInt8) ([] : List UInt8)]) :: OwnB v266 (boxOf ((((L ++ [tKey]) ++ [tBox (signOf 75 ((L.length : Int) + 1)) (List.replicate 12 (0 : UInt8)) ([] : List UInt8) ([] : List UInt8)]).length : Int) + 1) ([] : List UInt8).length) :: OwnB v251 (boxOf (((L ++ [tKey]).length : Int) + 1) ([] : List UInt8).length) :: R) := S265.cons_front (i := 1) rfl
        refine EL_gret 124 rfl rfl rfl rfl [p21] rfl Try.func17 rfl nm17 rfl (Count_c p21 (((L ++ [tKey]) ++ [tBox (signOf 75 ((L.length : Int) + 1)) (List.replicate 12 (0 : UInt8)) ([] : List UInt8) ([] : List UInt8)]) ++ [tBox (signOf 75 ((L.length : Int) + 1)) (List.replicate 12 (0 : UInt8)) ([] : List UInt8) ([] : List UInt8)]) I259 _ _ S267 (Nat.le_trans (Nat.le_trans (Nat.le_of_eq (List.length_append ..)) (Nat.succ_le_succ (Nat.le_trans (Nat.le_of_eq (List.length_append ..)) (Nat.succ_le_succ (Nat.le_trans (Nat.le_of_eq (List.length_append ..)) (Nat.succ_le_succ (Nat.le_refl _))))))) (by first | decide | (simp; done) | omega | (simp; omega)))) ?_
        rintro _ w268 ⟨rfl, S269⟩
        refine EL_gval 124 rfl rfl rfl rfl (.int .i64 (L.length : Int)) w268 rfl (r_move (by exact e149)) ?_
        refine EL_gval 124 rfl rfl rfl rfl (.int .i64 ((L.length : Int) + 3)) w268 rfl (r_addi rfl rfl (by omega)) ?_
        refine EL_gval 124 rfl rfl rfl rfl (.bool true) w268 rfl (r_dec (show (decide (((((L ++ [tKey]) ++ [tBox (signOf 75 ((L.length : Int) + 1)) (List.replicate 12 (0 : UInt8)) ([] : List UInt8) ([] : List UInt8)]) ++ [tBox (signOf 75 ((L.length : Int) + 1)) (List.replicate 12 (0 : UInt8)) ([] : List UInt8) ([] : List UInt8)]).length : Int) = ((L.length : Int) + 3))) = true from by first | omega | (simp; done) | (simp; omega)) (r_eql rfl rfl)) ?_
        refine EL_val (.bool true) w268 rfl (r_pickT rfl rfl) ?_
        refine EL_val (.bool true) w268 rfl (r_assign rfl) ?_
        refine EL_nil ?_
        refine thn_n ?_
        refine EC_ret ?_
        refine fin1 Try.results5 (show _ = .bool true from rfl) ⟨_, rfl, ?_⟩
        have S271 : Sat w268 I259 (OwnB v266 (boxOf ((((L ++ [tKey]) ++ [tBox (signOf 75 ((L.length : Int) + 1)) (List.replicate 12 (0 : UInt8)) ([] : List UInt8) ([] : List UInt8)]).length : Int) + 1) ([] : List UInt8).length) :: OwnB v251 (boxOf (((L ++ [tKey]).length : Int) + 1) ([] : List UInt8).length) :: R) := S269.drop 0 rfl
        have S272 : Sat w268 I259 (OwnB v251 (boxOf (((L ++ [tKey]).length : Int) + 1) ([] : List UInt8).length) :: R) := S271.drop 0 rfl
        have S273 : Sat w268 I259 (R) := S272.drop 0 rfl
        exact ⟨I259, (Gh.le_trans (Gh.le_trans (Gh.le_trans (Gh.le_trans (Gh.le_trans (Gh.le_trans (Gh.le_trans le14 le35) le132) le136) le152) le242) le246) le260), rfl, S273⟩
theorem SuiteOnce_c (v0 : Value) (l : (List (List UInt8))) (v1 : Value) (k : List UInt8) (w : World) (H0 : RoX (gh w) v0 bytesR l) (H1 : Bs w v1 k) : Ret Try.prog 5 [v0, v1] w fun v w' => v = .bool true ∧ Below w.heap.size w w' :=
  (SuiteOnce_w v0 l v1 k (gh w) [] w (Sat.start w) H0 (Row.ro H1)).mono fun v w' h => by obtain ⟨J, le, e, S⟩ := h; exact ⟨e.symm, S.fin le⟩
theorem own : ownKnob Try.prog.godebug = none := by kernel_rfl
theorem laidOut : laidOutB Try.prog = true := by kernel_rfl
set_option maxRecDepth 100000 in
theorem lifted (os : Os) (started : os.Started) (H : Type) (enc : TypeId × Value → H) :
    ReturnsInHanded {} Try.checked os 5 .any (Rows.suiteOnceSpec.pre6 enc Try.prog Try.f5 Rows.suiteOnceRow.domain false) (Rows.suiteOnceSpec.post enc Try.prog Try.f5 false true false false) := by
  refine returnsInHanded_of_change (C := Try.checked) own started (by kernel_rfl) Try.func5
    (ChangeSpec.witness6 (enc := enc) (C := Try.checked) false ⟨#[], #[.slice none 0 0, .slice none 0 0], []⟩ 8 (by kernel_rfl) (by kernel_rfl) (by kernel_rfl) (by kernel_rfl)) ?_
  intro W base args ds gs before hval0 hW hcnd _
  have hval : ∀ (j : Nat) t v, Try.f5.params[j]? = some t → args[j]? = some v → Value.okWide Try.prog W .any base t v := hval0
  have hW' := hW
  obtain ⟨p, q, hA0, hV, rfl, hfz, hnd⟩ := hW
  have hA : DataW.TrodAll enc Try.prog W 0 (fun _ => true) true Try.f5.params.toList args.toList ds p := hA0
  rw [Try.params5] at hA hval
  obtain ⟨v0, vs0, d0, ds0, p0, q0, hargs, rfl, rfl, h0, r0⟩ := trodAll_cons hA
  obtain ⟨v1, vs1, d1, ds1, p1, q1, rfl, rfl, rfl, h1, r1⟩ := trodAll_cons r0
  obtain ⟨rfl, rfl, rfl⟩ := trodAll_nil r1
  obtain rfl : args = #[v0, v1] := by cases args; simp_all
  obtain ⟨rfl, rfl⟩ := trodVars_none hV
  have k0 := h0
  have lt0 : ∀ x ∈ p0, x.block < W.heap.size := by obtain ⟨m, hm⟩ := k0; exact DataW.trod_lt m _ _ _ hm
  obtain ⟨a0, len0, cap0, rfl⟩ := okWide_slice Try.underlying36 (hval 0 36 v0 rfl rfl)
  obtain ⟨b0, H0⟩ : ∃ l, RoX (gh W) (.slice a0 len0 cap0) bytesR l := by
    obtain ⟨fuel, hf⟩ := h0
    obtain ⟨l, v, hv, _, H⟩ := (Opn.list Try.underlying36 (by kernel_rfl) (by decide) (Opn.bytes Try.underlying22 Try.underlying5 (by kernel_rfl))) _ W _ _ _ _ _ hf
    simp [Value.cells] at hv
    subst hv
    exact ⟨l, H⟩
  have k1 := h1
  have lt1 : ∀ x ∈ p1, x.block < W.heap.size := by obtain ⟨m, hm⟩ := k1; exact DataW.trod_lt m _ _ _ hm
  obtain ⟨a1, len1, cap1, rfl⟩ := okWide_slice Try.underlying22 (hval 1 22 v1 rfl rfl)
  obtain ⟨b1, H1⟩ : ∃ l, Bs W (.slice a1 len1 cap1) l := by
    obtain ⟨fuel, hf⟩ := h1
    rcases open_ints Try.underlying22 Try.underlying5 (by kernel_rfl) hf with ⟨hcs, _⟩ | ⟨x, l, c, zs, hcs, _, hl, hm, hz, _, hcell, hwz⟩
    · simp [Value.cells] at hcs
      obtain ⟨rfl, rfl, rfl⟩ := hcs
      exact ⟨[], Row.nil W⟩
    · simp [Value.cells] at hcs
      obtain ⟨rfl, rfl, rfl⟩ := hcs
      exact bs_open hl hm (by simpa using hz) hcell hwz
  clear hA0 hval0
  refine Calls.mono (SuiteOnce_c (.slice a0 len0 cap0) b0 (.slice a1 len1 cap1) b1 W H0 H1) fun e W' ⟨v', he, hv, bel⟩ => ?_
  subst he
  subst hv
  exact ⟨_, rfl, _, _, _, [], _, [], hW', trodAll_mk1 (shut_bool Try.underlying4 _), (trodAll_cons_mk (Below.trod laidOut (by kernel_rfl) (of_decide_eq_true (by kernel_rfl)) k0 bel lt0) (trodAll_cons_mk (Below.trod laidOut (by kernel_rfl) (of_decide_eq_true (by kernel_rfl)) k1 bel lt1) trodAll_mk0)), rfl, bel.frame _, fun h => by cases h⟩
theorem over : Rows.suiteOnceRow.holds Try.pinned (OpenSpec.ofChange Rows.suiteOnceSpec) :=
  OpenClaim.holds_of_wide 5 Try.f5 rfl rfl rfl rfl rfl rfl rfl ⟨rfl, rfl, rfl, rfl, rfl⟩ rfl rfl rfl rfl rfl (by kernel_rfl) Try.func5 (by kernel_rfl)
    (of_decide_eq_true (by kernel_rfl)) (by unfold Func.isWrapper; first | (rw [if_pos (by decide +kernel)]; kernel_rfl) | (rw [if_neg (by decide +kernel)]; exact ⟨rfl, rfl⟩))
    (fun os started H enc _ => lifted os started H enc)
end Go.Proofs.Ytamjafnjohiccaa.suiteOnce
namespace Go.Proofs.Ytamjafnjohiccaa
theorem SuiteOnce_holds : Rows.SuiteOnceSaid := suiteOnce.over
end Go.Proofs.Ytamjafnjohiccaa
