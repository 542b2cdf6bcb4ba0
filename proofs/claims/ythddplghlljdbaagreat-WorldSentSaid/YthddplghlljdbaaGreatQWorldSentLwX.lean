import Derived.Test.YthddplghlljdbaaGreatQWorldSentLwW
set_option linter.unusedVariables false
set_option linter.unusedSimpArgs false
namespace Go.Proofs.YthddplghlljdbaaGreat
open Go.RowKit Go.Ecal
section
variable {L : List Thing} {W : Wld} {o : OpT} {c : Cli} {e : Entry}
structure SentIs (L:List Thing) (W:Wld) (o:OpT) (a:AnsT) (y:World3):Prop where
 ex:∃x,y.2.sent=W.sent++x∧x.length≤1∧(x≠[]→a.e=0∧(o.kind=3∨o.kind=4))
theorem SentIs.no {a:AnsT} {y:World3} (h:y.2.sent=W.sent):SentIs L W o a y:=⟨[],by simpa using h,by simp,fun q=>absurd rfl q⟩
theorem arr_sent {k:PackT}:(W.arrS L k).2.sent=W.sent:=by
 unfold Wld.arrS
 cases W.seat k.c with
 | none=>rfl
 | some x=>dsimp only;split<;>rfl
theorem up_sent {i e:Int} {l:List (List UInt8)} {o:OpT} (hk:o.kind=3∨o.kind=4) (hl:l.length≤1):SentIs L W o ⟨W.upE e l,[]⟩ (L,W.upS i e l):=by
 unfold Wld.upS;split
 ·rename_i h;exact ⟨l,rfl,hl,fun _=>⟨h,hk⟩⟩
 ·exact .no rfl
theorem do_sent:SentIs L W o (W.doA L o) (W.doS L o):=by
 unfold Wld.doS
 split
 ·exact .no rfl
 rename_i h0
 split
 ·refine .no ?_
  unfold Wld.postS
  split
  ·rfl
  ·split
   ·rfl
   ·split
    ·split<;>rfl
    ·split
     ·rfl
     ·exact arr_sent
 rename_i h5
 split
 ·exact .no rfl
 rename_i h10
 cases hx:W.seat o.c with
 | none=>exact .no rfl
 | some x =>
  have hA:W.doA L o=W.ownA L x o:=by unfold Wld.doA;rw [if_neg h0,if_neg h5,if_neg h10,hx]
  rw [hA];dsimp only
  unfold Wld.ownS
  split
  ·exact .no rfl
  split
  ·exact .no rfl
  split
  ·rename_i h1 h2 h3
   have:W.ownA L x o=⟨W.upE x.c.pushE x.c.pushR,[]⟩:=by unfold Wld.ownA;rw [if_neg h1,if_neg h2,if_pos h3]
   rw [this];exact up_sent (.inl h3) pushR_len
  split
  ·rename_i h1 h2 h3 h4
   have:W.ownA L x o=⟨W.upE x.c.pullE [x.c.pullB],[]⟩:=by unfold Wld.ownA;rw [if_neg h1,if_neg h2,if_neg h3,if_pos h4]
   rw [this];exact up_sent (.inr h4) (by simp)
  split
  ·refine .no ?_
   unfold Wld.cmpS
   split
   ·rfl
   ·split<;>rfl
  split
  ·split<;>exact .no rfl
  ·exact .no rfl
end
end Go.Proofs.YthddplghlljdbaaGreat

set_option maxRecDepth 100000
set_option maxHeartbeats 4000000
namespace Go.Proofs.YthddplghlljdbaaGreat
open Go.RowKit Go.Ecal
theorem sent_cases {L : List Thing} {W : Wld} {o : OpT} {a : AnsT} {y : World3} (h : SentIs L W o a y) : ∃ xs, y.2.sent = W.sent ++ xs ∧ y.2.sent.length = W.sent.length + xs.length ∧ (xs.length = 0 ∨ xs.length = 1 ∧ a.e = 0 ∧ o.kind = 3 ∨ xs.length = 1 ∧ a.e = 0 ∧ o.kind = 4) := by
  obtain ⟨xs, h1, h2, h3⟩ := h.ex
  refine ⟨xs, h1, by rw [h1, List.length_append], ?_⟩
  rcases xs with _ | ⟨z, zs⟩
  · exact .inl rfl
  · obtain ⟨h4, h5⟩ := h3 (by simp)
    have h6 : (z :: zs).length = 1 := by simp at h2 ⊢; exact h2
    rcases h5 with h5 | h5
    · exact .inr (.inl ⟨h6, h4, h5⟩)
    · exact .inr (.inr ⟨h6, h4, h5⟩)
theorem Same17_c (v0:Value) (a:List (List UInt8)) (v1:Value) (b:List (List UInt8)) (I:Gh) (R:List HP) (w:World) (S:Sat w I (R)) (Q0:RoX I v0 bytesR a) (Q1:RoX I v1 bytesR b):Ret Tryz.prog 36 [.agg ([.int .i64 0,.int .i64 0,.int .i64 0,v0,.slice none 0 0]).toArray,.agg ([.int .i64 0,.int .i64 0,.int .i64 0,v1,.slice none 0 0]).toArray] w fun v w'=>.bool (decide (a=b))=v∧Sat w' I (R):=by
 have lq0:=XRow.le (Q0.row S.le)
 have lq1:=XRow.le (Q1.row S.le)
 refine ret_E Tryz.func36 rfl Tryz.ntmps36 (by simp) ?_
 refine g2 ?_
 refine yB (cs:=[.int .i64 0,.int .i64 0,.int .i64 0,v0,.slice none 0 0]) S ?_
 intro b0 w0 S0
 refine yB (cs:=[.int .i64 0,.int .i64 0,.int .i64 0,v1,.slice none 0 0]) S0 ?_
 intro b1 w1 S1
 refine g10 ?_
 refine vl (.bool false) rfl (r_dec (by decide) (r_neq rfl rfl)) ?_
 refine g5 ?_
 refine gl  11 rfl rfl rfl rfl (.bool false) rfl (r_dec (by decide) (r_neq rfl rfl)) ?_
 refine g6 ?_
 refine gl  18 rfl rfl rfl rfl (.bool false) rfl (r_dec (by decide) (r_neq rfl rfl)) ?_
 refine g4 ?_
 refine gl 25 rfl rfl rfl rfl _ rfl (r_str rfl (show Row _ (.slice none 0 0) (([]:List UInt8).map byt) from Row.nil _) U33 U5 U9) ?_
 refine g2 ?_
 refine gl 25 rfl rfl rfl rfl _ rfl (r_str rfl (show Row _ (.slice none 0 0) (([]:List UInt8).map byt) from Row.nil _) U33 U5 U9) (gl 25 rfl rfl rfl rfl _ rfl (dcF (r_neqs rfl rfl) (by simp)) ?_)
 refine g4 ?_
 refine gl 34 rfl rfl rfl rfl _ rfl (r_lenX rfl (Q0.row S1.le) U52) ?_
 refine g2 ?_
 refine gl 34 rfl rfl rfl rfl _ rfl (r_lenX rfl (Q1.row S1.le) U52) ?_
 refine g4 ?_
 refine EC_if rfl (fun h0=>?_) (fun h0=>?_)
 have hne:¬a.length=b.length:=by simp at h0;omega
 refine g7 ?_
 refine f1 Tryz.results36 ?_
 exact ⟨(by rw [decide_eq_false (fun h=>hne (by rw [h]))]),S1.dr0.dr0⟩
 have hle:a.length=b.length:=by simp at h0;omega
 refine g9 ?_
 refine EC_loop (fun m' E' w'=>∃j:Nat,m'=a.length-j∧E' 5=.int .i64 (j:Int)∧E' 2=ptr b0∧E' 3=ptr b1∧(j≤a.length)∧(a.take j=b.take j)∧Sat w' I (Blk b1 96 [.int .i64 0,.int .i64 0,.int .i64 0,v1,.slice none 0 0]::Blk b0 96 [.int .i64 0,.int .i64 0,.int .i64 0,v0,.slice none 0 0]::R)) _ ⟨0,rfl,rfl,rfl,rfl,Nat.zero_le _,by simp,S1⟩ ?_
 rintro _ E0 w2 ⟨j,rfl,e0,e1,e2,hj,hab,S2⟩
 refine g6 ?_
 refine vl _ rfl (r_lenX rfl (Q0.row S2.le) U52) ?_
 refine g3 ?_
 refine EC_if rfl (fun h2=>?_) (fun h2=>?_)
 refine g5 ?_
 obtain ⟨a0,ha0⟩:=get_some (l:=a) (j:=((j:Int):Int).toNat) as'
 obtain ⟨cs0,hc0,he0⟩:=Q0.el ha0
 obtain ⟨v2,rfl,o0,H0⟩:=hc0
 obtain ⟨a1,ha1⟩:=get_some (l:=b) (j:=((j:Int):Int).toNat) as'
 obtain ⟨cs1,hc1,he1⟩:=Q1.el ha1
 obtain ⟨v3,rfl,o1,H1⟩:=hc1
 by_cases hxy:a0=a1
 refine EC_quietB (by kernel_rfl) (by kernel_rfl) ?_
 refine g3 ?_
 refine EQ_val (ptr (blkOf v0) (offOf v0+((j:Int):Int).toNat*1)) rfl (fun _ hw=>r_indexX rfl (XRow.below (Q0.row S2.le) (hp_below hw)) rfl (by omega) as' U52 (by kernel_rfl)) ?_
 obtain ⟨cs2,hc2,he2⟩:=Q0.el ha0
 obtain ⟨v4,rfl,o2,H2⟩:=hc2
 refine EQ_val v4 rfl (fun _ hw=>r_load0 rfl (ElAt.below (he2 _ S2.le) (hp_below hw)) U33 rfl) (EQ_val (.string (str a0)) rfl (fun _ hw=>r_str rfl ((H2 _ S2.le).below hw) U33 U5 U9) ?_)
 refine g3 ?_
 refine EQ_val (ptr (blkOf v1) (offOf v1+((j:Int):Int).toNat*1)) rfl (fun _ hw=>r_indexX rfl (XRow.below (Q1.row S2.le) (hp_below hw)) rfl (by omega) as' U52 (by kernel_rfl)) ?_
 obtain ⟨cs3,hc3,he3⟩:=Q1.el ha1
 obtain ⟨v5,rfl,o3,H3⟩:=hc3
 refine EQ_val v5 rfl (fun _ hw=>r_load0 rfl (ElAt.below (he3 _ S2.le) (hp_below hw)) U33 rfl) (EQ_val (.string (str a1)) rfl (fun _ hw=>r_str rfl ((H3 _ S2.le).below hw) U33 U5 U9) (EQ_val _ rfl (fun _ hw=>dcF (r_neqs rfl rfl) (by simp [hxy])) ?_))
 refine yE S2 ?_
 intro w3 S3
 refine g7 ?_
 refine EL_int ((j:Int)+1) rfl (r_addi rfl rfl (by omega)) ?_
 intro x0 hx66
 refine g3 ?_
 refine ⟨_,?_,j+1,rfl,(Eq.trans (show _=Value.int .i64 x0 from rfl) (congrArg _ (by omega))),(by exact e1),(by exact e2),by omega,(by rw [List.take_add_one,List.take_add_one,hab,(show a[j]?=_ from ha0),(show b[j]?=_ from ha1),hxy]),S3⟩
 first | omega | (simp;omega)
 refine EC_quietB (by kernel_rfl) (by kernel_rfl) ?_
 refine g3 ?_
 refine EQ_val (ptr (blkOf v0) (offOf v0+((j:Int):Int).toNat*1)) rfl (fun _ hw=>r_indexX rfl (XRow.below (Q0.row S2.le) (hp_below hw)) rfl (by omega) as' U52 (by kernel_rfl)) ?_
 obtain ⟨cs4,hc4,he4⟩:=Q0.el ha0
 obtain ⟨v6,rfl,o4,H4⟩:=hc4
 refine EQ_val v6 rfl (fun _ hw=>r_load0 rfl (ElAt.below (he4 _ S2.le) (hp_below hw)) U33 rfl) (EQ_val (.string (str a0)) rfl (fun _ hw=>r_str rfl ((H4 _ S2.le).below hw) U33 U5 U9) ?_)
 refine g3 ?_
 refine EQ_val (ptr (blkOf v1) (offOf v1+((j:Int):Int).toNat*1)) rfl (fun _ hw=>r_indexX rfl (XRow.below (Q1.row S2.le) (hp_below hw)) rfl (by omega) as' U52 (by kernel_rfl)) ?_
 obtain ⟨cs5,hc5,he5⟩:=Q1.el ha1
 obtain ⟨v7,rfl,o5,H5⟩:=hc5
 refine EQ_val v7 rfl (fun _ hw=>r_load0 rfl (ElAt.below (he5 _ S2.le) (hp_below hw)) U33 rfl) (EQ_val (.string (str a1)) rfl (fun _ hw=>r_str rfl ((H5 _ S2.le).below hw) U33 U5 U9) (EQ_val _ rfl (fun _ hw=>dcT (r_neqs rfl rfl) (by simp [hxy])) ?_))
 refine yE S2 ?_
 intro w4 S4
 refine g13 ?_
 refine f1 Tryz.results36 ?_
 exact ⟨(by rw [decide_eq_false (fun h=>hxy (by have h1:=ha0;rw [h] at h1;exact Option.some.inj (h1.symm.trans ha1)))]),S4.dr0.dr0⟩
 refine g11 ?_
 refine f1 Tryz.results36 ?_
 exact ⟨(by rw [decide_eq_true (by rwa [List.take_of_length_le (by omega),List.take_of_length_le (by omega)] at hab)]),S2.dr0.dr0⟩
theorem LwSame_c (v0:Value) (a:List (List UInt8)) (v1:Value) (b:List (List UInt8)) (I:Gh) (R:List HP) (w:World) (S:Sat w I (R)) (Q0:RoX I v0 bytesR a) (Q1:RoX I v1 bytesR b):Ret Tryz.prog 15 [v0,v1] w fun v w'=>.bool (decide (a=b))=v∧Sat w' I (R):=by
 have lq0:=XRow.le (Q0.row S.le)
 have lq1:=XRow.le (Q1.row S.le)
 refine ret_E Tryz.func15 rfl Tryz.ntmps15 (by simp) ?_
 refine g8 ?_
 refine vl _ rfl (gB [.int .i64 0,.int .i64 0,.int .i64 0,v0,.slice none 0 0] st_96 (parts1 rfl) (fill_one rfl (one_cells (XRow.one (Q0.row S.le))) rfl fill_end)) ?_
 refine g1 ?_
 refine vl _ rfl (gB [.int .i64 0,.int .i64 0,.int .i64 0,v1,.slice none 0 0] st_96 (parts1 rfl) (fill_one rfl (one_cells (XRow.one (Q1.row S.le))) rfl fill_end)) ?_
 refine yR (Same17_c _ _ _ _ _ _ _ S Q0 Q1) ?_
 rintro _ w0 ⟨rfl,S0⟩
 refine g4 ?_
 refine f1 Tryz.results15 ?_
 exact ⟨rfl,S0⟩
end Go.Proofs.YthddplghlljdbaaGreat
