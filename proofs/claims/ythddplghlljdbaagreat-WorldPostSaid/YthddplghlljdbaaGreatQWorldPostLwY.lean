import Derived.Test.YthddplghlljdbaaGreatQWorldPostLwW
set_option linter.unusedVariables false
set_option linter.unusedSimpArgs false
namespace Go.Proofs.YthddplghlljdbaaGreat
open Go.RowKit Go.Ecal
section
variable {L : List Thing} {W : Wld} {o : OpT} {c : Cli} {e : Entry}
theorem do_kind (h:o.kind<1∨11<o.kind):W.doA L o=⟨13,[]⟩∧W.doS L o=(L,W):=⟨if_pos h,if_pos h⟩
theorem do_pick (h5:5≤o.kind∧o.kind≤7) (h:o.n<0∨(W.post.length:Int)≤o.n):W.doA L o=⟨60,[]⟩∧W.doS L o=(L,W):=by
 unfold Wld.doA Wld.doS Wld.postA Wld.postS
 rw [if_neg (by omega),if_pos h5,if_pos h,if_neg (by omega),if_pos h5,if_pos h];exact ⟨rfl,rfl⟩
def wantP (W:Wld) (o:OpT) (e:Int):List PackT:=
 if e≠60∧(0≤o.n∧o.n<(W.post.length:Int))∧(o.kind=5∨o.kind=6) then W.post.eraseIdx o.n.toNat
 else if o.kind=7∧e=0 then W.post++(W.post[o.n.toNat]?).toList else W.post
structure PostIs (W:Wld) (o:OpT) (a:AnsT) (V:Wld):Prop where
 ex:∃x,V.post=wantP W o a.e++x∧x.length≤1∧(5<o.kind→x=[])
theorem want_is (h1:o.kind≠5) (h2:o.kind≠6) (h3:o.kind≠7) {e:Int}:wantP W o e=W.post:=by
 unfold wantP;rw [if_neg (by omega),if_neg (by omega)]
theorem PostIs.same {a:AnsT} {V:Wld} (h:V.post=W.post) (h1:o.kind≠5) (h2:o.kind≠6) (h3:o.kind≠7):PostIs W o a V:=⟨[],by rw [want_is h1 h2 h3,h];simp,by simp,fun _=>rfl⟩
theorem frE_60 {b:List UInt8}:frE b≠60:=by
 unfold frE;split
 ·decide
 ·split<;>decide
theorem take_60 {b:List UInt8}:c.takeE b≠60:=by
 unfold Cli.takeE;split
 ·unfold Cli.checkE
  split
  ·decide
  split
  ·decide
  split
  ·decide
  split
  ·decide
  split
  ·decide
  split<;>decide
 ·exact frE_60
theorem hand_60 {s : Srv} {br : Int} {b : List UInt8} : s.handE br b ≠ 60 := by
  unfold Srv.handE
  split
  · decide
  split
  · exact frE_60
  split
  · unfold Srv.pushE; split <;> decide
  split
  · unfold Srv.pullE; split
    · decide
    · unfold FrameT.encE; split
      · decide
      · split <;> decide
  · decide
theorem arr_post {k:PackT}:(W.arrA L k).e≠60∧∃x,(W.arrS L k).2.post=W.post++x∧x.length≤1:=by
 unfold Wld.arrA Wld.arrS
 cases W.seat k.c with
 | none=>exact ⟨show (0:Int)≠60 by decide,[],by simp,by simp⟩
 | some x =>
  dsimp only;split
  ·refine ⟨hand_60,?_⟩
   dsimp only;split
   ·exact ⟨_,rfl,by simp⟩
   ·exact ⟨[],by simp,by simp⟩
  ·exact ⟨take_60,[],by simp [Wld.set],by simp⟩
theorem up_post {i e:Int} {l:List (List UInt8)} (hl:l.length≤1):∃x,(W.upS i e l).post=W.post++x∧x.length≤1:=by
 unfold Wld.upS;split
 ·exact ⟨_,rfl,by simpa using hl⟩
 ·exact ⟨[],by simp,by simp⟩
theorem do_post : PostIs W o (W.doA L o) (W.doS L o).2 := by
  by_cases h0 : o.kind < 1 ∨ 11 < o.kind
  · have := do_kind (W := W) (L := L) h0
    rw [this.1, this.2]; exact .same rfl (by omega) (by omega) (by omega)
  by_cases h5 : 5 ≤ o.kind ∧ o.kind ≤ 7
  · by_cases hn : o.n < 0 ∨ (W.post.length : Int) ≤ o.n
    · have := do_pick (L := L) h5 hn
      rw [this.1, this.2]
      refine ⟨[], ?_, by simp, fun _ => rfl⟩
      unfold wantP; rw [if_neg (by omega), if_neg (by simp)]; simp
    · obtain ⟨k, hk⟩ : ∃ k, W.post[o.n.toNat]? = some k := ⟨W.post[o.n.toNat]'(by omega), List.getElem?_eq_getElem (by omega)⟩
      have hA : W.doA L o = (if o.kind = 7 then (if W.post.length = 512 then ⟨33, []⟩ else ⟨0, []⟩) else if o.kind = 6 then ⟨0, []⟩ else ({ W with post := W.post.eraseIdx o.n.toNat } : Wld).arrA L k) := by
        unfold Wld.doA Wld.postA; rw [if_neg h0, if_pos h5, if_neg hn, hk]
      have hS : W.doS L o = (if o.kind = 7 then (if W.post.length = 512 then (L, W) else (L, { W with post := W.post ++ [k] })) else if o.kind = 6 then (L, { W with post := W.post.eraseIdx o.n.toNat }) else ({ W with post := W.post.eraseIdx o.n.toNat } : Wld).arrS L k) := by
        unfold Wld.doS Wld.postS; rw [if_neg h0, if_pos h5, if_neg hn, hk]
      rw [hA, hS]
      by_cases h7 : o.kind = 7
      · rw [if_pos h7, if_pos h7]
        by_cases h512 : W.post.length = 512
        · rw [if_pos h512, if_pos h512]
          refine ⟨[], ?_, by simp, fun _ => rfl⟩
          unfold wantP; rw [if_neg (by omega), if_neg (by simp)]; simp
        · rw [if_neg h512, if_neg h512]
          refine ⟨[], ?_, by simp, fun _ => rfl⟩
          unfold wantP; rw [if_neg (by omega), if_pos ⟨h7, rfl⟩, hk]; simp
      · rw [if_neg h7, if_neg h7]
        by_cases h6 : o.kind = 6
        · rw [if_pos h6, if_pos h6]
          refine ⟨[], ?_, by simp, fun _ => rfl⟩
          unfold wantP; rw [if_pos ⟨by decide, by omega, .inr h6⟩]; simp
        · rw [if_neg h6, if_neg h6]
          obtain ⟨h1, x, h2, h3⟩ := @arr_post L { W with post := W.post.eraseIdx o.n.toNat } k
          refine ⟨x, ?_, h3, fun q => by omega⟩
          rw [h2]; unfold wantP; rw [if_pos ⟨h1, by omega, .inl (by omega)⟩]
  have hk5 : o.kind ≠ 5 ∧ o.kind ≠ 6 ∧ o.kind ≠ 7 := by omega
  have done : ∀ {a : AnsT} {V : Wld} {x : List PackT}, V.post = W.post ++ x → x.length ≤ 1 → (5 < o.kind → x = []) → PostIs W o a V := fun h1 h2 h3 => ⟨_, by rw [want_is hk5.1 hk5.2.1 hk5.2.2]; exact h1, h2, h3⟩
  unfold Wld.doS
  rw [if_neg h0, if_neg h5]
  split
  · exact .same rfl hk5.1 hk5.2.1 hk5.2.2
  cases hx : W.seat o.c with
  | none => exact .same rfl hk5.1 hk5.2.1 hk5.2.2
  | some x =>
    dsimp only
    unfold Wld.ownS
    split
    · exact .same rfl hk5.1 hk5.2.1 hk5.2.2
    split
    · exact .same rfl hk5.1 hk5.2.1 hk5.2.2
    split
    · obtain ⟨x, h1, h2⟩ := up_post (W := W) (i := o.c) (e := x.c.pushE) (l := x.c.pushR) pushR_len
      exact done h1 h2 fun q => by omega
    split
    · obtain ⟨x, h1, h2⟩ := up_post (W := W) (i := o.c) (e := x.c.pullE) (l := [x.c.pullB]) (by simp)
      exact done h1 h2 fun q => by omega
    split
    · refine .same ?_ hk5.1 hk5.2.1 hk5.2.2
      unfold Wld.cmpS
      split
      · rfl
      · split <;> rfl
    split
    · split <;> exact .same rfl hk5.1 hk5.2.1 hk5.2.2
    · exact .same rfl hk5.1 hk5.2.1 hk5.2.2
end
end Go.Proofs.YthddplghlljdbaaGreat

set_option maxRecDepth 100000
set_option maxHeartbeats 4000000
namespace Go.Proofs.YthddplghlljdbaaGreat
open Go.RowKit Go.Ecal
theorem post_cases {L : List Thing} {W : Wld} {o : OpT} : ∃ p xs, wantP W o (W.doA L o).e = p ∧ (W.doS L o).2.post = p ++ xs ∧ (W.doS L o).2.post.length = p.length + xs.length ∧ xs.length ≤ 1 ∧ (5 < o.kind → xs.length = 0) ∧
    (((W.doA L o).e ≠ 60 ∧ (0 ≤ o.n ∧ o.n < (W.post.length : Int)) ∧ (o.kind = 5 ∨ o.kind = 6)) ∧ p = W.post.eraseIdx o.n.toNat
    ∨ ¬ ((W.doA L o).e ≠ 60 ∧ (0 ≤ o.n ∧ o.n < (W.post.length : Int)) ∧ (o.kind = 5 ∨ o.kind = 6)) ∧ (o.kind = 7 ∧ (W.doA L o).e = 0) ∧ (0 ≤ o.n ∧ o.n < (W.post.length : Int)) ∧ p = W.post ++ (W.post[o.n.toNat]?).toList
    ∨ ¬ ((W.doA L o).e ≠ 60 ∧ (0 ≤ o.n ∧ o.n < (W.post.length : Int)) ∧ (o.kind = 5 ∨ o.kind = 6)) ∧ ¬ (o.kind = 7 ∧ (W.doA L o).e = 0) ∧ p = W.post) := by
  obtain ⟨xs, h1, h2, h3⟩ := (do_post (W := W) (L := L) (o := o)).ex
  refine ⟨_, xs, rfl, h1, by rw [h1, List.length_append], h2, fun h => by rw [h3 h]; rfl, ?_⟩
  unfold wantP
  by_cases hA : (W.doA L o).e ≠ 60 ∧ (0 ≤ o.n ∧ o.n < (W.post.length : Int)) ∧ (o.kind = 5 ∨ o.kind = 6)
  · exact .inl ⟨hA, if_pos hA⟩
  · refine .inr ?_
    by_cases hB : o.kind = 7 ∧ (W.doA L o).e = 0
    · refine .inl ⟨hA, hB, ?_, by rw [if_neg hA, if_pos hB]⟩
      by_cases hn : o.n < 0 ∨ (W.post.length : Int) ≤ o.n
      · have h := (do_pick (W := W) (L := L) (by omega) hn).1
        rw [h] at hB; exact absurd hB.2 (by decide)
      · omega
    · exact .inr ⟨hA, hB, by rw [if_neg hA, if_neg hB]⟩
end Go.Proofs.YthddplghlljdbaaGreat
