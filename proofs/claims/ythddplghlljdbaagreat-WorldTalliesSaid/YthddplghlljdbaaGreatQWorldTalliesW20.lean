import Derived.Test.YthddplghlljdbaaGreatQWorldTalliesCliB
import Derived.Test.YthddplghlljdbaaGreatQWorldTalliesWLaw
set_option linter.unusedVariables false
set_option linter.unusedSimpArgs false
namespace Go.Proofs.YthddplghlljdbaaGreat
open Go.RowKit Go.Ecal
section
variable {L : List Thing} {W : Wld} {o : OpT} {c : Cli} {e : Entry}
theorem out_ch {s:Rpl} {x:Record}:(s.outS L x).2.ch=s.ch:=by
 unfold Rpl.outS
 split
 ·rfl
 split
 ·rfl
 split
 ·rfl
 unfold Rpl.entryS
 split
 ·rfl
 split
 ·rfl
 ·rfl
theorem com_links {s:Rpl} {b:List UInt8}:s.ch.links.length≤(s.comS L b).2.ch.links.length:=by
 unfold Rpl.comS;split
 ·rw [out_ch]
  show _≤(chApp L s.ch b).links.length
  unfold chApp;split
  ·simp
  ·exact Nat.le_refl _
 ·exact Nat.le_refl _
theorem comAll_links:∀{l:List (List UInt8)} {x:World2},x.2.ch.links.length≤(comAll l x).2.ch.links.length
 | [],_=>Nat.le_refl _
 | b::l,x=>by rw [comAll];exact Nat.le_trans com_links (comAll_links (l:=l))
theorem take_counts {b:List UInt8}:c.r.ch.links.length≤(c.takeS L b).2.r.ch.links.length∧(c.takeS L b).2.pend.length≤c.pend.length:=by
 unfold Cli.takeS;split
 ·exact ⟨comAll_links (x:=(L,c.r)),List.length_filter_le _ _⟩
 ·exact ⟨Nat.le_refl _,Nat.le_refl _⟩
theorem seal_counts {ep:Int}:(c.sealS L ep e).r=c.r∧(c.sealS L ep e).pend.length=c.pend.length+(if c.sealE ep e=0 then 1 else 0):=by
 unfold Cli.sealS;split
 ·exact ⟨rfl,by simp [Cli.waits]⟩
 ·exact ⟨rfl,rfl⟩
theorem issue_counts:(c.issueS L e).r=c.r∧(c.issueS L e).pend.length=c.pend.length+(if c.issueE e=0 then 1 else 0):=by
 unfold Cli.issueS Cli.issueE;split
 ·exact seal_counts
 ·rename_i h;simp [h]
theorem rot_counts : (c.rotS L).r = c.r ∧ (c.rotS L).pend.length = c.pend.length + (if c.rotE L = 0 then 1 else 0) := by
  unfold Cli.rotS Cli.rotE; split
  · have := @seal_counts (c.rotW L).1 c (c.rotEnt L) c.view.1.epoch
    exact this
  · rename_i h; simp [h]
theorem tls_set {y:Seat}:∀{l:List Seat} {i:Nat} {x:Seat},l[i]?=some x→csR (tls (l.set i y))+(x.c.r.ch.links.length:Int)=csR (tls l)+(y.c.r.ch.links.length:Int)∧csI (tls (l.set i y))+(x.c.pend.length:Int)=csI (tls l)+(y.c.pend.length:Int)
 | a::l,0,x,h=>by
  obtain rfl:a=x:=by simpa using h
  show csR (_::_)+_=csR (_::_)+_∧csI (_::_)+_=csI (_::_)+_
  simp only [csR,csI];constructor<;>omega
 | a::l,i+1,x,h=>by
  have ih:=tls_set (y:=y) (l:=l) (i:=i) (x:=x) (by simpa using h)
  show csR (_::tls (l.set i y))+_=csR (_::tls l)+_∧csI (_::tls (l.set i y))+_=csI (_::tls l)+_
  simp only [csR,csI];constructor<;>omega
def upOf (o:OpT) (a:AnsT):Int:=if a.e=0∧(o.kind=1∨o.kind=2) then 1 else 0
structure TlyIs (W:Wld) (up:Int) (V:Wld):Prop where
 re:csR (tls W.seats)≤csR (tls V.seats)
 im:csI (tls V.seats)≤csI (tls W.seats)+up
 is:0<up→csI (tls V.seats)=csI (tls W.seats)+up∧csR (tls V.seats)=csR (tls W.seats)
theorem TlyIs.same {V:Wld} {up:Int} (h:V.seats=W.seats) (h0:up=0):TlyIs W up V:=by subst h0;rw [show (0:Int)=0 from rfl];exact ⟨by rw [h];exact Int.le_refl _,by rw [h];omega,fun q=>absurd q (by decide)⟩
theorem TlyIs.set {i : Int} {x y : Seat} {up : Int} (hx : W.seat i = some x) (h1 : x.c.r.ch.links.length ≤ y.c.r.ch.links.length) (h2 : (y.c.pend.length : Int) ≤ (x.c.pend.length : Int) + up) (h3 : 0 < up → (y.c.pend.length : Int) = (x.c.pend.length : Int) + up ∧ y.c.r.ch.links.length = x.c.r.ch.links.length) : TlyIs W up (W.set i y) := by
  have hx2 : W.seats[i.toNat]? = some x := by
    unfold Wld.seat at hx; split at hx
    · exact hx
    · cases hx
  have := tls_set (y := y) hx2
  refine ⟨?_, ?_, fun q => ?_⟩
  · show csR (tls W.seats) ≤ csR (tls (W.seats.set i.toNat y)); omega
  · show csI (tls (W.seats.set i.toNat y)) ≤ _; omega
  · have := h3 q
    show csI (tls (W.seats.set i.toNat y)) = _ ∧ csR (tls (W.seats.set i.toNat y)) = _
    omega
theorem arr_tly {k : PackT} : TlyIs W 0 (W.arrS L k).2 := by
  unfold Wld.arrS
  cases hx : W.seat k.c with
  | none => exact .same rfl rfl
  | some x =>
    dsimp only; split
    · exact .same rfl rfl
    · have := @take_counts L x.c k.data
      exact .set hx this.1 (by have := this.2; dsimp only; omega) fun q => absurd q (by decide)
theorem upOf_no {a:AnsT} (h:¬(o.kind=1∨o.kind=2)):upOf o a=0:=if_neg fun q=>h q.2
theorem up_seats {i e:Int} {l:List (List UInt8)}:(W.upS i e l).seats=W.seats:=by unfold Wld.upS;split<;>rfl
theorem do_tly : TlyIs W (upOf o (W.doA L o)) (W.doS L o).2 := by
  unfold Wld.doS
  split
  · exact .same rfl (upOf_no (by omega))
  rename_i h0
  split
  · rename_i h5
    rw [upOf_no (by omega)]
    unfold Wld.postS
    split
    · exact .same rfl rfl
    · split
      · exact .same rfl rfl
      · split
        · split <;> exact .same rfl rfl
        · split
          · exact .same rfl rfl
          · have := @arr_tly L { W with post := W.post.eraseIdx o.n.toNat } ‹PackT›
            exact ⟨this.re, this.im, this.is⟩
  rename_i h5
  split
  · exact .same rfl (upOf_no (by omega))
  rename_i h10
  cases hx : W.seat o.c with
  | none =>
    refine .same rfl ?_
    unfold Wld.doA; rw [if_neg h0, if_neg h5, if_neg h10, hx]; exact if_neg fun q => by cases q.1
  | some x =>
    have hA : W.doA L o = W.ownA L x o := by unfold Wld.doA; rw [if_neg h0, if_neg h5, if_neg h10, hx]
    rw [hA]; dsimp only
    unfold Wld.ownS
    split
    · rename_i h1
      have hE : (W.ownA L x o).e = x.c.issueE o.entry := by unfold Wld.ownA; rw [if_pos h1]
      have hc := @issue_counts L x.c o.entry
      have hu : upOf o (W.ownA L x o) = if x.c.issueE o.entry = 0 then 1 else 0 := by
        unfold upOf; rw [hE]; by_cases q : x.c.issueE o.entry = 0 <;> simp [q, h1]
      rw [hu]
      refine .set hx (by dsimp only; rw [hc.1]; exact Nat.le_refl _) ?_ fun q => ⟨?_, by dsimp only; rw [hc.1]⟩
      · dsimp only; rw [hc.2]; split <;> omega
      · dsimp only; rw [hc.2]; split <;> omega
    rename_i h1
    split
    · rename_i h2
      have hE : (W.ownA L x o).e = x.c.rotE L := by unfold Wld.ownA; rw [if_neg h1, if_pos h2]
      have hc := @rot_counts L x.c
      have hu : upOf o (W.ownA L x o) = if x.c.rotE L = 0 then 1 else 0 := by
        unfold upOf; rw [hE]; by_cases q : x.c.rotE L = 0 <;> simp [q, h2]
      rw [hu]
      refine .set hx (by dsimp only; rw [hc.1]; exact Nat.le_refl _) ?_ fun q => ⟨?_, by dsimp only; rw [hc.1]⟩
      · dsimp only; rw [hc.2]; split <;> omega
      · dsimp only; rw [hc.2]; split <;> omega
    rename_i h2
    rw [upOf_no (by omega)]
    split
    · exact .same up_seats rfl
    split
    · exact .same up_seats rfl
    split
    · unfold Wld.cmpS
      split
      · exact .same rfl rfl
      · split
        · exact .same rfl rfl
        · exact .set hx (Nat.le_refl _) (by show (x.c.pend.length : Int) ≤ x.c.pend.length + 0; omega) fun q => absurd q (by decide)
    split
    · split
      · exact .same rfl rfl
      · exact .set hx (Nat.le_refl _) (by show (x.c.pend.length : Int) ≤ x.c.pend.length + 0; omega) fun q => absurd q (by decide)
    · have := @take_counts L x.c o.data
      exact .set hx this.1 (by have := this.2; dsimp only; omega) fun q => absurd q (by decide)
end
end Go.Proofs.YthddplghlljdbaaGreat
