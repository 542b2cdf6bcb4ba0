import Derived.Test.YthddplghlljdbaaGreatQWorldPostWorld
set_option linter.unusedVariables false
set_option linter.unusedSimpArgs false
namespace Go.Proofs.YthddplghlljdbaaGreat
open Go.RowKit Go.Ecal
abbrev TT (L:List Thing):Prop:=Texts 800000000 L
section
variable {L : List Thing} {c : Cli} {e : Entry} {ep : Int} {W : Wld} {o : OpT}
theorem seal_tt (h:TT L):TT (c.sealL L ep e)∧(c.sealL L ep e).length≤L.length+3:=by
 unfold Cli.sealL;split
 ·exact ⟨h,by omega⟩
 ·exact ⟨h.sealR (by decide),sealRL_len _ _ _ _ _⟩
theorem issue_tt (h:TT L):TT (c.issueL L e)∧(c.issueL L e).length≤L.length+3:=by
 unfold Cli.issueL;split
 ·exact seal_tt h
 ·exact ⟨h,by omega⟩
theorem wrap_tt {s k:List UInt8} {w ep:Int} (h:TT L) (hk:k.length≤1000):TT (wrapL L s w ep k):=by
 unfold wrapL;split
 ·refine Texts.snoc (h.once ?_) ?_
  ·show (derT s uMember w).text.length≤_
   have:(derT s uMember w).text.length=uMember.length+6:=by simp [derT,be6_len]
   rw [this];decide
  ·exact Nat.le_trans hk (by decide)
 ·exact h
theorem rotX_tt {s k:List UInt8} {ep:Int} (hk:k.length≤1000):∀{l:List Int} {x:List Thing×List WrapT},TT x.1→TT (l.foldl (wrapStep s k ep) x).1∧(l.foldl (wrapStep s k ep) x).1.length≤x.1.length+2*l.length
 | [],x,h=>⟨h,by simp⟩
 | a::l,x,h=>by
  have h1:=wrap_tt (s:=s) (w:=a) (ep:=ep) h hk
  have h2:=wrapL_len x.1 s a ep k
  have h3:=rotX_tt (s:=s) (ep:=ep) hk (l:=l) (x:=wrapStep s k ep x a) h1
  refine ⟨h3.1,Nat.le_trans h3.2 ?_⟩
  show (wrapL x.1 s a ep k).length+_≤_
  rw [List.length_cons];omega
theorem readers_le (l:List MemT):(readersOf l).length≤l.length:=by rw [readersOf,List.length_map];exact List.length_filter_le _ _
theorem rot_tt (h : TT L) (hc : c.ok) : TT (c.rotL L) ∧ (c.rotL L).length ≤ L.length + 190 := by
  unfold Cli.rotL; split
  · have h0 : TT (L ++ [tKey]) := h.snoc (by decide)
    have h1 := rotX_tt (s := c.sec) (k := newKey L) (ep := c.view.1.epoch + 1) (by show (signOf _ _).length ≤ _; rw [sign_len]; decide) (l := readersOf c.view.1.mem) (x := (L ++ [tKey], [])) h0
    have h2 := seal_tt (c := c) (ep := c.view.1.epoch) (e := c.rotEnt L) (L := (c.rotW L).1) h1.1
    refine ⟨h2.1, ?_⟩
    have h3 := readers_le c.view.1.mem
    have h4 := (view_len c.pendE (c.r.pol, c.r.docs)).1
    have h5 : c.pendE.length ≤ 8 := by rw [Cli.pendE, List.length_map]; exact hc.pend8
    have h6 := hc.r.mem; have h7 := hc.r.links
    have h8 : (c.rotW L).1.length ≤ (L ++ [tKey]).length + 2 * (readersOf c.view.1.mem).length := h1.2
    have h9 : c.view.1.mem.length ≤ c.r.pol.mem.length + c.pendE.length := h4
    rw [List.length_append, List.length_singleton] at h8
    have := h2.2; omega
  · exact ⟨h, by omega⟩
theorem take_tt {b:List UInt8} (h:TT L) (hc:c.ok):TT (c.takeS L b).1∧(c.takeS L b).1.length≤L.length+152:=by
 unfold Cli.takeS;split
 ·rename_i hE
  have h0:frE b=0:=by
   refine Classical.byContradiction fun q=>?_
   rw [Cli.takeE,if_neg q] at hE;exact q hE
  have h8:=(right_fr (fr_ok h0)).2.1
  have h1:=comAll_ok (l:=(frV b).links) (x:=(L,c.r)) hc.r h
  refine ⟨h1.2.1,?_⟩
  have h2:(comAll (frV b).links (L,c.r)).1.length≤L.length+19*(frV b).links.length:=h1.2.2
  show (comAll (frV b).links (L,c.r)).1.length≤_
  omega
 ·exact ⟨h,by dsimp only;omega⟩
theorem seat_ok {i:Int} {x:Seat} (hc:∀s∈W.seats,s.c.ok) (hx:W.seat i=some x):x.c.ok:=by
 unfold Wld.seat at hx;split at hx
 ·exact hc x (List.mem_of_getElem? hx)
 ·cases hx
/-- What grows in a step. -/
structure Grow (L:List Thing) (W:Wld) (y:World3):Prop where
 tt:TT y.1
 len:y.1.length≤L.length+200
 sent:W.sent.length≤y.2.sent.length∧y.2.sent.length≤W.sent.length+1
 seats:y.2.seats.length=W.seats.length
theorem Grow.same (h:TT L) {W':Wld} (h1:W'.sent=W.sent) (h2:W'.seats.length=W.seats.length):Grow L W (L,W'):=⟨h,by dsimp only;omega,by dsimp only;rw [h1];omega,h2⟩
theorem arr_grow {k : PackT} (h : TT L) (hc : ∀ s ∈ W.seats, s.c.ok) : Grow L W (W.arrS L k) := by
  unfold Wld.arrS
  cases hx : W.seat k.c with
  | none => exact .same h rfl rfl
  | some x =>
    dsimp only
    split
    · exact .same h rfl rfl
    · have := take_tt (b := k.data) h (seat_ok hc hx)
      exact ⟨this.1, by have := this.2; dsimp only; omega, by dsimp only [Wld.set]; omega, by simp [Wld.set]⟩
theorem post_grow (h : TT L) (hc : ∀ s ∈ W.seats, s.c.ok) : Grow L W (W.postS L o) := by
  unfold Wld.postS
  split
  · exact .same h rfl rfl
  · split
    · exact .same h rfl rfl
    · split
      · split <;> exact .same h rfl rfl
      · split
        · exact .same h rfl rfl
        · have g := arr_grow (W := { W with post := W.post.eraseIdx o.n.toNat }) (k := ‹PackT›) h hc
          exact ⟨g.tt, g.len, g.sent, g.seats⟩
theorem up_grow {i e:Int} {l:List (List UInt8)} (h:TT L) (hl:l.length≤1):Grow L W (L,W.upS i e l):=by
 unfold Wld.upS;split
 ·exact ⟨h,by dsimp only;omega,by dsimp only;rw [List.length_append];omega,rfl⟩
 ·exact .same h rfl rfl
theorem cmp_grow {x:Seat} (h:TT L) {i n:Int}:Grow L W (L,W.cmpS i x n):=by
 unfold Wld.cmpS
 split
 ·exact .same h rfl rfl
 ·split
  ·exact .same h rfl rfl
  ·exact .same h rfl (by simp [Wld.set])
theorem pushR_len {c:Cli}:c.pushR.length≤1:=by
 unfold Cli.pushR Cli.pushL;split
 ·simp
 split<;>simp
theorem own_grow {x : Seat} (h : TT L) (hx : x.c.ok) : Grow L W (W.ownS L x o) := by
  unfold Wld.ownS
  split
  · have := issue_tt (c := x.c) (e := o.entry) h
    exact ⟨this.1, by have := this.2; dsimp only; omega, by dsimp only [Wld.set]; omega, by simp [Wld.set]⟩
  split
  · have := rot_tt (c := x.c) h hx
    exact ⟨this.1, by have := this.2; dsimp only; omega, by dsimp only [Wld.set]; omega, by simp [Wld.set]⟩
  split
  · exact up_grow h pushR_len
  split
  · exact up_grow h (by simp)
  split
  · exact cmp_grow h
  split
  · split
    · exact .same h rfl rfl
    · exact .same h rfl (by simp [Wld.set])
  · have := take_tt (b := o.data) h hx
    exact ⟨this.1, by have := this.2; dsimp only; omega, by dsimp only [Wld.set]; omega, by simp [Wld.set]⟩
theorem do_grow (h:TT L) (hc:∀s∈W.seats,s.c.ok):Grow L W (W.doS L o):=by
 unfold Wld.doS
 split
 ·exact .same h rfl rfl
 split
 ·exact post_grow h hc
 split
 ·exact .same h rfl rfl
 ·cases hx:W.seat o.c with
  | none=>exact .same h rfl rfl
  | some x=>exact own_grow h (seat_ok hc hx)
theorem new_tt {ms : List MembT} : ∀ {y z : List Thing × List Seat}, newAll ms y = some z → TT y.1 → TT z.1 ∧ z.1.length ≤ y.1.length + 2 * ms.length := by
  induction ms with
  | nil => intro y z h hy; cases h; exact ⟨hy, by simp⟩
  | cons m r ih =>
    intro y z h hy
    rw [newAll] at h
    cases h1 : newOne y m with
    | none => rw [h1] at h; cases h
    | some w =>
      rw [h1] at h
      unfold newOne at h1
      split at h1
      · cases h1
      · split at h1
        · cases h1
          have ht : TT (newR y.1 m.mc m.mf m.mw (putB [.int m.mc])).1 := by
            show TT (onceL (derT _ uEpoch 0) (onceL (chT m.mc) y.1))
            refine Texts.once (Texts.once hy ?_) ?_
            · have : (chT m.mc).text.length = uLocket.length + 6 := by simp [chT, tSum, be6_len]
              rw [this]; decide
            · have : (derT (putB [.int m.mc]) uEpoch 0).text.length = uEpoch.length + 6 := by simp [derT, be6_len]
              rw [this]; decide
          have h2 := ih h ht
          have h3 := newR_len (L := y.1) (a := m.mc) (b := m.mf) (c := m.mw) (s := putB [.int m.mc])
          refine ⟨h2.1, ?_⟩
          have := h2.2; dsimp only at this; rw [List.length_cons]; omega
        · cases h1
theorem newW_tt {ms:List MembT} {y:World3} (h:newW ms=some y):TT y.1∧y.1.length≤12∧y.2.sent=[]∧y.2.post=[]∧y.2.srv=Srv.new:=by
 unfold newW at h;split at h
 ·cases h
 ·rename_i h6
  cases h1:newAll ms ([],[]) with
  | none=>rw [h1] at h;cases h
  | some z =>
   rw [h1] at h;cases h
   have:=new_tt h1 Texts.nil
   exact ⟨this.1,by have:=this.2;simp only [List.length_nil] at this;dsimp only;omega,rfl,rfl,rfl⟩
end
def runW:List OpT→World3→World3
 | [],y=>y
 | o::r,y=>runW r (y.2.doS y.1 o)
def okW:List OpT→World3→Bool
 | [],_=>true
 | o::r,y=>decide ((y.2.doA y.1 o).e=0)&&(decide (y.1.length≤1000)&&(y.1.all (fun t=>decide (t.text.length≤10000))&&(decide (y.2.sent.length≤100)&&okW r (y.2.doS y.1 o))))
theorem runW_app {o:OpT}:∀{l:List OpT} {y:World3},runW (l++[o]) y=(runW l y).2.doS (runW l y).1 o
 | [],_=>rfl
 | _::l,y=>by rw [List.cons_append,runW,runW,runW_app (l:=l)]
theorem runW_step {l:List OpT} {j:Nat} {o:OpT} {y:World3} (h:l[j]?=some o):runW (l.take (j+1)) y=(runW (l.take j) y).2.doS (runW (l.take j) y).1 o:=by
 rw [List.take_add_one,h];exact runW_app
theorem okW_at:∀{l:List OpT} {y:World3} {j:Nat} {o:OpT},okW l y=true→l[j]?=some o→((runW (l.take j) y).2.doA (runW (l.take j) y).1 o).e=0∧(runW (l.take j) y).1.length≤1000∧TT (runW (l.take j) y).1∧(runW (l.take j) y).2.sent.length≤100
 | [],_,_,_,_,h=>by simp at h
 | a::l,y,0,o,h,ho=>by
  simp only [okW,Bool.and_eq_true,decide_eq_true_eq] at h
  obtain rfl:a=o:=by simpa using ho
  refine ⟨h.1,h.2.1,fun t ht=>?_,h.2.2.2.1⟩
  have:=List.all_eq_true.1 h.2.2.1 t ht
  exact Nat.le_trans (of_decide_eq_true this) (by decide)
 | a::l,y,j+1,o,h,ho=>by
  simp only [okW,Bool.and_eq_true,decide_eq_true_eq] at h
  have:=okW_at (y:=y.2.doS y.1 a) h.2.2.2.2 (by simpa using ho)
  rw [List.take_succ_cons,runW];exact this
def anE:Entry:=⟨1,0,0,[97],[98],0,0,0,[]⟩
def anOps:List OpT:=[⟨1,0,0,anE,[]⟩,⟨3,0,0,entry0,[]⟩,⟨5,0,0,entry0,[]⟩,⟨4,1,0,entry0,[]⟩,⟨5,0,0,entry0,[]⟩,⟨5,0,0,entry0,[]⟩]
def twoM:List MembT:=[⟨1,1,1⟩,⟨1,1,2⟩]
def twoS:SetT:=⟨false,twoM⟩
def anW0:World3:=match newW twoM with
 | some y=>y
 | none=>([],⟨[],Srv.new,[],[]⟩)
theorem an_new:newW twoM=some anW0:=by
 unfold anW0
 cases h:newW twoM with
 | some y=>rfl
 | none=>exact absurd (show (newW twoM).isSome=true by kernel_rfl) (by rw [h];decide)
theorem an_ok:okW anOps anW0=true:=by kernel_rfl
def anW:World3:=runW anOps anW0
theorem an_seats:anW.2.seats.length=2:=by kernel_rfl
theorem an_post:anW.2.post=[]:=by
 have:anW.2.post.length=0:=by kernel_rfl
 exact List.eq_nil_of_length_eq_zero this
theorem an_sent:anW.2.sent.length=2:=by kernel_rfl
theorem an_doc1:(anW.2.seat 1).map (fun x=>lkD x.c.r.docs [97])=some (some [98]):=by kernel_rfl
theorem an_doc2:(anW.2.seat 1).map (fun x=>x.c.r.docs.all fun d=>decide (d.2.length≤1000000))=some true:=by kernel_rfl
theorem an_doc {x:Seat} (h:anW.2.seat 1=some x):lkD x.c.r.docs [97]=some [98]∧∀d∈x.c.r.docs,d.2.length≤1000000:=by
 have h1:=an_doc1;have h2:=an_doc2
 rw [h] at h1 h2
 simp only [Option.map_some,Option.some.injEq] at h1 h2
 exact ⟨h1,fun d hd=>of_decide_eq_true (List.all_eq_true.1 h2 d hd)⟩
end Go.Proofs.YthddplghlljdbaaGreat
