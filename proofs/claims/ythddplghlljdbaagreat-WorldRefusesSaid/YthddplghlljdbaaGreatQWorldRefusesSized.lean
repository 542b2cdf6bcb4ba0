import Derived.SizedLaws
import Derived.Test.YthddplghlljdbaaGreatQWorldRefusesCliB
import Derived.Test.YthddplghlljdbaaGreatQWorldRefusesWLaw
set_option linter.unusedVariables false
set_option linter.unusedSimpArgs false
namespace Go.Proofs.YthddplghlljdbaaGreat
open Go.RowKit Go.Ecal
section
variable {L : List Thing} {W : Wld} {o : OpT} {c : Cli} {e : Entry}
theorem do_kind (h:o.kind<1∨11<o.kind):W.doA L o=⟨13,[]⟩∧W.doS L o=(L,W):=⟨if_pos h,if_pos h⟩
theorem do_pick (h5:5≤o.kind∧o.kind≤7) (h:o.n<0∨(W.post.length:Int)≤o.n):W.doA L o=⟨60,[]⟩∧W.doS L o=(L,W):=by
 unfold Wld.doA Wld.doS Wld.postA Wld.postS
 rw [if_neg (by omega),if_pos h5,if_pos h,if_neg (by omega),if_pos h5,if_pos h];exact ⟨rfl,rfl⟩
theorem do_none (h0:¬(o.kind<1∨11<o.kind)) (h5:¬(5≤o.kind∧o.kind≤7)) (h10:o.kind≠10) (h:¬(0≤o.c∧o.c<(W.seats.length:Int))):W.doA L o=⟨32,[]⟩∧W.doS L o=(L,W):=by
 have hs:W.seat o.c=none:=if_neg h
 unfold Wld.doA Wld.doS
 rw [if_neg h0,if_neg h5,if_neg h10,if_neg h0,if_neg h5,if_neg h10,hs];exact ⟨rfl,rfl⟩
theorem do_fork (h10:o.kind=10) (h:o.n<0):W.doA L o=⟨12,[]⟩∧W.doS L o=(L,W):=by
 unfold Wld.doA Wld.doS Srv.forkE Srv.forkS
 rw [if_neg (by omega),if_neg (by omega),if_pos h10,if_pos h,if_neg (by omega),if_neg (by omega),if_pos h10,if_pos h];exact ⟨rfl,rfl⟩
theorem do_move (h9:o.kind=9) (hs:0≤o.c∧o.c<(W.seats.length:Int)) (h:o.n<0∨1<o.n):W.doA L o=⟨12,[]⟩∧W.doS L o=(L,W):=by
 obtain ⟨x,hx⟩:∃x,W.seat o.c=some x:=⟨W.seats[o.c.toNat]'(by omega),by unfold Wld.seat;rw [if_pos hs];exact List.getElem?_eq_getElem (by omega)⟩
 unfold Wld.doA Wld.doS
 rw [if_neg (by omega),if_neg (by omega),if_neg (by omega),if_neg (by omega),if_neg (by omega),if_neg (by omega),hx]
 dsimp only
 unfold Wld.ownA Wld.ownS
 rw [if_neg (by omega),if_neg (by omega),if_neg (by omega),if_neg (by omega),if_neg (by omega),if_pos h9,if_pos (by omega),if_neg (by omega),if_neg (by omega),if_neg (by omega),if_neg (by omega),if_neg (by omega),if_pos h9,if_pos (by omega)]
 exact ⟨rfl,rfl⟩
theorem do_nine (h0:¬(o.kind<1∨11<o.kind)) (h4:¬((5≤o.kind∧o.kind≤7)∧(o.n<0∨(W.post.length:Int)≤o.n))) (h6:¬((o.kind≠10∧(o.kind<5∨7<o.kind))∧¬(0≤o.c∧o.c<(W.seats.length:Int)))) (h9:(o.kind=10∧o.n<0)∨(o.kind=9∧(o.n<0∨1<o.n))):W.doA L o=⟨12,[]⟩∧W.doS L o=(L,W):=by
 rcases h9 with h | h
 ·exact do_fork h.1 h.2
 ·exact do_move h.1 (Classical.byContradiction fun q=>h6 ⟨by omega,q⟩) h.2
end
end Go.Proofs.YthddplghlljdbaaGreat

namespace Go.Ecal
open Go.RowKit Go.ChangeShapes Go.WideShapes
theorem lst_sized {P : Program} {H : Type} {enc : TypeId × Value → H} {w : World} {ts : List TypeId} {ds : List (DataW H)} {j : Nat} {t e : TypeId} {a : Option Addr} {len cap sz : Nat} {d : DataW H} {ps : List MemPlace} {α : Type} {τ : Rep α} {l : List α} {spare : Nat → Bool} {held : Bool}
    (hz : (DataW.weightsEach P ts ds).all (· ≤ reachBytes) = true) (ht : ts[j]? = some t) (hd : ds[j]? = some d) (hu : P.underlying t = some (.slice e)) (hb : P.bytesOf e = sz)
    (h : ∃ fuel, DataW.trod enc P w 0 spare held fuel t (Value.slice a len cap).cells.toList = some (d, ps)) (H : RoX (gh w) (.slice a len cap) τ l) : l.length * sz ≤ 140737488351232 := by
  obtain ⟨fuel, hf⟩ := h
  have hlen : l.length = len := by
    obtain ⟨xss, ⟨A, c, hv, _⟩, he⟩ := H.row (Gh.le_refl _)
    injection hv with _ h2 _
    rw [← he, h2]
  have hc : (Value.slice a len cap).cells.toList = [.slice a len cap] := by simp [Value.cells]
  rw [hc] at hf
  rcases Go.Deep.open_slice hu hf with ⟨hcs, _⟩ | ⟨a', len', cap', m, n, D, Pl, hcs, _, _, _, _, hx, _⟩
  · injection hcs with h1 _; injection h1 with _ h2 _
    rw [hlen, h2]; simp
  · injection hcs with h1 _; injection h1 with _ h2 _
    injection hx with h3 _
    rw [h3] at hd
    have := sized_slice hz ht hd hu
    rw [hb] at this
    simp only [List.length_map, List.length_range] at this
    have hr : reachBytes = 140737488351232 := rfl
    rw [hr] at this
    rw [hlen, h2]
    exact Nat.le_trans (Nat.mul_le_mul_right _ (Nat.le_add_right _ _)) this
end Go.Ecal
