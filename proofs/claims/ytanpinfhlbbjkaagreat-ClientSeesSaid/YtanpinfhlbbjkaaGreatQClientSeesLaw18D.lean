import Derived.Test.YtanpinfhlbbjkaaGreatQClientSeesLaw18
import Derived.Test.YtanpinfhlbbjkaaGreatQClientSeesDocs11
set_option linter.unusedVariables false
set_option linter.unusedSimpArgs false
namespace Go.Proofs.YtanpinfhlbbjkaaGreat
open Go.RowKit Go.Ecal
/-- An entry of one's own that may be. -/
structure OwnE (e : Entry) (m : Nat) (P : Pol) : Prop where
  writer : e.writer = 1
  seq : e.seq = (m : Int) + 1
  kind : e.kind ≠ 5
  may : P.mayE e = 0
/-- A founder's replay of m of its own. -/
structure MineAt (k : List UInt8) (m : Nat) (s : Rpl) : Prop where
  coll : s.coll = 1
  sec : s.sec = []
  ep : s.pol.epoch = 0
  key : keyAt s.ks 0 = k
  kl : k.length = 32
  seenL : s.seen.length = 17
  seen : seenAt s.seen 1 = m
  lk : s.ch.links.length = m
section
variable {L M X A : List Thing} {k b : List UInt8} {m n : Nat} {s : Rpl} {e : Entry} {x : Pol × List Doc} {P : Pol}
theorem OwnE.right (h : OwnE e m P) : e.right = true := (may_0 h.may).2
theorem wraps_no5 (h : e.right = true) (hk : e.kind ≠ 5) : e.wraps = [] := by
  simp only [Entry.right, Bool.and_eq_true, decide_eq_true_eq] at h
  have := congrArg Entry.wraps h.1.2
  rw [this]; show (if e.kind = 5 then e.wraps else []) = []
  rw [if_neg hk]
theorem OwnE.seals (h : OwnE e m P) (hm : m ≤ 1000) (hk : k.length = 32) : SealsOk k ⟨1, 0, e.writer, e.seq, []⟩ e :=
  ⟨h.right, rfl, hk, by rw [nums_iff, h.writer, h.seq]; dsimp only; omega, encB_len h.right⟩
theorem MineAt.com (g : MineAt k m s) (h : OwnE e m s.pol) (hm : m ≤ 50) (hM : M = recL L k e ++ X) (hl : M.length ≤ 10000) :
    s.comE (recB L k e) = 0 ∧ s.comO M (recB L k e) = 0 ∧ s.comS M (recB L k e) = (chL M s.ch (recB L k e), s.does M (recB L k e) e) ∧ chE s.ch (recB L k e) = 0 := by
  have so := h.seals (k := k) (by omega) g.kl
  obtain ⟨hr, hE, hV, hL, hL1⟩ := seals_rec (L := L) so
  have hch : chE s.ch (recB L k e) = 0 := by rw [chE, if_neg (by omega), if_neg (by have := g.lk; omega)]
  have hco : (sealRR L [] k ⟨1, 0, e.writer, e.seq, []⟩ e).coll = 1 ∧ (sealRR L [] k ⟨1, 0, e.writer, e.seq, []⟩ e).epoch = 0 := by rw [sealRR_ok so]; exact ⟨rfl, rfl⟩
  have hre : s.isRec (recB L k e) = true := by
    simp only [Rpl.isRec, Bool.and_eq_true, decide_eq_true_eq]
    exact ⟨hE, by rw [hV, hco.1, g.coll]⟩
  obtain ⟨c1, c2, c3⟩ := com_3 (L := M) hre hch
  obtain ⟨A, hA⟩ := chL_in (M := M) hch
  have hlA := chL_len M s.ch (recB L k e)
  have op := seal_open (L := L) (M := chL M s.ch (recB L k e)) (X := X ++ A) (s := []) (seals_fine so) (by rw [hA, hM, recL, List.append_assoc]) (by omega)
  have hk0 : ¬ (keyAt s.ks (sealRR L [] k ⟨1, 0, e.writer, e.seq, []⟩ e).epoch).isEmpty = true := by
    rw [hco.2, g.key]; intro q
    have := g.kl; rw [List.isEmpty_iff.1 q] at this; cases this
  have hsk : keyAt s.ks (sealRR L [] k ⟨1, 0, e.writer, e.seq, []⟩ e).epoch = k := by rw [hco.2]; exact g.key
  have hno : ¬ (s.linked M (recB L k e)).pol.epoch < (sealRR L [] k ⟨1, 0, e.writer, e.seq, []⟩ e).epoch := by rw [hco.2]; show ¬ s.pol.epoch < 0; rw [g.ep]; decide
  have o4 := out_4 (s := s.linked M (recB L k e)) (L := chL M s.ch (recB L k e)) (x := sealRR L [] k ⟨1, 0, e.writer, e.seq, []⟩ e) (e := e) hno hk0
    (by show openRE _ s.sec (keyAt s.ks _) _ = 0; rw [hsk, g.sec]; exact op.1) (by show e = openRV _ s.sec (keyAt s.ks _) _; rw [hsk, g.sec]; exact op.2.1.symm)
  have hol : openRL (chL M s.ch (recB L k e)) (s.linked M (recB L k e)).sec (keyAt (s.linked M (recB L k e)).ks (sealRR L [] k ⟨1, 0, e.writer, e.seq, []⟩ e).epoch) (sealRR L [] k ⟨1, 0, e.writer, e.seq, []⟩ e) = chL M s.ch (recB L k e) := by
    show openRL _ s.sec (keyAt s.ks _) _ = _; rw [hsk, g.sec]; exact op.2.2
  rw [hol] at o4
  have hsq : ¬ e.seq ≤ seenAt (s.linked M (recB L k e)).seen e.writer := by
    show ¬ e.seq ≤ seenAt s.seen e.writer
    rw [h.writer, h.seq, g.seen]; omega
  have hep : ¬ (e.kind ≠ 5 ∧ (sealRR L [] k ⟨1, 0, e.writer, e.seq, []⟩ e).epoch ≠ (s.linked M (recB L k e)).pol.epoch) := by
    rw [hco.2]; show ¬ (e.kind ≠ 5 ∧ 0 ≠ s.pol.epoch); rw [g.ep]; simp
  have e3 := ent_3 (s := s.linked M (recB L k e)) (L := chL M s.ch (recB L k e)) hsq hep
  have hmay : (s.linked M (recB L k e)).pol.mayE e = 0 := h.may
  rw [hV] at c2 c3
  refine ⟨c1, by rw [c2, o4.1, e3.1, hmay], ?_, hch⟩
  rw [c3, o4.2, e3.2.2 hmay, Rpl.take, wraps_no5 h.right h.kind]
  rfl
theorem app_ep {p : Pol} (hk : e.kind ≠ 5) : (p.app e).epoch = p.epoch := by
  unfold Pol.app; rw [if_neg hk]; split
  · rfl
  · split <;> rfl
theorem MineAt.next (g : MineAt k m s) (h : OwnE e m s.pol) (hch : chE s.ch b = 0) : MineAt k (m + 1) (s.does M b e) := by
  refine ⟨g.coll, g.sec, ?_, g.key, g.kl, ?_, ?_, ?_⟩
  · show (s.pol.app e).epoch = 0; rw [app_ep h.kind, g.ep]
  · show (s.seen.set _ _).length = 17
    rw [List.length_set]; exact g.seenL
  · show seenAt (s.seen.set e.writer.toNat e.seq) 1 = _
    rw [h.writer, h.seq, seenAt, if_pos (by decide), show ((1 : Int)).toNat = 1 from rfl, List.getD, List.getElem?_set_self (by rw [g.seenL]; decide)]
    simp
  · show (chApp M s.ch b).links.length = _
    rw [chApp, if_pos hch]; simp [g.lk]
def PendOk (L : List Thing) (k : List UInt8) : Nat → Pol × List Doc → List WaitT → Prop
  | _, _, [] => True
  | m, x, w :: l => OwnE w.e m x.1 ∧ (∃ M X, w.raw = recB M k w.e ∧ L = recL M k w.e ++ X) ∧ PendOk L k (m + 1) (x.1.app w.e, applyD x.2 w.e) l
theorem view1_own {w : WaitT} (h : OwnE w.e m x.1) : view1 w.e x = (x.1.app w.e, applyD x.2 w.e) := if_pos h.may
theorem PendOk.more : ∀ {l : List WaitT} {m : Nat} {x : Pol × List Doc}, PendOk L k m x l → PendOk (L ++ A) k m x l
  | [], _, _, _ => trivial
  | _ :: _, _, _, ⟨h1, ⟨M, X, h2, h3⟩, h4⟩ => ⟨h1, ⟨M, X ++ A, h2, by rw [h3, List.append_assoc]⟩, h4.more⟩
theorem recL_app (L : List Thing) (k : List UInt8) (e : Entry) : ∃ Y, recL L k e = L ++ Y := by
  unfold recL sealRL; split
  · obtain ⟨Y, hY⟩ := markL_app L [] 1 e.writer e.encB
    exact ⟨Y ++ [sealRT L [] k ⟨1, 0, e.writer, e.seq, []⟩ e], by rw [← List.append_assoc]; exact congrArg (· ++ _) hY⟩
  · exact ⟨[], by simp⟩
theorem PendOk.snoc : ∀ {l : List WaitT} {m : Nat} {x : Pol × List Doc}, PendOk L k m x l → OwnE e (m + l.length) (viewAll (l.map WaitT.e) x).1 → PendOk (recL L k e) k m x (l ++ [⟨e, recB L k e⟩])
  | [], m, x, _, h => ⟨h, ⟨L, [], rfl, by simp⟩, trivial⟩
  | w :: l, m, x, ⟨h1, h2, h3⟩, h => by
    obtain ⟨Y, hY⟩ := recL_app L k e
    obtain ⟨M, X, h4, h5⟩ := h2
    refine ⟨h1, ⟨M, X ++ Y, h4, by rw [hY, h5, List.append_assoc]⟩, h3.snoc ?_⟩
    rw [List.map_cons, viewAll, view1_own h1, List.length_cons] at h
    rwa [Nat.add_assoc, Nat.add_comm 1]
theorem PendOk.ep : ∀ {l : List WaitT} {m : Nat} {x : Pol × List Doc}, PendOk L k m x l → (viewAll (l.map WaitT.e) x).1.epoch = x.1.epoch
  | [], _, _, _ => rfl
  | w :: l, m, x, ⟨h1, _, h3⟩ => by rw [List.map_cons, viewAll, view1_own h1, h3.ep]; exact app_ep h1.kind
theorem PendOk.rest : ∀ {l : List WaitT} {m n : Nat} {x : Pol × List Doc}, PendOk L k m x l → n ≤ l.length → l.filter (fun w => decide (((m + n : Nat) : Int) < w.e.seq)) = l.drop n
  | [], _, n, _, _, hn => by simp
  | w :: l, m, 0, x, ⟨h1, _, h3⟩, _ => by
    have hl := h3.rest (n := 0) (Nat.zero_le _)
    rw [List.filter_cons_of_pos (by simp [h1.seq]; omega)]
    refine congrArg (w :: ·) ?_
    refine Eq.trans (List.filter_congr fun v hv => ?_) hl
    have : ∀ {l : List WaitT} {m : Nat} {x : Pol × List Doc}, PendOk L k m x l → ∀ v ∈ l, (m : Int) < v.e.seq := by
      intro l
      induction l with
      | nil => intro m x _ v hv; cases hv
      | cons a r ih =>
        intro m x ⟨a1, _, a3⟩ v hv
        rcases List.mem_cons.1 hv with rfl | hv
        · rw [a1.seq]; omega
        · have := ih a3 v hv; omega
    have := this h3 v hv
    rw [decide_eq_true (by omega), decide_eq_true (by omega)]
  | w :: l, m, n + 1, x, ⟨h1, _, h3⟩, hn => by
    rw [List.filter_cons_of_neg (by simp [h1.seq]; omega), List.drop_succ_cons]
    rw [List.length_cons] at hn
    have := h3.rest (n := n) (by omega)
    rw [← this]
    exact List.filter_congr fun v _ => by rw [show m + (n + 1) = m + 1 + n by omega]
theorem viewAll_append : ∀ {a c : List Entry} {x : Pol × List Doc}, viewAll (a ++ c) x = viewAll c (viewAll a x)
  | [], _, _ => rfl
  | _ :: a, _, _ => by rw [List.cons_append, viewAll, viewAll, viewAll_append]
/-- So many of what is pending are committed. -/
theorem comAll_pend : ∀ {l : List WaitT} {n m : Nat} {s : Rpl} {A : List Thing}, MineAt k m s → PendOk L k m (s.pol, s.docs) l → n ≤ l.length → m + l.length ≤ 50 → (L ++ A).length + l.length ≤ 10000 →
    MineAt k (m + n) (comAll ((l.take n).map WaitT.raw) (L ++ A, s)).2 ∧ ((comAll ((l.take n).map WaitT.raw) (L ++ A, s)).2.pol, (comAll ((l.take n).map WaitT.raw) (L ++ A, s)).2.docs) = viewAll ((l.take n).map WaitT.e) (s.pol, s.docs)
  | l, 0, m, s, A, g, _, _, _, _ => by simp only [List.take_zero, List.map_nil, comAll, viewAll, Nat.add_zero]; exact ⟨g, trivial⟩
  | [], n + 1, _, _, _, _, _, h, _, _ => by simp at h
  | w :: l, n + 1, m, s, A, g, ⟨h1, ⟨M, X, h2, h3⟩, h4⟩, hn, hm, hl => by
    rw [List.length_cons] at hn hm hl
    have hc := g.com (L := M) (M := L ++ A) (X := X ++ A) h1 (by omega) (by rw [h3, List.append_assoc]) (by omega)
    rw [← h2] at hc
    obtain ⟨c1, c2, c3, hch⟩ := hc
    obtain ⟨A2, hA2⟩ := chL_in (M := L ++ A) hch
    have hlA := chL_len (L ++ A) s.ch w.raw
    have hS : s.comS (L ++ A) w.raw = (L ++ (A ++ A2), s.does (L ++ A) w.raw w.e) := by rw [c3, hA2, List.append_assoc]
    have ih := comAll_pend (l := l) (n := n) (m := m + 1) (s := s.does (L ++ A) w.raw w.e) (A := A ++ A2) (g.next h1 hch) h4 (by omega) (by omega) (by rw [← List.append_assoc, ← hA2]; omega)
    rw [List.take_succ_cons, List.map_cons, List.map_cons, comAll, viewAll]
    rw [show (L ++ A, s).2.comS (L ++ A, s).1 w.raw = (L ++ (A ++ A2), s.does (L ++ A) w.raw w.e) from hS, view1_own h1, show m + (n + 1) = m + 1 + n by omega]
    exact ih
end
def key0 : List UInt8 := keyAt (newR [] 1 1 1 []).2.ks 0
structure DGood (L : List Thing) (c : Cli) (n : Nat) : Prop where
  good : CGood L c n
  pend : PendOk L key0 0 (c.r.pol, c.r.docs) c.pend
  cnt : c.count = (c.pend.length : Int)
  lst : c.last = (c.pend.length : Int)
section
variable {c : Cli} {L : List Thing} {e : Entry} {n : Nat}
theorem DGood.begin : DGood (newR [] 1 1 1 []).1 (newC [] 1 1 1 []) 0 := ⟨CGood.begin, trivial, rfl, rfl⟩
theorem CGood.seq (g : CGood L c n) : c.seq = (if c.last < 0 then 0 else c.last) + 1 := by
  rw [Cli.seq, g.r, g.who.2.2.1]; rfl
theorem CGood.keyc (g : CGood L c n) : c.key 0 = key0 := by rw [Cli.key, g.r]; rfl
theorem DGood.view0 (g : DGood L c n) : c.view.1.epoch = 0 := by
  have h := g.pend.ep
  have : (c.r.pol).epoch = 0 := by rw [g.good.r]; rfl
  exact h.trans this
theorem DGood.issue (g : DGood L c n) : DGood (c.issueL L e) (c.issueS L e) (n + 1) := by
  have hg := g.good.issue (e := e)
  by_cases hB : c.bars e = 0
  · have hb := Cli.bars_0 hB
    have hL : c.issueL L e = c.sealL L 0 (c.own e) := by rw [Cli.issueL, if_pos hB, g.view0]
    have hS : c.issueS L e = c.sealS L 0 (c.own e) := by rw [Cli.issueS, if_pos hB, g.view0]
    have hseq : c.seq = (c.pend.length : Int) + 1 := by rw [g.good.seq, if_neg (by have := g.lst; omega), g.lst]
    have hR : c.rec0 0 = ⟨1, 0, (c.own e).writer, (c.own e).seq, []⟩ := by
      show (⟨c.coll, 0, c.who, c.count + 1, []⟩ : Record) = ⟨1, 0, c.who, c.seq, []⟩
      rw [g.good.who.1, hseq, g.cnt]
    have hk : ¬ (c.key 0).isEmpty = true := by rw [g.good.keyc]; exact of_decide_eq_true (by kernel_rfl)
    have hL2 : c.issueL L e = recL L key0 (c.own e) := by rw [hL, Cli.sealL, if_neg hk, hR, g.good.keyc, g.good.who.2.2.2]; rfl
    by_cases hE : c.sealE 0 (c.own e) = 0
    · have hS2 : c.issueS L e = c.waits L 0 (c.own e) := by rw [hS, Cli.sealS, if_pos hE]
      have hraw : c.sealB L 0 (c.own e) = recB L key0 (c.own e) := by rw [Cli.sealB, hR, g.good.keyc, g.good.who.2.2.2]; rfl
      have hp : (c.issueS L e).pend = c.pend ++ [⟨c.own e, recB L key0 (c.own e)⟩] := by rw [hS2, ← hraw]; rfl
      have hr : (c.issueS L e).r = c.r := by rw [hS2]; rfl
      refine ⟨hg, ?_, ?_, ?_⟩
      · rw [hp, hr, hL2]
        refine g.pend.snoc ⟨g.good.who.2.2.1, by rw [Nat.zero_add]; exact hseq, hb.2.2.1, hb.2.2.2⟩
      · rw [hp, hS2, List.length_append]; show c.count + 1 = _; rw [g.cnt]; simp
      · rw [hp, hS2, List.length_append]; show c.seq = _; rw [hseq]; simp
    · have hS2 : c.issueS L e = c := by rw [hS, Cli.sealS, if_neg hE]
      obtain ⟨Y, hY⟩ := recL_app L key0 (c.own e)
      rw [hS2] at hg ⊢
      exact ⟨hg, by rw [hL2, hY]; exact g.pend.more, g.cnt, g.lst⟩
  · have hL : c.issueL L e = L := if_neg hB
    have hS : c.issueS L e = c := if_neg hB
    rw [hS, hL] at hg ⊢
    exact ⟨hg, g.pend, g.cnt, g.lst⟩
theorem pend_links : ∀ {l : List WaitT} {m : Nat} {x : Pol × List Doc}, PendOk L key0 m x l → m + l.length ≤ 1000 → ∀ w ∈ l, recE w.raw = 0 ∧ (recV w.raw).coll = 1
  | [], _, _, _, _ => fun w hw => by cases hw
  | a :: l, m, x, ⟨h1, ⟨M, X, h2, _⟩, h4⟩, hm => fun w hw => by
    rw [List.length_cons] at hm
    rcases List.mem_cons.1 hw with rfl | hw
    · have so := h1.seals (k := key0) (by omega) (by rfl)
      obtain ⟨_, hE, hV, _⟩ := seals_rec (L := M) so
      rw [h2]; exact ⟨hE, by rw [hV, sealRR_ok so]⟩
    · exact pend_links h4 (by omega) w hw
def Cli.part (c : Cli) (n : Nat) : FrameT := { c.pushF with kind := 3, links := (c.pend.take n).map WaitT.raw }
theorem part_enc (h : c.ok) : (c.part n).encE = 0 := by
  have hl : ∀ b ∈ (c.pend.take n).map WaitT.raw, 1 ≤ b.length ∧ b.length ≤ 3000 := by
    intro b hb; obtain ⟨w, hw, rfl⟩ := List.mem_map.1 hb; exact (h.pendR w (List.mem_of_mem_take hw)).2
  refine fr_fits ?_ (fun b hb => (hl b hb).2)
  have hn : (c.part n).nums = true := nums_fr.2 ⟨h.num.1, by show (0 : Int) ≤ 0 ∧ (0 : Int) ≤ 64; decide⟩
  have hlo : linksOk (c.part n).links 0 = true := by
    rw [links_iff]
    refine ⟨by omega, ?_, fun b hb => by have := hl b hb; omega⟩
    show ((c.pend.take n).map WaitT.raw).length ≤ 8
    rw [List.length_map, List.length_take]; have := h.pend8; omega
  rw [FrameT.right, hn, FrameT.body, if_neg (by show ¬ (3 : Int) = 1; decide), if_neg (by show ¬ (3 : Int) = 2; decide), if_pos (show (c.part n).kind = 3 from rfl), hlo]; rfl
structure Doned (L : List Thing) (c : Cli) (n : Nat) : Prop where
  take : c.takeE (c.part n).encB = 0
  outs : (c.takeO L (c.part n).encB).length = n
  pend : (c.takeS L (c.part n).encB).2.pend = c.pend.drop n
  docs : (c.takeS L (c.part n).encB).2.view.2 = c.view.2
theorem DGood.done {q : Nat} (g : DGood L c q) (hq : q ≤ 50) (hn : n ≤ c.pend.length) : Doned L c n := by
  have h8 := g.good.ok.pend8
  have hch := g.good.chain
  have hr := fr_read (part_enc (n := n) g.good.ok)
  have hl : (c.part n).links = (c.pend.take n).map WaitT.raw := rfl
  have hbad : (c.part n).links.any (linkBad c.coll) = false := by
    rw [List.any_eq_false]
    intro b hb; rw [hl] at hb
    obtain ⟨w, hw, rfl⟩ := List.mem_map.1 hb
    have := pend_links g.pend (by omega) w (List.mem_of_mem_take hw)
    simp [linkBad, this.1, this.2, g.good.who.1]
  have hlen : (c.part n).links.length = n := by rw [hl, List.length_map, List.length_take]; omega
  have ht : c.takeE (c.part n).encB = 0 := by
    rw [Cli.takeE, if_pos hr.2.1, hr.2.2, Cli.checkE, if_neg (by show ¬ (3 : Int) ≠ 3; decide), if_neg (by show ¬ c.coll ≠ c.coll; exact fun q => q rfl), if_neg (by rw [g.good.al]; decide), if_neg (by rw [hch.1]; show ¬ (0 : Int) ≠ 0; decide), if_neg (by rw [hbad]; decide), if_neg (by rw [hch.1, hlen]; simp; omega)]
  have hAt : MineAt key0 0 c.r := by
    have hk : (newR [] 1 1 1 []).2.seen.length = 17 := rfl
    rw [g.good.r]; exact ⟨rfl, rfl, rfl, rfl, rfl, hk, rfl, rfl⟩
  have hc := comAll_pend (n := n) (A := []) hAt g.pend hn (by omega) (by have := g.good.len; simp; omega)
  rw [List.append_nil, Nat.zero_add] at hc
  have hS : c.takeS L (c.part n).encB = ((comAll (c.part n).links (L, c.r)).1, { c with r := (comAll (c.part n).links (L, c.r)).2, pend := c.rest (comAll (c.part n).links (L, c.r)).2 }) := by rw [Cli.takeS, if_pos ht, hr.2.2]
  have hp : (c.takeS L (c.part n).encB).2.pend = c.pend.drop n := by
    rw [hS]; show c.rest _ = _
    have hrs := g.pend.rest hn
    rw [← hrs, Cli.rest, hl, g.good.who.2.2.1, hc.1.seen, Nat.zero_add]
  refine ⟨ht, ?_, hp, ?_⟩
  · rw [Cli.takeO, if_pos ht, hr.2.2, comOuts_len, hlen]
  · have hv : (c.takeS L (c.part n).encB).2.view = viewAll ((c.pend.drop n).map WaitT.e) (viewAll ((c.pend.take n).map WaitT.e) (c.r.pol, c.r.docs)) := by
      rw [Cli.view, Cli.pendE, hp, hS, ← hc.2]; rfl
    rw [hv, ← viewAll_append, ← List.map_append, List.take_append_drop]; rfl
/-- The documents that are seen are short. -/
theorem view_val : ∀ {l : List Entry} {x : Pol × List Doc}, (∀ d ∈ x.2, d.1.length ≤ 64 ∧ d.2.length ≤ 512) → ∀ d ∈ (viewAll l x).2, d.1.length ≤ 64 ∧ d.2.length ≤ 512
  | [], _, h => h
  | e :: l, x, h => by
    rw [viewAll]; refine view_val ?_
    unfold view1; split
    · rename_i hm; exact applyD_val (may_0 hm).2 h
    · exact h
theorem Cli.ok.view_small (h : c.ok) : c.view.2.length ≤ 1000000 ∧ ∀ d ∈ c.view.2, d.1.length ≤ 1000000 ∧ d.2.length ≤ 1000000 := by
  have h1 := (view_len c.pendE (c.r.pol, c.r.docs)).2
  have h2 := h.r.docs
  have h3 := h.r.links
  have h4 := h.pend8
  refine ⟨?_, fun d hd => by have := view_val h.r.val d hd; omega⟩
  show (viewAll c.pendE (c.r.pol, c.r.docs)).2.length ≤ _
  have : c.pendE.length = c.pend.length := List.length_map _
  dsimp only at h1
  omega
theorem issue_no (h : ¬ c.issueE e = 0) : c.issueS L e = c := by
  by_cases hB : c.bars e = 0
  · rw [Cli.issueE, if_pos hB] at h
    rw [Cli.issueS, if_pos hB, Cli.sealS, if_neg h]
  · exact if_neg hB
theorem issue_yes (h : c.issueE e = 0) : c.bars e = 0 ∧ (c.issueS L e).view = view1 (c.own e) c.view := by
  have hB : c.bars e = 0 := by
    by_cases hB : c.bars e = 0
    · exact hB
    · rw [Cli.issueE, if_neg hB] at h; exact h
  refine ⟨hB, ?_⟩
  rw [Cli.issueE, if_pos hB] at h
  rw [Cli.issueS, if_pos hB, Cli.sealS, if_pos h]
  show viewAll ((c.pend ++ [_]).map WaitT.e) (c.r.pol, c.r.docs) = _
  rw [List.map_append]; exact view_app
theorem sees_ok (h : c.issueE e = 0) : (c.issueS L e).view.2 = apD c.view.2 e ∧ 1 ≤ e.kind ∧ e.wraps.length ≤ 16 := by
  obtain ⟨hB, hv⟩ := issue_yes (L := L) h
  have hb := Cli.bars_0 hB
  have hr := (may_0 hb.2.2.2).2
  have hq := right_rng hr
  refine ⟨?_, hq.1.1, right_wl (e := c.own e) hr⟩
  rw [hv, view1, if_pos hb.2.2.2]
  show applyD c.view.2 (c.own e) = _
  rw [apD_right hr hb.2.2.1]; rfl
end
end Go.Proofs.YtanpinfhlbbjkaaGreat
