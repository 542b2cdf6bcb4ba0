import Derived.Test.YtanpinfhlbbjkaaGreatQClientSeesReplay
import Derived.Test.YtanpinfhlbbjkaaGreatQClientSeesSealLaw
import Derived.Test.YtanpinfhlbbjkaaGreatQClientSeesClient
set_option linter.unusedVariables false
set_option linter.unusedSimpArgs false
namespace Go.Proofs.YtanpinfhlbbjkaaGreat
open Go.RowKit Go.Ecal
def putEn (w q : Int) (n v : List UInt8) : Entry := ⟨1, w, q, n, v, 0, 0, 0, []⟩
end Go.Proofs.YtanpinfhlbbjkaaGreat

namespace Go.Proofs.YtanpinfhlbbjkaaGreat
open Go.RowKit Go.Ecal
/-- What a sealed entry that may be does. -/
def Rpl.does (s : Rpl) (L : List Thing) (b : List UInt8) (e : Entry) : Rpl :=
  { ({ s with ch := chApp L s.ch b } : Rpl).sees e with pol := s.pol.app e, docs := applyD s.docs e }
/-- The list of what was sealed. -/
def recB (L : List Thing) (k : List UInt8) (e : Entry) : List UInt8 := (sealRR L [] k ⟨1, 0, e.writer, e.seq, []⟩ e).encB
def recL (L : List Thing) (k : List UInt8) (e : Entry) : List Thing := sealRL L [] k ⟨1, 0, e.writer, e.seq, []⟩ e
structure Good (L : List Thing) (k : List UInt8) (m : Nat) (s : Rpl) : Prop where
  coll : s.coll = 1
  sec : s.sec = []
  fnd : s.pol.founder = 1
  ep : s.pol.epoch = 0
  mem : s.pol.mem = [⟨1, 7⟩] ∨ ∃ r, (1 ≤ r ∧ r ≤ 7) ∧ s.pol.mem = [⟨1, 7⟩, ⟨2, r⟩]
  key : keyAt s.ks 0 = k
  kl : k.length = 32
  seenL : s.seen.length = 17
  seen : seenAt s.seen 1 ≤ m
  lk : s.ch.links.length = m
  sums : ∀ x ∈ s.ch.sums, x.length = 32
  docs : s.docs.length ≤ m
  txt : Texts 10000 L
  len : L.length ≤ 100 + 10 * m
/-- What is bare of a put or a change of rights. -/
structure Plain (e : Entry) (m : Nat) : Prop where
  right : e.right = true
  writer : e.writer = 1
  seq : e.seq = (m : Int) + 1
  kind : e.kind = 1 ∨ (e.kind = 3 ∧ e.who = 2)
section
variable {L M X : List Thing} {k b : List UInt8} {m : Nat} {s : Rpl} {e : Entry}
theorem Plain.seals (h : Plain e m) (hm : m ≤ 1000) (hk : k.length = 32) : SealsOk k ⟨1, 0, e.writer, e.seq, []⟩ e :=
  ⟨h.right, rfl, hk, by rw [nums_iff, h.writer, h.seq]; dsimp only; omega, encB_len h.right⟩
theorem Good.pright (g : Good L k m s) : s.pol.right = true := by
  rcases g.mem with h | ⟨r, hr, h⟩
  · simp [Pol.right, h, risingM, rightsOf, g.ep, g.fnd]
  · have h1 : ¬ r < 1 := by omega
    have h2 : ¬ 7 < r := by omega
    simp [Pol.right, h, risingM, rightsOf, g.ep, g.fnd, h1, h2]
theorem Good.may (g : Good L k m s) (h : Plain e m) : s.pol.mayE e = 0 := by
  have h7 : rightsOf s.pol.mem 1 = 7 := by rcases g.mem with h | ⟨r, hr, h⟩ <;> simp [h, rightsOf]
  rw [Pol.mayE, if_neg (by rw [g.pright, h.right]; decide), h.writer, h7]
  rcases h.kind with hk | ⟨hk, hw⟩
  · rw [if_pos (by omega), if_neg (by decide)]
  · rw [if_neg (by omega), if_neg (by rw [hw, g.fnd]; omega), if_neg (by decide), if_neg (by omega)]
theorem chL_in (h : chE s.ch b = 0) : ∃ A, chL M s.ch b = M ++ A := by
  rw [chL, if_pos h]; exact onceL_app _ _
theorem seals_rec (h : SealsOk k ⟨1, 0, e.writer, e.seq, []⟩ e) : (sealRR L [] k ⟨1, 0, e.writer, e.seq, []⟩ e).right = true ∧ recE (recB L k e) = 0 ∧ recV (recB L k e) = sealRR L [] k ⟨1, 0, e.writer, e.seq, []⟩ e ∧ (recB L k e).length ≤ 3000 ∧ 1 ≤ (recB L k e).length := by
  have hpl : (twoT e.encB (markB L [] 1 e.writer e.encB)).length ≤ 2046 := by rw [twoT_len, markB_len]; have := h.enc; omega
  have hr : (sealRR L [] k ⟨1, 0, e.writer, e.seq, []⟩ e).right = true := by
    rw [sealRR_ok h]; exact box_right h.nums hpl
  have hf : recB L k e = (sealRR L [] k ⟨1, 0, e.writer, e.seq, []⟩ e).flat := (rec_put hr).2
  have h1 := rec_read hr
  have h2 := enc_len hr
  have h3 := (right_iff.1 hr).2
  refine ⟨hr, by rw [recE, hf, h1.1]; rfl, by rw [hf]; exact h1.2, ?_, ?_⟩ <;> · show _ ≤ _; rw [recB] at *; omega
theorem app_len {K : List Doc} (h : Plain e m) : (applyD K e).length ≤ K.length + 1 := by
  have hd : ∀ n, (delD K n).length ≤ K.length := fun n => List.length_filter_le _ _
  have hi : ∀ (x : Doc) (K : List Doc), (insD x K).length = K.length + 1 := fun x K => by
    induction K with
    | nil => rfl
    | cons y r ih => rw [insD]; split <;> simp [ih]
  unfold applyD
  split
  · omega
  · split
    · rw [putD, hi]; have := hd e.name; omega
    · split
      · have := hd e.name; omega
      · omega
theorem Good.next (g : Good L k m s) (h : Plain e m) (hm : m ≤ 50) (hM : M = recL L k e) (hch : chE s.ch (recB L k e) = 0) :
    Good (chL M s.ch (recB L k e)) k (m + 1) (s.does M (recB L k e) e) := by
  have so := h.seals (k := k) (by omega) g.kl
  have hb := (seals_rec (L := L) so).2.2.2.1
  refine ⟨g.coll, g.sec, ?_, ?_, ?_, g.key, g.kl, ?_, ?_, ?_, ?_, ?_, ?_, ?_⟩
  · show (s.pol.app e).founder = 1
    rcases h.kind with hk | ⟨hk, hw⟩ <;> simp [Pol.app, hk, g.fnd]
  · show (s.pol.app e).epoch = 0
    rcases h.kind with hk | ⟨hk, hw⟩ <;> simp [Pol.app, hk, g.ep]
  · show (s.pol.app e).mem = _ ∨ ∃ r, _ ∧ (s.pol.app e).mem = _
    rcases h.kind with hk | ⟨hk, hw⟩
    · rw [show s.pol.app e = s.pol by simp [Pol.app, hk]]; exact g.mem
    · right
      have hr : 1 ≤ e.rights ∧ e.rights ≤ 7 := by
        have := h.right
        simp only [Entry.right, Bool.and_eq_true] at this
        have := this.2
        rw [Entry.body, if_neg (by omega), if_pos hk] at this
        simp only [Bool.and_eq_true, within_iff] at this; exact this.2
      refine ⟨e.rights, hr, ?_⟩
      rcases g.mem with q | ⟨r, hr, q⟩ <;> simp [Pol.app, hk, hw, q, setM]
  · show (s.seen.set _ _).length = 17
    rw [List.length_set]; exact g.seenL
  · show seenAt (s.seen.set e.writer.toNat e.seq) 1 ≤ _
    rw [h.writer, h.seq, seenAt, if_pos (by decide), show ((1 : Int)).toNat = 1 from rfl, List.getD, List.getElem?_set_self (by rw [g.seenL]; decide)]
    simp
  · show (chApp M s.ch (recB L k e)).links.length = _
    rw [chApp, if_pos hch]; simp [g.lk]
  · show ∀ x ∈ (chApp M s.ch (recB L k e)).sums, x.length = 32
    rw [chApp, if_pos hch]
    intro x hx
    rcases List.mem_append.1 hx with hx | hx
    · exact g.sums x hx
    · rw [List.mem_singleton.1 hx]; rfl
  · show (applyD s.docs e).length ≤ _
    have := app_len (K := s.docs) h; have := g.docs; omega
  · rw [chL, if_pos hch]
    refine Texts.once (by rw [hM]; exact g.txt.sealR (by decide)) ?_
    have hl : s.ch.head.length ≤ 32 := by
      unfold Chn.head
      cases hq : s.ch.sums[s.ch.links.length]? with
      | none => simp [List.getD, hq]
      | some y => simp [List.getD, hq, g.sums y (List.mem_of_getElem? hq)]
    simp [chNext]; omega
  · have h1 := chL_len M s.ch (recB L k e)
    have h2 := sealRL_len L [] k ⟨1, 0, e.writer, e.seq, []⟩ e
    have := g.len
    rw [hM, recL] at *; omega
/-- The other one, who is but another one. -/
abbrev Rpl.twin (s : Rpl) : Rpl := { s with who := 2 }
theorem Good.twin {t : Rpl} (g : Good L k m s) (ht : t = s.twin) : Good L k m t := by subst ht; exact ⟨g.coll, g.sec, g.fnd, g.ep, g.mem, g.key, g.kl, g.seenL, g.seen, g.lk, g.sums, g.docs, g.txt, g.len⟩
theorem Good.more {t : Rpl} (g : Good L k m s) (hM : Texts 10000 M) (hl : M.length ≤ 100 + 10 * m) : Good M k m s := ⟨g.coll, g.sec, g.fnd, g.ep, g.mem, g.key, g.kl, g.seenL, g.seen, g.lk, g.sums, g.docs, hM, hl⟩
structure Side (L : List Thing) (k : List UInt8) (s t : Rpl) (e : Entry) : Prop where
  l1 : (recL L k e).length ≤ 5000
  l2 : (s.comS (recL L k e) (recB L k e)).1.length ≤ 5001
  t1 : TxtOk (recL L k e)
  t2 : TxtOk (s.comS (recL L k e) (recB L k e)).1
  s1 : s.sec.length ≤ 100000
  s2 : t.sec.length ≤ 100000
  d1 : s.docs.length ≤ 100000
  d2 : t.docs.length ≤ 100000
  bl : (recB L k e).length ≤ 1000000000
theorem Good.begin {M : List Thing} {s t : Rpl} {L1 : List Thing} (h1 : s = (newR [] 1 1 1 []).2) (hL : L1 = (newR [] 1 1 1 []).1) (h2 : t = (newR L1 1 1 2 []).2) (hM : M = (newR L1 1 1 2 []).1) : Good M (keyAt s.ks 0) 0 s ∧ t = s.twin := by
  subst h1 hL h2 hM
  have e1 : (newR (newR [] 1 1 1 []).1 1 1 2 []).1 = (newR [] 1 1 1 []).1 := by decide
  refine ⟨⟨rfl, rfl, rfl, rfl, .inl rfl, rfl, rfl, rfl, by decide, rfl, by decide, by decide, ?_, ?_⟩, ?_⟩
  · rw [e1]; show ∀ t ∈ (newR [] 1 1 1 []).1, t.text.length ≤ 10000; decide
  · rw [e1]; decide
  · rw [newR, newR, Rpl.twin]
    have hc : chNew (onceL (derT [] uEpoch 0) (onceL (chT 1) [])) 1 = chNew [] 1 := by
      rw [chNew, chNew]; exact congrArg (fun n : Nat => (⟨[], [signOf 72 (n : Int)]⟩ : Chn)) (by decide)
    have hk : keyFor (onceL (chT 1) (onceL (derT [] uEpoch 0) (onceL (chT 1) []))) [] uEpoch 0 = keyFor (onceL (chT 1) []) [] uEpoch 0 := by decide
    rw [hc, hk]
end
end Go.Proofs.YtanpinfhlbbjkaaGreat

namespace Go.Proofs.YtanpinfhlbbjkaaGreat
open Go.RowKit Go.Ecal
/-- A founder's client that has only issued. -/
structure CGood (L : List Thing) (c : Cli) (n : Nat) : Prop where
  ok : c.ok
  al : c.alarm = false
  r : c.r = (newR [] 1 1 1 []).2
  who : c.coll = 1 ∧ c.founder = 1 ∧ c.who = 1 ∧ c.sec = []
  txt : Texts 10000 L
  len : L.length ≤ 10 + 3 * n
section
variable {c : Cli} {L : List Thing} {e : Entry} {n : Nat} {ep : Int}
theorem CGood.issue (g : CGood L c n) : CGood (c.issueL L e) (c.issueS L e) (n + 1) := by
  have hL : Texts 10000 (c.issueL L e) ∧ (c.issueL L e).length ≤ L.length + 3 := by
    unfold Cli.issueL; split
    · unfold Cli.sealL; split
      · exact ⟨g.txt, by omega⟩
      · exact ⟨g.txt.sealR (by decide), sealRL_len _ _ _ _ _⟩
    · exact ⟨g.txt, by omega⟩
  have hS : (c.issueS L e).alarm = c.alarm ∧ (c.issueS L e).r = c.r ∧ (c.issueS L e).coll = c.coll ∧ (c.issueS L e).founder = c.founder ∧ (c.issueS L e).who = c.who ∧ (c.issueS L e).sec = c.sec := by
    unfold Cli.issueS; split
    · unfold Cli.sealS; split
      · exact ⟨rfl, rfl, rfl, rfl, rfl, rfl⟩
      · exact ⟨rfl, rfl, rfl, rfl, rfl, rfl⟩
    · exact ⟨rfl, rfl, rfl, rfl, rfl, rfl⟩
  obtain ⟨a1, a2, a3, a4, a5, a6⟩ := hS
  exact ⟨g.ok.issue, a1.trans g.al, a2.trans g.r, by rw [a3, a4, a5, a6]; exact g.who, hL.1, by have := hL.2; have := g.len; omega⟩
theorem CGood.begin : CGood (newR [] 1 1 1 []).1 (newC [] 1 1 1 []) 0 :=
  ⟨newC_ok (by decide) (by simp), rfl, rfl, ⟨rfl, rfl, rfl, rfl⟩, (show ∀ t ∈ (newR [] 1 1 1 []).1, t.text.length ≤ 10000 from of_decide_eq_true (by kernel_rfl)), of_decide_eq_true (by kernel_rfl)⟩
theorem CGood.chain (g : CGood L c n) : c.r.ch.links = [] ∧ c.r.ch.sums.length = 1 ∧ c.r.coll = 1 := by rw [g.r]; exact ⟨rfl, rfl, rfl⟩
theorem CGood.headI (g : CGood L c n) : (atV c.r.ch (c.r.ch.links.length : Int)).index = 0 := by
  have h := g.chain
  rw [atV, if_pos (by rw [h.1, h.2.1]; decide), h.1]; rfl
theorem lnB_len : ∀ (l : List (List UInt8)), (∀ b ∈ l, b.length ≤ 3000) → (lnB l).length ≤ 3002 * l.length
  | [], _ => by simp [lnB]
  | b :: l, h => by
    have h1 := h b (by simp)
    have h2 := lnB_len l fun c hc => h c (by simp [hc])
    have h3 : (lnB (b :: l)).length = 2 + b.length + (lnB l).length := by simp [lnB, be2]; omega
    rw [h3, List.length_cons]; omega
theorem fr_fits {f : FrameT} (hr : f.right = true) (h : ∀ b ∈ f.links, b.length ≤ 3000) : f.encE = 0 := by
  obtain ⟨_, h8, _, hs⟩ := right_fr hr
  have hl := lnB_len f.links h
  have hlen : (putB f.parts).length ≤ 32768 := by
    rw [fr_bytes hr]; simp only [List.length_append, be6, be2, List.length_cons, List.length_nil]; omega
  rw [FrameT.encE, if_neg (by rw [hr]; decide), if_neg (by omega)]
theorem check_0 {f : FrameT} (h : c.checkE f = 0) : f.kind = 3 ∧ f.coll = c.coll ∧ c.alarm = false ∧ f.index = (c.r.ch.links.length : Int) ∧ f.links.any (linkBad c.coll) = false ∧ (c.r.ch.links.length : Int) + (f.links.length : Int) ≤ 64 := by
  unfold Cli.checkE at h
  split at h
  · cases h
  split at h
  · cases h
  split at h
  · cases h
  split at h
  · cases h
  split at h
  · cases h
  split at h
  · cases h
  rename_i h1 h2 h3 h4 h5 h6
  exact ⟨Classical.byContradiction h1, Classical.byContradiction h2, by simpa using h3, Classical.byContradiction h4, by simpa using h5, by omega⟩
theorem take_0 {b : List UInt8} (h : c.takeE b = 0) : frE b = 0 ∧ c.checkE (frV b) = 0 := by
  unfold Cli.takeE at h; split at h
  · rename_i q; exact ⟨q, h⟩
  · rename_i q; exact absurd h q
theorem outS_ch {s : Rpl} {x : Record} : (s.outS L x).2.ch = s.ch ∧ (s.outS L x).2.coll = s.coll := by
  unfold Rpl.outS
  split
  · exact ⟨rfl, rfl⟩
  split
  · exact ⟨rfl, rfl⟩
  split
  · exact ⟨rfl, rfl⟩
  unfold Rpl.entryS
  split
  · exact ⟨rfl, rfl⟩
  split
  · exact ⟨rfl, rfl⟩
  · exact ⟨rfl, rfl⟩
theorem comOuts_len : ∀ {l : List (List UInt8)} {x : World2}, (comOuts l x).length = l.length
  | [], _ => rfl
  | b :: l, x => by rw [comOuts, List.length_cons, List.length_cons, comOuts_len]
theorem com_chain {s : Rpl} {b : List UInt8} (h1 : recE b = 0) (h2 : (recV b).coll = s.coll) (h3 : 1 ≤ b.length ∧ b.length ≤ 4096) (h4 : s.ch.links.length < 64) : s.comE b = 0 ∧ (s.comS L b).2.ch = chApp L s.ch b ∧ (s.comS L b).2.coll = s.coll ∧ chApp L s.ch b = ⟨s.ch.links ++ [b], s.ch.sums ++ [signOf 72 (onceN (chNext s.ch b) L : Int)]⟩ := by
  have hch : chE s.ch b = 0 := by rw [chE, if_neg (by omega), if_neg (by omega)]
  have hE : s.comE b = 0 := by rw [Rpl.comE, if_pos (by simp [Rpl.isRec, h1, h2])]; exact hch
  refine ⟨hE, ?_, ?_, if_pos hch⟩
  · rw [Rpl.comS, if_pos hE, outS_ch.1]; rfl
  · rw [Rpl.comS, if_pos hE, outS_ch.2]; rfl
theorem comAll_chain : ∀ {l : List (List UInt8)} {x : World2}, (∀ b ∈ l, (recE b = 0 ∧ (recV b).coll = x.2.coll) ∧ 1 ≤ b.length ∧ b.length ≤ 4096) → x.2.ch.links.length + l.length ≤ 64 → x.2.ch.sums.length = x.2.ch.links.length + 1 →
    (comAll l x).2.ch.links.length = x.2.ch.links.length + l.length ∧ (comAll l x).2.ch.sums.length = x.2.ch.links.length + l.length + 1
  | [], x, _, _, h => ⟨rfl, h⟩
  | b :: l, x, hl, h64, hs => by
    have hb := hl b (by simp)
    rw [List.length_cons] at h64
    have hc := com_chain (L := x.1) hb.1.1 hb.1.2 hb.2 (by omega)
    have hlen : (x.2.comS x.1 b).2.ch.links.length = x.2.ch.links.length + 1 ∧ (x.2.comS x.1 b).2.ch.sums.length = x.2.ch.sums.length + 1 := by rw [hc.2.1, hc.2.2.2]; simp
    have ih := comAll_chain (l := l) (x := x.2.comS x.1 b) (fun d hd => by rw [hc.2.2.1]; exact hl d (by simp [hd])) (by omega) (by omega)
    rw [comAll, List.length_cons]; omega
theorem take_chain {b : List UInt8} (h : c.takeE b = 0) (hr : c.r.coll = c.coll) (hs : c.r.ch.sums.length = c.r.ch.links.length + 1) :
    (comAll (frV b).links (L, c.r)).2.ch.links.length = c.r.ch.links.length + (frV b).links.length ∧ (comAll (frV b).links (L, c.r)).2.ch.sums.length = c.r.ch.links.length + (frV b).links.length + 1 := by
  obtain ⟨h1, h2⟩ := take_0 h
  have hk := check_0 h2
  have hf := right_fr (fr_ok h1)
  refine comAll_chain (fun d hd => ⟨?_, hf.2.2.1 d hd⟩) (by have := hk.2.2.2.2.2; show c.r.ch.links.length + _ ≤ 64; omega) hs
  have hq := List.any_eq_false.1 hk.2.2.2.2.1 d hd
  simp only [linkBad, Bool.not_eq_true', Bool.and_eq_false_iff, decide_eq_false_iff_not, not_or, Classical.not_not] at hq
  exact ⟨hq.1, hq.2.trans hr.symm⟩
theorem CGood.taken (g : CGood L c n) {b : List UInt8} (h : c.takeE b = 0) : ((c.takeO L b).length : Int) = (atV (c.takeS L b).2.r.ch ((c.takeS L b).2.r.ch.links.length : Int)).index := by
  have hch := g.chain
  have ht := take_chain (L := L) h (by rw [hch.2.2, g.who.1]) (by rw [hch.1, hch.2.1]; rfl)
  have hO : (c.takeO L b).length = (frV b).links.length := by rw [Cli.takeO, if_pos h, comOuts_len]
  have hS : (c.takeS L b).2.r = (comAll (frV b).links (L, c.r)).2 := by rw [Cli.takeS, if_pos h]
  rw [hch.1] at ht
  rw [hO, hS, atV, if_pos (by rw [ht.1, ht.2]; omega), ht.1]; simp
end
end Go.Proofs.YtanpinfhlbbjkaaGreat
