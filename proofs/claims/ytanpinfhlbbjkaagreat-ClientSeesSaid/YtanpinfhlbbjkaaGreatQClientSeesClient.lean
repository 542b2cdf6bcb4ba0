import Derived.Test.YtanpinfhlbbjkaaGreatQClientSeesFrame
import Derived.Test.YtanpinfhlbbjkaaGreatQClientSeesReplay
import Derived.Test.YtanpinfhlbbjkaaGreatQClientSeesSealLaw
set_option linter.unusedVariables false
set_option linter.unusedSimpArgs false
namespace Go.Proofs.YtanpinfhlbbjkaaGreat
open Go.RowKit Go.Ecal
def view1 (e : Entry) (x : Pol × List Doc) : Pol × List Doc := if x.1.mayE e = 0 then (x.1.app e, applyD x.2 e) else x
def viewAll : List Entry → Pol × List Doc → Pol × List Doc
  | [], x => x
  | e :: l, x => viewAll l (view1 e x)
theorem view_app {e : Entry} : ∀ {l : List Entry} {x : Pol × List Doc}, viewAll (l ++ [e]) x = view1 e (viewAll l x)
  | [], _ => rfl
  | _ :: l, x => by rw [List.cons_append, viewAll, viewAll, view_app (l := l)]
theorem view_step {l : List Entry} {j : Nat} {a : Entry} {x : Pol × List Doc} (ha : l[j]? = some a) : viewAll (l.take (j + 1)) x = view1 a (viewAll (l.take j) x) := by
  rw [List.take_add_one, ha]; exact view_app
theorem applyD_len (K : List Doc) (e : Entry) : (applyD K e).length ≤ K.length + 1 := by
  have hd : ∀ n, (delD K n).length ≤ K.length := fun n => List.length_filter_le _ _
  have hi : ∀ (x : Doc) (K : List Doc), (insD x K).length = K.length + 1 := fun x K => by
    induction K with
    | nil => rfl
    | cons y r ih => rw [insD]; split <;> simp [ih]
  unfold applyD
  split
  · omega
  · split
    · rw [putD, hi]; have := hd e.name; omega
    · split
      · have := hd e.name; omega
      · omega
theorem setM_len (l : List MemT) (w r : Int) : (setM l w r).length ≤ l.length + 1 := by
  induction l with
  | nil => simp [setM]
  | cons m t ih => rw [setM]; split
                   · simp; omega
                   · split <;> simp
theorem app_mem (p : Pol) (e : Entry) : (p.app e).mem.length ≤ p.mem.length + 1 := by
  unfold Pol.app
  split
  · simp
  · split
    · show (delM p.mem e.who).length ≤ _; have := List.length_filter_le (fun m : MemT => !decide (m.who = e.who)) p.mem; rw [delM]; omega
    · split
      · exact setM_len _ _ _
      · omega
theorem view1_len (e : Entry) (x : Pol × List Doc) : (view1 e x).1.mem.length ≤ x.1.mem.length + 1 ∧ (view1 e x).2.length ≤ x.2.length + 1 := by
  unfold view1; split
  · exact ⟨app_mem _ _, applyD_len _ _⟩
  · omega
theorem view_len : ∀ (l : List Entry) (x : Pol × List Doc), (viewAll l x).1.mem.length ≤ x.1.mem.length + l.length ∧ (viewAll l x).2.length ≤ x.2.length + l.length
  | [], x => by simp [viewAll]
  | e :: l, x => by
    have h1 := view1_len e x
    have h2 := view_len l (view1 e x)
    rw [viewAll, List.length_cons]; omega
/-- Numbers that stay in their bounds. -/
def polN (p : Pol) : Prop := (1 ≤ p.founder ∧ p.founder ≤ 16) ∧ 0 ≤ p.epoch ∧ p.epoch ≤ 16
theorem view1_num {e : Entry} {x : Pol × List Doc} (h : polN x.1) : polN (view1 e x).1 := by
  unfold view1; split
  · rename_i hm; exact app_num (may_0 hm).2 h
  · exact h
theorem view_num : ∀ {l : List Entry} {x : Pol × List Doc}, polN x.1 → polN (viewAll l x).1
  | [], _, h => h
  | e :: l, x, h => view_num (l := l) (view1_num h)
structure WaitT where
  e : Entry
  raw : List UInt8
structure Cli where
  coll : Int
  founder : Int
  who : Int
  sec : List UInt8
  r : Rpl
  pend : List WaitT
  count : Int
  last : Int
  alarm : Bool
def newC (L : List Thing) (coll founder who : Int) (sec : List UInt8) : Cli := ⟨coll, founder, who, sec, (newR L coll founder who sec).2, [], 0, 0, false⟩
def Cli.pendE (c : Cli) : List Entry := c.pend.map WaitT.e
def Cli.view (c : Cli) : Pol × List Doc := viewAll c.pendE (c.r.pol, c.r.docs)
def Cli.seq (c : Cli) : Int := (if c.last < seenAt c.r.seen c.who then seenAt c.r.seen c.who else c.last) + 1
def Cli.key (c : Cli) (ep : Int) : List UInt8 := keyAt c.r.ks ep
def Cli.rec0 (c : Cli) (ep : Int) : Record := ⟨c.coll, ep, c.who, c.count + 1, []⟩
def Cli.sealE (c : Cli) (ep : Int) (e : Entry) : Int := if (c.key ep).isEmpty then 21 else sealRE (c.key ep) (c.rec0 ep) e
def Cli.sealL (c : Cli) (L : List Thing) (ep : Int) (e : Entry) : List Thing := if (c.key ep).isEmpty then L else sealRL L c.sec (c.key ep) (c.rec0 ep) e
def Cli.sealB (c : Cli) (L : List Thing) (ep : Int) (e : Entry) : List UInt8 := (sealRR L c.sec (c.key ep) (c.rec0 ep) e).encB
def Cli.waits (c : Cli) (L : List Thing) (ep : Int) (e : Entry) : Cli := { c with count := c.count + 1, last := e.seq, pend := c.pend ++ [⟨e, c.sealB L ep e⟩] }
def Cli.sealS (c : Cli) (L : List Thing) (ep : Int) (e : Entry) : Cli := if c.sealE ep e = 0 then c.waits L ep e else c
/-- An entry that is to be issued; what bars it. -/
def Cli.own (c : Cli) (e : Entry) : Entry := { e with writer := c.who, seq := c.seq }
def Cli.bars (c : Cli) (e : Entry) : Int :=
  if c.alarm then 42 else if c.view.1.mayE (c.own e) = 10 then 10 else if e.kind = 5 then 13 else if (c.pend.length : Int) = 8 then 33 else c.view.1.mayE (c.own e)
def Cli.issueE (c : Cli) (e : Entry) : Int := if c.bars e = 0 then c.sealE c.view.1.epoch (c.own e) else c.bars e
def Cli.issueL (c : Cli) (L : List Thing) (e : Entry) : List Thing := if c.bars e = 0 then c.sealL L c.view.1.epoch (c.own e) else L
def Cli.issueS (c : Cli) (L : List Thing) (e : Entry) : Cli := if c.bars e = 0 then c.sealS L c.view.1.epoch (c.own e) else c
/-- What is pushed. -/
def Cli.pushF (c : Cli) : FrameT := ⟨1, c.coll, 0, c.pend.map WaitT.raw, []⟩
def Cli.pushL (c : Cli) : List (List UInt8) := if c.pend.length = 0 then [] else [c.pushF.encB]
def Cli.pushE (c : Cli) : Int := if c.alarm then 42 else 0
def Cli.pushR (c : Cli) : List (List UInt8) := if c.alarm then [] else c.pushL
/-- A batch is taken. -/
def comAll : List (List UInt8) → World2 → World2
  | [], x => x
  | b :: l, x => comAll l (x.2.comS x.1 b)
def comOuts : List (List UInt8) → World2 → List Int
  | [], _ => []
  | b :: l, x => x.2.comO x.1 b :: comOuts l (x.2.comS x.1 b)
def linkBad (coll : Int) (b : List UInt8) : Bool := !(decide (recE b = 0) && decide ((recV b).coll = coll))
def Cli.checkE (c : Cli) (f : FrameT) : Int :=
  if f.kind ≠ 3 then 13 else if f.coll ≠ c.coll then 40 else if c.alarm then 42 else if f.index ≠ (c.r.ch.links.length : Int) then 41
  else if f.links.any (linkBad c.coll) then 10 else if 64 < (c.r.ch.links.length : Int) + (f.links.length : Int) then 33 else 0
def Cli.takeE (c : Cli) (b : List UInt8) : Int := if frE b = 0 then c.checkE (frV b) else frE b
def Cli.rest (c : Cli) (s : Rpl) : List WaitT := c.pend.filter fun w => decide (seenAt s.seen c.who < w.e.seq)
def Cli.takeS (c : Cli) (L : List Thing) (b : List UInt8) : List Thing × Cli :=
  if c.takeE b = 0 then ((comAll (frV b).links (L, c.r)).1, { c with r := (comAll (frV b).links (L, c.r)).2, pend := c.rest (comAll (frV b).links (L, c.r)).2 }) else (L, c)
def Cli.takeO (c : Cli) (L : List Thing) (b : List UInt8) : List Int := if c.takeE b = 0 then comOuts (frV b).links (L, c.r) else []
structure Rpl.small (s : Rpl) : Prop where
  links : s.ch.links.length ≤ 64
  docs : s.docs.length ≤ s.ch.links.length
  val : ∀ d ∈ s.docs, d.1.length ≤ 64 ∧ d.2.length ≤ 512
  mem : s.pol.mem.length ≤ 1 + s.ch.links.length
  sums : ∀ x ∈ s.ch.sums, x.length = 32
  sec : s.sec.length ≤ 100000
  ks : KsOk s.ks
/-- There is room for one more. -/
structure Rpl.room (s : Rpl) : Prop where
  links : s.ch.links.length ≤ 64
  docs : s.docs.length + 1 ≤ s.ch.links.length
  val : ∀ d ∈ s.docs, d.1.length ≤ 64 ∧ d.2.length ≤ 512
  mem : s.pol.mem.length ≤ s.ch.links.length
  sums : ∀ x ∈ s.ch.sums, x.length = 32
  sec : s.sec.length ≤ 100000
  ks : KsOk s.ks
section
variable {s : Rpl} {L : List Thing} {b : List UInt8} {e : Entry} {x : Record}
theorem Rpl.room.small (h : s.room) : s.small := ⟨h.links, by have := h.docs; omega, h.val, by have := h.mem; omega, h.sums, h.sec, h.ks⟩
theorem Rpl.room.sees (h : s.room) : (s.sees e).room := ⟨h.links, h.docs, h.val, h.mem, h.sums, h.sec, h.ks⟩
theorem ins_mem {x d : Doc} {K : List Doc} (h : d ∈ insD x K) : d = x ∨ d ∈ K := by
  induction K with
  | nil => simpa [insD] using h
  | cons y r ih =>
    rw [insD] at h; split at h
    · simpa using h
    · rcases List.mem_cons.1 h with h | h
      · exact .inr (by simp [h])
      · rcases ih h with h | h
        · exact .inl h
        · exact .inr (List.mem_cons_of_mem _ h)
theorem applyD_val {K : List Doc} (hr : e.right = true) (h : ∀ d ∈ K, d.1.length ≤ 64 ∧ d.2.length ≤ 512) : ∀ d ∈ applyD K e, d.1.length ≤ 64 ∧ d.2.length ≤ 512 := by
  have hd : ∀ n, ∀ d ∈ delD K n, d.1.length ≤ 64 ∧ d.2.length ≤ 512 := fun n d hd => h d (List.mem_filter.1 hd).1
  unfold applyD
  split
  · exact h
  · split
    · intro d hm
      rcases ins_mem hm with rfl | hm
      · exact right_nv hr
      · exact hd _ d hm
    · split
      · exact hd _
      · exact h
theorem Rpl.room.take (h : s.room) (hr : e.right = true) (hT : TxtOk L) : (s.take L e).2.small ∧ TxtOk (s.take L e).1 ∧ (s.take L e).1.length ≤ L.length + 16 := by
  have hl := learn_ok (who := s.who) (ep := e.epoch) (sec := s.sec) (l := e.wraps) (x := (L, s.ks)) hT h.ks
  have hw := right_wl hr
  refine ⟨⟨h.links, ?_, applyD_val hr h.val, ?_, h.sums, h.sec, hl.2.1⟩, hl.1, by have := hl.2.2; dsimp only at this; show (learnAll _ _ _ _ _).1.length ≤ _; omega⟩
  · show (applyD s.docs e).length ≤ _; have := applyD_len s.docs e; have := h.docs; show _ ≤ s.ch.links.length; omega
  · show (s.pol.app e).mem.length ≤ _; have := app_mem s.pol e; have := h.mem; show _ ≤ 1 + s.ch.links.length; omega
theorem Rpl.room.out (h : s.room) (hT : TxtOk L) : (s.outS L x).2.small ∧ TxtOk (s.outS L x).1 ∧ (s.outS L x).1.length ≤ L.length + 18 := by
  have h0 : TxtOk (openRL L s.sec (keyAt s.ks x.epoch) x) := hT.open
  have h1 := openRL_le L s.sec (keyAt s.ks x.epoch) x
  unfold Rpl.outS
  split
  · exact ⟨h.small, hT, by dsimp only; omega⟩
  · split
    · exact ⟨h.small, hT, by dsimp only; omega⟩
    · split
      · exact ⟨h.small, h0, by dsimp only; omega⟩
      · rename_i hE
        have hr := open_right (Classical.byContradiction hE)
        unfold Rpl.entryS
        split
        · exact ⟨h.small, h0, by dsimp only; omega⟩
        · split
          · have := (h.sees (e := openRV L s.sec (keyAt s.ks x.epoch) x)).take hr h0
            exact ⟨this.1, this.2.1, by have := this.2.2; omega⟩
          · exact ⟨h.sees.small, h0, by dsimp only; omega⟩
theorem Rpl.small.linked (h : s.small) (hc : chE s.ch b = 0) : (s.linked L b).room := by
  have h64 : s.ch.links.length ≠ 64 := by
    intro q; unfold chE at hc; split at hc
    · cases hc
    · simp [q] at hc
  have hch : (s.linked L b).ch = ⟨s.ch.links ++ [b], s.ch.sums ++ [signOf 72 (onceN (chNext s.ch b) L : Int)]⟩ := if_pos hc
  have hl : (s.linked L b).ch.links.length = s.ch.links.length + 1 := by rw [hch]; simp
  have := h.links; have := h.docs; have := h.mem
  refine ⟨by omega, ?_, h.val, ?_, ?_, h.sec, h.ks⟩
  · rw [hl]; show s.docs.length + 1 ≤ _; omega
  · rw [hl]; show s.pol.mem.length ≤ _; omega
  · rw [hch]; intro y hy
    rcases List.mem_append.1 hy with hy | hy
    · exact h.sums y hy
    · rw [List.mem_singleton.1 hy]; rfl
theorem Rpl.small.com (h : s.small) (hT : TxtOk L) : (s.comS L b).2.small ∧ TxtOk (s.comS L b).1 ∧ (s.comS L b).1.length ≤ L.length + 19 := by
  unfold Rpl.comS
  split
  · rename_i hE
    have hc : chE s.ch b = 0 := by
      unfold Rpl.comE at hE; split at hE
      · exact hE
      · cases hE
    have hcl := chL_len L s.ch b
    have := (h.linked (L := L) hc).out (x := recV b) (hT.ch h.sums (b := b))
    exact ⟨this.1, this.2.1, by have := this.2.2; omega⟩
  · exact ⟨h, hT, by dsimp only; omega⟩
theorem comAll_app {a : List UInt8} : ∀ {l : List (List UInt8)} {x : World2}, comAll (l ++ [a]) x = (comAll l x).2.comS (comAll l x).1 a
  | [], _ => rfl
  | _ :: l, x => by rw [List.cons_append, comAll, comAll, comAll_app (l := l)]
theorem comOuts_app {a : List UInt8} : ∀ {l : List (List UInt8)} {x : World2}, comOuts (l ++ [a]) x = comOuts l x ++ [(comAll l x).2.comO (comAll l x).1 a]
  | [], _ => rfl
  | _ :: l, x => by rw [List.cons_append, comOuts, comOuts, comOuts_app (l := l), List.cons_append, comAll]
theorem comAll_step {l : List (List UInt8)} {j : Nat} {a : List UInt8} {x : World2} (ha : l[j]? = some a) : comAll (l.take (j + 1)) x = (comAll (l.take j) x).2.comS (comAll (l.take j) x).1 a ∧ comOuts (l.take (j + 1)) x = comOuts (l.take j) x ++ [(comAll (l.take j) x).2.comO (comAll (l.take j) x).1 a] := by
  rw [List.take_add_one, ha]; exact ⟨comAll_app, comOuts_app⟩
end
structure Cli.ok (c : Cli) : Prop where
  pend8 : c.pend.length ≤ 8
  pendR : ∀ w ∈ c.pend, w.e.right = true ∧ 1 ≤ w.raw.length ∧ w.raw.length ≤ 3000
  num : (1 ≤ c.coll ∧ c.coll ≤ 1099511627776) ∧ (1 ≤ c.founder ∧ c.founder ≤ 16) ∧ 1 ≤ c.who ∧ c.who ≤ 16
  cnt : 0 ≤ c.count ∧ c.count ≤ 1099511627776
  lst : 0 ≤ c.last ∧ c.last ≤ 1099511627776
  sec : c.sec.length ≤ 100000
  r : c.r.small
theorem fr_ok {b : List UInt8} (h : frE b = 0) : (frV b).right = true := by
  rw [frV, if_pos h]; unfold frE at h; split at h
  · cases h
  · split at h
    · rename_i q; simp only [frOk, Bool.and_eq_true] at q; exact q.2
    · cases h
section
variable {c : Cli} {L : List Thing} {k sc : List UInt8} {r : Record} {e : Entry} {ep : Int}
theorem seal_raw (h : sealRE k r e = 0) : 1 ≤ (sealRR L sc k r e).encB.length ∧ (sealRR L sc k r e).encB.length ≤ 3000 ∧ (sealRR L sc k r e).right = true := by
  have ho := seals_ok h
  have hpl : (twoT e.encB (markB L sc r.coll r.writer e.encB)).length ≤ 2046 := by rw [twoT_len, markB_len]; have := ho.enc; omega
  have hr : (sealRR L sc k r e).right = true := by rw [sealRR_ok ho]; exact box_right ho.nums hpl
  have h2 := enc_len hr
  have h3 := (right_iff.1 hr).2
  exact ⟨by omega, by omega, hr⟩
theorem Cli.ok.waits (h : c.ok) (h8 : c.pend.length < 8) (hE : sealRE (c.key ep) (c.rec0 ep) e = 0) : (c.waits L ep e).ok := by
  have ho := seals_ok hE
  have hraw := seal_raw (L := L) (sc := c.sec) hE
  have hn := nums_iff.1 ho.nums
  have hq := right_rng ho.right
  have hc : (c.rec0 ep).count = c.count + 1 := rfl
  refine ⟨?_, ?_, h.num, ?_, ?_, h.sec, h.r⟩
  · show (c.pend ++ [_]).length ≤ 8; rw [List.length_append, List.length_singleton]; omega
  · intro w hw
    rcases List.mem_append.1 hw with hw | hw
    · exact h.pendR w hw
    · rw [List.mem_singleton.1 hw]; exact ⟨ho.right, hraw.1, hraw.2.1⟩
  · show 0 ≤ c.count + 1 ∧ c.count + 1 ≤ _; omega
  · show 0 ≤ e.seq ∧ e.seq ≤ _; omega
theorem Cli.seal_0 (h : c.sealE ep e = 0) : sealRE (c.key ep) (c.rec0 ep) e = 0 ∧ (c.key ep).isEmpty = false := by
  unfold Cli.sealE at h; split at h
  · cases h
  · rename_i q; exact ⟨h, by simpa using q⟩
theorem Cli.ok.sealed (h : c.ok) (h8 : c.pend.length < 8) : (c.sealS L ep e).ok := by
  unfold Cli.sealS; split
  · rename_i q; exact h.waits h8 (Cli.seal_0 q).1
  · exact h
theorem Cli.bars_0 (h : c.bars e = 0) : c.alarm = false ∧ (c.pend.length : Int) ≠ 8 ∧ e.kind ≠ 5 ∧ c.view.1.mayE (c.own e) = 0 := by
  unfold Cli.bars at h
  split at h
  · cases h
  · rename_i ha
    split at h
    · cases h
    · split at h
      · cases h
      · split at h
        · cases h
        · rename_i h3 h4; exact ⟨by simpa using ha, h4, h3, h⟩
theorem Cli.ok.issue (h : c.ok) : (c.issueS L e).ok := by
  unfold Cli.issueS; split
  · rename_i q; exact h.sealed (by have := (Cli.bars_0 q).2.1; have := h.pend8; omega)
  · exact h
theorem Cli.ok.taken (h : c.ok) {s : Rpl} (hs : s.small) : ({ c with r := s, pend := c.rest s } : Cli).ok :=
  ⟨Nat.le_trans (List.length_filter_le _ _) h.pend8, fun w hw => h.pendR w (List.mem_filter.1 hw).1, h.num, h.cnt, h.lst, h.sec, hs⟩
end
theorem newR_small {L : List Thing} {coll founder who : Int} {sec : List UInt8} (hs : sec.length ≤ 100000) (hk : rplOk coll founder who = true) : (newR L coll founder who sec).2.small := by
  refine ⟨by simp [newR, chNew], by simp [newR, chNew], by simp [newR], by simp [newR, firstP], ?_, hs, ?_⟩
  · simp [newR, chNew, sign_len]
  · exact (newR_ok (L := L) (x := ⟨coll, founder, who, sec⟩) hk).2.2
theorem newC_ok {L : List Thing} {coll founder who : Int} {sec : List UInt8} (hk : rplOk coll founder who = true) (hs : sec.length ≤ 100000) : (newC L coll founder who sec).ok := by
  have hn := rplOk_iff.1 hk
  exact ⟨by simp [newC], by simp [newC], ⟨by show 1 ≤ coll ∧ coll ≤ _; omega, by show 1 ≤ founder ∧ founder ≤ _; omega, by show 1 ≤ who; omega, by show who ≤ _; omega⟩, by simp [newC], by simp [newC], hs, newR_small hs hk⟩
end Go.Proofs.YtanpinfhlbbjkaaGreat
