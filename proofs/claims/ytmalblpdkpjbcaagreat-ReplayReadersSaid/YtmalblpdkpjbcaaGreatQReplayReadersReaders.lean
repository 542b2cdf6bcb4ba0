import Derived.Test.YtmalblpdkpjbcaaGreatQReplayReadersReplay
import Derived.Test.YtmalblpdkpjbcaaGreatQReplayReadersLaw16
import Derived.Test.YtmalblpdkpjbcaaGreatQReplayReadersSealLaw
set_option linter.unusedVariables false
set_option linter.unusedSimpArgs false
namespace Go.Proofs.YtmalblpdkpjbcaaGreat
open Go.RowKit Go.Ecal
/-- What a sealed entry that may be does. -/
def Rpl.does (s : Rpl) (L : List Thing) (b : List UInt8) (e : Entry) : Rpl :=
  { ({ s with ch := chApp L s.ch b } : Rpl).sees e with pol := s.pol.app e, docs := applyD s.docs e }
/-- The list of what was sealed. -/
def recB (L : List Thing) (k : List UInt8) (e : Entry) : List UInt8 := (sealRR L [] k ⟨1, 0, e.writer, e.seq, []⟩ e).encB
def recL (L : List Thing) (k : List UInt8) (e : Entry) : List Thing := sealRL L [] k ⟨1, 0, e.writer, e.seq, []⟩ e
structure Good (L : List Thing) (k : List UInt8) (m : Nat) (s : Rpl) : Prop where
  coll : s.coll = 1
  sec : s.sec = []
  fnd : s.pol.founder = 1
  ep : s.pol.epoch = 0
  mem : s.pol.mem = [⟨1, 7⟩] ∨ ∃ r, (1 ≤ r ∧ r ≤ 7) ∧ s.pol.mem = [⟨1, 7⟩, ⟨2, r⟩]
  key : keyAt s.ks 0 = k
  kl : k.length = 32
  seenL : s.seen.length = 17
  seen : seenAt s.seen 1 ≤ m
  lk : s.ch.links.length = m
  sums : ∀ x ∈ s.ch.sums, x.length = 32
  docs : s.docs.length ≤ m
  txt : Texts 10000 L
  len : L.length ≤ 100 + 10 * m
/-- What is bare of a put or a change of rights. -/
structure Plain (e : Entry) (m : Nat) : Prop where
  right : e.right = true
  writer : e.writer = 1
  seq : e.seq = (m : Int) + 1
  kind : e.kind = 1 ∨ (e.kind = 3 ∧ e.who = 2)
theorem texts_ok {L : List Thing} (h : Texts 10000 L) : TxtOk L := fun t ht => Nat.le_trans (h t ht) (by decide)
theorem wraps_no {e : Entry} (h : e.right = true) (hk : e.kind = 1 ∨ e.kind = 3) : e.wraps = [] := by
  simp only [Entry.right, Bool.and_eq_true, decide_eq_true_eq] at h
  have := congrArg Entry.wraps h.1.2
  rw [this]; show (if e.kind = 5 then e.wraps else []) = []
  rw [if_neg (by omega)]
section
variable {L M X : List Thing} {k b : List UInt8} {m : Nat} {s : Rpl} {e : Entry}
theorem Plain.seals (h : Plain e m) (hm : m ≤ 1000) (hk : k.length = 32) : SealsOk k ⟨1, 0, e.writer, e.seq, []⟩ e :=
  ⟨h.right, rfl, hk, by rw [nums_iff, h.writer, h.seq]; dsimp only; omega, encB_len h.right⟩
theorem Good.pright (g : Good L k m s) : s.pol.right = true := by
  rcases g.mem with h | ⟨r, hr, h⟩
  · simp [Pol.right, h, risingM, rightsOf, g.ep, g.fnd]
  · have h1 : ¬ r < 1 := by omega
    have h2 : ¬ 7 < r := by omega
    simp [Pol.right, h, risingM, rightsOf, g.ep, g.fnd, h1, h2]
theorem Good.may (g : Good L k m s) (h : Plain e m) : s.pol.mayE e = 0 := by
  have h7 : rightsOf s.pol.mem 1 = 7 := by rcases g.mem with h | ⟨r, hr, h⟩ <;> simp [h, rightsOf]
  rw [Pol.mayE, if_neg (by rw [g.pright, h.right]; decide), h.writer, h7]
  rcases h.kind with hk | ⟨hk, hw⟩
  · rw [if_pos (by omega), if_neg (by decide)]
  · rw [if_neg (by omega), if_neg (by rw [hw, g.fnd]; omega), if_neg (by decide), if_neg (by omega)]
theorem chL_in (h : chE s.ch b = 0) : ∃ A, chL M s.ch b = M ++ A := by
  rw [chL, if_pos h]; exact onceL_app _ _
theorem chL_again (h : chE s.ch b = 0) : chL (chL M s.ch b ++ X) s.ch b = chL M s.ch b ++ X := by
  rw [chL, if_pos h, chL, if_pos h]; exact onceL_more
theorem chApp_again (h : chE s.ch b = 0) : chApp (chL M s.ch b ++ X) s.ch b = chApp M s.ch b := by
  rw [chApp, chApp, chL, if_pos h, if_pos h, if_pos h, onceN_more]
theorem seals_rec (h : SealsOk k ⟨1, 0, e.writer, e.seq, []⟩ e) : (sealRR L [] k ⟨1, 0, e.writer, e.seq, []⟩ e).right = true ∧ recE (recB L k e) = 0 ∧ recV (recB L k e) = sealRR L [] k ⟨1, 0, e.writer, e.seq, []⟩ e ∧ (recB L k e).length ≤ 3000 ∧ 1 ≤ (recB L k e).length := by
  have hpl : (twoT e.encB (markB L [] 1 e.writer e.encB)).length ≤ 2046 := by rw [twoT_len, markB_len]; have := h.enc; omega
  have hr : (sealRR L [] k ⟨1, 0, e.writer, e.seq, []⟩ e).right = true := by
    rw [sealRR_ok h]; exact box_right h.nums hpl
  have hf : recB L k e = (sealRR L [] k ⟨1, 0, e.writer, e.seq, []⟩ e).flat := (rec_put hr).2
  have h1 := rec_read hr
  have h2 := enc_len hr
  have h3 := (right_iff.1 hr).2
  refine ⟨hr, by rw [recE, hf, h1.1]; rfl, by rw [hf]; exact h1.2, ?_, ?_⟩ <;> · show _ ≤ _; rw [recB] at *; omega
/-- Where the record stands in the list, it is opened. -/
theorem com_ok (g : Good L k m s) (h : Plain e m) (hm : m ≤ 50) (hM : M = recL L k e ++ X) (hl : M.length ≤ 10000) :
    s.comE (recB L k e) = 0 ∧ s.comO M (recB L k e) = 0 ∧ s.comS M (recB L k e) = (chL M s.ch (recB L k e), s.does M (recB L k e) e) := by
  have so := h.seals (k := k) (by omega) g.kl
  obtain ⟨hr, hE, hV, hL, hL1⟩ := seals_rec (L := L) so
  have hch : chE s.ch (recB L k e) = 0 := by rw [chE, if_neg (by omega), if_neg (by have := g.lk; omega)]
  have hco : (sealRR L [] k ⟨1, 0, e.writer, e.seq, []⟩ e).coll = 1 ∧ (sealRR L [] k ⟨1, 0, e.writer, e.seq, []⟩ e).epoch = 0 := by rw [sealRR_ok so]; exact ⟨rfl, rfl⟩
  have hre : s.isRec (recB L k e) = true := by
    simp only [Rpl.isRec, Bool.and_eq_true, decide_eq_true_eq]
    exact ⟨hE, by rw [hV, hco.1, g.coll]⟩
  obtain ⟨c1, c2, c3⟩ := com_3 (L := M) hre hch
  obtain ⟨A, hA⟩ := chL_in (M := M) hch
  have hlA := chL_len M s.ch (recB L k e)
  have op := seal_open (L := L) (M := chL M s.ch (recB L k e)) (X := X ++ A) (s := []) (seals_fine so) (by rw [hA, hM, recL, List.append_assoc]) (by omega)
  have hk0 : ¬ (keyAt s.ks (sealRR L [] k ⟨1, 0, e.writer, e.seq, []⟩ e).epoch).isEmpty = true := by
    rw [hco.2, g.key]; intro q
    have := g.kl; rw [List.isEmpty_iff.1 q] at this; cases this
  have hsk : keyAt s.ks (sealRR L [] k ⟨1, 0, e.writer, e.seq, []⟩ e).epoch = k := by rw [hco.2]; exact g.key
  have hno : ¬ (s.linked M (recB L k e)).pol.epoch < (sealRR L [] k ⟨1, 0, e.writer, e.seq, []⟩ e).epoch := by rw [hco.2]; show ¬ s.pol.epoch < 0; rw [g.ep]; decide
  have o4 := out_4 (s := s.linked M (recB L k e)) (L := chL M s.ch (recB L k e)) (x := sealRR L [] k ⟨1, 0, e.writer, e.seq, []⟩ e) (e := e) hno hk0
    (by show openRE _ s.sec (keyAt s.ks _) _ = 0; rw [hsk, g.sec]; exact op.1) (by show e = openRV _ s.sec (keyAt s.ks _) _; rw [hsk, g.sec]; exact op.2.1.symm)
  have hol : openRL (chL M s.ch (recB L k e)) (s.linked M (recB L k e)).sec (keyAt (s.linked M (recB L k e)).ks (sealRR L [] k ⟨1, 0, e.writer, e.seq, []⟩ e).epoch) (sealRR L [] k ⟨1, 0, e.writer, e.seq, []⟩ e) = chL M s.ch (recB L k e) := by
    show openRL _ s.sec (keyAt s.ks _) _ = _; rw [hsk, g.sec]; exact op.2.2
  rw [hol] at o4
  have hsq : ¬ e.seq ≤ seenAt (s.linked M (recB L k e)).seen e.writer := by
    show ¬ e.seq ≤ seenAt s.seen e.writer
    rw [h.writer, h.seq]; have := g.seen; omega
  have hep : ¬ (e.kind ≠ 5 ∧ (sealRR L [] k ⟨1, 0, e.writer, e.seq, []⟩ e).epoch ≠ (s.linked M (recB L k e)).pol.epoch) := by
    rw [hco.2]; show ¬ (e.kind ≠ 5 ∧ 0 ≠ s.pol.epoch); rw [g.ep]; simp
  have e3 := ent_3 (s := s.linked M (recB L k e)) (L := chL M s.ch (recB L k e)) hsq hep
  have hmay : (s.linked M (recB L k e)).pol.mayE e = 0 := g.may h
  rw [hV] at c2 c3
  refine ⟨c1, by rw [c2, o4.1, e3.1, hmay], ?_⟩
  rw [c3, o4.2, e3.2.2 hmay, Rpl.take, wraps_no h.right (by rcases h.kind with q | q; exact .inl q; exact .inr q.1)]
  rfl
theorem app_len {K : List Doc} (h : Plain e m) : (applyD K e).length ≤ K.length + 1 := by
  have hd : ∀ n, (delD K n).length ≤ K.length := fun n => List.length_filter_le _ _
  have hi : ∀ (x : Doc) (K : List Doc), (insD x K).length = K.length + 1 := fun x K => by
    induction K with
    | nil => rfl
    | cons y r ih => rw [insD]; split <;> simp [ih]
  unfold applyD
  split
  · omega
  · split
    · rw [putD, hi]; have := hd e.name; omega
    · split
      · have := hd e.name; omega
      · omega
theorem Good.next (g : Good L k m s) (h : Plain e m) (hm : m ≤ 50) (hM : M = recL L k e) (hch : chE s.ch (recB L k e) = 0) :
    Good (chL M s.ch (recB L k e)) k (m + 1) (s.does M (recB L k e) e) := by
  have so := h.seals (k := k) (by omega) g.kl
  have hb := (seals_rec (L := L) so).2.2.2.1
  refine ⟨g.coll, g.sec, ?_, ?_, ?_, g.key, g.kl, ?_, ?_, ?_, ?_, ?_, ?_, ?_⟩
  · show (s.pol.app e).founder = 1
    rcases h.kind with hk | ⟨hk, hw⟩ <;> simp [Pol.app, hk, g.fnd]
  · show (s.pol.app e).epoch = 0
    rcases h.kind with hk | ⟨hk, hw⟩ <;> simp [Pol.app, hk, g.ep]
  · show (s.pol.app e).mem = _ ∨ ∃ r, _ ∧ (s.pol.app e).mem = _
    rcases h.kind with hk | ⟨hk, hw⟩
    · rw [show s.pol.app e = s.pol by simp [Pol.app, hk]]; exact g.mem
    · right
      have hr : 1 ≤ e.rights ∧ e.rights ≤ 7 := by
        have := h.right
        simp only [Entry.right, Bool.and_eq_true] at this
        have := this.2
        rw [Entry.body, if_neg (by omega), if_pos hk] at this
        simp only [Bool.and_eq_true, within_iff] at this; exact this.2
      refine ⟨e.rights, hr, ?_⟩
      rcases g.mem with q | ⟨r, hr, q⟩ <;> simp [Pol.app, hk, hw, q, setM]
  · show (s.seen.set _ _).length = 17
    rw [List.length_set]; exact g.seenL
  · show seenAt (s.seen.set e.writer.toNat e.seq) 1 ≤ _
    rw [h.writer, h.seq, seenAt, if_pos (by decide), show ((1 : Int)).toNat = 1 from rfl, List.getD, List.getElem?_set_self (by rw [g.seenL]; decide)]
    simp
  · show (chApp M s.ch (recB L k e)).links.length = _
    rw [chApp, if_pos hch]; simp [g.lk]
  · show ∀ x ∈ (chApp M s.ch (recB L k e)).sums, x.length = 32
    rw [chApp, if_pos hch]
    intro x hx
    rcases List.mem_append.1 hx with hx | hx
    · exact g.sums x hx
    · rw [List.mem_singleton.1 hx]; rfl
  · show (applyD s.docs e).length ≤ _
    have := app_len (K := s.docs) h; have := g.docs; omega
  · rw [chL, if_pos hch]
    refine Texts.once (by rw [hM]; exact g.txt.sealR (by decide)) ?_
    have hl : s.ch.head.length ≤ 32 := by
      unfold Chn.head
      cases hq : s.ch.sums[s.ch.links.length]? with
      | none => simp [List.getD, hq]
      | some y => simp [List.getD, hq, g.sums y (List.mem_of_getElem? hq)]
    simp [chNext]; omega
  · have h1 := chL_len M s.ch (recB L k e)
    have h2 := sealRL_len L [] k ⟨1, 0, e.writer, e.seq, []⟩ e
    have := g.len
    rw [hM, recL] at *; omega
/-- The other one, who is but another one. -/
abbrev Rpl.twin (s : Rpl) : Rpl := { s with who := 2 }
theorem Good.twin {t : Rpl} (g : Good L k m s) (ht : t = s.twin) : Good L k m t := by subst ht; exact ⟨g.coll, g.sec, g.fnd, g.ep, g.mem, g.key, g.kl, g.seenL, g.seen, g.lk, g.sums, g.docs, g.txt, g.len⟩
theorem Good.more {t : Rpl} (g : Good L k m s) (hM : Texts 10000 M) (hl : M.length ≤ 100 + 10 * m) : Good M k m s := ⟨g.coll, g.sec, g.fnd, g.ep, g.mem, g.key, g.kl, g.seenL, g.seen, g.lk, g.sums, g.docs, hM, hl⟩
/-- Both commit it, one behind the other. -/
theorem Good.both {t : Rpl} (g : Good L k m s) (ht : t = s.twin) (h : Plain e m) (hm : m ≤ 50) :
    (s.comE (recB L k e) = 0 ∧ s.comO (recL L k e) (recB L k e) = 0 ∧ t.comE (recB L k e) = 0 ∧ t.comO (s.comS (recL L k e) (recB L k e)).1 (recB L k e) = 0) ∧
    Good (t.comS (s.comS (recL L k e) (recB L k e)).1 (recB L k e)).1 k (m + 1) (s.comS (recL L k e) (recB L k e)).2 ∧
    (t.comS (s.comS (recL L k e) (recB L k e)).1 (recB L k e)).2 = (s.comS (recL L k e) (recB L k e)).2.twin := by
  have hl := sealRL_len L [] k ⟨1, 0, e.writer, e.seq, []⟩ e
  have hlg := g.len
  have hM : (recL L k e).length ≤ 5000 := by rw [recL]; omega
  have so := h.seals (k := k) (by omega) g.kl
  obtain ⟨_, _, _, hL, hL1⟩ := seals_rec (L := L) so
  have hch : chE s.ch (recB L k e) = 0 := by rw [chE, if_neg (by omega), if_neg (by have := g.lk; omega)]
  have c1 := com_ok (X := []) g h hm (List.append_nil _).symm (by omega)
  have g2 := g.next h hm rfl hch
  obtain ⟨A, hA⟩ := chL_in (M := recL L k e) hch
  have hlA := chL_len (recL L k e) s.ch (recB L k e)
  have c2 := com_ok (M := chL (recL L k e) s.ch (recB L k e)) (X := A) (g.twin ht) h hm hA (by omega)
  have hc : t.ch = s.ch := by rw [ht]
  have i1 : chL (chL (recL L k e) s.ch (recB L k e)) t.ch (recB L k e) = chL (recL L k e) s.ch (recB L k e) := by
    rw [hc]; have := chL_again (M := recL L k e) (X := []) hch; simpa using this
  have i2 : chApp (chL (recL L k e) s.ch (recB L k e)) t.ch (recB L k e) = chApp (recL L k e) s.ch (recB L k e) := by
    rw [hc]; have := chApp_again (M := recL L k e) (X := []) hch; simpa using this
  rw [c1.2.2]
  refine ⟨⟨c1.1, c1.2.1, c2.1, c2.2.1⟩, ?_, ?_⟩
  · rw [c2.2.2]; dsimp only; rw [i1]; exact g2
  · rw [c2.2.2]; dsimp only
    rw [Rpl.does, i2, ht]; rfl
theorem Good.mlen (g : Good L k m s) : s.pol.mem.length ≤ 100000 := by rcases g.mem with h | ⟨r, hr, h⟩ <;> simp [h]
theorem memb_same {p q : Pol} (h : q = p) : membS p q = true := by subst h; simp [membS]
theorem plain_rights {r : Int} (h : 0 ≤ r) : Plain { (⟨3, 0, 0, [], [], 2, 1 + 2 * (r % 4), 0, []⟩ : Entry) with writer := 1, seq := 1 } 0 := by
  refine ⟨?_, rfl, rfl, .inr ⟨rfl, rfl⟩⟩
  have h1 : 1 ≤ 1 + 2 * (r % 4) ∧ 1 + 2 * (r % 4) ≤ 7 := by omega
  simp [Entry.right, Entry.head, Entry.bare, Entry.body, within, h1]
theorem plain_put {v : List UInt8} {q : Int} (hv : v.length ≤ 100) (hq : q = (m : Int) + 1) (hm : m ≤ 50) : Plain { putEn 1 0 [110] v with writer := 1, seq := q } m := by
  refine ⟨?_, rfl, hq, .inl rfl⟩
  have h1 : 1 ≤ q ∧ q ≤ 1099511627776 := by omega
  have h2 : v.length ≤ 512 := by omega
  simp [putEn, Entry.right, Entry.head, Entry.bare, Entry.body, within, h1]; exact decide_eq_true (by omega)
structure Side (L : List Thing) (k : List UInt8) (s t : Rpl) (e : Entry) : Prop where
  l1 : (recL L k e).length ≤ 5000
  l2 : (s.comS (recL L k e) (recB L k e)).1.length ≤ 5001
  t1 : TxtOk (recL L k e)
  t2 : TxtOk (s.comS (recL L k e) (recB L k e)).1
  s1 : s.sec.length ≤ 100000
  s2 : t.sec.length ≤ 100000
  d1 : s.docs.length ≤ 100000
  d2 : t.docs.length ≤ 100000
  bl : (recB L k e).length ≤ 1000000000
theorem Good.side {t : Rpl} (g : Good L k m s) (ht : t = s.twin) (h : Plain e m) (hm : m ≤ 50) : Side L k s t e := by
  have hl := sealRL_len L [] k ⟨1, 0, e.writer, e.seq, []⟩ e
  have hlg := g.len
  have hM : (recL L k e).length ≤ 5000 := by rw [recL]; omega
  have so := h.seals (k := k) (by omega) g.kl
  obtain ⟨_, _, _, hL, hL1⟩ := seals_rec (L := L) so
  have hch : chE s.ch (recB L k e) = 0 := by rw [chE, if_neg (by omega), if_neg (by have := g.lk; omega)]
  have c1 := com_ok (X := []) g h hm (List.append_nil _).symm (by omega)
  have g2 := g.next h hm rfl hch
  have hlA := chL_len (recL L k e) s.ch (recB L k e)
  have hd := g.docs
  subst ht
  refine ⟨hM, by rw [c1.2.2]; dsimp only; omega, texts_ok (g.txt.sealR (by decide)), by rw [c1.2.2]; exact texts_ok g2.txt, by rw [g.sec]; decide, by show s.sec.length ≤ _; rw [g.sec]; decide, by omega, by show s.docs.length ≤ _; omega, by omega⟩
theorem Good.begin {M : List Thing} {s t : Rpl} {L1 : List Thing} (h1 : s = (newR [] 1 1 1 []).2) (hL : L1 = (newR [] 1 1 1 []).1) (h2 : t = (newR L1 1 1 2 []).2) (hM : M = (newR L1 1 1 2 []).1) : Good M (keyAt s.ks 0) 0 s ∧ t = s.twin := by
  subst h1 hL h2 hM
  have e1 : (newR (newR [] 1 1 1 []).1 1 1 2 []).1 = (newR [] 1 1 1 []).1 := by decide
  refine ⟨⟨rfl, rfl, rfl, rfl, .inl rfl, rfl, rfl, rfl, by decide, rfl, by decide, by decide, ?_, ?_⟩, ?_⟩
  · rw [e1]; show ∀ t ∈ (newR [] 1 1 1 []).1, t.text.length ≤ 10000; decide
  · rw [e1]; decide
  · rw [newR, newR, Rpl.twin]
    have hc : chNew (onceL (derT [] uEpoch 0) (onceL (chT 1) [])) 1 = chNew [] 1 := by
      rw [chNew, chNew]; exact congrArg (fun n : Nat => (⟨[], [signOf 72 (n : Int)]⟩ : Chn)) (by decide)
    have hk : keyFor (onceL (chT 1) (onceL (derT [] uEpoch 0) (onceL (chT 1) []))) [] uEpoch 0 = keyFor (onceL (chT 1) []) [] uEpoch 0 := by decide
    rw [hc, hk]
end
end Go.Proofs.YtmalblpdkpjbcaaGreat
