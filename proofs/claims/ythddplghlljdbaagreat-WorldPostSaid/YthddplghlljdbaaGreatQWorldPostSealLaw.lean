import Derived.Test.YthddplghlljdbaaGreatQWorldPostPolicy
set_option linter.unusedVariables false
set_option linter.unusedSimpArgs false
namespace Go.Proofs.YthddplghlljdbaaGreat
open Go.RowKit Go.Ecal
theorem len0 {α:Type} {l:List α}:(0<(l.length:Int))↔l≠[]:=by cases l<;>simp<;>omega
/-- What is written of a right entry,piece by piece. -/
theorem enc_flat {e:Entry} (h:e.right=true):e.encB=(e.parts.map partB).flatten:=by rw [Entry.encB,if_pos h,putB_ok (right_put h)]
theorem num_ok {n:Int} (h:0≤n∧n≤1099511627776):partB (.int n)=be6 n:=numB_ok h
theorem txt_ok {l:List UInt8} (h:l.length≤4096):partB (.bytes l)=be2 (l.length:Int)++l:=if_pos h
theorem head_flat {e:Entry} (h:e.right=true):be6 e.kind++(be6 e.writer++be6 e.seq)=(([Any.int e.kind,Any.int e.writer,Any.int e.seq]).map partB).flatten:=by
 obtain ⟨h1,h2,h3⟩:=right_head h
 simp only [List.map_cons,List.map_nil,List.flatten_cons,List.flatten_nil,List.append_nil]
 rw [num_ok (by omega),num_ok (by omega),num_ok (by omega)]
theorem right_body {e:Entry} (h:e.right=true):e.body=true:=by simp only [Entry.right,Bool.and_eq_true] at h;exact h.2
theorem body_1 {e:Entry} (h:e.right=true) (k:e.kind=1∨e.kind=2):e.name.length≤64∧e.value.length≤512:=by
 have:=right_body h
 rw [Entry.body,if_pos k] at this;simp only [Bool.and_eq_true,within_iff,decide_eq_true_eq] at this;omega
theorem body_3 {e:Entry} (h:e.right=true) (k:e.kind=3):(1≤e.who∧e.who≤16)∧1≤e.rights∧e.rights≤7:=by
 have:=right_body h
 rw [Entry.body,if_neg (by omega),if_pos k] at this;simpa only [Bool.and_eq_true,within_iff] using this
theorem body_4 {e:Entry} (h:e.right=true) (k:e.kind=4):1≤e.who∧e.who≤16:=by
 have:=right_body h
 rw [Entry.body,if_neg (by omega),if_neg (by omega),if_pos k] at this;simpa only [within_iff] using this
theorem body_5 {e:Entry} (h:e.right=true) (k:e.kind=5):(1≤e.epoch∧e.epoch≤16)∧(∀w∈e.wraps,(1≤w.who∧w.who≤16)∧w.box.length=48)∧e.wraps.length≤16:=by
 have:=right_body h
 rw [Entry.body,if_neg (by omega),if_neg (by omega),if_neg (by omega)] at this
 simp only [Bool.and_eq_true,within_iff,wrapsOk,decide_eq_true_eq] at this
 exact ⟨this.1,wraps_each this.2.1,this.2.2⟩
theorem enc_1 {e:Entry} (h:e.right=true) (k:e.kind=1):(be6 e.kind++(be6 e.writer++be6 e.seq))++((be2 (e.name.length:Int)++e.name)++(be2 (e.value.length:Int)++e.value))=e.encB:=by
 have b:=body_1 h (.inl k)
 rw [enc_flat h,head_flat h,Entry.parts,if_pos k]
 simp only [List.map_append,List.flatten_append,List.map_cons,List.map_nil,List.flatten_cons,List.flatten_nil,List.append_nil]
 rw [txt_ok (l:=e.name) (by omega),txt_ok (l:=e.value) (by omega)]
theorem enc_2 {e:Entry} (h:e.right=true) (k:e.kind=2):(be6 e.kind++(be6 e.writer++be6 e.seq))++(be2 (e.name.length:Int)++e.name)=e.encB:=by
 have b:=body_1 h (.inr k)
 rw [enc_flat h,head_flat h,Entry.parts,if_neg (by omega),if_pos k]
 simp only [List.map_append,List.flatten_append,List.map_cons,List.map_nil,List.flatten_cons,List.flatten_nil,List.append_nil]
 rw [txt_ok (l:=e.name) (by omega)]
theorem enc_3 {e:Entry} (h:e.right=true) (k:e.kind=3):(be6 e.kind++(be6 e.writer++be6 e.seq))++(be6 e.who++be6 e.rights)=e.encB:=by
 have b:=body_3 h k
 rw [enc_flat h,head_flat h,Entry.parts,if_neg (by omega),if_neg (by omega),if_pos k]
 simp only [List.map_append,List.flatten_append,List.map_cons,List.map_nil,List.flatten_cons,List.flatten_nil,List.append_nil]
 rw [num_ok (n:=e.who) (by omega),num_ok (n:=e.rights) (by omega)]
theorem enc_4 {e:Entry} (h:e.right=true) (k:e.kind=4):(be6 e.kind++(be6 e.writer++be6 e.seq))++be6 e.who=e.encB:=by
 have b:=body_4 h k
 rw [enc_flat h,head_flat h,Entry.parts,if_neg (by omega),if_neg (by omega),if_neg (by omega),if_pos k]
 simp only [List.map_append,List.flatten_append,List.map_cons,List.map_nil,List.flatten_cons,List.flatten_nil,List.append_nil]
 rw [num_ok (n:=e.who) (by omega)]
def smallE (e:Entry):Bool:=(e.wraps.all fun w=>decide (w.box.length≤100))&&(decide (e.name.length≤100)&&decide (e.value.length≤600)&&decide (e.wraps.length≤20))
theorem small_iff {e:Entry}:smallE e=true↔(∀w∈e.wraps,w.box.length≤100)∧e.name.length≤100∧e.value.length≤600∧e.wraps.length≤20:=by
 simp [smallE,and_assoc]
theorem small_next {l:List WrapT} {j:Nat} {a:WrapT} (h:∀w∈l.take j,w.box.length≤100) (ha:l[j]?=some a) (hb:a.box.length≤100):∀w∈l.take (j+1),w.box.length≤100:=by
 intro w hw
 rw [List.take_add_one,ha] at hw
 rcases List.mem_append.1 hw with hw | hw
 ·exact h w hw
 ·simp at hw;rw [hw];exact hb
theorem smallE_no {e:Entry} {j:Nat} {a:WrapT} (ha:e.wraps[j]?=some a) (hb:¬a.box.length≤100):smallE e=false:=by
 rw [←Bool.not_eq_true];intro h;exact hb ((small_iff.1 h).1 a (List.mem_of_getElem? ha))
theorem smallE_is {e:Entry} (h:∀w∈e.wraps,w.box.length≤100):((decide ((e.name.length:Int)≤100)&&decide ((e.value.length:Int)≤600))&&decide ((e.wraps.length:Int)≤20))=smallE e:=by
 rw [Bool.eq_iff_iff,small_iff];simp only [Bool.and_eq_true,decide_eq_true_eq]
 constructor
 ·intro hh;exact ⟨h,by omega,by omega,by omega⟩
 ·intro hh;omega
end Go.Proofs.YthddplghlljdbaaGreat

namespace Go.Proofs.YthddplghlljdbaaGreat
open Go.RowKit Go.Ecal
def wb (l:List WrapT):List UInt8:=(l.map fun w=>be6 w.who++(be2 (w.box.length:Int)++w.box)).flatten
theorem rdWraps_wb {x:List UInt8}:∀(l:List WrapT) (a:List WrapT),(∀w∈l,(1≤w.who∧w.who≤16)∧w.box.length=48)→rdWraps l.length ⟨wb l++x,false⟩ a=(a++l,⟨x,false⟩)
 | [],a,_=>by simp [rdWraps,wb]
 | w::l,a,h=>by
  obtain ⟨h1,h2⟩:=h w (by simp)
  have n:=rd_num (n:=w.who) (lo:=1) (hi:=16) (x:=be2 (w.box.length:Int)++(w.box++(wb l++x))) (by omega) h1
  have t:=rd_txt (t:=w.box) (lo:=48) (hi:=48) (x:=wb l++x) (by omega) (by omega)
  have e:wb (w::l)++x=be6 w.who++(be2 (w.box.length:Int)++(w.box++(wb l++x))):=by simp only [wb,List.map_cons,List.flatten_cons,List.append_assoc]
  rw [List.length_cons,rdWraps,e,if_neg Bool.false_ne_true,n.1,n.2,t.1,t.2,rdWraps_wb l _ (fun u hu=>h u (by simp [hu]))]
  simp
theorem wb_to {e:Entry} (h:e.right=true) (k:e.kind=5):((wrapParts e.wraps).map partB).flatten=wb e.wraps:=by
 have b5:=(body_5 h k).2.1
 rw [wrapParts,wb]
 generalize e.wraps=l at b5
 induction l with
 | nil=>rfl
 | cons w l ih =>
  have hw:=b5 w (by simp)
  simp only [List.map_cons,List.flatten_cons,List.map_append,List.flatten_append,List.map_nil,List.flatten_nil,List.append_nil]
  rw [num_ok (n:=w.who) (by omega),txt_ok (l:=w.box) (by omega),ih (fun u hu=>b5 u (by simp [hu]))]
  try simp only [List.append_assoc]
theorem enc_5 {e:Entry} (h:e.right=true) (k:e.kind=5):(be6 e.kind++(be6 e.writer++be6 e.seq))++(be6 e.epoch++(be6 (e.wraps.length:Int)++wb e.wraps))=e.encB:=by
 have b5:=body_5 h k
 rw [enc_flat h,head_flat h,Entry.parts,if_neg (by omega),if_neg (by omega),if_neg (by omega),if_neg (by omega),if_pos k]
 simp only [List.map_append,List.flatten_append,List.map_cons,List.map_nil,List.flatten_cons,List.flatten_nil,List.append_nil]
 rw [num_ok (n:=e.epoch) (by omega),num_ok (n:=(e.wraps.length:Int)) (by omega),wb_to h k];simp only [List.append_assoc]
theorem right_bare {e:Entry} (h:e.right=true):e=e.bare:=by simp only [Entry.right,Bool.and_eq_true,decide_eq_true_eq] at h;exact h.1.2
theorem rd_entry {e : Entry} (h : e.right = true) : rdEntry ⟨e.encB, false⟩ = (e, ⟨[], false⟩) := by
  obtain ⟨h1, h2, h3⟩ := right_head h
  have hb := right_bare h
  have go : ∀ rest : List UInt8, (be6 e.kind ++ (be6 e.writer ++ be6 e.seq)) ++ rest = e.encB → rdEntry ⟨e.encB, false⟩ = rdBody e.kind e.writer e.seq ⟨rest, false⟩ := by
    intro rest hr
    have n1 := rd_num (n := e.kind) (lo := 1) (hi := 5) (x := be6 e.writer ++ (be6 e.seq ++ rest)) (by omega) h1
    have n2 := rd_num (n := e.writer) (lo := 1) (hi := 16) (x := be6 e.seq ++ rest) (by omega) h2
    have n3 := rd_num (n := e.seq) (lo := 1) (hi := 1099511627776) (x := rest) (by omega) h3
    rw [← hr, rdEntry]
    simp only [List.append_assoc, n1.1, n1.2, n2.1, n2.2, n3.1, n3.2]
  rcases (by omega : e.kind = 1 ∨ e.kind = 2 ∨ e.kind = 3 ∨ e.kind = 4 ∨ e.kind = 5) with k | k | k | k | k
  · have b := body_1 h (.inl k)
    have hn : 1 ≤ e.name.length := by have := right_body h; rw [Entry.body, if_pos (.inl k)] at this; simp only [Bool.and_eq_true, within_iff] at this; omega
    rw [go _ (enc_1 h k), rdBody, if_pos k]
    have t1 := rd_txt (t := e.name) (lo := 1) (hi := 64) (x := be2 (e.value.length : Int) ++ e.value) (by omega) (by omega)
    have t2 := rd_txt (t := e.value) (lo := 0) (hi := 512) (x := []) (by omega) (by omega)
    rw [List.append_nil] at t2
    simp only [List.append_assoc, t1.1, t1.2, t2.1, t2.2]
    refine Prod.ext ?_ rfl
    conv => rhs; rw [hb]
    simp [Entry.bare, k]
  · have b := body_1 h (.inr k)
    have hn : 1 ≤ e.name.length := by have := right_body h; rw [Entry.body, if_pos (.inr k)] at this; simp only [Bool.and_eq_true, within_iff] at this; omega
    rw [go _ (enc_2 h k), rdBody, if_neg (by omega), if_pos k]
    have t1 := rd_txt (t := e.name) (lo := 1) (hi := 64) (x := []) (by omega) (by omega)
    rw [List.append_nil] at t1
    simp only [t1.1, t1.2]
    refine Prod.ext ?_ rfl
    conv => rhs; rw [hb]
    simp [Entry.bare, k]
  · have b := body_3 h k
    rw [go _ (enc_3 h k), rdBody, if_neg (by omega), if_neg (by omega), if_pos k]
    have t1 := rd_num (n := e.who) (lo := 1) (hi := 16) (x := be6 e.rights) (by omega) b.1
    have t2 := rd_num (n := e.rights) (lo := 1) (hi := 7) (x := []) (by omega) b.2
    rw [List.append_nil] at t2
    simp only [t1.1, t1.2, t2.1, t2.2]
    refine Prod.ext ?_ rfl
    conv => rhs; rw [hb]
    simp [Entry.bare, k]
  · have b := body_4 h k
    rw [go _ (enc_4 h k), rdBody, if_neg (by omega), if_neg (by omega), if_neg (by omega), if_pos k]
    have t1 := rd_num (n := e.who) (lo := 1) (hi := 16) (x := []) (by omega) b
    rw [List.append_nil] at t1
    simp only [t1.1, t1.2]
    refine Prod.ext ?_ rfl
    conv => rhs; rw [hb]
    simp [Entry.bare, k]
  · have b := body_5 h k
    rw [go _ (enc_5 h k), rdBody, if_neg (by omega), if_neg (by omega), if_neg (by omega), if_neg (by omega), if_pos k]
    have t1 := rd_num (n := e.epoch) (lo := 1) (hi := 16) (x := be6 (e.wraps.length : Int) ++ wb e.wraps) (by omega) b.1
    have t2 := rd_num (n := (e.wraps.length : Int)) (lo := 0) (hi := 16) (x := wb e.wraps) (by omega) (by omega)
    have t3 := rdWraps_wb (x := []) e.wraps [] b.2.1
    rw [List.append_nil, List.nil_append] at t3
    simp only [t1.1, t1.2, t2.1, t2.2, Int.toNat_natCast, t3]
    refine Prod.ext ?_ rfl
    conv => rhs; rw [hb]
    simp [Entry.bare, k]
theorem dec_enc {e:Entry} (h:e.right=true):decE e.encB=0∧decV e.encB=e:=by
 have hr:=rd_entry h
 have ho:decOk e.encB=true:=by rw [decOk,hr,h];rfl
 exact ⟨by rw [decE,if_pos ho],by rw [decV,if_pos ho,hr]⟩
theorem wb_len:∀(l:List WrapT),(∀w∈l,w.box.length=48)→(wb l).length=56*l.length
 | [],_=>rfl
 | w::l,h=>by
  have h1:=h w (by simp)
  have e:wb (w::l)=(be6 w.who++(be2 (w.box.length:Int)++w.box))++wb l:=rfl
  rw [e,List.length_append,wb_len l (fun u hu=>h u (by simp [hu]))]
  simp only [List.length_append,List.length_cons,be6_len,h1,show (be2 ((48:Nat):Int)).length=2 from rfl];omega
theorem encB_len {e : Entry} (h : e.right = true) : 18 ≤ e.encB.length ∧ e.encB.length ≤ 1000 := by
  obtain ⟨h1, h2, h3⟩ := right_head h
  have b2 : ∀ n : Int, (be2 n).length = 2 := fun _ => rfl
  rcases (by omega : e.kind = 1 ∨ e.kind = 2 ∨ e.kind = 3 ∨ e.kind = 4 ∨ e.kind = 5) with k | k | k | k | k
  · have b := body_1 h (.inl k)
    rw [← enc_1 h k]; simp only [List.length_append, be6_len, b2]; omega
  · have b := body_1 h (.inr k)
    rw [← enc_2 h k]; simp only [List.length_append, be6_len, b2]; omega
  · rw [← enc_3 h k]; simp only [List.length_append, be6_len]; omega
  · rw [← enc_4 h k]; simp only [List.length_append, be6_len]; omega
  · have b := body_5 h k
    have hl := wb_len e.wraps (fun w hw => (b.2.1 w hw).2)
    rw [← enc_5 h k]; simp only [List.length_append, be6_len, hl]; omega
theorem mark_putB {c:Int} {b:List UInt8} (hc:0≤c∧c≤1099511627776) (hb:b.length≤4096):putB [Any.int c,Any.bytes b]=be6 c++(be2 (b.length:Int)++b):=by
 have h0:putE [Any.int c,Any.bytes b]=0:=by
  rw [putE_iff];intro a ha
  simp only [List.mem_cons,List.not_mem_nil,or_false] at ha
  rcases ha with rfl | rfl
  ·exact numE_ok hc
  ·exact if_pos hb
 rw [putB_ok h0];simp only [List.map_cons,List.map_nil,List.flatten_cons,List.flatten_nil,List.append_nil]
 rw [num_ok hc,txt_ok hb]
theorem two_putB {a b:List UInt8} (ha:a.length≤4096) (hb:b.length≤4096):putB [Any.bytes a,Any.bytes b]=(be2 (a.length:Int)++a)++(be2 (b.length:Int)++b):=by
 have h0:putE [Any.bytes a,Any.bytes b]=0:=by
  rw [putE_iff];intro x hx
  simp only [List.mem_cons,List.not_mem_nil,or_false] at hx
  rcases hx with rfl | rfl
  ·exact if_pos ha
  ·exact if_pos hb
 rw [putB_ok h0];simp only [List.map_cons,List.map_nil,List.flatten_cons,List.flatten_nil,List.append_nil]
 rw [txt_ok ha,txt_ok hb]
theorem markB_len (L:List Thing) (s:List UInt8) (c w:Int) (b:List UInt8):(markB L s c w b).length=32:=rfl
theorem tryB_len {e:Entry} (h:e.right=true):(tryB e).length=e.encB.length+36:=by
 have:=encB_len h
 rw [tryB,two_putB (by omega) (by simp)]
 simp only [List.length_append,List.length_replicate,show ∀n:Int,(be2 n).length=2 from fun _=>rfl];omega
theorem plainB_eq {L:List Thing} {s:List UInt8} {r:Record} {e:Entry} (h:e.right=true):plainB L s r e=(be2 (e.encB.length:Int)++e.encB)++(be2 ((markB L s r.coll r.writer e.encB).length:Int)++markB L s r.coll r.writer e.encB):=by
 have:=encB_len h
 rw [plainB,two_putB (by omega) (by rw [markB_len];decide)]
theorem sealRE_is {k:List UInt8} {r:Record} {e:Entry} (h:e.right=true):sealRE k r e=if e.writer≠r.writer then 40 else if k.length≠32 then 21 else if r.nums=false then 12 else bsizeE ((e.encB.length+36:Nat):Int):=by
 rw [sealRE,encE_right h,if_neg (by decide),tryB_len h]
end Go.Proofs.YthddplghlljdbaaGreat

namespace Go.Proofs.YthddplghlljdbaaGreat
open Go.RowKit Go.Ecal
abbrev twoT (a b:List UInt8):List UInt8:=(be2 (a.length:Int)++a)++(be2 (b.length:Int)++b)
theorem twoT_len (a b:List UInt8):(twoT a b).length=4+a.length+b.length:=by
 simp only [twoT,List.length_append,show ∀n:Int,(be2 n).length=2 from fun _=>rfl];omega
structure SealsOk (k:List UInt8) (r:Record) (e:Entry):Prop where
 right:e.right=true
 writer:e.writer=r.writer
 key:k.length=32
 nums:r.nums=true
 enc:18≤e.encB.length∧e.encB.length≤1000
theorem seals_ok {k:List UInt8} {r:Record} {e:Entry} (h:sealRE k r e=0):SealsOk k r e:=by
 have hr:e.right=true:=by
  cases q:e.right with
  | true=>rfl
  | false=>rw [sealRE,encE_wrong q,if_pos (by decide)] at h;cases h
 rw [sealRE_is hr] at h
 have h1:e.writer=r.writer:=by
  by_cases q:e.writer=r.writer
  ·exact q
  ·rw [if_pos q] at h;cases h
 rw [if_neg (fun q=>q h1)] at h
 have h2:k.length=32:=by
  by_cases q:k.length=32
  ·exact q
  ·rw [if_pos q] at h;cases h
 rw [if_neg (fun q=>q h2)] at h
 have h3:r.nums=true:=by
  cases q:r.nums with
  | true=>rfl
  | false=>rw [q,if_pos rfl] at h;cases h
 exact ⟨hr,h1,h2,h3,encB_len hr⟩
theorem seals_fine {k:List UInt8} {r:Record} {e:Entry} (h:SealsOk k r e):sealRE k r e=0:=by
 obtain ⟨h1,h2,h3,h4,h5⟩:=h
 rw [sealRE_is h1,if_neg (fun q=>q h2),if_neg (fun q=>q h3),if_neg (by rw [h4];decide)]
 obtain ⟨z,_,hz,_⟩:=bsize_facts ((e.encB.length+36:Nat):Int) (by omega) (by omega)
 exact hz
theorem padB_twoT {a b:List UInt8} (h:(twoT a b).length≤2046):padB (twoT a b)=bpad (twoT a b):=if_pos h
theorem box_right {r:Record} {l:List UInt8} {n:Int} (hn:r.nums=true) (hl:l.length≤2046):({ r with box:=boxOf n (bpad l).length }:Record).right=true:=by
 have hb:=bpad_len hl
 have hm:=bpad_most hl
 rw [right_iff]
 refine ⟨hn,?_⟩
 simp only [box_len];omega
theorem Texts.right {n:Nat} {L:List Thing} {s u:List UInt8} {w:Int} (h:Texts n L) (hu:u.length+6≤n):Texts n (rightL L s u w):=by
 rw [rightL];split
 ·exact h.once (by simp only [List.length_append,be6_len];exact hu)
 ·exact h
theorem Texts.mark {n:Nat} {L:List Thing} {s b:List UInt8} {c w:Int} (h:Texts n L) (hn:8196≤n):Texts n (markL L s c w b):=by
 rw [markL]
 exact (h.right (by rw [show uWriter.length=6 from rfl];omega)).once (Nat.le_trans (putB_le _) (by simpa using hn))
theorem Texts.sealR {n:Nat} {L:List Thing} {s k:List UInt8} {r:Record} {e:Entry} (h:Texts n L) (hn:8196≤n):Texts n (sealRL L s k r e):=by
 rw [sealRL];split
 ·exact (h.mark hn).snoc (Nat.le_trans (padB_len _) (by omega))
 ·exact h
theorem sealRL_len (L:List Thing) (s k:List UInt8) (r:Record) (e:Entry):(sealRL L s k r e).length≤L.length+3:=by
 rw [sealRL];split
 ·have:=markL_len L s r.coll r.writer e.encB;simp only [List.length_append,List.length_cons,List.length_nil];omega
 ·omega
theorem plain_twoT {L:List Thing} {s:List UInt8} {r:Record} {e:Entry} (h:e.right=true):padB (plainB L s r e)=bpad (twoT e.encB (markB L s r.coll r.writer e.encB)):=by
 have hl:=encB_len h
 rw [show plainB L s r e=twoT e.encB (markB L s r.coll r.writer e.encB) from plainB_eq h,padB_twoT (by rw [twoT_len,markB_len];omega)]
theorem sealRR_ok {L:List Thing} {s k:List UInt8} {r:Record} {e:Entry} (h:SealsOk k r e):sealRR L s k r e={ r with box:=boxOf (((markL L s r.coll r.writer e.encB).length:Int)+1) (bpad (twoT e.encB (markB L s r.coll r.writer e.encB))).length }:=by
 rw [sealRR,if_pos (seals_fine h),plain_twoT h.right]
end Go.Proofs.YthddplghlljdbaaGreat
