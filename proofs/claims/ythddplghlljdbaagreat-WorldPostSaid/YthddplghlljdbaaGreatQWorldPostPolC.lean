import Derived.Test.YthddplghlljdbaaGreatQWorldPostPolB
import Derived.Test.YthddplghlljdbaaGreatQWorldPostCells
set_option linter.unusedVariables false
set_option linter.unusedSimpArgs false
set_option maxRecDepth 100000
set_option maxHeartbeats 4000000
namespace Go.Proofs.YthddplghlljdbaaGreat
open Go.RowKit Go.Ecal
theorem MemClone_c (v0:Value) (l:List MemT) (I:Gh) (R:List HP) (w:World) (S:Sat w I (R)) (Q0:RoX I v0 memR l) (hl:0<l.length∧l.length≤100000):Ret Tryz.prog 157 [v0] w fun v w'=>∃v1:Value,v1=v∧Sat w' I (OwnX 183 memR v1 l::R):=by
 refine ret_E Tryz.func157 rfl Tryz.ntmps157 (by simp) ?_
 repeat refine g1 ?_
 refine vl _ rfl (r_nonilX rfl (Q0.row S.le) (by omega) rfl U101) ?_
 repeat refine g1 ?_
 refine EL_lit0X (τ:=memR) U101 (by kernel_rfl) S ?_
 intro u w1 S1
 repeat refine g1 ?_
 refine EL_appX (z:=(.agg #[.int .i64 0,.int .i64 0])) (bytes:=16) rfl U101 (by kernel_rfl) rfl (by decide) rfl rfl S1 Q0 (by simp;omega) (by simp;omega) ?_
 intro v1 w2 S2
 repeat refine g1 ?_
 refine f1 Tryz.results157 ?_
 exact ⟨v1,rfl,S2⟩
theorem MemDelete_c (v:Value) (l:List MemT) (i:Nat) (k:Int) (I:Gh) (R:List HP) (w:World) (S:Sat w I (OwnX 183 memR v l::R)) (hi:i<l.length) (hl:l.length≤100000) (hk:k=(i:Int)+1):Ret Tryz.prog 160 [v,.int .i64 (i:Int),.int .i64 k] w fun v' w'=>∃v1:Value,v1=v'∧Sat w' I (OwnX 183 memR v1 (l.take i++l.drop (i+1))::R):=by
 obtain rfl:k=((i+1:Nat):Int):=by omega
 obtain ⟨xss,hA,S⟩:=OwnX.opn S
 have hL:=hA.len
 have hs:∀cs∈xss,cs.length=2:=hA.lens
 obtain ⟨g,cap,C,rfl,h1,h2,h3,h4,S⟩:=own_cells S (by omega)
 change C.length=cap*2 at h3
 change C.take (l.length*2)=_ at h4
 refine ret_E Tryz.func160 rfl Tryz.ntmps160 (by simp) ?_
 repeat refine g1 ?_
 refine vl _ rfl (r_lenC rfl U101) ?_
 refine vl _ rfl (r_slice3C (sz:=2) (i:=i) (j:=i+1) (m:=l.length) rfl U101 (by kernel_rfl) (by omega) (by omega) (by omega) rfl rfl rfl) ?_
 refine g7 ?_
 refine vl _ rfl (dF (r_eql rfl rfl)) ?_
 repeat refine g1 ?_
 refine vl _ rfl (r_lenC rfl U101) ?_
 refine g4 ?_
 refine yJ 6 (fun w'=>Arr w' g 183 C) S ?_
 intro w1 S1
 refine yT 0 S1.le S1.a0 ?_
 refine yT 1 S1.le S1.a0 ?_
 refine jT 2 rfl (by kernel_rfl) (.slice (some ⟨g,0,none⟩) i cap) rfl (fun _ hw ht=>r_asv (by simp) (r_sliceC (sz:=2) rfl U101 (by kernel_rfl) 0 i (by omega) (by omega) (.inl ⟨rfl,rfl⟩) (.inr ⟨_,_,rfl,rfl⟩))) ⟨S1.le,fun h=>S1.a0⟩ ?_
 refine yT 3 S1.le S1.a0 ?_
 refine yT 4 S1.le S1.a0 ?_
 refine jT 5 rfl (by kernel_rfl) (.slice (some ⟨g,if cap=i+1 then 0 else 0+(i+1)*2,none⟩) (l.length-(i+1)) (cap-(i+1))) rfl (fun _ hw ht=>r_sliceC (sz:=2) rfl U101 (by kernel_rfl) (i+1) l.length (by omega) (by omega) (.inr ⟨_,_,rfl,rfl⟩) (.inl ⟨rfl,rfl⟩)) ⟨S1.le,fun h=>S1.a0⟩ ?_
 refine y1 6 ?_
 have hdl:((C.drop ((i+1)*2)).take ((l.length-(i+1))*2)).length=(l.length-(i+1))*2:=by rw [List.length_take,List.length_drop,h3];omega
 have hdx:(C.drop ((i+1)*2)).take ((l.length-(i+1))*2)=(xss.drop (i+1)).flatten:=by
  rw [←flat_drop hs,←h4,List.drop_take,←Nat.sub_mul]
 refine EL_roomC (cs:=(C.drop ((i+1)*2)).take ((l.length-(i+1))*2)) S1 rfl rfl ?_ rfl U101 (by kernel_rfl) hdl (by omega) (by rw [hdl,h3];omega) ?_ ?_
 ·intro j u hj
  have hlt:=(List.getElem?_eq_some_iff.1 hj).1
  rw [hdl] at hlt
  rw [if_neg (by omega),Nat.zero_add]
  exact S1.a0.src _ _ j u hj
 ·rw [hdx];exact flat_one (hA.drop (i+1))
 intro w2 S2
 refine ym S2.le ?_
 refine yf 7 S2.le ?_
 refine yd ?_
 repeat refine g1 ?_
 refine vl _ rfl (r_lenC rfl U101) ?_
 refine g1 ?_
 refine vl (.slice (some ⟨g,(l.length-1)*2,none⟩) 1 (cap-(l.length-1))) rfl (r_asv (by rw [if_neg (by omega)];congr 2<;>first | omega | (congr 1;omega)) (r_sliceC (sz:=2) rfl U101 (by kernel_rfl) (i+(l.length-(i+1))) l.length (by omega) (by omega) (.inr ⟨_,_,rfl,rfl⟩) (.inr ⟨_,_,rfl,rfl⟩))) ?_
 refine EL_clearC (n:=0) S2 rfl U101 (z:=.agg #[.int .i64 0,.int .i64 0]) (by kernel_rfl) rfl (by simp only [List.length_append,List.length_take,List.length_drop,hdl,h3];show _+(0+1)*2≤_;omega) ?_
 intro w3 D hD hT S3
 repeat refine g1 ?_
 refine f1 Tryz.results160 ?_
 have hll:i+(l.length-(i+1))=l.length-1:=by omega
 refine ⟨_,rfl,OwnX.cls (xss:=xss.take i++xss.drop (i+1)) ((hA.take i).app (hA.drop (i+1))) ?_⟩
 have hlen:(l.take i++l.drop (i+1)).length=l.length-1:=by rw [List.length_append,List.length_take,List.length_drop];omega
 rw [hlen,←hll]
 refine cells_own S3 (by omega) h2 (by rw [hD];simp only [List.length_append,List.length_take,List.length_drop,hdl,h3];show _=_*2;omega) ?_
 show D.take ((i+(l.length-(i+1)))*2)=_
 rw [hll,hT,List.flatten_append,←hdx,←flat_take hs,←h4]
 have e1:(C.take (i*2)).length=i*2:=by rw [List.length_take,h3];omega
 rw [List.take_take,show min (i*2) (l.length*2)=i*2 by omega]
 refine List.take_left' ?_
 rw [List.length_append,e1,hdl];omega
theorem MemInsert_c (v : Value) (l : List MemT) (u : Value) (a : MemT) (i : Nat) (I : Gh) (R : List HP) (w : World) (S : Sat w I (OwnX 183 memR v l :: OwnX 183 memR u [a] :: R)) (hi : i ≤ l.length) (hl : 0 < l.length ∧ l.length ≤ 100000) : Ret Tryz.prog 161 [v, .int .i64 (i : Int), u] w fun v' w' => ∃ v1 : Value, v1 = v' ∧ Sat w' I (OwnX 183 memR v1 (l.take i ++ [a] ++ l.drop i) :: OwnX 183 memR u [a] :: R) := by
  obtain ⟨yss, hB, S⟩ := OwnX.opn S.fr1
  have hs2 : ∀ cs ∈ yss, cs.length = 2 := hB.lens
  have hyl : yss.flatten.length = 2 := by rw [flat_len hs2, hB.len]; rfl
  obtain ⟨gu, cp2, D, rfl, k1, k2, k3, k4, S⟩ := own_cells S (by simp)
  change D.length = cp2 * 2 at k3
  change D.take 2 = _ at k4
  obtain ⟨xss, hA, S⟩ := OwnX.opn S.fr1
  have hL := hA.len
  have hs : ∀ cs ∈ xss, cs.length = 2 := hA.lens
  obtain ⟨g, cap, C, rfl, h1, h2, h3, h4, S⟩ := own_cells S (by omega)
  change C.length = cap * 2 at h3
  change C.take (l.length * 2) = _ at h4
  have hsy : ∀ {w : World} {l : List HP}, Sat w I (Blk gu 183 D :: l) → ∀ j q, yss.flatten[j]? = some q → w.cell? ((⟨gu, 0, none⟩ : Addr).add j) = some q := fun S j q hj => by rw [← k4] at hj; exact S.a0.src 0 2 j q hj
  have hend : ∀ {w : World} {v1 : Value} {xs : List Value} {r : List HP}, xs = (xss.take i).flatten ++ yss.flatten ++ (xss.drop i).flatten → Sat w I (Own 183 2 v1 (l.length + 1) xs :: Blk gu 183 D :: R) → ∃ v2 : Value, v2 = v1 ∧ Sat w I (OwnX 183 memR v2 (l.take i ++ [a] ++ l.drop i) :: OwnX 183 memR (.slice (some ⟨gu, 0, none⟩) 1 cp2) [a] :: R) := fun {w v1 xs _} hx S => by
    have hlen : (l.take i ++ [a] ++ l.drop i).length = l.length + 1 := by simp only [List.length_append, List.length_take, List.length_drop, List.length_cons, List.length_nil]; omega
    have S1 : Sat w I (OwnX 183 memR (.slice (some ⟨gu, 0, none⟩) 1 cp2) [a] :: Own 183 2 v1 (l.length + 1) xs :: R) := OwnX.cls hB (cells_own S.fr1 k1 k2 k3 k4)
    refine ⟨v1, rfl, OwnX.cls (xss := xss.take i ++ yss ++ xss.drop i) (((hA.take i).app hB).app (hA.drop i)) ?_⟩
    rw [hlen, List.flatten_append, List.flatten_append, ← hx]
    exact S1.fr1
  have hd : (xss.drop i).flatten = (C.drop (i * 2)).take ((l.length - i) * 2) := by rw [← flat_drop hs, ← h4, List.drop_take, ← Nat.sub_mul]
  have ht : (xss.take i).flatten = C.take (i * 2) := by rw [← flat_take hs, ← h4, List.take_take, Nat.min_eq_left (by omega)]
  have hdl : ((C.drop (i * 2)).take ((l.length - i) * 2)).length = (l.length - i) * 2 := by rw [List.length_take, List.length_drop, h3]; omega
  refine ret_E Tryz.func161 rfl Tryz.ntmps161 (by simp) ?_
  repeat refine g1 ?_
  refine vl _ rfl (r_sliceC (sz := 2) rfl U101 (by kernel_rfl) i l.length hi h1 (.inr ⟨_, _, rfl, rfl⟩) (.inl ⟨rfl, rfl⟩)) ?_
  repeat refine g1 ?_
  refine vl (.int .i64 1) rfl (r_lenC rfl U101) ?_
  refine g7 ?_
  refine vl _ rfl (dF (r_eql rfl rfl)) ?_
  repeat refine g1 ?_
  refine vl _ rfl (r_lenC rfl U101) ?_
  repeat refine g1 ?_
  refine EC_if rfl (fun hin => ?_) (fun hin => ?_)
  · have hin : i = l.length := by omega
    repeat refine g1 ?_
    have S0 := (cells_own S h1 h2 h3 h4).fr1
    have S0 := (cells_own S0 k1 k2 k3 k4).fr1
    refine EL_appW (z := #[.int .i64 0, .int .i64 0]) (m := 1) (n := l.length) (bytes := 16) 0 rfl U101 (by kernel_rfl) rfl (by decide) rfl rfl (S0.own 0 rfl) (S0.own 1 rfl) (by decide) (flat_one hB) (by omega) (by omega) (Nat.zero_le _) ?_
    intro v1 w1 O G A
    have S1 := S0.gr0 G O A
    repeat refine g1 ?_
    refine f1 Tryz.results161 ?_
    have S1 : Sat w1 I (OwnX 183 memR (.slice (some ⟨gu, 0, none⟩) 1 cp2) [a] :: Own 183 2 v1 (l.length + 1) (xss.flatten ++ yss.flatten) :: R) := OwnX.cls hB S1.fr1
    refine ⟨v1, rfl, OwnX.cls (xss := xss ++ yss) ?_ ?_⟩
    · rw [hin, List.take_length, List.drop_length, List.append_nil]; exact hA.app hB
    · rw [hin, List.take_length, List.drop_length, List.append_nil, List.flatten_append, List.length_append]
      exact S1.fr1
  have hin : i < l.length := by omega
  repeat refine g1 ?_
  refine vl _ rfl (r_addi rfl rfl (by omega)) ?_
  refine g1 ?_
  refine vl _ rfl (r_capC rfl U101) ?_
  repeat refine g1 ?_
  refine EC_if rfl (fun hcp => ?_) (fun hcp => ?_)
  · refine g4 ?_
    refine vl (.slice (some ⟨g, 0, none⟩) i cap) rfl (r_asv (by simp) (r_sliceC (sz := 2) rfl U101 (by kernel_rfl) 0 i (by omega) (by omega) (.inl ⟨rfl, rfl⟩) (.inr ⟨_, _, rfl, rfl⟩))) ?_
    repeat refine g1 ?_
    refine vl _ rfl (r_addi rfl rfl (by omega)) ?_
    refine g1 ?_
    refine vl (.int .i64 ((l.length + 1 - i : Nat) : Int)) rfl (r_asn (by omega) (r_subi rfl rfl (by omega))) ?_
    refine EL_zerosC (sz := 2) (z := .agg #[.int .i64 0, .int .i64 0]) (bytes := 16) (k := l.length + 1 - i) S rfl rfl rfl U101 U3 (by kernel_rfl) rfl (by decide) (by omega) (by omega) (by omega) (by omega) (by omega) (by omega) ?_
    intro gw cap2 C2 w1 q1 q2 q3 q4 S1
    repeat refine g1 ?_
    refine vl _ rfl (r_sliceC (sz := 2) rfl U101 (by kernel_rfl) i (i + (l.length + 1 - i)) (by omega) (by omega) (.inr ⟨_, _, rfl, rfl⟩) (.inl ⟨rfl, rfl⟩)) ?_
    refine g1 ?_
    refine EL_copyC (sz := 2) (o := i * 2) S1 (by rw [if_neg (show ¬ cap2 = i by omega), Nat.zero_add (i * 2)]; exact rfl) rfl yss.flatten (hsy S1.fr2) rfl U101 (by kernel_rfl) (by rw [hyl]; show 2 = min 1 _ * 2; omega) (by rw [hyl, q3]; omega) (flat_one hB) ?_
    intro w2 S2
    repeat refine g1 ?_
    refine yJ 8 (fun _ => True) S2 ?_
    intro w3 S3
    refine yT 0 S3.le trivial ?_
    refine yT 1 S3.le trivial ?_
    refine yT 2 S3.le trivial ?_
    refine jT 3 rfl (by kernel_rfl) _ rfl (fun _ hw ht => r_addi rfl rfl (by omega)) ⟨S3.le, fun h => trivial⟩ ?_
    refine jT 4 rfl (by kernel_rfl) _ rfl (fun _ hw ht => r_sliceC (sz := 2) rfl U101 (by kernel_rfl) (i + 1) (i + (l.length + 1 - i)) (by omega) (by omega) (.inr ⟨_, _, rfl, rfl⟩) (.inl ⟨rfl, rfl⟩)) ⟨S3.le, fun h => trivial⟩ ?_
    refine yT 5 S3.le trivial ?_
    refine yT 6 S3.le trivial ?_
    refine jT 7 rfl (by kernel_rfl) _ rfl (fun _ hw ht => r_sliceC (sz := 2) rfl U101 (by kernel_rfl) i l.length (by omega) (by omega) (.inr ⟨_, _, rfl, rfl⟩) (.inl ⟨rfl, rfl⟩)) ⟨S3.le, fun h => trivial⟩ ?_
    refine y1 8 ?_
    refine EL_copyC (sz := 2) (o := (i + 1) * 2) (a := ⟨g, i * 2, none⟩) S3 (by rw [if_neg (show ¬ cap2 = i + 1 by omega), Nat.zero_add ((i + 1) * 2)]; exact rfl) (by rw [if_neg (show ¬ cap = i by omega), Nat.zero_add (i * 2)]; exact rfl) ((C.drop (i * 2)).take ((l.length - i) * 2)) (S3.fr1.a0.src _ _) rfl U101 (by kernel_rfl) (by rw [hdl]; show _ = min (_ : Nat) _ * 2; omega) (by simp only [List.length_append, List.length_take, List.length_drop, hdl, hyl, q3]; omega) (by rw [← hd]; exact flat_one (hA.drop i)) ?_
    intro w4 S4
    refine ym S4.le ?_
    refine yd ?_
    repeat refine g1 ?_
    refine f1 Tryz.results161 ?_
    have hx := ins_grown (C := C) (C2 := C2) (ys := yss.flatten) (cs := (C.drop (i * 2)).take ((l.length - i) * 2)) (a := i * 2) q4 (by omega) (C2.drop (i * 2 + yss.flatten.length)) (X := (C2.take (i * 2) ++ yss.flatten ++ C2.drop (i * 2 + yss.flatten.length)).drop ((i + 1) * 2 + ((C.drop (i * 2)).take ((l.length - i) * 2)).length))
    rw [hdl, hyl, show i * 2 + 2 + (l.length - i) * 2 = (l.length + 1) * 2 by omega] at hx
    have hn : i + (l.length + 1 - i) = l.length + 1 := by omega
    rw [hn]
    refine hend (r := []) ?_ (cells_own S4.dr1 (by omega) q2 ?_ rfl)
    · rw [ht, hd, ← hx]; simp only [hdl, hyl, Nat.add_mul, Nat.one_mul, show i * 2 + 2 + (l.length - i) * 2 = l.length * 2 + 2 from by omega]
    · simp only [List.length_append, List.length_take, List.length_drop, hdl, hyl, q3]; omega
  refine g7 ?_
  refine vl _ rfl (r_addi rfl rfl (by omega)) ?_
  refine vl (.slice (some ⟨g, 0, none⟩) (l.length + 1) cap) rfl (r_asv (by simp) (r_sliceC (sz := 2) rfl U101 (by kernel_rfl) 0 (l.length + 1) (by omega) (by omega) (.inl ⟨rfl, rfl⟩) (.inr ⟨_, _, rfl, rfl⟩))) ?_
  repeat refine g1 ?_
  refine vl _ rfl (r_addi rfl rfl (by omega)) ?_
  refine vl (.slice (some ⟨g, (i + 1) * 2, none⟩) (l.length - i) (cap - (i + 1))) rfl (r_asv (by rw [if_neg (by omega), Nat.zero_add, show l.length + 1 - (i + 1) = l.length - i by omega]) (r_sliceC (sz := 2) rfl U101 (by kernel_rfl) (i + 1) (l.length + 1) (by omega) (by omega) (.inr ⟨_, _, rfl, rfl⟩) (.inl ⟨rfl, rfl⟩))) ?_
  refine vl (.bool false) rfl (r_apartC (sz := 2) (tR := 4) Tryz.func178 (by kernel_rfl) rfl (by kernel_rfl) (by kernel_rfl) U101 (by kernel_rfl) rfl rfl S.fr1.a0 S.a0 S.ne.symm (by rw [h3]; omega)) ?_
  refine vl _ rfl (nT rfl rfl) ?_
  repeat refine g1 ?_
  refine yJ 8 (fun _ => True) S ?_
  intro w3 S3
  refine yT 0 S3.le trivial ?_
  refine yT 1 S3.le trivial ?_
  refine yT 2 S3.le trivial ?_
  refine jT 3 rfl (by kernel_rfl) _ rfl (fun _ hw ht => r_addi rfl rfl (by omega)) ⟨S3.le, fun h => trivial⟩ ?_
  refine jT 4 rfl (by kernel_rfl) _ rfl (fun _ hw ht => r_sliceC (sz := 2) rfl U101 (by kernel_rfl) (i + 1) (l.length + 1) (by omega) (by omega) (.inr ⟨_, _, rfl, rfl⟩) (.inl ⟨rfl, rfl⟩)) ⟨S3.le, fun h => trivial⟩ ?_
  refine yT 5 S3.le trivial ?_
  refine yT 6 S3.le trivial ?_
  refine jT 7 rfl (by kernel_rfl) _ rfl (fun _ hw ht => r_sliceC (sz := 2) rfl U101 (by kernel_rfl) i (l.length + 1) (by omega) (by omega) (.inr ⟨_, _, rfl, rfl⟩) (.inl ⟨rfl, rfl⟩)) ⟨S3.le, fun h => trivial⟩ ?_
  refine y1 8 ?_
  refine EL_copyC (sz := 2) (o := (i + 1) * 2) (a := ⟨g, i * 2, none⟩) S3 (by rw [if_neg (show ¬ cap = i + 1 by omega), Nat.zero_add ((i + 1) * 2)]; exact rfl) (by rw [if_neg (show ¬ cap = i by omega), Nat.zero_add (i * 2)]; exact rfl) ((C.drop (i * 2)).take ((l.length - i) * 2)) (S3.a0.src _ _) rfl U101 (by kernel_rfl) (by rw [hdl]; show _ = min (_ : Nat) _ * 2; omega) (by rw [hdl, h3]; omega) (by rw [← hd]; exact flat_one (hA.drop i)) ?_
  intro w4 S4
  refine ym S4.le ?_
  refine yd ?_
  repeat refine g1 ?_
  refine vl _ rfl (r_sliceC (sz := 2) rfl U101 (by kernel_rfl) i (l.length + 1) (by omega) (by omega) (.inr ⟨_, _, rfl, rfl⟩) (.inl ⟨rfl, rfl⟩)) ?_
  refine g1 ?_
  refine EL_copyC (sz := 2) (o := i * 2) S4 (by rw [if_neg (show ¬ cap = i by omega), Nat.zero_add (i * 2)]; exact rfl) rfl yss.flatten (hsy S4.fr1) rfl U101 (by kernel_rfl) (by rw [hyl]; show 2 = min 1 _ * 2; omega) (by simp only [List.length_append, List.length_take, List.length_drop, hdl, hyl, h3]; omega) (flat_one hB) ?_
  intro w5 S5
  repeat refine g1 ?_
  refine f1 Tryz.results161 ?_
  have hx := ins_room (C := C) (ys := yss.flatten) (cs := (C.drop (i * 2)).take ((l.length - i) * 2)) (a := i * 2) (b := (i + 1) * 2) (X := C.drop ((i + 1) * 2 + ((C.drop (i * 2)).take ((l.length - i) * 2)).length)) (by rw [hyl]; omega) (by omega)
  rw [hdl, show (i + 1) * 2 + (l.length - i) * 2 = (l.length + 1) * 2 by omega] at hx
  refine hend (r := []) ?_ (cells_own S5 (by omega) h2 ?_ rfl)
  · rw [ht, hd, ← hx]; simp only [hdl, hyl, Nat.add_mul, Nat.one_mul, show i * 2 + 2 + (l.length - i) * 2 = l.length * 2 + 2 from by omega]
  · simp only [List.length_append, List.length_take, List.length_drop, hdl, hyl, h3]; omega
theorem Ge_c (cm:List Value) (m:MemT) (b:Nat) (e:Entry) (x1:Value) (x2:Value) (x3:Value) (I:Gh) (R:List HP) (w:World) (S:Sat w I (Blk b 36 (entRC e x1 x2 x3)::R)) (hm:memR.r I cm m):Ret Tryz.prog 159 [.agg cm.toArray,ptr b] w fun v w'=>.bool (decide (e.who≤m.who))=v∧Sat w' I (Blk b 36 (entRC e x1 x2 x3)::R):=by
 obtain ⟨rfl,r0,r1⟩:=hm
 refine ret_E Tryz.func159 rfl Tryz.ntmps159 (by simp) ?_
 refine g2 ?_
 refine yB (cs:=[.int .i64 m.who,.int .i64 m.rights]) S ?_
 intro b0 w0 S0
 refine g14 ?_
 refine f1 Tryz.results159 ?_
 exact ⟨rfl,S0.dr0⟩
theorem PIdx_c (v0:Value) (l:List MemT) (b:Nat) (e:Entry) (x1:Value) (x2:Value) (x3:Value) (I:Gh) (R:List HP) (w:World) (S:Sat w I (Blk b 36 (entRC e x1 x2 x3)::OwnX 183 memR v0 l::R)) (hl:l.length≤100000):Ret Tryz.prog 158 [v0,.func (.func 159) #[] [ptr b].toArray] w fun v w'=>.int .i64 (ixM l e.who)=v∧Sat w' I (Blk b 36 (entRC e x1 x2 x3)::OwnX 183 memR v0 l::R):=by
 refine ret_E Tryz.func158 rfl Tryz.ntmps158 (by simp) ?_
 refine g9 ?_
 refine vl _ rfl (r_lenX rfl (OwnX.row S 1 rfl (by decide)).1 U101) ?_
 refine g4 ?_
 refine EC_loop (fun m' E' w'=>∃j:Nat,m'=l.length-j∧E' 8=.int .i64 (j:Int)∧E' 0=v0∧E' 1=.func (.func 159) #[] [ptr b].toArray∧E' 7=.int .i64 (l.length:Int)∧(j≤l.length)∧(j≤atM l e.who)∧Sat w' I (Blk b 36 (entRC e x1 x2 x3)::OwnX 183 memR v0 l::R)) _ ⟨0,rfl,rfl,rfl,rfl,rfl,Nat.zero_le _,Nat.zero_le _,S⟩ ?_
 rintro _ E0 w0 ⟨j,rfl,e0,e1,e2,e3,hj,hat,S0⟩
 refine g6 ?_
 refine EC_if rfl (fun h0=>?_) (fun h0=>?_)
 refine g15 ?_
 refine vl (ptr (blkOf v0) (offOf v0+((j:Int):Int).toNat*2)) rfl (r_indexX rfl (OwnX.row S0 1 rfl (by decide)).1 rfl (by omega) as' U101 (by kernel_rfl)) ?_
 obtain ⟨a0,ha0⟩:=get_some (l:=l) (j:=((j:Int):Int).toNat) as'
 obtain ⟨cs0,hc0,he0⟩:=(OwnX.row S0 1 rfl (by decide)).2 _ _ ha0
 obtain ⟨rfl,r0,r1⟩:=hc0
 refine vl (.agg ([.int .i64 a0.who,.int .i64 a0.rights]).toArray) rfl (r_loadR (cs:=[.int .i64 a0.who,.int .i64 a0.rights]) rfl he0 U183 rfl (by kernel_rfl)) ?_
 refine EL_retw _ rfl rfl Tryz.func159 rfl nm159 rfl (Ge_c [.int .i64 a0.who,.int .i64 a0.rights] a0 _ e x1 x2 x3 _ _ _ S0 ⟨rfl,ad,ad⟩) ?_
 rintro _ w1 ⟨rfl,S1⟩
 refine g2 ?_
 refine EC_if rfl (fun h1=>?_) (fun h1=>?_)
 have hab:e.who≤a0.who:=by simpa using h1
 refine g12 ?_
 refine f1 Tryz.results158 ?_
 exact ⟨(congrArg (Value.int .i64) (ix_stop (show _[j]?=_ from ha0) hat hab)),S1⟩
 have hab:¬e.who≤a0.who:=by simpa using h1
 refine g4 ?_
 refine EL_int ((j:Int)+1) rfl (r_addi (by exact e0) rfl (by omega)) ?_
 intro x0 hx29
 refine g3 ?_
 refine ⟨_,?_,j+1,rfl,(Eq.trans (show _=Value.int .i64 x0 from rfl) (congrArg _ (by omega))),(by exact e1),(by exact e2),(by exact e3),by omega,(at_step (show _[j]?=_ from ha0) hat hab),S1⟩
 first | omega | (simp;omega)
 refine g11 ?_
 refine f1 Tryz.results158 ?_
 exact ⟨(congrArg (Value.int .i64) (ix_end (by omega))),S0⟩
theorem PApply_c (cp:List Value) (p:Pol) (ce:List Value) (e:Entry) (I:Gh) (R:List HP) (w:World) (S:Sat w I (R)) (hp:polR.r I cp p) (he:entR.r I ce e):Ret Tryz.prog 125 [.agg cp.toArray,.agg ce.toArray] w fun v w'=>∃cr:List Value,∃J:Gh,Gh.le I J∧.tuple #[.agg cr.toArray,.int .i64 (p.mayE e)]=v∧polR.r J cr (p.app0 e)∧Sat w' J (R):=by
 obtain ⟨v0,rfl,r0,r3,⟨o0,H0⟩⟩:=hp
 obtain ⟨v1,v2,v3,rfl,r4,r5,r6,⟨o1,H1⟩,⟨o2,H2⟩,r7,r8,r9,⟨o3,H3⟩⟩:=he
 refine ret_E Tryz.func125 rfl Tryz.ntmps125 (by simp) ?_
 refine g2 ?_
 refine yB (cs:=polRC p v0) S ?_
 intro b0 w0 S0
 refine yB (cs:=entRC e v1 v2 v3) S0 ?_
 intro b1 w1 S1
 refine yN polR0 S1 ?_
 intro b2 w2 S2
 refine g8 ?_
 refine yR (May_c (polRC p v0) p (entRC e v1 v2 v3) e _ _ _ S2 ⟨v0,rfl,ad,ad,⟨o0,H0⟩⟩ ⟨v1,v2,v3,rfl,ad,ad,ad,⟨o1,H1⟩,⟨o2,H2⟩,ad,ad,ad,⟨o3,H3⟩⟩) ?_
 rintro _ w3 ⟨I0,le0,rfl,S3⟩
 refine g9 ?_
 refine EC_if rfl (fun h0=>?_) (fun h0=>?_)
 have hm0:¬p.mayE e=0:=h0
 refine g2 ?_
 refine vl _ rfl (gB polR0 st_103 rfl fill_end) ?_
 refine g1 ?_
 refine yW0 S3 ?_
 intro w4 S4
 refine g5 ?_
 refine f2c Tryz.results125 ?_
 have q0:(p.app0 e)=(⟨0,0,[]⟩:Pol):=by rw [Pol.app0,if_neg hm0];rfl
 exact ⟨_,I0,le0,rfl,(by rw [q0];exact (polRz _)),S4.dr0.dr0.dr0⟩
 have hm0:p.mayE e=0:=Classical.byContradiction h0
 have hpe:=may_0 hm0
 have hml:=right_mem hpe.1
 have hm16:=right_len hpe.1
 refine g6 ?_
 refine yR (MemClone_c _ _ _ _ _ S3 (H0.up le0) ⟨hml,by omega⟩) ?_
 rintro _ w5 ⟨v4,rfl,S5⟩
 refine g1 ?_
 refine yS3 S5 ?_ (hu:=OwnX.one S5 0 rfl (by decide))
 intro w6 S6
 refine g6 ?_
 refine vl (.func (.func 159) #[] [ptr b1].toArray) rfl (r_mkfun rfl rfl) ?_
 refine yR (PIdx_c _ _ _ e v1 v2 v3 _ _ _ S6.fr2 au) ?_
 rintro _ w7 ⟨rfl,S7⟩
 refine g4 ?_
 rcases ix_cases p.mem e.who with ⟨j,m,hj,hmw,hix,hlt,hat⟩ | ⟨j,m,hj,hmw,hix,hlt,hat⟩ | ⟨hix,hat⟩
 rw [hix]
 refine EC_quietB (by kernel_rfl) (by kernel_rfl) ?_
 refine g1 ?_
 refine EQ_val _ rfl (fun _ hw=>dcT (r_geq rfl rfl) (by first | (simp;done) | (simp;omega))) ?_
 refine g4 ?_
 refine EQ_gval 26 rfl rfl rfl rfl (ptr (blkOf v4) (offOf v4+((j:Int):Int).toNat*2)) rfl (fun _ hw=>r_indexX rfl (XRow.below (OwnX.row S7 1 rfl (by decide)).1 (hp_below hw)) rfl (by omega) as' U101 (by kernel_rfl)) (EQ_gval 26 rfl rfl rfl rfl (ptr (blkOf v4) (offOf v4+((j:Int):Int).toNat*2+0)) rfl (fun _ hw=>r_fieldP (s:=1) rfl U183 rfl (by kernel_rfl) (by decide) rfl) ?_)
 obtain ⟨cs0,hc0,he0⟩:=(OwnX.row S7 1 rfl (by decide)).2 _ _ hj
 obtain ⟨rfl,r10,r11⟩:=hc0
 refine EQ_gval 26 rfl rfl rfl rfl (.int .i64 m.who) rfl (fun _ hw=>r_loadF (k:=0) rfl (ElAt.below he0 (hp_below hw)) rfl U3 rfl) ?_
 refine g2 ?_
 refine EQ_gval 26 rfl rfl rfl rfl _ rfl (fun _ hw=>dcT (r_eql rfl rfl) (by simpa using hmw)) ?_
 refine g2 ?_
 refine yE S7 ?_
 intro w8 S8
 refine g5 ?_
 refine vl _ rfl (dcF (r_lss rfl rfl) (by first | (simp;done) | (simp;omega))) ?_
 refine g19 ?_
 refine EC_if rfl (fun h3=>?_) (fun h3=>?_)
 have hk:e.kind=5:=h3
 refine g4 ?_
 refine yS3 S8 ?_
 intro w9 S9
 refine g6 ?_
 refine yW2 S9 ?_ (h1:=ones_cons rfl (ones_cons rfl (ones_cons (OwnX.one S9 1 rfl (by decide)) ones_nil)))
 intro w10 S10
 refine g4 ?_
 refine f2c Tryz.results125 ?_
 have oH99:=(OwnX.one S10 1 rfl (by decide))
 obtain ⟨I1,le1,S11,H4⟩:=S10.fx1 (by decide)
 have q1:(p.app0 e)=(⟨p.founder,e.epoch,p.mem⟩:Pol):=by rw [Pol.app0,if_pos hm0,Pol.app,if_pos hk]
 exact ⟨[.int .i64 p.founder,.int .i64 e.epoch,v4],I1,(lT le0 le1),(by rw [hm0]),(by rw [q1];exact ⟨v4,rfl,ad,ad,⟨oH99,H4⟩⟩),S11.dr0.dr0.dr0⟩
 have hk5:¬e.kind=5:=h3
 refine g6 ?_
 refine EC_if rfl (fun h4=>?_) (fun h4=>?_)
 have hk:e.kind=4:=h4
 refine g11 ?_
 refine EL_int ((j:Int)+1) rfl (r_addi rfl rfl (by omega)) ?_
 intro x0 hx105
 refine yR (MemDelete_c _ _ j x0 _ _ _ S8.fr1 au au au) ?_
 rintro _ w11 ⟨v5,rfl,S12⟩
 refine g1 ?_
 refine yS3 S12 ?_ (hu:=OwnX.one S12 0 rfl (by decide))
 intro w12 S13
 refine g6 ?_
 refine yW2 S13 ?_ (h1:=ones_cons rfl (ones_cons rfl (ones_cons (OwnX.one S13 0 rfl (by decide)) ones_nil)))
 intro w13 S14
 refine g4 ?_
 refine f2c Tryz.results125 ?_
 have oH123:=(OwnX.one S14 0 rfl (by decide))
 obtain ⟨I2,le2,S15,H5⟩:=S14.fx0 (by decide)
 have q2:(p.app0 e)=(⟨p.founder,p.epoch,p.mem.take j++p.mem.drop (j+1)⟩:Pol):=by rw [Pol.app0,if_pos hm0,Pol.app,if_neg hk5,if_pos hk,←del_there (Pol.right_rising hpe.1) hj hmw hat]
 exact ⟨(polRC p v5),I2,(lT le0 le2),(by rw [hm0]),(by rw [q2];exact ⟨v5,rfl,ad,ad,⟨oH123,H5⟩⟩),S15.dr0.dr0.dr0⟩
 have hk4:¬e.kind=4:=h4
 refine g6 ?_
 refine EC_if rfl (fun h5=>?_) (fun h5=>?_)
 have hk:e.kind=3:=h5
 refine g4 ?_
 refine vl _ rfl (dcF (r_not rfl) rfl) ?_
 refine g11 ?_
 refine vl (ptr (blkOf v4) (offOf v4+((j:Int):Int).toNat*2)) rfl (r_indexX rfl (OwnX.row S8 1 rfl (by decide)).1 rfl (by omega) as' U101 (by kernel_rfl)) (vl (ptr (blkOf v4) (offOf v4+((j:Int):Int).toNat*2+1)) rfl (r_fieldP (s:=1) rfl U183 rfl (by kernel_rfl) (by decide) rfl) ?_)
 refine EL_setX (k:=1) (u:=.int .i64 e.rights) (b':=(⟨e.who,e.rights⟩:MemT)) rfl S8.fr1 rfl rfl hj (by decide) (fun cs h=>by obtain ⟨rfl,r1,r2⟩:=h;exact ⟨by simp [hmw],by first | omega | (dsimp only;omega),by first | omega | (dsimp only;omega)⟩) rfl (by kernel_rfl) ?_
 intro w14 S16
 refine g6 ?_
 refine yW2 S16 ?_ (h1:=ones_cons rfl (ones_cons rfl (ones_cons (OwnX.one S16 0 rfl (by decide)) ones_nil)))
 intro w15 S17
 refine g4 ?_
 refine f2c Tryz.results125 ?_
 have oH140:=(OwnX.one S17 0 rfl (by decide))
 obtain ⟨I3,le3,S18,H6⟩:=S17.fx0 (by decide)
 have q3:(p.app0 e)=(⟨p.founder,p.epoch,p.mem.set j (⟨e.who,e.rights⟩:MemT)⟩:Pol):=by rw [Pol.app0,if_pos hm0,Pol.app,if_neg hk5,if_neg hk4,if_pos hk,←set_there hj hmw hat]
 exact ⟨(polRC p v4),I3,(lT le0 le3),(by rw [hm0]),(by rw [q3];exact ⟨v4,rfl,ad,ad,⟨oH140,H6⟩⟩),S18.dr0.dr0.dr0⟩
 have hk3:¬e.kind=3:=h5
 refine g6 ?_
 refine yW2 S8 ?_ (h1:=ones_cons rfl (ones_cons rfl (ones_cons (OwnX.one S8 1 rfl (by decide)) ones_nil)))
 intro w16 S19
 refine g4 ?_
 refine f2c Tryz.results125 ?_
 have oH153:=(OwnX.one S19 1 rfl (by decide))
 obtain ⟨I4,le4,S20,H7⟩:=S19.fx1 (by decide)
 have q4:(p.app0 e)=(⟨p.founder,p.epoch,p.mem⟩:Pol):=by rw [Pol.app0,if_pos hm0,Pol.app,if_neg hk5,if_neg hk4,if_neg hk3]
 exact ⟨(polRC p v4),I4,(lT le0 le4),(by rw [hm0]),(by rw [q4];exact ⟨v4,rfl,ad,ad,⟨oH153,H7⟩⟩),S20.dr0.dr0.dr0⟩
 rw [hix]
 refine EC_quietB (by kernel_rfl) (by kernel_rfl) ?_
 refine g1 ?_
 refine EQ_val _ rfl (fun _ hw=>dcT (r_geq rfl rfl) (by first | (simp;done) | (simp;omega))) ?_
 refine g4 ?_
 refine EQ_gval 26 rfl rfl rfl rfl (ptr (blkOf v4) (offOf v4+((j:Int):Int).toNat*2)) rfl (fun _ hw=>r_indexX rfl (XRow.below (OwnX.row S7 1 rfl (by decide)).1 (hp_below hw)) rfl (by omega) as' U101 (by kernel_rfl)) (EQ_gval 26 rfl rfl rfl rfl (ptr (blkOf v4) (offOf v4+((j:Int):Int).toNat*2+0)) rfl (fun _ hw=>r_fieldP (s:=1) rfl U183 rfl (by kernel_rfl) (by decide) rfl) ?_)
 obtain ⟨cs1,hc1,he1⟩:=(OwnX.row S7 1 rfl (by decide)).2 _ _ hj
 obtain ⟨rfl,r12,r13⟩:=hc1
 refine EQ_gval 26 rfl rfl rfl rfl (.int .i64 m.who) rfl (fun _ hw=>r_loadF (k:=0) rfl (ElAt.below he1 (hp_below hw)) rfl U3 rfl) ?_
 refine g2 ?_
 refine EQ_gval 26 rfl rfl rfl rfl _ rfl (fun _ hw=>dcF (r_eql rfl rfl) (by first | (simp;done) | (simp;omega))) ?_
 refine g2 ?_
 refine yE S7 ?_
 intro w17 S21
 refine g5 ?_
 refine vl _ rfl (dcF (r_lss rfl rfl) (by first | (simp;done) | (simp;omega))) ?_
 refine g19 ?_
 refine EC_if rfl (fun h6=>?_) (fun h6=>?_)
 have hk:e.kind=5:=h6
 refine g4 ?_
 refine yS3 S21 ?_
 intro w18 S22
 refine g6 ?_
 refine yW2 S22 ?_ (h1:=ones_cons rfl (ones_cons rfl (ones_cons (OwnX.one S22 1 rfl (by decide)) ones_nil)))
 intro w19 S23
 refine g4 ?_
 refine f2c Tryz.results125 ?_
 have oH180:=(OwnX.one S23 1 rfl (by decide))
 obtain ⟨I5,le5,S24,H8⟩:=S23.fx1 (by decide)
 have q5:(p.app0 e)=(⟨p.founder,e.epoch,p.mem⟩:Pol):=by rw [Pol.app0,if_pos hm0,Pol.app,if_pos hk]
 exact ⟨[.int .i64 p.founder,.int .i64 e.epoch,v4],I5,(lT le0 le5),(by rw [hm0]),(by rw [q5];exact ⟨v4,rfl,ad,ad,⟨oH180,H8⟩⟩),S24.dr0.dr0.dr0⟩
 have hk5:¬e.kind=5:=h6
 refine g6 ?_
 refine EC_if rfl (fun h7=>?_) (fun h7=>?_)
 have hk:e.kind=4:=h7
 refine g12 ?_
 refine yW2 S21 ?_ (h1:=ones_cons rfl (ones_cons rfl (ones_cons (OwnX.one S21 1 rfl (by decide)) ones_nil)))
 intro w20 S25
 refine g4 ?_
 refine f2c Tryz.results125 ?_
 have oH194:=(OwnX.one S25 1 rfl (by decide))
 obtain ⟨I6,le6,S26,H9⟩:=S25.fx1 (by decide)
 have q6:(p.app0 e)=(⟨p.founder,p.epoch,p.mem⟩:Pol):=by first | rw [Pol.app0,if_pos hm0,Pol.app,if_neg hk5,if_neg hk4,if_neg hk3] | rw [Pol.app0,if_pos hm0,Pol.app,if_neg hk5,if_pos hk,del_not (Pol.right_rising hpe.1) hat (fun m2 h2=>by rw [hj] at h2;cases h2;exact hmw)]
 exact ⟨(polRC p v4),I6,(lT le0 le6),(by rw [hm0]),(by rw [q6];exact ⟨v4,rfl,ad,ad,⟨oH194,H9⟩⟩),S26.dr0.dr0.dr0⟩
 have hk4:¬e.kind=4:=h7
 refine g6 ?_
 refine EC_if rfl (fun h8=>?_) (fun h8=>?_)
 have hk:e.kind=3:=h8
 refine g4 ?_
 refine vl _ rfl (dcT (r_not rfl) rfl) ?_
 refine g9 ?_
 refine vl _ rfl (gB [.int .i64 e.who,.int .i64 0] st_183 (parts1 rfl) (fill_one rfl rfl rfl fill_end)) ?_
 refine EL_litW (z:=#[.int .i64 0,.int .i64 0]) (cs:=([.int .i64 e.who,.int .i64 0]).toArray) (sz:=2) (l:=[(0,.agg ([.int .i64 e.who,.int .i64 0]).toArray)]) rfl U101 (by kernel_rfl) (parts1 rfl) (by kernel_rfl) rfl (by decide) ?_
 intro v6 w21 O0 B0 k0
 have S27:Sat _ _ (OwnX 183 memR v6 [(⟨e.who,0⟩:MemT)]::_):=OwnX.cls (xss:=[[.int .i64 e.who,.int .i64 0]]) (.cons ⟨rfl,ad,(by dsimp only;omega)⟩ .nil) (S21.newO B0 O0)
 refine yR (MemInsert_c _ _ _ (⟨e.who,0⟩:MemT) j _ _ _ S27.fr2 (by omega) ⟨hml,by omega⟩) ?_
 rintro _ w22 ⟨v7,rfl,S28⟩
 have h9:=(set_mid (l:=p.mem) (a:=(⟨e.who,0⟩:MemT)) (b:=(⟨e.who,e.rights⟩:MemT)) (j:=j) (by omega))
 refine g1 ?_
 refine yS4 S28 ?_ (hu:=OwnX.one S28 0 rfl (by decide))
 intro w23 S29
 refine g8 ?_
 refine vl (ptr (blkOf v7) (offOf v7+((j:Int):Int).toNat*2)) rfl (r_indexX rfl (OwnX.row S29 0 rfl (by decide)).1 rfl (by omega) as' U101 (by kernel_rfl)) (vl (ptr (blkOf v7) (offOf v7+((j:Int):Int).toNat*2+1)) rfl (r_fieldP (s:=1) rfl U183 rfl (by kernel_rfl) (by decide) rfl) ?_)
 refine EL_setX (k:=1) (u:=.int .i64 e.rights) (b':=(⟨e.who,e.rights⟩:MemT)) rfl S29 rfl rfl h9.2 (by decide) (fun cs h=>by obtain ⟨rfl,r1,r2⟩:=h;exact ⟨by simp,by first | omega | (dsimp only;omega),by first | omega | (dsimp only;omega)⟩) rfl (by kernel_rfl) ?_
 intro w24 S30
 refine g6 ?_
 refine yW3 S30 ?_ (h1:=ones_cons rfl (ones_cons rfl (ones_cons (OwnX.one S30 0 rfl (by decide)) ones_nil)))
 intro w25 S31
 refine g4 ?_
 refine f2c Tryz.results125 ?_
 have q7:(p.mem.take j++[(⟨e.who,0⟩:MemT)]++p.mem.drop j).set j (⟨e.who,e.rights⟩:MemT)=p.mem.take j++[(⟨e.who,e.rights⟩:MemT)]++p.mem.drop j:=h9.1
 have S32:=S31.ax0 q7
 have oH228:=(OwnX.one S32 0 rfl (by decide))
 obtain ⟨I7,le7,S33,H10⟩:=S32.fx0 (by decide)
 have q8:(p.app0 e)=(⟨p.founder,p.epoch,p.mem.take j++[(⟨e.who,e.rights⟩:MemT)]++p.mem.drop j⟩:Pol):=by rw [Pol.app0,if_pos hm0,Pol.app,if_neg hk5,if_neg hk4,if_pos hk,←set_new hat (fun m2 h2=>by rw [hj] at h2;cases h2;exact hmw)]
 exact ⟨(polRC p v7),I7,(lT le0 le7),(by rw [hm0]),(by rw [q8];exact ⟨v7,rfl,ad,ad,⟨oH228,H10⟩⟩),S33.dr0.dr0.dr0.dr0⟩
 have hk3:¬e.kind=3:=h8
 refine g6 ?_
 refine yW2 S21 ?_ (h1:=ones_cons rfl (ones_cons rfl (ones_cons (OwnX.one S21 1 rfl (by decide)) ones_nil)))
 intro w26 S34
 refine g4 ?_
 refine f2c Tryz.results125 ?_
 have oH242:=(OwnX.one S34 1 rfl (by decide))
 obtain ⟨I8,le8,S35,H11⟩:=S34.fx1 (by decide)
 have q9:(p.app0 e)=(⟨p.founder,p.epoch,p.mem⟩:Pol):=by first | rw [Pol.app0,if_pos hm0,Pol.app,if_neg hk5,if_neg hk4,if_neg hk3] | rw [Pol.app0,if_pos hm0,Pol.app,if_neg hk5,if_pos hk,del_not (Pol.right_rising hpe.1) hat (fun m2 h2=>by rw [hj] at h2;cases h2;exact hmw)]
 exact ⟨(polRC p v4),I8,(lT le0 le8),(by rw [hm0]),(by rw [q9];exact ⟨v4,rfl,ad,ad,⟨oH242,H11⟩⟩),S35.dr0.dr0.dr0⟩
 rw [hix]
 refine EC_quietB (by kernel_rfl) (by kernel_rfl) ?_
 refine g1 ?_
 refine EQ_val (.bool false) rfl (fun _ hw=>r_dec (by decide) (r_geq rfl rfl)) ?_
 refine g12 ?_
 refine yE S7 ?_
 intro w27 S36
 refine g5 ?_
 refine vl (.bool true) rfl (r_dec (by decide) (r_lss rfl rfl)) ?_
 refine g6 ?_
 refine vl _ rfl (r_lenX rfl (OwnX.row S36 1 rfl (by decide)).1 U101) ?_
 refine g17 ?_
 refine EC_if rfl (fun h10=>?_) (fun h10=>?_)
 have hk:e.kind=5:=h10
 refine g4 ?_
 refine yS3 S36 ?_
 intro w28 S37
 refine g6 ?_
 refine yW2 S37 ?_ (h1:=ones_cons rfl (ones_cons rfl (ones_cons (OwnX.one S37 1 rfl (by decide)) ones_nil)))
 intro w29 S38
 refine g4 ?_
 refine f2c Tryz.results125 ?_
 have oH264:=(OwnX.one S38 1 rfl (by decide))
 obtain ⟨I9,le9,S39,H12⟩:=S38.fx1 (by decide)
 have q10:(p.app0 e)=(⟨p.founder,e.epoch,p.mem⟩:Pol):=by rw [Pol.app0,if_pos hm0,Pol.app,if_pos hk]
 exact ⟨[.int .i64 p.founder,.int .i64 e.epoch,v4],I9,(lT le0 le9),(by rw [hm0]),(by rw [q10];exact ⟨v4,rfl,ad,ad,⟨oH264,H12⟩⟩),S39.dr0.dr0.dr0⟩
 have hk5:¬e.kind=5:=h10
 refine g6 ?_
 refine EC_if rfl (fun h11=>?_) (fun h11=>?_)
 have hk:e.kind=4:=h11
 refine g12 ?_
 refine yW2 S36 ?_ (h1:=ones_cons rfl (ones_cons rfl (ones_cons (OwnX.one S36 1 rfl (by decide)) ones_nil)))
 intro w30 S40
 refine g4 ?_
 refine f2c Tryz.results125 ?_
 have oH278:=(OwnX.one S40 1 rfl (by decide))
 obtain ⟨I10,le10,S41,H13⟩:=S40.fx1 (by decide)
 have q11:(p.app0 e)=(⟨p.founder,p.epoch,p.mem⟩:Pol):=by first | rw [Pol.app0,if_pos hm0,Pol.app,if_neg hk5,if_neg hk4,if_neg hk3] | rw [Pol.app0,if_pos hm0,Pol.app,if_neg hk5,if_pos hk,del_not (Pol.right_rising hpe.1) hat (fun m2 h2=>absurd (List.getElem?_eq_some_iff.1 h2).1 (by omega))]
 exact ⟨(polRC p v4),I10,(lT le0 le10),(by rw [hm0]),(by rw [q11];exact ⟨v4,rfl,ad,ad,⟨oH278,H13⟩⟩),S41.dr0.dr0.dr0⟩
 have hk4:¬e.kind=4:=h11
 refine g6 ?_
 refine EC_if rfl (fun h12=>?_) (fun h12=>?_)
 have hk:e.kind=3:=h12
 refine g4 ?_
 refine vl _ rfl (dcT (r_not rfl) rfl) ?_
 refine g9 ?_
 refine vl _ rfl (gB [.int .i64 e.who,.int .i64 0] st_183 (parts1 rfl) (fill_one rfl rfl rfl fill_end)) ?_
 refine EL_litW (z:=#[.int .i64 0,.int .i64 0]) (cs:=([.int .i64 e.who,.int .i64 0]).toArray) (sz:=2) (l:=[(0,.agg ([.int .i64 e.who,.int .i64 0]).toArray)]) rfl U101 (by kernel_rfl) (parts1 rfl) (by kernel_rfl) rfl (by decide) ?_
 intro v8 w31 O1 B1 k1
 have S42:Sat _ _ (OwnX 183 memR v8 [(⟨e.who,0⟩:MemT)]::_):=OwnX.cls (xss:=[[.int .i64 e.who,.int .i64 0]]) (.cons ⟨rfl,ad,(by dsimp only;omega)⟩ .nil) (S36.newO B1 O1)
 refine yR (MemInsert_c _ _ _ (⟨e.who,0⟩:MemT) p.mem.length _ _ _ S42.fr2 (by omega) ⟨hml,by omega⟩) ?_
 rintro _ w32 ⟨v9,rfl,S43⟩
 have h13:=(set_mid (l:=p.mem) (a:=(⟨e.who,0⟩:MemT)) (b:=(⟨e.who,e.rights⟩:MemT)) (j:=p.mem.length) (by omega))
 refine g1 ?_
 refine yS4 S43 ?_ (hu:=OwnX.one S43 0 rfl (by decide))
 intro w33 S44
 refine g8 ?_
 refine vl (ptr (blkOf v9) (offOf v9+((p.mem.length:Int):Int).toNat*2)) rfl (r_indexX rfl (OwnX.row S44 0 rfl (by decide)).1 rfl (by omega) as' U101 (by kernel_rfl)) (vl (ptr (blkOf v9) (offOf v9+((p.mem.length:Int):Int).toNat*2+1)) rfl (r_fieldP (s:=1) rfl U183 rfl (by kernel_rfl) (by decide) rfl) ?_)
 refine EL_setX (k:=1) (u:=.int .i64 e.rights) (b':=(⟨e.who,e.rights⟩:MemT)) rfl S44 rfl rfl h13.2 (by decide) (fun cs h=>by obtain ⟨rfl,r1,r2⟩:=h;exact ⟨by simp,by first | omega | (dsimp only;omega),by first | omega | (dsimp only;omega)⟩) rfl (by kernel_rfl) ?_
 intro w34 S45
 refine g6 ?_
 refine yW3 S45 ?_ (h1:=ones_cons rfl (ones_cons rfl (ones_cons (OwnX.one S45 0 rfl (by decide)) ones_nil)))
 intro w35 S46
 refine g4 ?_
 refine f2c Tryz.results125 ?_
 have q12:(p.mem.take p.mem.length++[(⟨e.who,0⟩:MemT)]++p.mem.drop p.mem.length).set p.mem.length (⟨e.who,e.rights⟩:MemT)=p.mem.take p.mem.length++[(⟨e.who,e.rights⟩:MemT)]++p.mem.drop p.mem.length:=h13.1
 have S47:=S46.ax0 q12
 have oH312:=(OwnX.one S47 0 rfl (by decide))
 obtain ⟨I11,le11,S48,H14⟩:=S47.fx0 (by decide)
 have q13:(p.app0 e)=(⟨p.founder,p.epoch,p.mem.take p.mem.length++[(⟨e.who,e.rights⟩:MemT)]++p.mem.drop p.mem.length⟩:Pol):=by rw [Pol.app0,if_pos hm0,Pol.app,if_neg hk5,if_neg hk4,if_pos hk,←set_new hat (fun m2 h2=>absurd (List.getElem?_eq_some_iff.1 h2).1 (by omega))]
 exact ⟨(polRC p v9),I11,(lT le0 le11),(by rw [hm0]),(by rw [q13];exact ⟨v9,rfl,ad,ad,⟨oH312,H14⟩⟩),S48.dr0.dr0.dr0.dr0⟩
 have hk3:¬e.kind=3:=h12
 refine g6 ?_
 refine yW2 S36 ?_ (h1:=ones_cons rfl (ones_cons rfl (ones_cons (OwnX.one S36 1 rfl (by decide)) ones_nil)))
 intro w36 S49
 refine g4 ?_
 refine f2c Tryz.results125 ?_
 have oH326:=(OwnX.one S49 1 rfl (by decide))
 obtain ⟨I12,le12,S50,H15⟩:=S49.fx1 (by decide)
 have q14:(p.app0 e)=(⟨p.founder,p.epoch,p.mem⟩:Pol):=by first | rw [Pol.app0,if_pos hm0,Pol.app,if_neg hk5,if_neg hk4,if_neg hk3] | rw [Pol.app0,if_pos hm0,Pol.app,if_neg hk5,if_pos hk,del_not (Pol.right_rising hpe.1) hat (fun m2 h2=>absurd (List.getElem?_eq_some_iff.1 h2).1 (by omega))]
 exact ⟨(polRC p v4),I12,(lT le0 le12),(by rw [hm0]),(by rw [q14];exact ⟨v4,rfl,ad,ad,⟨oH326,H15⟩⟩),S50.dr0.dr0.dr0⟩
end Go.Proofs.YthddplghlljdbaaGreat
