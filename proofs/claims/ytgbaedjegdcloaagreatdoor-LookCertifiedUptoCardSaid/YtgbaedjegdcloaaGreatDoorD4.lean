/- A part of the proof: see the last text. -/
import Derived.Test.YtgbaedjegdcloaaGreatDoorD3
set_option linter.unusedVariables false
set_option linter.unusedSimpArgs false
set_option linter.unusedSectionVars false
set_option linter.defProp false
set_option maxRecDepth 100000
set_option maxHeartbeats 4000000
namespace Go.Proofs.Tryz
open Go.PM
attribute [local irreducible] BM BP Bq Ci AU AO Az
theorem Xl:KR.length = 33:=rfl
theorem Xb (h:List Ah) (K:List AV -> List Ah -> Prop):GJ KR h K = K KR h:=by
 simp [KR,GJ,Ef,AV.BK,Nx]
attribute [go_sem ↓] Xb
def Ve (h:List Ah):List Nat -> List Ah
 | []=>h
 | i :: l=>Ve (h.set i .dead) l
theorem V8 {ids:List Nat}:∀ {h:List Ah} {i:Nat},i ∉ ids -> (Ve h ids)[i]? = h[i]?:=by
 induction ids with
 | nil=>intro h i _; rfl
 | cons j ids ih =>
  intro h i hi;simp only [List.mem_cons,not_or] at hi;rw [Ve,ih hi.2,List.getElem?_set_ne (Ne.symm hi.1)]
theorem Qh {P:Program} {rs:List ResultVar} {t:Tm} {R:AE -> List Ah -> Prop}:∀ (ids:List Nat) (h:List Ah),ids.Nodup -> (∀ id ∈ ids,h[id]? = some .defer) -> Kv P t (Ve h ids) rs (fun xs=>R (.ret (pack xs)) (Ve h ids)) -> DK P rs t R none (ids.map .mark) h:=by
 intro ids
 induction ids with
 | nil=>intro h _ _ hk; rw [List.map_nil,Mi]; exact hk
 | cons i ids ih =>
  intro h hn hd hk;rw [List.map_cons,J5];rw [List.nodup_cons] at hn;refine ⟨hd i List.mem_cons_self,ih _ hn.2 (fun j hj=>?_) hk⟩;rw [List.getElem?_set_ne (fun he:i = j=>hn.1 (by rw [he]; exact hj))];exact hd j (List.mem_cons_of_mem _ hj)
theorem RD {QQ:Prop} {t:Tm} {h:List Ah} {ids:List Nat} {b:Bool} (hq:b = true -> QQ) (ht:t.get 2 = .ptr 0 0) (hn:ids.Nodup) (hd:∀ id ∈ ids,h[id]? = some .defer) (h0:h[0]? = some (.cells [.val (.bool b)])) :
  AP prog f124 (fun R=>R) (fun r _=>∃ v,r = .ret v /\ v.pure = true /\ ∃ b:Bool,v = .val (.bool b) /\ (b = true -> QQ)) .ret ⟨t,h,ids.map .mark⟩:=by
 have hz:0 ∉ ids:=fun hm=>by rw [hd 0 hm] at h0; cases h0
 refine ⟨.ret (.val (.bool b)),Ve h ids,⟨_,rfl,rfl,b,rfl,hq⟩,fun R' hR=>?_⟩;rw [M6];refine Qh ids h hn hd ?_;have e:f124.results.toList = [.cell 2 4]:=rfl;rw [e,NF,ht];simp only [DN,ty4,V8 hz,h0,Gh];refine ⟨by simp,?_⟩;exact ⟨trivial,hR⟩
theorem OS {hh:List Ah} {ids:List Nat} {cs:List AV} (h0:hh[0]? = some (.cells cs)) (hd:∀ id ∈ ids,hh[id]? = some .defer):∀ id ∈ ids,id ≠ 0:=fun id hm he=>by rw [<- he,hd id hm] at h0; cases h0
theorem DR {QQ:Prop} {t:Tm} {hh:List Ah} {ids:List Nat} {b:Ah} {cs:List AV} (ht:t.get 2 = .ptr 0 0) (h0:hh[0]? = some (.cells cs)) (hn:ids.Nodup) (hd:∀ id ∈ ids,hh[id]? = some .defer) :
  AP prog f124 (fun R=>R) (fun r _=>∃ v,r = .ret v /\ v.pure = true /\ ∃ b:Bool,v = .val (.bool b) /\ (b = true -> QQ)) .ret ⟨t,(hh ++ [b]).set 0 (.cells [.val (.bool false)]),ids.map .mark⟩:=by
 have hl:=(List.getElem?_eq_some_iff.1 h0).1;refine RD (b:=false) (fun h=>by cases h) ht hn (fun id hid=>?_) (by rw [List.getElem?_set_self (by simp)]);rw [List.getElem?_set_ne (Ne.symm (OS h0 hd id hid))];exact Gg (hd id hid) _
theorem aag {QQ:Prop} {t:Tm} {hh:List Ah} {ids:List Nat} {cs:List AV} {z:Bool} (hq:z = true -> QQ) (ht:t.get 2 = .ptr 0 0) (h0:hh[0]? = some (.cells cs)) (hn:ids.Nodup) (hd:∀ id ∈ ids,hh[id]? = some .defer) :
  AP prog f124 (fun R=>R) (fun r _=>∃ v,r = .ret v /\ v.pure = true /\ ∃ b:Bool,v = .val (.bool b) /\ (b = true -> QQ)) .ret ⟨t,hh.set 0 (.cells [.val (.bool z)]),ids.map .mark⟩:=by
 have hl:=(List.getElem?_eq_some_iff.1 h0).1;refine RD (b:=z) hq ht hn (fun id hid=>?_) (by rw [List.getElem?_set_self hl]);rw [List.getElem?_set_ne (Ne.symm (OS h0 hd id hid))];exact hd id hid
structure X8 (Q:Nat -> Prop) (n i:Nat) (h li se:Int) (hh:List Ah) (ids:List Nat):Prop where
 q1:i <= n
 q2:0 <= h /\ h <= 100
 q3:0 <= li /\ li <= i
 q4:0 <= se /\ se <= 2 * i
 q5:hh[0]? = some (.cells [.val (.bool false)])
 q6:hh[2]? = some (.cells [.val (.int .i64 se)])
 q7:Aw hh
 q8:ids.Nodup
 q9:∀ id ∈ ids,hh[id]? = some .defer
 q10:∀ k,k < i -> Q k
def Cf (hh:List Ah) (v:Int):List Ah:=hh.set 2 (.cells [.val (.int .i64 v)])
theorem BB (hh:List Ah) (v:Int):(Cf hh v).length = hh.length:=by simp [Cf]
theorem D1 {hh:List Ah} (h2:2 < hh.length) (v:Int) (e:List Ah):(Cf hh v ++ e)[2]? = some (.cells [.val (.int .i64 v)]):=by
 rw [List.getElem?_append_left (by rw [BB]; exact h2)];exact List.getElem?_set_self h2
theorem IJ {hh:List Ah} (h2:2 < hh.length) (v w:Int) (e:List Ah):(Cf hh v ++ e).set 2 (.cells [.val (.int .i64 w)]) = Cf hh w ++ e:=by
 rw [List.set_append_left _ _ (by rw [BB]; exact h2)];simp [Cf]
theorem FR {hh:List Ah} {b:Ah} (h0:hh[0]? = some b) (v:Int) (e:List Ah):(Cf hh v ++ e)[0]? = some b:=by
 refine Gg ?_ e;rw [Cf,List.getElem?_set_ne (by decide)];exact h0
theorem Hu {hh:List Ah} (h2:2 < hh.length) (v:Int) (b:Ah) (e:List Ah):(Cf hh v ++ e).set 0 b = (Cf hh v).set 0 b ++ e:=List.set_append_left _ _ (by rw [BB]; omega)
theorem HE {hh:List Ah} {v:Int} (h:hh[2]? = some (.cells [.val (.int .i64 v)])):Cf hh v = hh:=Cp h
theorem TF {hh:List Ah} {ids:List Nat} {v u:Int} (h:hh[2]? = some (.cells [.val (.int .i64 u)])) (hd:∀ id ∈ ids,hh[id]? = some .defer):∀ id ∈ ids,(Cf hh v)[id]? = some .defer:=fun id hid=>by
 have hne:2 ≠ id:=fun he=>by rw [<- he] at hid; rw [hd 2 hid] at h; cases h
 rw [Cf,List.getElem?_set_ne hne];exact hd id hid
def Dp (se:Int) (l:List Int):Int:=l.foldl (fun a b=>max a (b + 1)) se
theorem FM {se s:Int}:∀ {l:List Int} {k:Nat},l[k]? = some s -> Dp se (l.take (k + 1)) = max (Dp se (l.take k)) (s + 1):=by
 intro l k h;rw [List.take_add_one,h];simp [Dp,List.foldl_append]
theorem RB:∀ (l:List Int) (se:Int),(∀ k s,l[k]? = some s -> s <= Dp se (l.take k)) \/ ∃ m,m < l.length /\ (∀ k s,k < m -> l[k]? = some s -> s <= Dp se (l.take k)) /\ (∀ s,l[m]? = some s -> s > Dp se (l.take m))
 | [],se=>.inl fun k s h=>by simp at h
 | a :: l,se=>by
  by_cases ha:a > se
  ·exact .inr ⟨0,Nat.succ_pos _,fun k s hk=>absurd hk (Nat.not_lt_zero k),fun s h=>by
    simp only [List.getElem?_cons_zero,Option.some.injEq] at h; rw [<- h]; exact ha⟩
  ·rcases RB l (max se (a + 1)) with h | ⟨m,h1,h2,h3⟩
   ·refine .inl fun k s hs=>?_
    cases k with
    | zero=>simp only [List.getElem?_cons_zero,Option.some.injEq] at hs; simp only [List.take_zero]; show s <= se; omega
    | succ k=>exact h k s (by simpa using hs)
   ·refine .inr ⟨m + 1,by simpa using h1,fun k s hk hs=>?_,fun s hs=>h3 s (by simpa using hs)⟩
    cases k with
    | zero=>simp only [List.getElem?_cons_zero,Option.some.injEq] at hs; simp only [List.take_zero]; show s <= se; omega
    | succ k=>exact h2 k s (by omega) (by simpa using hs)
theorem II {l:List Int} {se:Int} {m:Nat} (h:∀ k s,k < m -> l[k]? = some s -> s <= Dp se (l.take k)):∀ k,k <= m -> se <= Dp se (l.take k) /\ Dp se (l.take k) <= se + k
 | 0,_=>by simp only [List.take_zero]; show se <= se /\ se <= se + (0:Nat); omega
 | k + 1,hk=>by
  have ih:=II h k (by omega)
  cases hs:l[k]? with
  | none =>
   rw [List.take_of_length_le (by have:=List.getElem?_eq_none_iff.1 hs; omega)];rw [List.take_of_length_le (List.getElem?_eq_none_iff.1 hs)] at ih;omega
  | some s =>
   rw [FM hs];have:=h k s (by omega) hs;omega
theorem T2 (x:Hm):(Bm x).length <= 2:=by
 unfold Bm
 repeat' split
 all_goals simp
theorem Xv {x:Hm} (hx:P5 x):∀ (k:Nat) (s:Int),(Bm x)[k]? = some s -> -9223372036854775808 <= s:=by
 intro k s h;have hm:=List.mem_of_getElem? h;have h1:=hx.a;unfold Cn at h1;unfold Bm at hm
 split at hm
 ·simp at hm; omega
 ·split at hm
  ·split at hm
   ·rename_i hc
    have hc:=of_decide_eq_true hc;simp at hm; omega
   ·simp at hm; omega
  ·simp at hm
theorem El {hh:List Ah} (h:Aw hh) (v:Int) {n:Nat} (hn:hh.length <= n):∀ b ∈ Cf hh v,b.under n = true:=fun b hb=>by
 rcases List.mem_or_eq_of_mem_set hb with hb | rfl
 ·exact KU hn (h b hb)
 ·rfl
theorem Ph {QQ:Prop} {t:Tm} {hh:List Ah} {ids:List Nat} {cs:List AV} {v u:Int} (ht:t.get 2 = .ptr 0 0) (h0:hh[0]? = some (.cells cs)) (h2:hh[2]? = some (.cells [.val (.int .i64 u)])) (hn:ids.Nodup) (hd:∀ id ∈ ids,hh[id]? = some .defer) :
  AP prog f124 (fun R=>R) (fun r _=>∃ v,r = .ret v /\ v.pure = true /\ ∃ b:Bool,v = .val (.bool b) /\ (b = true -> QQ)) .ret ⟨t,(Cf hh v).set 0 (.cells [.val (.bool false)]) ++ [.dead,.defer,.dead],.mark (hh.length + 1) :: ids.map .mark⟩:=by
 have hl:=(List.getElem?_eq_some_iff.1 h2).1;have hlt:∀ id ∈ ids,id < hh.length:=fun id hid=>(List.getElem?_eq_some_iff.1 (hd id hid)).1;refine RD (b:=false) (ids:=(hh.length + 1) :: ids) (fun h=>by cases h) ht (List.nodup_cons.2 ⟨fun hm=>by have:=hlt _ hm; omega,hn⟩) (fun id hid=>?_) (Gg (List.getElem?_set_self (by rw [BB]; omega)) _)
 rcases List.mem_cons.1 hid with rfl | hid
 ·rw [List.getElem?_append_right (by simp [BB])]
  simp [BB]
 ·refine Gg ?_ _
  rw [List.getElem?_set_ne (Ne.symm (OS h0 hd id hid))];exact TF h2 hd id hid
theorem LA {Q:Nat -> Prop} {n i:Nat} {h li se h' li' sk:Int} {hh:List Ah} {ids:List Nat} (hI:X8 Q n i h li se hh ids) (hqi:Q i) (hi:i < n) (k2:0 <= h' /\ h' <= 100) (k3:0 <= li' /\ li' <= i + 1) (k4:se <= sk /\ sk <= se + 2):X8 Q n (i + 1) h' li' sk (Cf hh sk ++ [.dead,.defer,.dead]) ((hh.length + 1) :: ids):=by
 obtain ⟨q1,q2,q3,q4,q5,q6,q7,q8,q9,q10⟩:=hI;have hl:=(List.getElem?_eq_some_iff.1 q6).1;have hlt:∀ id ∈ ids,id < hh.length:=fun id hid=>(List.getElem?_eq_some_iff.1 (q9 id hid)).1;refine ⟨hi,k2,⟨k3.1,by omega⟩,⟨by omega,by omega⟩,FR q5 _ _,D1 hl _ _,fun b hb=>?_,List.nodup_cons.2 ⟨fun hm=>by have:=hlt _ hm; omega,q8⟩,fun id hid=>?_,fun k hk=>by
  rcases Nat.lt_or_eq_of_le (Nat.le_of_lt_succ hk) with h | h
  ·exact q10 k h
  ·rw [h]; exact hqi⟩
 ·rcases List.mem_append.1 hb with hb | hb
  ·exact El q7 _ (by simp [BB]) b hb
  ·simp at hb; rcases hb with rfl | rfl | rfl <;> rfl
 ·rcases List.mem_cons.1 hid with rfl | hid
  ·rw [List.getElem?_append_right (by simp [BB])]
   simp [BB]
  ·exact Gg (TF q6 q9 id hid) _
theorem LK {hh:List Ah} (h7:Aw hh) (sk:Int):BI (Cf hh sk ++ [Ah.dead,.defer,.dead]).length (Cf hh sk ++ [.dead,.defer,.dead]) (Cf hh sk ++ [.dead,.defer,.dead]):=Fu fun b hb=>by
 rcases List.mem_append.1 hb with hb | hb
 ·exact El h7 _ (by simp [BB]) b hb
 ·simp at hb; rcases hb with rfl | rfl | rfl <;> rfl
theorem JS {hh:List Ah} {ids:List Nat} (hd:∀ id ∈ ids,hh[id]? = some .defer) (sk:Int):Gj (Cf hh sk ++ [Ah.dead,.defer,.dead]).length (.mark (hh.length + 1) :: ids.map .mark):=fun a ha=>by
 rcases List.mem_cons.1 ha with rfl | ha
 ·exact decide_eq_true (by simp [BB])
 ·obtain ⟨id,hid,rfl⟩:=List.mem_map.1 ha
  have:=(List.getElem?_eq_some_iff.1 (hd id hid)).1;exact decide_eq_true (by simp [BB]; omega)
section
attribute [local go_sem] Ke O0 Fq List.append_assoc List.length_append List.length_cons List.length_nil or_true true_or false_or or_false implies_true BB Int.natCast_add Int.cast_ofNat_Int Cx underlying213 Vi XA List.length_map List.range_zero Nat.zero_add Nat.reduceAdd Xl List.append_nil ntmps124
theorem ajK (c:Cd) (l:List Cd) (at':Int) (hc:FO c) (hl:l.length <= 1048576):B9 prog 124 [.cptr (Ke c l at')] (fun v=>∃ b:Bool,v = .val (.bool b) /\ (b = true -> ∀ k,k < c.instrs.length -> ((c.instrs.getD k default).op = 7 -> AH l.length (c.instrs.getD k default).a = true))):=by
 have h1:=hc.instrs;refine B9.of (DX.intro (fun R=>R) (fun _ h=>h) func124 (by decide) rfl ?_);refine Bj ?_;refine Ab.Am ?_;apply Pr.run;intro Ψ2 hΨ2;refine Aa.region (Z0 ?_);exact hΨ2.out;refine Pr.done ?_;refine Ab.seq ?_;refine Ab.Am ?_;apply Pr.run;intro Ψ3 hΨ3;refine Aa.region (Z0 ?_);refine Ao (Ao ?_);exact hΨ3.out;refine Pr.CH (fun g4=>?_) (fun g4=>?_);have d4:=An g4;apply Pr.run;intro Ψ5 hΨ5;refine Z1 g4 ?_;exact hΨ5.out;refine Pr.done ?_;refine Ab.Ar rfl ?_;refine Ab.Am ?_;apply Pr.run;intro Ψ6 hΨ6;refine Aa.region (Z1 g4 ?_);exact hΨ6.out;refine Pr.done ?_;refine Ab.ret (Z1 g4 ?_);apply AP.i;intro Ψ7 hΨ7;refine Z1 g4 ?_;exact hΨ7.out;refine ⟨_,rfl,rfl,?_⟩;rotate_left;have d4:=Aj g4;apply Pr.run;intro Ψ8 hΨ8;refine Z1 g4 ?_;refine Ao (Ao ?_);exact hΨ8.out;refine Pr.done ?_;refine Ab.cond rfl (fun g9=>?_) (fun g9=>?_);have d9:=An g9;refine Ab.Am ?_;apply Pr.run;intro Ψ10 hΨ10;refine Aa.region (Z2 g4 g9 ?_);exact hΨ10.out;refine Pr.done ?_;refine Ab.ret (Z2 g4 g9 ?_);apply AP.i;intro Ψ11 hΨ11;refine Z2 g4 g9 ?_;exact hΨ11.out;refine ⟨_,rfl,rfl,?_⟩;rotate_left;have d9:=Aj g9;refine Ab.skip (Z2 g4 g9 ?_);refine Ab.Am ?_;apply Pr.run;intro Ψ12 hΨ12;refine Aa.region (Z2 g4 g9 ?_);refine Af.eq (c159) rfl (Z2 g4 g9 ?_);refine And.intro (by trivial) ?_;exact hΨ12.out;refine Pr.done ?_;refine Ab.Am ?_;apply Pr.run;intro Ψ14 hΨ14;refine Aa.freeze 3 (Z2 g4 g9 ?_);refine Aa.region (Z2 g4 g9 ?_);exact hΨ14.out;refine Pr.done ?_;refine Ab.seq ?_;refine Ab.Am ?_
 apply Pr.run;intro Ψ15 hΨ15;refine Aa.region (Z2 g4 g9 ?_);refine Ao (Ao ?_);exact hΨ15.out;refine Pr.done ?_;refine Ab.block ?_;rotate_left
 ·exact ⟨false,rfl,fun h=>by cases h⟩
 ·exact ⟨false,rfl,fun h=>by cases h⟩
 refine Ab.ade (fun x:Nat × Int × Int × Int × List Ah × List Nat=>[(34,.val (.int .i64 (x.1:Nat))),(4,.val (.int .i64 x.2.1)),(5,.val (.int .i64 x.2.2.1))]) [0,2,3,6,32,33] (fun x=>x.2.2.2.2.1) (fun x=>x.2.2.2.2.2.map .mark) (fun x=>X8 (fun k=>(c.instrs.getD k default).op = 7 -> AH l.length (c.instrs.getD k default).a = true) c.instrs.length x.1 x.2.1 x.2.2.1 x.2.2.2.1 x.2.2.2.2.1 x.2.2.2.2.2) (fun x=>c.instrs.length - x.1) (0,0,0,0,[.cells [.val (.bool false)],.dead,.cells [.val (.int .i64 0)]],[]) ?_ rfl ?_ ?_
 ·exact ⟨Nat.zero_le _,⟨by simp,by simp⟩,⟨by simp,by simp⟩,⟨by simp,by simp⟩,rfl,rfl,fun b hb=>by simp at hb; rcases hb with rfl | rfl | rfl <;> rfl,List.nodup_nil,fun id hid=>(by cases hid),fun k hk=>absurd hk (Nat.not_lt_zero k)⟩
 ·refine ⟨rfl,?_,?_,rfl,?_⟩
  refine C1 ?_;constructor;trivial;trivial;exact C1 trivial;exact C1 trivial
 ·rintro ⟨i,h,li,se,hh,ids⟩ hI
  have hI0:=hI;obtain ⟨k1,k2,k3,k4,k5,k6,k7,k8,k9,k10⟩:=hI;simp only at hI0 k1 k2 k3 k4 k5 k6 k7 k8 k9 k10;have e0:∀ b,(hh ++ [b])[0]? = some (.cells [.val (.bool false)]):=fun b=>Gg k5 _;have e2:∀ b,(hh ++ [b])[2]? = some (.cells [.val (.int .i64 se)]):=fun b=>Gg k6 _;have e3:2 < hh.length:=(List.getElem?_eq_some_iff.1 k6).1;have e4:BI (hh.length + 1) (hh ++ [.dead]) (hh ++ [.dead]):=Fu fun b hb=>by
   rcases List.mem_append.1 hb with hb | hb
   ·exact KU (by omega) (k7 b hb)
   ·simp at hb; subst hb; rfl
  have e5:Gj (hh.length + 1) (ids.map .mark):=fun a ha=>by
   obtain ⟨id,hid,rfl⟩:=List.mem_map.1 ha;have:=(List.getElem?_eq_some_iff.1 (k9 id hid)).1;exact decide_eq_true (by omega)
  rcases Nat.lt_or_ge i c.instrs.length with hlt | hge
  ·generalize hx:c.instrs.getD i default = x
   have hxo:P5 x:=by rw [<- hx]; exact hc.ins _ (Bs hlt)
   have hxc:x.c <= 9223372036854775807:=hxo.c.2;have hxa:=hxo.a;unfold Cn at hxa;have hug:=Xv hxo;have hul:=T2 x;have hit:((Bm x).map fun n=>[AV.val (.int .i64 n)]).length = (Bm x).length:=by simp
   rcases Int.lt_or_le x.op 0 with hlo | hlo
   ·have hin:AH 11 x.op = false:=by simp [AH]; omega
    have hz:(x.op == 0) = false:=by simp; omega
    refine Ab.Am ?_;apply Pr.run;intro Ψ10 hΨ10;refine Aa.region (Z7 hx e0 e2 k5 k6 hin hz ?_);exact hΨ10.out;refine Pr.done (Z7 hx e0 e2 k5 k6 hin hz ?_);refine Ab.seq (Ab.cond rfl (fun g11=>?_) (fun g11=>?_));have d11:=An g11;refine Ab.skip (Z8 hx e0 e2 k5 k6 hin hz g11 ?_);refine Ab.seq (Ab.block ?_);refine Ab.Am ?_;apply Pr.run;intro Ψ12 hΨ12;refine Aa.region (Z8 hx e0 e2 k5 k6 hin hz g11 ?_);refine Ao ?_;refine And.intro (by assumption) ?_;simp -implicitDefEqProofs (dsimp:=false) (disch:=omega) only [i64_in,gd];refine Z8 hx e0 e2 k5 k6 hin hz g11 ?_;exact hΨ12.out;refine Pr.done ?_;refine Ab.seq ?_;refine Ab.Am ?_;apply Pr.run;intro Ψ13 hΨ13;refine Aa.freeze 8 (Z8 hx e0 e2 k5 k6 hin hz g11 ?_);refine Aa.BS [(1,.free),(0,.read),(2,.read),(3,.free),(4,.free),(5,.free),(6,.free),(7,.read),(8,.free),(9,.free),(10,.free),(11,.free),(16,.free),(12,.read),(13,.read),(14,.free),(15,.read),(17,.read),(18,.free),(19,.free),(20,.free)] mixed (by kernel_rfl) (Z8 hx e0 e2 k5 k6 hin hz g11 ?_);refine Ao ?_;refine And.intro (by trivial) ?_;refine AI.go (c160 _ _ x.op (by simp)) rfl (Z8 hx e0 e2 k5 k6 hin hz g11 ?_);exact hΨ13.out;refine Pr.done ?_;refine Ab.Ar rfl ?_;refine Ab.Am ?_;apply Pr.run;intro Ψ14 hΨ14;refine Aa.region (Z8 hx e0 e2 k5 k6 hin hz g11 ?_);exact hΨ14.out;refine Pr.done ?_;refine Ab.ret (Z8 hx e0 e2 k5 k6 hin hz g11 ?_)
    first | exact DR rfl k5 k8 k9 | rotate_left
    have d11:=Aj g11
    (exfalso; omega)
   rcases Int.lt_or_le 10 x.op with hhi | hhi
   ·have hin:AH 11 x.op = false:=by simp [AH]; omega
    have hz:(x.op == 0) = false:=by simp; omega
    refine Ab.Am ?_;apply Pr.run;intro Ψ10 hΨ10;refine Aa.region (Z7 hx e0 e2 k5 k6 hin hz ?_);exact hΨ10.out;refine Pr.done (Z7 hx e0 e2 k5 k6 hin hz ?_);refine Ab.seq (Ab.cond rfl (fun g11=>?_) (fun g11=>?_));have d11:=An g11;refine Ab.skip (Z8 hx e0 e2 k5 k6 hin hz g11 ?_);refine Ab.seq (Ab.block ?_);refine Ab.Am ?_;apply Pr.run;intro Ψ12 hΨ12;refine Aa.region (Z8 hx e0 e2 k5 k6 hin hz g11 ?_);refine Ao ?_;refine And.intro (by assumption) ?_;simp -implicitDefEqProofs (dsimp:=false) (disch:=omega) only [i64_in,gd];refine Z8 hx e0 e2 k5 k6 hin hz g11 ?_;exact hΨ12.out;refine Pr.done ?_;refine Ab.seq ?_;refine Ab.Am ?_;apply Pr.run;intro Ψ13 hΨ13;refine Aa.freeze 8 (Z8 hx e0 e2 k5 k6 hin hz g11 ?_);refine Aa.BS [(1,.free),(0,.read),(2,.read),(3,.free),(4,.free),(5,.free),(6,.free),(7,.read),(8,.free),(9,.free),(10,.free),(11,.free),(16,.free),(12,.read),(13,.read),(14,.free),(15,.read),(17,.read),(18,.free),(19,.free),(20,.free)] mixed (by kernel_rfl) (Z8 hx e0 e2 k5 k6 hin hz g11 ?_);refine Ao ?_;refine And.intro (by trivial) ?_;refine AI.go (c160 _ _ x.op (by simp)) rfl (Z8 hx e0 e2 k5 k6 hin hz g11 ?_);exact hΨ13.out;refine Pr.done ?_;refine Ab.Ar rfl ?_;refine Ab.Am ?_;apply Pr.run;intro Ψ14 hΨ14;refine Aa.region (Z8 hx e0 e2 k5 k6 hin hz g11 ?_);exact hΨ14.out;refine Pr.done ?_;refine Ab.ret (Z8 hx e0 e2 k5 k6 hin hz g11 ?_)
    first | exact DR rfl k5 k8 k9 | rotate_left
    have d11:=Aj g11
    (exfalso; omega)
   have hin:AH 11 x.op = true:=by simp [AH]; omega
   cases hz:(x.op == 0) with
   | true =>
    refine Ab.Am ?_;apply Pr.run;intro Ψ10 hΨ10;refine Aa.region (Z7 hx e0 e2 k5 k6 hin hz ?_);exact hΨ10.out;refine Pr.done (Z7 hx e0 e2 k5 k6 hin hz ?_);refine Ab.seq (Ab.cond rfl (fun g11=>?_) (fun g11=>?_));have d11:=An g11;refine Ab.skip (Z8 hx e0 e2 k5 k6 hin hz g11 ?_);refine Ab.seq (Ab.block ?_);refine Ab.Am ?_;apply Pr.run;intro Ψ12 hΨ12;refine Aa.region (Z8 hx e0 e2 k5 k6 hin hz g11 ?_);refine Ao ?_;refine And.intro (by assumption) ?_;simp -implicitDefEqProofs (dsimp:=false) (disch:=omega) only [i64_in,gd];refine Z8 hx e0 e2 k5 k6 hin hz g11 ?_;exact hΨ12.out;refine Pr.done ?_;refine Ab.seq ?_;refine Ab.Am ?_;apply Pr.run;intro Ψ13 hΨ13;refine Aa.freeze 8 (Z8 hx e0 e2 k5 k6 hin hz g11 ?_);refine Aa.BS [(1,.free),(0,.read),(2,.read),(3,.free),(4,.free),(5,.free),(6,.free),(7,.read),(8,.free),(9,.free),(10,.free),(11,.free),(16,.free),(12,.read),(13,.read),(14,.free),(15,.read),(17,.read),(18,.free),(19,.free),(20,.free)] mixed (by kernel_rfl) (Z8 hx e0 e2 k5 k6 hin hz g11 ?_);refine Ao ?_;refine And.intro (by trivial) ?_;refine AI.go (c160 _ _ x.op (by simp)) rfl (Z8 hx e0 e2 k5 k6 hin hz g11 ?_);refine Ao ?_;exact hΨ13.out;refine Pr.done ?_;refine Ab.Ar rfl ?_;refine Ab.Am ?_;apply Pr.run;intro Ψ14 hΨ14;refine Aa.region (Z8 hx e0 e2 k5 k6 hin hz g11 ?_);exact hΨ14.out;refine Pr.done ?_;refine Ab.ret (Z8 hx e0 e2 k5 k6 hin hz g11 ?_)
    first | exact DR rfl k5 k8 k9 | rotate_left
    have d11:=Aj g11
    (exfalso; omega)
   | false =>
   have hz0:x.op ≠ 0:=by simpa using hz
   obtain ⟨f1,f2,p,r,n,hR⟩:=afT c l at' x ⟨by omega,hhi⟩;obtain ⟨rest,hcl⟩:=hR.cells;have hri:=hR.right
   cases hr:r with
   | false =>
    rw [hr] at hri;refine Ab.Am ?_;apply Pr.run;intro Ψ10 hΨ10;refine Aa.region (Z8 hx e0 e2 k5 k6 hin hz hcl ?_);exact hΨ10.out;refine Pr.done (Z8 hx e0 e2 k5 k6 hin hz hcl ?_);refine Ab.seq (Ab.cond rfl (fun g11=>?_) (fun g11=>?_));have d11:=An g11;refine Ab.skip (Z9 hx e0 e2 k5 k6 hin hz hcl g11 ?_);refine Ab.seq (Ab.block ?_);refine Ab.Am ?_;apply Pr.run;intro Ψ12 hΨ12;refine Aa.region (Z9 hx e0 e2 k5 k6 hin hz hcl g11 ?_);refine Ao ?_;refine And.intro (by assumption) ?_;simp -implicitDefEqProofs (dsimp:=false) (disch:=omega) only [i64_in,gd];refine Z9 hx e0 e2 k5 k6 hin hz hcl g11 ?_;exact hΨ12.out;refine Pr.done ?_;refine Ab.seq ?_;refine Ab.Am ?_;apply Pr.run;intro Ψ13 hΨ13;refine Aa.freeze 8 (Z9 hx e0 e2 k5 k6 hin hz hcl g11 ?_);refine Aa.BS [(1,.free),(0,.read),(2,.read),(3,.free),(4,.free),(5,.free),(6,.free),(7,.read),(8,.free),(9,.free),(10,.free),(11,.free),(16,.free),(12,.read),(13,.read),(14,.free),(15,.read),(17,.read),(18,.free),(19,.free),(20,.free)] mixed (by kernel_rfl) (Z9 hx e0 e2 k5 k6 hin hz hcl g11 ?_);refine Ao ?_;refine And.intro (by trivial) ?_;refine AI.go (c160 _ _ x.op (by simp)) rfl (Z9 hx e0 e2 k5 k6 hin hz hcl g11 ?_);refine Ao (Ao ?_);refine And.intro (by assumption) ?_;refine Ao (Ao ?_);refine AI.go (hri) rfl (Z9 hx e0 e2 k5 k6 hin hz hcl g11 ?_);exact hΨ13.out;refine Pr.done ?_;refine Ab.Ar rfl ?_;refine Ab.Am ?_;apply Pr.run;intro Ψ14 hΨ14;refine Aa.region (Z9 hx e0 e2 k5 k6 hin hz hcl g11 ?_)
    exact hΨ14.out;refine Pr.done ?_;refine Ab.ret (Z9 hx e0 e2 k5 k6 hin hz hcl g11 ?_)
    first | exact DR rfl k5 k8 k9 | rotate_left
    have d11:=Aj g11
    (exfalso; omega)
   | true =>
   rw [hr] at hri;have hta:=(hR.takes hr).1;have hnb:=(hR.takes hr).2;have hpb:=hR.puts;have hqi:(c.instrs.getD i default).op = 7 -> AH l.length (c.instrs.getD i default).a = true:=fun h7=>by rw [hx] at h7 ⊢; exact hR.blk h7 hr
   cases ho:(x.op == 1) with
   | false =>
    refine Ab.Am ?_;apply Pr.run;intro Ψ10 hΨ10;refine Aa.region (Z9 hx e0 e2 k5 k6 hin hz hcl ho ?_);exact hΨ10.out;refine Pr.done (Z9 hx e0 e2 k5 k6 hin hz hcl ho ?_);refine Ab.seq (Ab.cond rfl (fun g11=>?_) (fun g11=>?_));have d11:=An g11;refine Ab.skip (F5 hx e0 e2 k5 k6 hin hz hcl ho g11 ?_);refine Ab.seq (Ab.block ?_);refine Ab.Am ?_;apply Pr.run;intro Ψ12 hΨ12;refine Aa.region (F5 hx e0 e2 k5 k6 hin hz hcl ho g11 ?_);refine Ao ?_;refine And.intro (by assumption) ?_;simp -implicitDefEqProofs (dsimp:=false) (disch:=omega) only [i64_in,gd];refine F5 hx e0 e2 k5 k6 hin hz hcl ho g11 ?_;exact hΨ12.out;refine Pr.done ?_;refine Ab.seq ?_;refine Ab.Am ?_;apply Pr.run;intro Ψ13 hΨ13;refine Aa.freeze 8 (F5 hx e0 e2 k5 k6 hin hz hcl ho g11 ?_);refine Aa.BS [(1,.free),(0,.read),(2,.read),(3,.free),(4,.free),(5,.free),(6,.free),(7,.read),(8,.free),(9,.free),(10,.free),(11,.free),(16,.free),(12,.read),(13,.read),(14,.free),(15,.read),(17,.read),(18,.free),(19,.free),(20,.free)] mixed (by kernel_rfl) (F5 hx e0 e2 k5 k6 hin hz hcl ho g11 ?_);refine Ao ?_;refine And.intro (by trivial) ?_;refine AI.go (c160 _ _ x.op (by simp)) rfl (F5 hx e0 e2 k5 k6 hin hz hcl ho g11 ?_);refine Ao (Ao ?_);refine And.intro (by assumption) ?_;refine Ao (Ao ?_);refine AI.go (hri) rfl (F5 hx e0 e2 k5 k6 hin hz hcl ho g11 ?_);exact hΨ13.out;refine Pr.done ?_;refine Ab.Ax rfl ?_;refine Ab.skip (F5 hx e0 e2 k5 k6 hin hz hcl ho g11 ?_);refine Ab.Am ?_;apply Pr.run
    intro Ψ14 hΨ14;refine Aa.region (F5 hx e0 e2 k5 k6 hin hz hcl ho g11 ?_);refine Ao (Ao ?_);exact hΨ14.out;refine Pr.done ?_;refine Ab.XT [8,34,4,5,0,2,3,6,32,33] ?_ ?_;refine Ab.Am ?_;apply Pr.run;intro Ψ15 hΨ15;refine Aa.region (F5 hx e0 e2 k5 k6 hin hz hcl ho g11 ?_);refine Ao ?_;exact hΨ15.out;refine Pr.CH (fun g16=>?_) (fun g16=>?_);have d16:=AB g16;apply Pr.run;intro Ψ17 hΨ17;refine OY hx e0 e2 k5 k6 hin hz hcl ho g11 g16 ?_;refine Bd ?_;exact hΨ17.out;refine Pr.CH (fun g18=>?_) (fun g18=>?_);apply Pr.run;intro Ψ19 hΨ19;refine EI hx e0 e2 k5 k6 hin hz hcl ho g11 g16 g18 ?_;refine Bd ?_;refine EI hx e0 e2 k5 k6 hin hz hcl ho g11 g16 g18 ?_;refine Bd ?_;refine EI hx e0 e2 k5 k6 hin hz hcl ho g11 g16 g18 ?_;refine Bd ?_;refine EI hx e0 e2 k5 k6 hin hz hcl ho g11 g16 g18 ?_;exact hΨ19.out;refine Pr.done (EI hx e0 e2 k5 k6 hin hz hcl ho g11 g16 g18 ?_);refine Bd ?_;refine EI hx e0 e2 k5 k6 hin hz hcl ho g11 g16 g18 ?_;refine Ab.Ar rfl ?_;refine Ab.Am ?_;apply Pr.run;intro Ψ20 hΨ20;refine Aa.region (EI hx e0 e2 k5 k6 hin hz hcl ho g11 g16 g18 ?_);exact hΨ20.out;refine Pr.done ?_;refine Ab.ret (EI hx e0 e2 k5 k6 hin hz hcl ho g11 g16 g18 ?_)
    first | exact DR rfl k5 k8 k9 | rotate_left
    apply Pr.run;intro Ψ21 hΨ21;refine EI hx e0 e2 k5 k6 hin hz hcl ho g11 g16 g18 ?_;refine Bd ?_;refine EI hx e0 e2 k5 k6 hin hz hcl ho g11 g16 g18 ?_;refine Bd ?_;exact hΨ21.out;refine Pr.CH (fun g22=>?_) (fun g22=>?_);have d22:=AB g22;apply Pr.run;intro Ψ23 hΨ23;refine HO hx e0 e2 k5 k6 hin hz hcl ho g11 g16 g18 g22 ?_;refine Bd ?_;refine HO hx e0 e2 k5 k6 hin hz hcl ho g11 g16 g18 g22 ?_;refine Bd ?_;refine HO hx e0 e2 k5 k6 hin hz hcl ho g11 g16 g18 g22 ?_;refine Bd ?_;refine HO hx e0 e2 k5 k6 hin hz hcl ho g11 g16 g18 g22 ?_;refine Bd ?_;refine HO hx e0 e2 k5 k6 hin hz hcl ho g11 g16 g18 g22 ?_;exact hΨ23.out;refine Pr.done (HO hx e0 e2 k5 k6 hin hz hcl ho g11 g16 g18 g22 ?_);refine Bd ?_;refine HO hx e0 e2 k5 k6 hin hz hcl ho g11 g16 g18 g22 ?_;refine Ab.cond rfl (fun g24=>?_) (fun g24=>?_);have d24:=BT g24;refine Ab.Am ?_;apply Pr.run;intro Ψ25 hΨ25;refine Aa.region (CZ hx e0 e2 k5 k6 hin hz hcl ho g11 g16 g18 g22 g24 ?_);exact hΨ25.out;refine Pr.done ?_;refine Ab.ret (CZ hx e0 e2 k5 k6 hin hz hcl ho g11 g16 g18 g22 g24 ?_)
    first | exact DR rfl k5 k8 k9 | rotate_left
    have d24:=Bt g24;refine Ab.skip (CZ hx e0 e2 k5 k6 hin hz hcl ho g11 g16 g18 g22 g24 ?_);refine ⟨rfl,?_,?_,rfl,?_⟩;refine GN hx e0 e2 k5 k6 hin hz hcl ho g11 g16 g18 g22 g24 ?_;constructor;trivial;exact decide_eq_true (by omega);refine GN hx e0 e2 k5 k6 hin hz hcl ho g11 g16 g18 g22 g24 ?_
    assumption
    refine GN hx e0 e2 k5 k6 hin hz hcl ho g11 g16 g18 g22 g24 ?_
    assumption
    have d22:=Aq g22;apply Pr.run;intro Ψ26 hΨ26;refine HO hx e0 e2 k5 k6 hin hz hcl ho g11 g16 g18 g22 ?_;refine Bd ?_;refine HO hx e0 e2 k5 k6 hin hz hcl ho g11 g16 g18 g22 ?_;refine Bd ?_;refine HO hx e0 e2 k5 k6 hin hz hcl ho g11 g16 g18 g22 ?_;exact hΨ26.out;refine Pr.CH (fun g27=>?_) (fun g27=>?_);apply Pr.run;intro Ψ28 hΨ28;refine CZ hx e0 e2 k5 k6 hin hz hcl ho g11 g16 g18 g22 g27 ?_;refine Bd ?_;refine CZ hx e0 e2 k5 k6 hin hz hcl ho g11 g16 g18 g22 g27 ?_;exact hΨ28.out;refine Pr.done (CZ hx e0 e2 k5 k6 hin hz hcl ho g11 g16 g18 g22 g27 ?_);refine Bd ?_;refine CZ hx e0 e2 k5 k6 hin hz hcl ho g11 g16 g18 g22 g27 ?_;refine Ab.Ar rfl ?_;refine Ab.Am ?_;apply Pr.run;intro Ψ29 hΨ29;refine Aa.region (CZ hx e0 e2 k5 k6 hin hz hcl ho g11 g16 g18 g22 g27 ?_);exact hΨ29.out;refine Pr.done ?_;refine Ab.ret (CZ hx e0 e2 k5 k6 hin hz hcl ho g11 g16 g18 g22 g27 ?_)
    first | exact DR rfl k5 k8 k9 | rotate_left
    apply Pr.run;intro Ψ30 hΨ30;refine CZ hx e0 e2 k5 k6 hin hz hcl ho g11 g16 g18 g22 g27 ?_;refine Bd ?_;refine CZ hx e0 e2 k5 k6 hin hz hcl ho g11 g16 g18 g22 g27 ?_;refine Bd ?_;refine CZ hx e0 e2 k5 k6 hin hz hcl ho g11 g16 g18 g22 g27 ?_;exact hΨ30.out;refine Pr.done (CZ hx e0 e2 k5 k6 hin hz hcl ho g11 g16 g18 g22 g27 ?_);refine Bd ?_;refine CZ hx e0 e2 k5 k6 hin hz hcl ho g11 g16 g18 g22 g27 ?_;refine Ab.Ax rfl ?_;refine Ab.skip (CZ hx e0 e2 k5 k6 hin hz hcl ho g11 g16 g18 g22 g27 ?_);refine ⟨rfl,?_,?_,rfl,?_⟩;refine GN hx e0 e2 k5 k6 hin hz hcl ho g11 g16 g18 g22 g27 ?_;constructor;trivial;trivial;refine GN hx e0 e2 k5 k6 hin hz hcl ho g11 g16 g18 g22 g27 ?_
    assumption
    refine GN hx e0 e2 k5 k6 hin hz hcl ho g11 g16 g18 g22 g27 ?_
    assumption
    have d16:=Aq g16;apply Pr.run;intro Ψ31 hΨ31;refine OY hx e0 e2 k5 k6 hin hz hcl ho g11 g16 ?_;refine And.intro (by omega) (Bd ?_);exact hΨ31.out;refine Pr.CH (fun g32=>?_) (fun g32=>?_);apply Pr.run;intro Ψ33 hΨ33;refine EI hx e0 e2 k5 k6 hin hz hcl ho g11 g16 g32 ?_;refine Bd ?_;refine EI hx e0 e2 k5 k6 hin hz hcl ho g11 g16 g32 ?_;refine Bd ?_;refine EI hx e0 e2 k5 k6 hin hz hcl ho g11 g16 g32 ?_;refine Bd ?_;refine EI hx e0 e2 k5 k6 hin hz hcl ho g11 g16 g32 ?_;exact hΨ33.out;refine Pr.done (EI hx e0 e2 k5 k6 hin hz hcl ho g11 g16 g32 ?_);refine Bd ?_;refine EI hx e0 e2 k5 k6 hin hz hcl ho g11 g16 g32 ?_;refine Ab.Ar rfl ?_;refine Ab.Am ?_;apply Pr.run;intro Ψ34 hΨ34;refine Aa.region (EI hx e0 e2 k5 k6 hin hz hcl ho g11 g16 g32 ?_);exact hΨ34.out;refine Pr.done ?_;refine Ab.ret (EI hx e0 e2 k5 k6 hin hz hcl ho g11 g16 g32 ?_)
    first | exact DR rfl k5 k8 k9 | rotate_left
    apply Pr.run;intro Ψ35 hΨ35;refine EI hx e0 e2 k5 k6 hin hz hcl ho g11 g16 g32 ?_;refine Bd ?_;refine EI hx e0 e2 k5 k6 hin hz hcl ho g11 g16 g32 ?_;refine Bd ?_;exact hΨ35.out;refine Pr.CH (fun g36=>?_) (fun g36=>?_);have d36:=AB g36;apply Pr.run;intro Ψ37 hΨ37;refine HO hx e0 e2 k5 k6 hin hz hcl ho g11 g16 g32 g36 ?_;refine Bd ?_;refine HO hx e0 e2 k5 k6 hin hz hcl ho g11 g16 g32 g36 ?_;refine Bd ?_;refine HO hx e0 e2 k5 k6 hin hz hcl ho g11 g16 g32 g36 ?_;exact hΨ37.out;refine Pr.CH (fun g38=>?_) (fun g38=>?_);apply Pr.run;intro Ψ39 hΨ39;refine CZ hx e0 e2 k5 k6 hin hz hcl ho g11 g16 g32 g36 g38 ?_;refine Bd ?_;refine CZ hx e0 e2 k5 k6 hin hz hcl ho g11 g16 g32 g36 g38 ?_;exact hΨ39.out;refine Pr.done (CZ hx e0 e2 k5 k6 hin hz hcl ho g11 g16 g32 g36 g38 ?_);refine Bd ?_;refine CZ hx e0 e2 k5 k6 hin hz hcl ho g11 g16 g32 g36 g38 ?_;refine Ab.Ar rfl ?_;refine Ab.Am ?_;apply Pr.run;intro Ψ40 hΨ40;refine Aa.region (CZ hx e0 e2 k5 k6 hin hz hcl ho g11 g16 g32 g36 g38 ?_);exact hΨ40.out;refine Pr.done ?_;refine Ab.ret (CZ hx e0 e2 k5 k6 hin hz hcl ho g11 g16 g32 g36 g38 ?_)
    first | exact DR rfl k5 k8 k9 | rotate_left
    apply Pr.run;intro Ψ41 hΨ41;refine CZ hx e0 e2 k5 k6 hin hz hcl ho g11 g16 g32 g36 g38 ?_;refine Bd ?_;refine CZ hx e0 e2 k5 k6 hin hz hcl ho g11 g16 g32 g36 g38 ?_;refine Bd ?_;refine CZ hx e0 e2 k5 k6 hin hz hcl ho g11 g16 g32 g36 g38 ?_;exact hΨ41.out;refine Pr.done (CZ hx e0 e2 k5 k6 hin hz hcl ho g11 g16 g32 g36 g38 ?_);refine Bd ?_;refine CZ hx e0 e2 k5 k6 hin hz hcl ho g11 g16 g32 g36 g38 ?_;refine Ab.cond rfl (fun g42=>?_) (fun g42=>?_);have d42:=BT g42;refine Ab.Am ?_;apply Pr.run;intro Ψ43 hΨ43;refine Aa.region (Z15 hx e0 e2 k5 k6 hin hz hcl ho g11 g16 g32 g36 g38 g42 ?_);exact hΨ43.out;refine Pr.done ?_;refine Ab.ret (Z15 hx e0 e2 k5 k6 hin hz hcl ho g11 g16 g32 g36 g38 g42 ?_)
    first | exact DR rfl k5 k8 k9 | rotate_left
    have d42:=Bt g42;refine Ab.skip (Z15 hx e0 e2 k5 k6 hin hz hcl ho g11 g16 g32 g36 g38 g42 ?_);refine ⟨rfl,?_,?_,rfl,?_⟩;refine Vn hx e0 e2 k5 k6 hin hz hcl ho g11 g16 g32 g36 g38 g42 ?_;constructor;trivial;exact decide_eq_true (by omega);refine Vn hx e0 e2 k5 k6 hin hz hcl ho g11 g16 g32 g36 g38 g42 ?_
    assumption
    refine Vn hx e0 e2 k5 k6 hin hz hcl ho g11 g16 g32 g36 g38 g42 ?_
    assumption
    have d36:=Aq g36;apply Pr.run;intro Ψ44 hΨ44;refine HO hx e0 e2 k5 k6 hin hz hcl ho g11 g16 g32 g36 ?_;refine Bd ?_;refine HO hx e0 e2 k5 k6 hin hz hcl ho g11 g16 g32 g36 ?_;refine Bd ?_;refine HO hx e0 e2 k5 k6 hin hz hcl ho g11 g16 g32 g36 ?_;exact hΨ44.out;refine Pr.CH (fun g45=>?_) (fun g45=>?_);apply Pr.run;intro Ψ46 hΨ46;refine CZ hx e0 e2 k5 k6 hin hz hcl ho g11 g16 g32 g36 g45 ?_;refine Bd ?_;refine CZ hx e0 e2 k5 k6 hin hz hcl ho g11 g16 g32 g36 g45 ?_;exact hΨ46.out;refine Pr.done (CZ hx e0 e2 k5 k6 hin hz hcl ho g11 g16 g32 g36 g45 ?_);refine Bd ?_;refine CZ hx e0 e2 k5 k6 hin hz hcl ho g11 g16 g32 g36 g45 ?_;refine Ab.Ar rfl ?_;refine Ab.Am ?_;apply Pr.run;intro Ψ47 hΨ47;refine Aa.region (CZ hx e0 e2 k5 k6 hin hz hcl ho g11 g16 g32 g36 g45 ?_);exact hΨ47.out;refine Pr.done ?_;refine Ab.ret (CZ hx e0 e2 k5 k6 hin hz hcl ho g11 g16 g32 g36 g45 ?_)
    first | exact DR rfl k5 k8 k9 | rotate_left
    apply Pr.run;intro Ψ48 hΨ48;refine CZ hx e0 e2 k5 k6 hin hz hcl ho g11 g16 g32 g36 g45 ?_;refine Bd ?_;refine CZ hx e0 e2 k5 k6 hin hz hcl ho g11 g16 g32 g36 g45 ?_;refine Bd ?_;refine CZ hx e0 e2 k5 k6 hin hz hcl ho g11 g16 g32 g36 g45 ?_;exact hΨ48.out;refine Pr.done (CZ hx e0 e2 k5 k6 hin hz hcl ho g11 g16 g32 g36 g45 ?_);refine Bd ?_;refine CZ hx e0 e2 k5 k6 hin hz hcl ho g11 g16 g32 g36 g45 ?_;refine Ab.Ax rfl ?_;refine Ab.skip (CZ hx e0 e2 k5 k6 hin hz hcl ho g11 g16 g32 g36 g45 ?_);refine ⟨rfl,?_,?_,rfl,?_⟩;refine GN hx e0 e2 k5 k6 hin hz hcl ho g11 g16 g32 g36 g45 ?_;constructor;trivial;exact decide_eq_true (by omega);refine GN hx e0 e2 k5 k6 hin hz hcl ho g11 g16 g32 g36 g45 ?_
    assumption
    refine GN hx e0 e2 k5 k6 hin hz hcl ho g11 g16 g32 g36 g45 ?_
    assumption
    refine F5 hx e0 e2 k5 k6 hin hz hcl ho g11 ?_;refine Ab.seq ?_;refine Ab.Am ?_;apply Pr.run;intro Ψ49 hΨ49;refine Aa.region (F5 hx e0 e2 k5 k6 hin hz hcl ho g11 ?_);refine Ao ?_;exact hΨ49.out;refine Pr.done ?_;refine Ab.Ax rfl ?_;refine Ab.skip (F5 hx e0 e2 k5 k6 hin hz hcl ho g11 ?_);refine Ab.seq ?_;refine Ab.Am ?_;apply Pr.run;intro Ψ50 hΨ50;refine Aa.region (F5 hx e0 e2 k5 k6 hin hz hcl ho g11 ?_);refine Af.eq (agG x) rfl (F5 hx e0 e2 k5 k6 hin hz hcl ho g11 ?_);exact hΨ50.out;refine Pr.done ?_;refine Ab.block ?_;rotate_left;have d11:=Aj g11
    (exfalso; omega)
    rcases RB (Bm x) se with hall | ⟨m,hm,hbe,hat⟩
    ·have hbd:=II (m:=(Bm x).length) (fun k s _ h=>hall k s h)
     refine Ab.Xx [34,4,5,0,2,3,6,8,32,33] rfl (OQ x hxc) (fun k=>Cf hh (Dp se ((Bm x).take k)) ++ [.dead]) ?_ (fun k=>by simp [BB]) (fun a ha=>by obtain ⟨z,_,rfl⟩:=List.mem_map.1 ha; rfl) (fun k args fn hk=>?_) ?_ ?_ ?_ ?_
     ·show _ = Cf hh se ++ [.dead]
      rw [HE k6]
     ·rw [List.getElem?_map,Option.map_eq_some_iff] at hk
      obtain ⟨sv,hsv,rfl⟩:=hk;have hsu:=FM (se:=se) hsv;have hb1:=hbd k (by have:=(List.getElem?_eq_some_iff.1 hsv).1; omega);have hkl:=(List.getElem?_eq_some_iff.1 hsv).1;have hsl:=hall k sv hsv;have hsg:=hug k sv hsv;have hgt:decide (sv > Dp se ((Bm x).take k)) = false:=decide_eq_false (by omega);have hga:=fun v e=>D1 (hh:=hh) e3 v e;have hse:=fun v w e=>IJ (hh:=hh) e3 v w e;generalize Dp se ((Bm x).take k) = sk at *;refine Aa.region (Z4 hga hse hgt hsu ?_);refine Aa.block ?_;refine Aa.seq ?_;refine Aa.Ad (Z4 hga hse hgt hsu ?_);refine Aa.Ax rfl ?_;refine Aa.skip (Z4 hga hse hgt hsu ?_);refine Aa.region (Z4 hga hse hgt hsu ?_);refine Bd ?_;rotate_left;rw [show (if sv + 1 > sk then sv + 1 else sk) = max sk (sv + 1) by split <;> omega]
     ·intro y hy
      rcases List.mem_append.1 hy with hy | hy
      ·exact El k7 _ (by simp; omega) y hy
      ·simp at hy; subst hy; rfl
     ·refine Z0 ?_
      refine And.intro (by trivial) ?_;trivial
     ·intro a ha
      obtain ⟨id,hid,rfl⟩:=List.mem_map.1 ha;have:=(List.getElem?_eq_some_iff.1 (k9 id hid)).1;exact decide_eq_true (by simp; omega)
     ·have hb2:=hbd (Bm x).length (Nat.le_refl _)
      rw [hit];have hb3:se <= Dp se ((Bm x).take (Bm x).length) /\ Dp se ((Bm x).take (Bm x).length) <= se + 2:=by omega
      clear hbd hb2;generalize Dp se ((Bm x).take (Bm x).length) = sk at *;have hga:=fun v e=>D1 (hh:=hh) e3 v e;have hg0:=fun v e=>FR (hh:=hh) k5 v e;have hs0:=fun v b e=>Hu (hh:=hh) e3 v b e;refine Z4 hga hg0 hs0 hcl ?_;refine Ab.Am ?_;apply Pr.run;intro Ψ12 hΨ12;refine Aa.BS [(0,.free),(1,.free),(2,.read),(3,.read),(4,.free),(5,.read),(6,.read),(7,.free),(8,.free),(9,.free)] mixed (by kernel_rfl) (Z4 hga hg0 hs0 hcl ?_);refine Ao ?_;refine And.intro (by assumption) ?_;refine Ao (Ao ?_);refine AI.go (hta) rfl (Z4 hga hg0 hs0 hcl ?_);exact hΨ12.out;refine Pr.done ?_;refine Ab.seq ?_;refine Ab.Am ?_;apply Pr.run;intro Ψ13 hΨ13;refine Aa.region (Z4 hga hg0 hs0 hcl ?_);refine Bd ?_;exact hΨ13.out;refine Pr.CH (fun g14=>?_) (fun g14=>?_);have d14:=An g14;apply Pr.run;intro Ψ15 hΨ15;refine Z5 hga hg0 hs0 hcl g14 ?_;refine Bd ?_;refine Z5 hga hg0 hs0 hcl g14 ?_;refine Bd ?_;refine Z5 hga hg0 hs0 hcl g14 ?_;refine Bd ?_;refine Z5 hga hg0 hs0 hcl g14 ?_;refine Bd ?_;refine Z5 hga hg0 hs0 hcl g14 ?_;refine Bd ?_;refine Z5 hga hg0 hs0 hcl g14 ?_;exact hΨ15.out;refine Pr.done (Bd ?_);refine Z5 hga hg0 hs0 hcl g14 ?_;refine Ab.Ar rfl ?_;refine Ab.Am ?_;apply Pr.run;intro Ψ16 hΨ16;refine Aa.region (Z5 hga hg0 hs0 hcl g14 ?_);exact hΨ16.out;refine Pr.done ?_;refine Ab.ret (Z5 hga hg0 hs0 hcl g14 ?_)
      first | exact Ph rfl k5 k6 k8 k9 | rotate_left
      have d14:=Aj g14;apply Pr.run;intro Ψ17 hΨ17;refine Z5 hga hg0 hs0 hcl g14 ?_;refine And.intro (by omega) (Bd ?_);refine Z5 hga hg0 hs0 hcl g14 ?_;refine Bd ?_;refine Z5 hga hg0 hs0 hcl g14 ?_;refine Bd ?_;refine Z5 hga hg0 hs0 hcl g14 ?_;exact hΨ17.out;refine Pr.CH (fun g18=>?_) (fun g18=>?_);have d18:=AB g18;apply Pr.run;intro Ψ19 hΨ19;refine Z6 hga hg0 hs0 hcl g14 g18 ?_;refine Bd ?_;refine Z6 hga hg0 hs0 hcl g14 g18 ?_;refine Bd ?_;refine Z6 hga hg0 hs0 hcl g14 g18 ?_;exact hΨ19.out;refine Pr.done (Bd ?_);refine Z6 hga hg0 hs0 hcl g14 g18 ?_;refine Ab.cond rfl (fun g20=>?_) (fun g20=>?_);have d20:=BT g20;refine Ab.Am ?_;apply Pr.run;intro Ψ21 hΨ21;refine Aa.region (Z7 hga hg0 hs0 hcl g14 g18 g20 ?_);exact hΨ21.out;refine Pr.done ?_;refine Ab.ret (Z7 hga hg0 hs0 hcl g14 g18 g20 ?_)
      first | exact Ph rfl k5 k6 k8 k9 | rotate_left
      have d20:=Bt g20;refine Ab.skip (Z7 hga hg0 hs0 hcl g14 g18 g20 ?_);refine Ab.Am ?_;apply Pr.run;intro Ψ22 hΨ22;refine Aa.region (Z7 hga hg0 hs0 hcl g14 g18 g20 ?_);refine Ao ?_;refine And.intro (by assumption) ?_;refine Ao (Ao ?_);exact hΨ22.out;refine Pr.done ?_;refine Ab.Am ?_;apply Pr.run;intro Ψ23 hΨ23;refine Aa.region (Z7 hga hg0 hs0 hcl g14 g18 g20 ?_);exact hΨ23.out;refine Pr.done (Bd ?_);refine Ab.cond rfl (fun g24=>?_) (fun g24=>?_);have d24:=An g24
      (exfalso; omega)
      have d24:=Aj g24;refine Ab.skip (Z8 hga hg0 hs0 hcl g14 g18 g20 g24 ?_);refine Ab.Di ?_;apply Pr.run;intro Ψ25 hΨ25;refine Aa.region (Z8 hga hg0 hs0 hcl g14 g18 g20 g24 ?_);exact hΨ25.out;refine Pr.done (Z8 hga hg0 hs0 hcl g14 g18 g20 g24 ?_);rotate_left;have d18:=Aq g18;apply Pr.run;intro Ψ26 hΨ26;refine Z6 hga hg0 hs0 hcl g14 g18 ?_;refine Bd ?_;refine Z6 hga hg0 hs0 hcl g14 g18 ?_;refine Bd ?_;refine Z6 hga hg0 hs0 hcl g14 g18 ?_;exact hΨ26.out;refine Pr.done (Bd ?_);refine Z6 hga hg0 hs0 hcl g14 g18 ?_;refine Ab.Ax rfl ?_;refine Ab.skip (Z6 hga hg0 hs0 hcl g14 g18 ?_);refine Ab.Am ?_;apply Pr.run;intro Ψ27 hΨ27;refine Aa.region (Z6 hga hg0 hs0 hcl g14 g18 ?_);refine Ao ?_;refine And.intro (by assumption) ?_;refine Ao (Ao ?_);exact hΨ27.out;refine Pr.done ?_;refine Ab.Am ?_;apply Pr.run;intro Ψ28 hΨ28;refine Aa.region (Z6 hga hg0 hs0 hcl g14 g18 ?_);exact hΨ28.out;refine Pr.done (Bd ?_);refine Ab.cond rfl (fun g29=>?_) (fun g29=>?_);have d29:=An g29;refine Ab.Am ?_;apply Pr.run;intro Ψ30 hΨ30;refine Aa.region (Z7 hga hg0 hs0 hcl g14 g18 g29 ?_);exact hΨ30.out;refine Pr.done ?_;refine Ab.ret (Z7 hga hg0 hs0 hcl g14 g18 g29 ?_)
      first | exact Ph rfl k5 k6 k8 k9 | rotate_left
      have d29:=Aj g29;refine Ab.skip (Z7 hga hg0 hs0 hcl g14 g18 g29 ?_);refine Ab.Di ?_;apply Pr.run;intro Ψ31 hΨ31;refine Aa.region (Z7 hga hg0 hs0 hcl g14 g18 g29 ?_);exact hΨ31.out;refine Pr.done (Z7 hga hg0 hs0 hcl g14 g18 g29 ?_);rotate_left
      all_goals simp -implicitDefEqProofs (dsimp:=false) (disch:=omega) only [i64_in]
      all_goals have hnx:=LA (h':=h - n + p) (li':=li) (sk:=sk) hI0 hqi hlt ⟨by omega,by omega⟩ ⟨by omega,by omega⟩ ⟨by omega,by omega⟩
      all_goals refine ⟨(i + 1,h - n + p,li,sk,Cf hh sk ++ [.dead,.defer,.dead],(hh.length + 1) :: ids),hnx,(by show c.instrs.length - (i + 1) < c.instrs.length - i; omega),(by simp [BB]),⟨rfl,?_,LK k7 sk,rfl,JS k9 sk⟩⟩
      ·refine Z0 ?_
       refine And.intro (by trivial) ?_;trivial
      ·refine Z0 ?_
       refine And.intro (by trivial) ?_;trivial
    ·have hbd:=II (m:=m) hbe
     refine Ab.Ww [34,4,5,0,2,3,6,8,32,33] rfl (OQ x hxc) m (by rw [hit]; exact hm) (fun k=>Cf hh (Dp se ((Bm x).take k)) ++ [.dead]) ((Cf hh (Dp se ((Bm x).take m))).set 0 (.cells [.val (.bool false)]) ++ [.dead]) ?_ (fun k=>by simp [BB]) (by simp [BB]) (fun a ha=>by obtain ⟨z,_,rfl⟩:=List.mem_map.1 ha; rfl) (fun k args fn hkm hk=>?_) (fun args fn hk=>?_) ?_ ?_ ?_ ?_
     ·show _ = Cf hh se ++ [.dead]
      rw [HE k6]
     ·rw [List.getElem?_map,Option.map_eq_some_iff] at hk
      obtain ⟨sv,hsv,rfl⟩:=hk;have hsu:=FM (se:=se) hsv;have hb1:=hbd k (by omega);have hsl:=hbe k sv hkm hsv;have hsg:=hug k sv hsv;have hgt:decide (sv > Dp se ((Bm x).take k)) = false:=decide_eq_false (by omega);have hga:=fun v e=>D1 (hh:=hh) e3 v e;have hse:=fun v w e=>IJ (hh:=hh) e3 v w e;generalize Dp se ((Bm x).take k) = sk at *;refine Aa.region (Z4 hga hse hgt hsu ?_);refine Aa.block ?_;refine Aa.seq ?_;refine Aa.Ad (Z4 hga hse hgt hsu ?_);refine Aa.Ax rfl ?_;refine Aa.skip (Z4 hga hse hgt hsu ?_);refine Aa.region (Z4 hga hse hgt hsu ?_);refine Bd ?_;rotate_left;rw [show (if sv + 1 > sk then sv + 1 else sk) = max sk (sv + 1) by split <;> omega]
     ·rw [List.getElem?_map,Option.map_eq_some_iff] at hk
      obtain ⟨sv,hsv,rfl⟩:=hk;have hgt:decide (sv > Dp se ((Bm x).take m)) = true:=decide_eq_true (hat sv hsv);have hga:=fun v e=>D1 (hh:=hh) e3 v e;have hg0:=fun v e=>FR (hh:=hh) k5 v e;have hs0:=fun v b e=>Hu (hh:=hh) e3 v b e;generalize Dp se ((Bm x).take m) = sk at *;refine Aa.region (Z4 hga hg0 hs0 hgt ?_);refine Aa.block ?_;refine Aa.seq ?_;refine Aa.Ad (Z4 hga hg0 hs0 hgt ?_);refine Aa.Ar rfl ?_;refine Aa.Ad (Z4 hga hg0 hs0 hgt ?_);exact Aa.ret (Z4 hga hg0 hs0 hgt trivial)
     ·intro y hy
      rcases List.mem_append.1 hy with hy | hy
      ·rcases List.mem_or_eq_of_mem_set hy with hy | rfl
       ·exact El k7 _ (by simp; omega) y hy
       ·rfl
      ·simp at hy; subst hy; rfl
     ·refine Z0 ?_
      refine And.intro (by trivial) ?_;trivial
     ·intro a ha
      obtain ⟨id,hid,rfl⟩:=List.mem_map.1 ha;have:=(List.getElem?_eq_some_iff.1 (k9 id hid)).1;exact decide_eq_true (by simp; omega)
     ·refine Z0 ?_
      first | exact Ph rfl k5 k6 k8 k9 | rotate_left
   | true =>
    refine Ab.Am ?_;apply Pr.run;intro Ψ10 hΨ10;refine Aa.region (Z9 hx e0 e2 k5 k6 hin hz hcl ho ?_);exact hΨ10.out;refine Pr.done (Z9 hx e0 e2 k5 k6 hin hz hcl ho ?_);refine Ab.seq (Ab.cond rfl (fun g11=>?_) (fun g11=>?_));have d11:=An g11;refine Ab.skip (F5 hx e0 e2 k5 k6 hin hz hcl ho g11 ?_);refine Ab.seq (Ab.block ?_);refine Ab.Am ?_;apply Pr.run;intro Ψ12 hΨ12;refine Aa.region (F5 hx e0 e2 k5 k6 hin hz hcl ho g11 ?_);refine Ao ?_;refine And.intro (by assumption) ?_;simp -implicitDefEqProofs (dsimp:=false) (disch:=omega) only [i64_in,gd];refine F5 hx e0 e2 k5 k6 hin hz hcl ho g11 ?_;exact hΨ12.out;refine Pr.done ?_;refine Ab.seq ?_;refine Ab.Am ?_;apply Pr.run;intro Ψ13 hΨ13;refine Aa.freeze 8 (F5 hx e0 e2 k5 k6 hin hz hcl ho g11 ?_);refine Aa.BS [(1,.free),(0,.read),(2,.read),(3,.free),(4,.free),(5,.free),(6,.free),(7,.read),(8,.free),(9,.free),(10,.free),(11,.free),(16,.free),(12,.read),(13,.read),(14,.free),(15,.read),(17,.read),(18,.free),(19,.free),(20,.free)] mixed (by kernel_rfl) (F5 hx e0 e2 k5 k6 hin hz hcl ho g11 ?_);refine Ao ?_;refine And.intro (by trivial) ?_;refine AI.go (c160 _ _ x.op (by simp)) rfl (F5 hx e0 e2 k5 k6 hin hz hcl ho g11 ?_);refine Ao (Ao ?_);refine And.intro (by assumption) ?_;refine Ao (Ao ?_);refine AI.go (hri) rfl (F5 hx e0 e2 k5 k6 hin hz hcl ho g11 ?_);exact hΨ13.out;refine Pr.done ?_;refine Ab.Ax rfl ?_;refine Ab.skip (F5 hx e0 e2 k5 k6 hin hz hcl ho g11 ?_);refine Ab.Am ?_;apply Pr.run
    intro Ψ14 hΨ14;refine Aa.region (F5 hx e0 e2 k5 k6 hin hz hcl ho g11 ?_);refine Ao (Ao ?_);exact hΨ14.out;refine Pr.done ?_;refine Ab.XT [8,34,4,5,0,2,3,6,32,33] ?_ ?_;refine Ab.Am ?_;apply Pr.run;intro Ψ15 hΨ15;refine Aa.region (F5 hx e0 e2 k5 k6 hin hz hcl ho g11 ?_);refine Ao ?_;exact hΨ15.out;refine Pr.CH (fun g16=>?_) (fun g16=>?_);have d16:=AB g16;apply Pr.run;intro Ψ17 hΨ17;refine OY hx e0 e2 k5 k6 hin hz hcl ho g11 g16 ?_;refine Bd ?_;exact hΨ17.out;refine Pr.CH (fun g18=>?_) (fun g18=>?_);apply Pr.run;intro Ψ19 hΨ19;refine EI hx e0 e2 k5 k6 hin hz hcl ho g11 g16 g18 ?_;refine Bd ?_;refine EI hx e0 e2 k5 k6 hin hz hcl ho g11 g16 g18 ?_;refine Bd ?_;refine EI hx e0 e2 k5 k6 hin hz hcl ho g11 g16 g18 ?_;refine Bd ?_;refine EI hx e0 e2 k5 k6 hin hz hcl ho g11 g16 g18 ?_;exact hΨ19.out;refine Pr.done (EI hx e0 e2 k5 k6 hin hz hcl ho g11 g16 g18 ?_);refine Bd ?_;refine EI hx e0 e2 k5 k6 hin hz hcl ho g11 g16 g18 ?_;refine Ab.Ar rfl ?_;refine Ab.Am ?_;apply Pr.run;intro Ψ20 hΨ20;refine Aa.region (EI hx e0 e2 k5 k6 hin hz hcl ho g11 g16 g18 ?_);exact hΨ20.out;refine Pr.done ?_;refine Ab.ret (EI hx e0 e2 k5 k6 hin hz hcl ho g11 g16 g18 ?_)
    first | exact DR rfl k5 k8 k9 | rotate_left
    apply Pr.run;intro Ψ21 hΨ21;refine EI hx e0 e2 k5 k6 hin hz hcl ho g11 g16 g18 ?_;refine Bd ?_;refine EI hx e0 e2 k5 k6 hin hz hcl ho g11 g16 g18 ?_;refine Bd ?_;exact hΨ21.out;refine Pr.CH (fun g22=>?_) (fun g22=>?_);have d22:=AB g22;apply Pr.run;intro Ψ23 hΨ23;refine HO hx e0 e2 k5 k6 hin hz hcl ho g11 g16 g18 g22 ?_;refine Bd ?_;refine HO hx e0 e2 k5 k6 hin hz hcl ho g11 g16 g18 g22 ?_;refine Bd ?_;refine HO hx e0 e2 k5 k6 hin hz hcl ho g11 g16 g18 g22 ?_;refine Bd ?_;refine HO hx e0 e2 k5 k6 hin hz hcl ho g11 g16 g18 g22 ?_;refine Bd ?_;refine HO hx e0 e2 k5 k6 hin hz hcl ho g11 g16 g18 g22 ?_;exact hΨ23.out;refine Pr.done (HO hx e0 e2 k5 k6 hin hz hcl ho g11 g16 g18 g22 ?_);refine Bd ?_;refine HO hx e0 e2 k5 k6 hin hz hcl ho g11 g16 g18 g22 ?_;refine Ab.cond rfl (fun g24=>?_) (fun g24=>?_);have d24:=BT g24;refine Ab.Am ?_;apply Pr.run;intro Ψ25 hΨ25;refine Aa.region (CZ hx e0 e2 k5 k6 hin hz hcl ho g11 g16 g18 g22 g24 ?_);exact hΨ25.out;refine Pr.done ?_;refine Ab.ret (CZ hx e0 e2 k5 k6 hin hz hcl ho g11 g16 g18 g22 g24 ?_)
    first | exact DR rfl k5 k8 k9 | rotate_left
    have d24:=Bt g24;refine Ab.skip (CZ hx e0 e2 k5 k6 hin hz hcl ho g11 g16 g18 g22 g24 ?_);refine ⟨rfl,?_,?_,rfl,?_⟩;refine GN hx e0 e2 k5 k6 hin hz hcl ho g11 g16 g18 g22 g24 ?_;constructor;trivial;exact decide_eq_true (by omega);refine GN hx e0 e2 k5 k6 hin hz hcl ho g11 g16 g18 g22 g24 ?_
    assumption
    refine GN hx e0 e2 k5 k6 hin hz hcl ho g11 g16 g18 g22 g24 ?_
    assumption
    have d22:=Aq g22;apply Pr.run;intro Ψ26 hΨ26;refine HO hx e0 e2 k5 k6 hin hz hcl ho g11 g16 g18 g22 ?_;refine Bd ?_;refine HO hx e0 e2 k5 k6 hin hz hcl ho g11 g16 g18 g22 ?_;refine Bd ?_;refine HO hx e0 e2 k5 k6 hin hz hcl ho g11 g16 g18 g22 ?_;exact hΨ26.out;refine Pr.CH (fun g27=>?_) (fun g27=>?_);apply Pr.run;intro Ψ28 hΨ28;refine CZ hx e0 e2 k5 k6 hin hz hcl ho g11 g16 g18 g22 g27 ?_;refine Bd ?_;refine CZ hx e0 e2 k5 k6 hin hz hcl ho g11 g16 g18 g22 g27 ?_;exact hΨ28.out;refine Pr.done (CZ hx e0 e2 k5 k6 hin hz hcl ho g11 g16 g18 g22 g27 ?_);refine Bd ?_;refine CZ hx e0 e2 k5 k6 hin hz hcl ho g11 g16 g18 g22 g27 ?_;refine Ab.Ar rfl ?_;refine Ab.Am ?_;apply Pr.run;intro Ψ29 hΨ29;refine Aa.region (CZ hx e0 e2 k5 k6 hin hz hcl ho g11 g16 g18 g22 g27 ?_);exact hΨ29.out;refine Pr.done ?_;refine Ab.ret (CZ hx e0 e2 k5 k6 hin hz hcl ho g11 g16 g18 g22 g27 ?_)
    first | exact DR rfl k5 k8 k9 | rotate_left
    apply Pr.run;intro Ψ30 hΨ30;refine CZ hx e0 e2 k5 k6 hin hz hcl ho g11 g16 g18 g22 g27 ?_;refine Bd ?_;refine CZ hx e0 e2 k5 k6 hin hz hcl ho g11 g16 g18 g22 g27 ?_;refine Bd ?_;refine CZ hx e0 e2 k5 k6 hin hz hcl ho g11 g16 g18 g22 g27 ?_;exact hΨ30.out;refine Pr.done (CZ hx e0 e2 k5 k6 hin hz hcl ho g11 g16 g18 g22 g27 ?_);refine Bd ?_;refine CZ hx e0 e2 k5 k6 hin hz hcl ho g11 g16 g18 g22 g27 ?_;refine Ab.Ax rfl ?_;refine Ab.skip (CZ hx e0 e2 k5 k6 hin hz hcl ho g11 g16 g18 g22 g27 ?_);refine ⟨rfl,?_,?_,rfl,?_⟩;refine GN hx e0 e2 k5 k6 hin hz hcl ho g11 g16 g18 g22 g27 ?_;constructor;trivial;trivial;refine GN hx e0 e2 k5 k6 hin hz hcl ho g11 g16 g18 g22 g27 ?_
    assumption
    refine GN hx e0 e2 k5 k6 hin hz hcl ho g11 g16 g18 g22 g27 ?_
    assumption
    have d16:=Aq g16;apply Pr.run;intro Ψ31 hΨ31;refine OY hx e0 e2 k5 k6 hin hz hcl ho g11 g16 ?_;refine And.intro (by omega) (Bd ?_);exact hΨ31.out;refine Pr.CH (fun g32=>?_) (fun g32=>?_);apply Pr.run;intro Ψ33 hΨ33;refine EI hx e0 e2 k5 k6 hin hz hcl ho g11 g16 g32 ?_;refine Bd ?_;refine EI hx e0 e2 k5 k6 hin hz hcl ho g11 g16 g32 ?_;refine Bd ?_;refine EI hx e0 e2 k5 k6 hin hz hcl ho g11 g16 g32 ?_;refine Bd ?_;refine EI hx e0 e2 k5 k6 hin hz hcl ho g11 g16 g32 ?_;exact hΨ33.out;refine Pr.done (EI hx e0 e2 k5 k6 hin hz hcl ho g11 g16 g32 ?_);refine Bd ?_;refine EI hx e0 e2 k5 k6 hin hz hcl ho g11 g16 g32 ?_;refine Ab.Ar rfl ?_;refine Ab.Am ?_;apply Pr.run;intro Ψ34 hΨ34;refine Aa.region (EI hx e0 e2 k5 k6 hin hz hcl ho g11 g16 g32 ?_);exact hΨ34.out;refine Pr.done ?_;refine Ab.ret (EI hx e0 e2 k5 k6 hin hz hcl ho g11 g16 g32 ?_)
    first | exact DR rfl k5 k8 k9 | rotate_left
    apply Pr.run;intro Ψ35 hΨ35;refine EI hx e0 e2 k5 k6 hin hz hcl ho g11 g16 g32 ?_;refine Bd ?_;refine EI hx e0 e2 k5 k6 hin hz hcl ho g11 g16 g32 ?_;refine Bd ?_;exact hΨ35.out;refine Pr.CH (fun g36=>?_) (fun g36=>?_);have d36:=AB g36;apply Pr.run;intro Ψ37 hΨ37;refine HO hx e0 e2 k5 k6 hin hz hcl ho g11 g16 g32 g36 ?_;refine Bd ?_;refine HO hx e0 e2 k5 k6 hin hz hcl ho g11 g16 g32 g36 ?_;refine Bd ?_;refine HO hx e0 e2 k5 k6 hin hz hcl ho g11 g16 g32 g36 ?_;exact hΨ37.out;refine Pr.CH (fun g38=>?_) (fun g38=>?_);apply Pr.run;intro Ψ39 hΨ39;refine CZ hx e0 e2 k5 k6 hin hz hcl ho g11 g16 g32 g36 g38 ?_;refine Bd ?_;refine CZ hx e0 e2 k5 k6 hin hz hcl ho g11 g16 g32 g36 g38 ?_;exact hΨ39.out;refine Pr.done (CZ hx e0 e2 k5 k6 hin hz hcl ho g11 g16 g32 g36 g38 ?_);refine Bd ?_;refine CZ hx e0 e2 k5 k6 hin hz hcl ho g11 g16 g32 g36 g38 ?_;refine Ab.Ar rfl ?_;refine Ab.Am ?_;apply Pr.run;intro Ψ40 hΨ40;refine Aa.region (CZ hx e0 e2 k5 k6 hin hz hcl ho g11 g16 g32 g36 g38 ?_);exact hΨ40.out;refine Pr.done ?_;refine Ab.ret (CZ hx e0 e2 k5 k6 hin hz hcl ho g11 g16 g32 g36 g38 ?_)
    first | exact DR rfl k5 k8 k9 | rotate_left
    apply Pr.run;intro Ψ41 hΨ41;refine CZ hx e0 e2 k5 k6 hin hz hcl ho g11 g16 g32 g36 g38 ?_;refine Bd ?_;refine CZ hx e0 e2 k5 k6 hin hz hcl ho g11 g16 g32 g36 g38 ?_;refine Bd ?_;refine CZ hx e0 e2 k5 k6 hin hz hcl ho g11 g16 g32 g36 g38 ?_;exact hΨ41.out;refine Pr.done (CZ hx e0 e2 k5 k6 hin hz hcl ho g11 g16 g32 g36 g38 ?_);refine Bd ?_;refine CZ hx e0 e2 k5 k6 hin hz hcl ho g11 g16 g32 g36 g38 ?_;refine Ab.cond rfl (fun g42=>?_) (fun g42=>?_);have d42:=BT g42;refine Ab.Am ?_;apply Pr.run;intro Ψ43 hΨ43;refine Aa.region (Z15 hx e0 e2 k5 k6 hin hz hcl ho g11 g16 g32 g36 g38 g42 ?_);exact hΨ43.out;refine Pr.done ?_;refine Ab.ret (Z15 hx e0 e2 k5 k6 hin hz hcl ho g11 g16 g32 g36 g38 g42 ?_)
    first | exact DR rfl k5 k8 k9 | rotate_left
    have d42:=Bt g42;refine Ab.skip (Z15 hx e0 e2 k5 k6 hin hz hcl ho g11 g16 g32 g36 g38 g42 ?_);refine ⟨rfl,?_,?_,rfl,?_⟩;refine Vn hx e0 e2 k5 k6 hin hz hcl ho g11 g16 g32 g36 g38 g42 ?_;constructor;trivial;exact decide_eq_true (by omega);refine Vn hx e0 e2 k5 k6 hin hz hcl ho g11 g16 g32 g36 g38 g42 ?_
    assumption
    refine Vn hx e0 e2 k5 k6 hin hz hcl ho g11 g16 g32 g36 g38 g42 ?_
    assumption
    have d36:=Aq g36;apply Pr.run;intro Ψ44 hΨ44;refine HO hx e0 e2 k5 k6 hin hz hcl ho g11 g16 g32 g36 ?_;refine Bd ?_;refine HO hx e0 e2 k5 k6 hin hz hcl ho g11 g16 g32 g36 ?_;refine Bd ?_;refine HO hx e0 e2 k5 k6 hin hz hcl ho g11 g16 g32 g36 ?_;exact hΨ44.out;refine Pr.CH (fun g45=>?_) (fun g45=>?_);apply Pr.run;intro Ψ46 hΨ46;refine CZ hx e0 e2 k5 k6 hin hz hcl ho g11 g16 g32 g36 g45 ?_;refine Bd ?_;refine CZ hx e0 e2 k5 k6 hin hz hcl ho g11 g16 g32 g36 g45 ?_;exact hΨ46.out;refine Pr.done (CZ hx e0 e2 k5 k6 hin hz hcl ho g11 g16 g32 g36 g45 ?_);refine Bd ?_;refine CZ hx e0 e2 k5 k6 hin hz hcl ho g11 g16 g32 g36 g45 ?_;refine Ab.Ar rfl ?_;refine Ab.Am ?_;apply Pr.run;intro Ψ47 hΨ47;refine Aa.region (CZ hx e0 e2 k5 k6 hin hz hcl ho g11 g16 g32 g36 g45 ?_);exact hΨ47.out;refine Pr.done ?_;refine Ab.ret (CZ hx e0 e2 k5 k6 hin hz hcl ho g11 g16 g32 g36 g45 ?_)
    first | exact DR rfl k5 k8 k9 | rotate_left
    apply Pr.run;intro Ψ48 hΨ48;refine CZ hx e0 e2 k5 k6 hin hz hcl ho g11 g16 g32 g36 g45 ?_;refine Bd ?_;refine CZ hx e0 e2 k5 k6 hin hz hcl ho g11 g16 g32 g36 g45 ?_;refine Bd ?_;refine CZ hx e0 e2 k5 k6 hin hz hcl ho g11 g16 g32 g36 g45 ?_;exact hΨ48.out;refine Pr.done (CZ hx e0 e2 k5 k6 hin hz hcl ho g11 g16 g32 g36 g45 ?_);refine Bd ?_;refine CZ hx e0 e2 k5 k6 hin hz hcl ho g11 g16 g32 g36 g45 ?_;refine Ab.Ax rfl ?_;refine Ab.skip (CZ hx e0 e2 k5 k6 hin hz hcl ho g11 g16 g32 g36 g45 ?_);refine ⟨rfl,?_,?_,rfl,?_⟩;refine GN hx e0 e2 k5 k6 hin hz hcl ho g11 g16 g32 g36 g45 ?_;constructor;trivial;exact decide_eq_true (by omega);refine GN hx e0 e2 k5 k6 hin hz hcl ho g11 g16 g32 g36 g45 ?_
    assumption
    refine GN hx e0 e2 k5 k6 hin hz hcl ho g11 g16 g32 g36 g45 ?_
    assumption
    refine F5 hx e0 e2 k5 k6 hin hz hcl ho g11 ?_;refine Ab.seq ?_;refine Ab.Am ?_;apply Pr.run;intro Ψ49 hΨ49;refine Aa.region (F5 hx e0 e2 k5 k6 hin hz hcl ho g11 ?_);refine Ao ?_;exact hΨ49.out;refine Pr.done ?_;refine Ab.Ar rfl ?_;refine Ab.seq ?_;refine Ab.Am ?_;apply Pr.run;intro Ψ50 hΨ50;refine Aa.region (F5 hx e0 e2 k5 k6 hin hz hcl ho g11 ?_);refine Ao ?_;exact hΨ50.out;refine Pr.done ?_;refine Ab.cond rfl (fun g51=>?_) (fun g51=>?_);have d51:=An g51;refine Ab.Am ?_;apply Pr.run;intro Ψ52 hΨ52;refine Aa.region (OY hx e0 e2 k5 k6 hin hz hcl ho g11 g51 ?_);exact hΨ52.out;refine Pr.done ?_;refine Ab.ret (OY hx e0 e2 k5 k6 hin hz hcl ho g11 g51 ?_)
    first | exact DR rfl k5 k8 k9 | rotate_left
    have d51:=Aj g51;refine Ab.skip (OY hx e0 e2 k5 k6 hin hz hcl ho g11 g51 ?_);refine Ab.Di ?_;apply Pr.run;intro Ψ53 hΨ53;refine Aa.region (OY hx e0 e2 k5 k6 hin hz hcl ho g11 g51 ?_);refine Ao ?_;exact hΨ53.out;refine Pr.done (OY hx e0 e2 k5 k6 hin hz hcl ho g11 g51 ?_);refine Ab.seq ?_;refine Ab.Am ?_;apply Pr.run;intro Ψ54 hΨ54;refine Aa.region (OY hx e0 e2 k5 k6 hin hz hcl ho g11 g51 ?_);refine Af.eq (agG x) rfl (OY hx e0 e2 k5 k6 hin hz hcl ho g11 g51 ?_);exact hΨ54.out;refine Pr.done ?_;refine Ab.block ?_;rotate_left;have d11:=Aj g11
    (exfalso; omega)
    have hli:=Aj (by assumption:decide (x.a > li) = false)
    rcases RB (Bm x) se with hall | ⟨m,hm,hbe,hat⟩
    ·have hbd:=II (m:=(Bm x).length) (fun k s _ h=>hall k s h)
     refine Ab.Xx [34,4,5,0,2,3,6,8,32,33] rfl (OQ x hxc) (fun k=>Cf hh (Dp se ((Bm x).take k)) ++ [.dead]) ?_ (fun k=>by simp [BB]) (fun a ha=>by obtain ⟨z,_,rfl⟩:=List.mem_map.1 ha; rfl) (fun k args fn hk=>?_) ?_ ?_ ?_ ?_
     ·show _ = Cf hh se ++ [.dead]
      rw [HE k6]
     ·rw [List.getElem?_map,Option.map_eq_some_iff] at hk
      obtain ⟨sv,hsv,rfl⟩:=hk;have hsu:=FM (se:=se) hsv;have hb1:=hbd k (by have:=(List.getElem?_eq_some_iff.1 hsv).1; omega);have hkl:=(List.getElem?_eq_some_iff.1 hsv).1;have hsl:=hall k sv hsv;have hsg:=hug k sv hsv;have hgt:decide (sv > Dp se ((Bm x).take k)) = false:=decide_eq_false (by omega);have hga:=fun v e=>D1 (hh:=hh) e3 v e;have hse:=fun v w e=>IJ (hh:=hh) e3 v w e;generalize Dp se ((Bm x).take k) = sk at *;refine Aa.region (Z4 hga hse hgt hsu ?_);refine Aa.block ?_;refine Aa.seq ?_;refine Aa.Ad (Z4 hga hse hgt hsu ?_);refine Bd ?_;refine Aa.Ax rfl ?_;refine Aa.skip (Z4 hga hse hgt hsu ?_);refine Aa.region (Z4 hga hse hgt hsu ?_);refine Bd ?_;rotate_left;rw [show (if sv + 1 > sk then sv + 1 else sk) = max sk (sv + 1) by split <;> omega]
     ·intro y hy
      rcases List.mem_append.1 hy with hy | hy
      ·exact El k7 _ (by simp; omega) y hy
      ·simp at hy; subst hy; rfl
     ·refine Z0 ?_
      refine And.intro (by trivial) ?_;trivial
     ·intro a ha
      obtain ⟨id,hid,rfl⟩:=List.mem_map.1 ha;have:=(List.getElem?_eq_some_iff.1 (k9 id hid)).1;exact decide_eq_true (by simp; omega)
     ·have hb2:=hbd (Bm x).length (Nat.le_refl _)
      rw [hit];have hb3:se <= Dp se ((Bm x).take (Bm x).length) /\ Dp se ((Bm x).take (Bm x).length) <= se + 2:=by omega
      clear hbd hb2;generalize Dp se ((Bm x).take (Bm x).length) = sk at *;have hga:=fun v e=>D1 (hh:=hh) e3 v e;have hg0:=fun v e=>FR (hh:=hh) k5 v e;have hs0:=fun v b e=>Hu (hh:=hh) e3 v b e;refine Z4 hga hg0 hs0 hcl ?_;refine Ab.Am ?_;apply Pr.run;intro Ψ52 hΨ52;refine Aa.BS [(0,.free),(1,.free),(2,.read),(3,.read),(4,.free),(5,.read),(6,.read),(7,.free),(8,.free),(9,.free)] mixed (by kernel_rfl) (Z4 hga hg0 hs0 hcl ?_);refine Ao ?_;refine And.intro (by assumption) ?_;refine Ao (Ao ?_);refine AI.go (hta) rfl (Z4 hga hg0 hs0 hcl ?_);exact hΨ52.out;refine Pr.done ?_;refine Ab.seq ?_;refine Ab.Am ?_;apply Pr.run;intro Ψ53 hΨ53;refine Aa.region (Z4 hga hg0 hs0 hcl ?_);refine Bd ?_;exact hΨ53.out;refine Pr.CH (fun g54=>?_) (fun g54=>?_);have d54:=An g54;apply Pr.run;intro Ψ55 hΨ55;refine Z5 hga hg0 hs0 hcl g54 ?_;refine Bd ?_;refine Z5 hga hg0 hs0 hcl g54 ?_;refine Bd ?_;refine Z5 hga hg0 hs0 hcl g54 ?_;refine Bd ?_;refine Z5 hga hg0 hs0 hcl g54 ?_;refine Bd ?_;refine Z5 hga hg0 hs0 hcl g54 ?_;refine Bd ?_;refine Z5 hga hg0 hs0 hcl g54 ?_;exact hΨ55.out;refine Pr.done (Bd ?_);refine Z5 hga hg0 hs0 hcl g54 ?_;refine Ab.Ar rfl ?_;refine Ab.Am ?_;apply Pr.run;intro Ψ56 hΨ56;refine Aa.region (Z5 hga hg0 hs0 hcl g54 ?_);exact hΨ56.out;refine Pr.done ?_;refine Ab.ret (Z5 hga hg0 hs0 hcl g54 ?_)
      first | exact Ph rfl k5 k6 k8 k9 | rotate_left
      have d54:=Aj g54;apply Pr.run;intro Ψ57 hΨ57;refine Z5 hga hg0 hs0 hcl g54 ?_;refine And.intro (by omega) (Bd ?_);refine Z5 hga hg0 hs0 hcl g54 ?_;refine Bd ?_;refine Z5 hga hg0 hs0 hcl g54 ?_;refine Bd ?_;refine Z5 hga hg0 hs0 hcl g54 ?_;exact hΨ57.out;refine Pr.CH (fun g58=>?_) (fun g58=>?_);have d58:=AB g58;apply Pr.run;intro Ψ59 hΨ59;refine Z6 hga hg0 hs0 hcl g54 g58 ?_;refine Bd ?_;refine Z6 hga hg0 hs0 hcl g54 g58 ?_;refine Bd ?_;refine Z6 hga hg0 hs0 hcl g54 g58 ?_;exact hΨ59.out;refine Pr.done (Bd ?_);refine Z6 hga hg0 hs0 hcl g54 g58 ?_;refine Ab.cond rfl (fun g60=>?_) (fun g60=>?_);have d60:=BT g60;refine Ab.Am ?_;apply Pr.run;intro Ψ61 hΨ61;refine Aa.region (Z7 hga hg0 hs0 hcl g54 g58 g60 ?_);exact hΨ61.out;refine Pr.done ?_;refine Ab.ret (Z7 hga hg0 hs0 hcl g54 g58 g60 ?_)
      first | exact Ph rfl k5 k6 k8 k9 | rotate_left
      have d60:=Bt g60;refine Ab.skip (Z7 hga hg0 hs0 hcl g54 g58 g60 ?_);refine Ab.Am ?_;apply Pr.run;intro Ψ62 hΨ62;refine Aa.region (Z7 hga hg0 hs0 hcl g54 g58 g60 ?_);refine Ao ?_;refine And.intro (by assumption) ?_;refine Ao (Ao ?_);exact hΨ62.out;refine Pr.done ?_;refine Ab.Am ?_;apply Pr.run;intro Ψ63 hΨ63;refine Aa.region (Z7 hga hg0 hs0 hcl g54 g58 g60 ?_);exact hΨ63.out;refine Pr.done (Bd ?_);refine Ab.cond rfl (fun g64=>?_) (fun g64=>?_);have d64:=An g64
      (exfalso; omega)
      have d64:=Aj g64;refine Ab.skip (Z8 hga hg0 hs0 hcl g54 g58 g60 g64 ?_);refine Ab.Di ?_;apply Pr.run;intro Ψ65 hΨ65;refine Aa.region (Z8 hga hg0 hs0 hcl g54 g58 g60 g64 ?_);exact hΨ65.out;refine Pr.done (Z8 hga hg0 hs0 hcl g54 g58 g60 g64 ?_);rotate_left;have d58:=Aq g58;apply Pr.run;intro Ψ66 hΨ66;refine Z6 hga hg0 hs0 hcl g54 g58 ?_;refine Bd ?_;refine Z6 hga hg0 hs0 hcl g54 g58 ?_;refine Bd ?_;refine Z6 hga hg0 hs0 hcl g54 g58 ?_;exact hΨ66.out;refine Pr.done (Bd ?_);refine Z6 hga hg0 hs0 hcl g54 g58 ?_;refine Ab.Ax rfl ?_;refine Ab.skip (Z6 hga hg0 hs0 hcl g54 g58 ?_);refine Ab.Am ?_;apply Pr.run;intro Ψ67 hΨ67;refine Aa.region (Z6 hga hg0 hs0 hcl g54 g58 ?_);refine Ao ?_;refine And.intro (by assumption) ?_;refine Ao (Ao ?_);exact hΨ67.out;refine Pr.done ?_;refine Ab.Am ?_;apply Pr.run;intro Ψ68 hΨ68;refine Aa.region (Z6 hga hg0 hs0 hcl g54 g58 ?_);exact hΨ68.out;refine Pr.done (Bd ?_);refine Ab.cond rfl (fun g69=>?_) (fun g69=>?_);have d69:=An g69;refine Ab.Am ?_;apply Pr.run;intro Ψ70 hΨ70;refine Aa.region (Z7 hga hg0 hs0 hcl g54 g58 g69 ?_);exact hΨ70.out;refine Pr.done ?_;refine Ab.ret (Z7 hga hg0 hs0 hcl g54 g58 g69 ?_)
      first | exact Ph rfl k5 k6 k8 k9 | rotate_left
      have d69:=Aj g69;refine Ab.skip (Z7 hga hg0 hs0 hcl g54 g58 g69 ?_);refine Ab.Di ?_;apply Pr.run;intro Ψ71 hΨ71;refine Aa.region (Z7 hga hg0 hs0 hcl g54 g58 g69 ?_);exact hΨ71.out;refine Pr.done (Z7 hga hg0 hs0 hcl g54 g58 g69 ?_);rotate_left
      all_goals simp -implicitDefEqProofs (dsimp:=false) (disch:=omega) only [i64_in]
      all_goals have hnx:=LA (h':=h - n + p) (li':=(if x.a + 1 > li then x.a + 1 else li)) (sk:=sk) hI0 hqi hlt ⟨by omega,by omega⟩ ⟨by split <;> omega,by split <;> omega⟩ ⟨by omega,by omega⟩
      all_goals refine ⟨(i + 1,h - n + p,(if x.a + 1 > li then x.a + 1 else li),sk,Cf hh sk ++ [.dead,.defer,.dead],(hh.length + 1) :: ids),hnx,(by show c.instrs.length - (i + 1) < c.instrs.length - i; omega),(by simp [BB]),⟨rfl,?_,LK k7 sk,rfl,JS k9 sk⟩⟩
      ·refine Z0 ?_
       refine And.intro (by trivial) ?_;trivial
      ·refine Z0 ?_
       refine And.intro (by trivial) ?_;trivial
    ·have hbd:=II (m:=m) hbe
     refine Ab.Ww [34,4,5,0,2,3,6,8,32,33] rfl (OQ x hxc) m (by rw [hit]; exact hm) (fun k=>Cf hh (Dp se ((Bm x).take k)) ++ [.dead]) ((Cf hh (Dp se ((Bm x).take m))).set 0 (.cells [.val (.bool false)]) ++ [.dead]) ?_ (fun k=>by simp [BB]) (by simp [BB]) (fun a ha=>by obtain ⟨z,_,rfl⟩:=List.mem_map.1 ha; rfl) (fun k args fn hkm hk=>?_) (fun args fn hk=>?_) ?_ ?_ ?_ ?_
     ·show _ = Cf hh se ++ [.dead]
      rw [HE k6]
     ·rw [List.getElem?_map,Option.map_eq_some_iff] at hk
      obtain ⟨sv,hsv,rfl⟩:=hk;have hsu:=FM (se:=se) hsv;have hb1:=hbd k (by omega);have hsl:=hbe k sv hkm hsv;have hsg:=hug k sv hsv;have hgt:decide (sv > Dp se ((Bm x).take k)) = false:=decide_eq_false (by omega);have hga:=fun v e=>D1 (hh:=hh) e3 v e;have hse:=fun v w e=>IJ (hh:=hh) e3 v w e;generalize Dp se ((Bm x).take k) = sk at *;refine Aa.region (Z4 hga hse hgt hsu ?_);refine Aa.block ?_;refine Aa.seq ?_;refine Aa.Ad (Z4 hga hse hgt hsu ?_);refine Bd ?_;refine Aa.Ax rfl ?_;refine Aa.skip (Z4 hga hse hgt hsu ?_);refine Aa.region (Z4 hga hse hgt hsu ?_);refine Bd ?_;rotate_left;rw [show (if sv + 1 > sk then sv + 1 else sk) = max sk (sv + 1) by split <;> omega]
     ·rw [List.getElem?_map,Option.map_eq_some_iff] at hk
      obtain ⟨sv,hsv,rfl⟩:=hk;have hgt:decide (sv > Dp se ((Bm x).take m)) = true:=decide_eq_true (hat sv hsv);have hga:=fun v e=>D1 (hh:=hh) e3 v e;have hg0:=fun v e=>FR (hh:=hh) k5 v e;have hs0:=fun v b e=>Hu (hh:=hh) e3 v b e;generalize Dp se ((Bm x).take m) = sk at *;refine Aa.region (Z4 hga hg0 hs0 hgt ?_);refine Aa.block ?_;refine Aa.seq ?_;refine Aa.Ad (Z4 hga hg0 hs0 hgt ?_);refine Bd ?_;refine Aa.Ar rfl ?_;refine Aa.Ad (Z4 hga hg0 hs0 hgt ?_);exact Aa.ret (Z4 hga hg0 hs0 hgt trivial)
     ·intro y hy
      rcases List.mem_append.1 hy with hy | hy
      ·rcases List.mem_or_eq_of_mem_set hy with hy | rfl
       ·exact El k7 _ (by simp; omega) y hy
       ·rfl
      ·simp at hy; subst hy; rfl
     ·refine Z0 ?_
      refine And.intro (by trivial) ?_;trivial
     ·intro a ha
      obtain ⟨id,hid,rfl⟩:=List.mem_map.1 ha;have:=(List.getElem?_eq_some_iff.1 (k9 id hid)).1;exact decide_eq_true (by simp; omega)
     ·refine Z0 ?_
      first | exact Ph rfl k5 k6 k8 k9 | rotate_left
  ·have hfin:decide ((i:Int) < c.instrs.length) = false:=decide_eq_false (by omega)
   refine Ab.Am ?_;apply Pr.run;intro Ψ10 hΨ10;refine Aa.region (Z3 k5 k6 hfin ?_);exact hΨ10.out;refine Pr.done (Z3 k5 k6 hfin ?_);refine Ab.seq (Ab.Ax rfl ?_);refine Ab.exit (Z3 k5 k6 hfin ?_);refine Ab.Am ?_;apply Pr.run;intro Ψ11 hΨ11;refine Aa.BS [(0,.free),(1,.free),(2,.free),(3,.free),(4,.free),(5,.read),(6,.read),(7,.free),(8,.free),(10,.free),(11,.free),(12,.free),(13,.free),(9,.read),(14,.read),(15,.read),(16,.free),(17,.free),(18,.free),(19,.free),(20,.free),(21,.free),(22,.free),(23,.read),(24,.free),(25,.free),(26,.free),(27,.free),(28,.free),(29,.free),(30,.free),(31,.read),(32,.free),(33,.free),(34,.set)] mixed (by kernel_rfl) ?_;refine Az.cut [(0,.free),(1,.free),(2,.free),(3,.free),(4,.free),(5,.read),(6,.read),(7,.free)] [(8,.free),(10,.free),(11,.free),(12,.free),(13,.free),(9,.read),(14,.read),(15,.read),(16,.free),(17,.free),(18,.free),(19,.free),(20,.free),(21,.free),(22,.free),(23,.read),(24,.free),(25,.free),(26,.free),(27,.free),(28,.free),(29,.free),(30,.free),(31,.read),(32,.free),(33,.free),(34,.set)] rfl ?_;refine Z3 k5 k6 hfin ?_;refine Ao (Ao ?_);refine And.intro (by trivial) ?_;refine Au.mk ?_;refine Az.cut [(8,.free),(10,.free),(11,.free),(12,.free),(13,.free),(9,.read),(14,.read),(15,.read)] [(16,.free),(17,.free),(18,.free),(19,.free),(20,.free),(21,.free),(22,.free),(23,.read),(24,.free),(25,.free),(26,.free),(27,.free),(28,.free),(29,.free),(30,.free),(31,.read),(32,.free),(33,.free),(34,.set)] rfl ?_
   refine Z3 k5 k6 hfin ?_;exact hΨ11.out;refine Pr.CH (fun g12=>?_) (fun g12=>?_);have d12:=AB g12;apply Pr.run;intro Ψ13 hΨ13;refine Z4 k5 k6 hfin g12 ?_;refine Ao (Ao ?_);refine And.intro (by trivial) ?_;refine Au.mk ?_;refine Az.cut [(16,.free),(17,.free),(18,.free),(19,.free),(20,.free),(21,.free),(22,.free),(23,.read)] [(24,.free),(25,.free),(26,.free),(27,.free),(28,.free),(29,.free),(30,.free),(31,.read),(32,.free),(33,.free),(34,.set)] rfl (Z4 k5 k6 hfin g12 ?_);exact hΨ13.out;refine Pr.CH (fun g14=>?_) (fun g14=>?_);have d14:=AB g14;apply Pr.run;intro Ψ15 hΨ15;refine Z5 k5 k6 hfin g12 g14 ?_;refine Ao (Ao ?_);refine Au.mk (Z5 k5 k6 hfin g12 g14 ?_);refine AI.go (c162 c.lits hc.lits hc.vl) rfl (Z5 k5 k6 hfin g12 g14 ?_);exact hΨ15.out;refine Pr.CH (fun g16=>?_) (fun g16=>?_);apply Pr.run;intro Ψ17 hΨ17;refine Z6 k5 k6 hfin g12 g14 g16 ?_;refine Ao (Ao ?_);refine AI.go (c156 c.sels (by have:=hc.sels; omega)) rfl (Z6 k5 k6 hfin g12 g14 g16 ?_);exact hΨ17.out;refine Pr.done ?_;refine Ab.ret ?_;exact aag (fun _ k hk=>k10 k (by omega)) rfl k5 k8 k9;apply Pr.run;intro Ψ18 hΨ18;refine Z6 k5 k6 hfin g12 g14 g16 ?_;exact hΨ18.out;refine Pr.done ?_;refine Ab.ret ?_;exact aag (fun _ k hk=>k10 k (by omega)) rfl k5 k8 k9;have d14:=Aq g14;apply Pr.run;intro Ψ19 hΨ19;refine Z5 k5 k6 hfin g12 g14 ?_;refine Au.mk (Z5 k5 k6 hfin g12 g14 ?_);exact hΨ19.out;refine Pr.done ?_;refine Ab.ret ?_;exact aag (fun _ k hk=>k10 k (by omega)) rfl k5 k8 k9
   have d12:=Aq g12;apply Pr.run;intro Ψ20 hΨ20;refine Z4 k5 k6 hfin g12 ?_;refine Au.mk ?_;refine Az.cut [(16,.free),(17,.free),(18,.free),(19,.free),(20,.free),(21,.free),(22,.free),(23,.read)] [(24,.free),(25,.free),(26,.free),(27,.free),(28,.free),(29,.free),(30,.free),(31,.read),(32,.free),(33,.free),(34,.set)] rfl (Z4 k5 k6 hfin g12 ?_);refine Au.mk (Z4 k5 k6 hfin g12 ?_);exact hΨ20.out;refine Pr.done ?_;refine Ab.ret ?_;exact aag (fun _ k hk=>k10 k (by omega)) rfl k5 k8 k9
end
end Go.Proofs.Tryz

namespace Go.Proofs.Tryz
open Go.PM
attribute [local irreducible] BM BP Bq Ci AU AO Az
theorem adI:∃ F:Cd × List Cd × Int -> Bool,∀ x,(FO x.1 /\ x.2.1.length <= 1048576) -> ((F x = true -> ∀ k,k < x.1.instrs.length -> ((x.1.instrs.getD k default).op = 7 -> AH x.2.1.length (x.1.instrs.getD k default).a = true)) /\ Af prog 124 [.cptr (Ke x.1 x.2.1 x.2.2)] (· = .val (.bool (F x)))) :=
 HP (D:=fun x:Cd × List Cd × Int=>FO x.1 /\ x.2.1.length <= 1048576) (Q:=fun x b=>(b = true -> ∀ k,k < x.1.instrs.length -> ((x.1.instrs.getD k default).op = 7 -> AH x.2.1.length (x.1.instrs.getD k default).a = true)) /\ Af prog 124 [.cptr (Ke x.1 x.2.1 x.2.2)] (· = .val (.bool b))) fun x hx=>by
  obtain ⟨v,⟨b,rfl,hb⟩,hc⟩:=ajK x.1 x.2.1 x.2.2 hx.1 hx.2;exact ⟨b,hb,hc⟩
noncomputable def ab5 (c:Cd) (l:List Cd) (a:Int):Bool:=adI.choose (c,l,a)
theorem c124 (c:Cd) (l:List Cd) (a:Int) (hc:FO c) (hl:l.length <= 1048576):Af prog 124 [.cptr (Ke c l a)] (· = .val (.bool (ab5 c l a))):=(adI.choose_spec (c,l,a) ⟨hc,hl⟩).2
theorem K6 {c:Cd} {l:List Cd} {a:Int} (hc:FO c) (hl:l.length <= 1048576) (h:ab5 c l a = true):∀ k,k < c.instrs.length -> ((c.instrs.getD k default).op = 7 -> AH l.length (c.instrs.getD k default).a = true):=(adI.choose_spec (c,l,a) ⟨hc,hl⟩).1 h
structure Sy (l:List Cd):Prop where
 len:l.length <= 800
 head:∀ i,i < l.length -> K4 (l.getD i default) (i:Nat)
theorem Y7 (l:List Int) (n j:Nat) (v:Int):(l.set n v).getD j 0 = if n = j /\ j < l.length then v else l.getD j 0:=by
 simp only [List.getD_eq_getElem?_getD,List.getElem?_set]
 by_cases h1:n = j
 ·by_cases h2:j < l.length
  ·subst h1; simp [h2]
  ·subst h1; simp [h2]
 ·simp [h1]
theorem aee (n:Nat):List.replicate n (AV.val (.int .i64 0)) = is (List.replicate n 0):=by simp [is]
theorem Yd (l:List Int) (n:Nat) (x:Int):(is l).set n (.val (.int .i64 x)) = is (l.set n x):=by simp [is,List.map_set]
section
attribute [local go_sem] Cl SS O0 Cx Fq aee Yd BO ntmps96
theorem e96 (l:List Cd) (h1:l.length <= 1048576) (h2:∀ c ∈ l,FO c):B9 prog 96 [.sl false (LQ l)] (fun v=>∃ e:Int,v = .val (.int .i64 e) /\ (e = 0 -> Sy l) /\ (l = [] -> e = 0)):=by
 have hcd:∀ i,i < l.length -> FO (l.getD i default):=fun i hi=>h2 _ (Bs hi);refine B9.of (DX.intro (fun R=>R) (fun _ h=>h) func96 (by decide) rfl ?_);refine Bj ?_;refine Ab.Am ?_;apply Pr.run;intro Ψ3 hΨ3;refine Aa.region (Z0 ?_);exact hΨ3.out;refine Pr.done ?_;refine Ab.seq ?_;refine Ab.Am ?_;apply Pr.run;intro Ψ4 hΨ4;refine Aa.region (Z0 ?_);exact hΨ4.out;refine Pr.done ?_;refine Ab.cond rfl (fun g5=>?_) (fun g5=>?_);have d5:=An g5;refine Ab.Am ?_;apply Pr.run;intro Ψ6 hΨ6;refine Aa.region (Z1 g5 ?_);exact hΨ6.out;refine Pr.done ?_;refine Ab.ret (Z1 g5 ?_);apply AP.i;intro Ψ7 hΨ7;refine Z1 g5 ?_;exact hΨ7.out;refine ⟨_,rfl,rfl,?_⟩;rotate_left;have d5:=Aj g5;refine Ab.skip (Z1 g5 ?_);refine Ab.Am ?_;apply Pr.run;intro Ψ8 hΨ8;refine Aa.region (Z1 g5 ?_);refine Ao (Ao (Ao ?_));exact hΨ8.out;refine Pr.done ?_;refine Ab.seq ?_;refine Ab.Am ?_;apply Pr.run;intro Ψ9 hΨ9;refine Aa.region (Z1 g5 ?_);exact hΨ9.out;refine Pr.done ?_;refine Ab.block ?_;refine Ab.A0 (fun x:Nat × List Int=>[(19,.val (.int .i64 (x.1:Nat)))]) [18,17,3,0] (fun x:Nat × List Int=>[.row true 0 1 (is x.2)]) (fun x:Nat × List Int=>x.1 <= l.length /\ x.2.length = l.length /\ (∀ j,j < l.length -> 0 <= x.2.getD j 0 /\ x.2.getD j 0 <= 1048576 * (x.1:Int)) /\ (∀ j,j < x.1 -> K4 (l.getD j default) (j:Nat))) (fun x:Nat × List Int=>l.length - x.1) ((0,List.replicate l.length 0)) ?_ rfl ?_ ?_;refine Z1 g5 ?_;rotate_left;refine ⟨rfl,?_,?_,rfl,?_⟩;refine Mr g5 ?_;trivial;exact Mr g5 trivial
 exact Mr g5 trivial;rintro ⟨i,ms⟩ ⟨k1,k2,k3,k4⟩;simp only at k1 k2 k3 k4;refine Z1 g5 ?_;refine Ab.Am ?_;apply Pr.run;intro Ψ10 hΨ10;refine Aa.region (Z1 g5 ?_);exact hΨ10.out;refine Pr.done ?_;refine Ab.seq (Ab.cond rfl (fun g11=>?_) (fun g11=>?_));have d11:=An g11;refine Ab.skip (Z2 g5 g11 ?_);refine Ab.seq (Ab.block ?_);refine Ab.Am ?_;apply Pr.run;intro Ψ12 hΨ12;refine Aa.region (Z2 g5 g11 ?_);refine Ao ?_;refine And.intro (by assumption) ?_;simp -implicitDefEqProofs (dsimp:=false) (disch:=omega) only [i64_in,gd];refine Z2 g5 g11 ?_;exact hΨ12.out;refine Pr.done ?_;refine Ab.seq ?_;refine Ab.Am ?_;apply Pr.run;intro Ψ13 hΨ13;refine Aa.region (Z2 g5 g11 ?_);exact hΨ13.out;refine Pr.done ?_;refine Ab.Am ?_;apply Pr.run;intro Ψ14 hΨ14;refine Aa.freeze 6 (Z2 g5 g11 ?_);refine Aa.region (Z2 g5 g11 ?_);refine Af.eq (ajt (l.getD i default) l _ (hcd i (by omega)) h1) rfl (Z2 g5 g11 ?_);exact hΨ14.out;refine Pr.CH (fun g16=>?_) (fun g16=>?_);apply Pr.run;intro Ψ17 hΨ17;refine Z3 g5 g11 g16 ?_;exact hΨ17.out;refine Pr.done ?_;refine Ab.Ar rfl ?_;refine Ab.Am ?_;apply Pr.run;intro Ψ18 hΨ18;refine Aa.region (Z3 g5 g11 g16 ?_);exact hΨ18.out;refine Pr.done ?_;refine Ab.ret (Z3 g5 g11 g16 ?_);apply AP.i;intro Ψ19 hΨ19;refine Z3 g5 g11 g16 ?_;exact hΨ19.out;refine ⟨_,rfl,rfl,?_⟩;rotate_left;apply Pr.run;intro Ψ20 hΨ20;refine Z3 g5 g11 g16 ?_;refine Af.eq (c124 (l.getD i default) l _ (hcd i (by omega)) h1) rfl (Z3 g5 g11 g16 ?_);exact hΨ20.out;refine Pr.done ?_;refine Ab.cond rfl (fun g22=>?_) (fun g22=>?_)
 refine Ab.Am ?_;apply Pr.run;intro Ψ23 hΨ23;refine Aa.region (Z4 g5 g11 g16 g22 ?_);exact hΨ23.out;refine Pr.done ?_;refine Ab.ret (Z4 g5 g11 g16 g22 ?_);apply AP.i;intro Ψ24 hΨ24;refine Z4 g5 g11 g16 g22 ?_;exact hΨ24.out;refine ⟨_,rfl,rfl,?_⟩;rotate_left;refine Ab.skip (Z4 g5 g11 g16 g22 ?_);refine Ab.Am ?_;apply Pr.run;intro Ψ25 hΨ25;refine Aa.region (Z4 g5 g11 g16 g22 ?_);refine Ao ?_;exact hΨ25.out;refine Pr.done ?_;refine Ab.block ?_;refine Ab.A0 (fun y:Nat × List Int=>[(40,.val (.int .i64 (y.1:Nat)))]) [39,38,19,18,17,3,0] (fun y:Nat × List Int=>[.row true 0 1 (is y.2),.cells (O0 (l.getD i default)),.dead]) (fun y:Nat × List Int=>y.1 <= (l.getD i default).instrs.length /\ y.2.length = l.length /\ (∀ j,j < l.length -> 0 <= y.2.getD j 0 /\ y.2.getD j 0 <= 1048576 * (i:Int) + (y.1:Nat))) (fun y:Nat × List Int=>(l.getD i default).instrs.length - y.1) ((0,ms)) ?_ rfl ?_ ?_;refine Z4 g5 g11 g16 g22 ?_;rotate_left;refine ⟨rfl,?_,?_,rfl,?_⟩;refine Mv g5 g11 g16 g22 ?_;trivial;exact Mv g5 g11 g16 g22 trivial;exact Mv g5 g11 g16 g22 trivial;rintro ⟨k,ms2⟩ ⟨j1,j2,j3⟩;simp only at j1 j2 j3;refine Z4 g5 g11 g16 g22 ?_;refine Ab.Am ?_;apply Pr.run;intro Ψ26 hΨ26;refine Aa.region (Z4 g5 g11 g16 g22 ?_);exact hΨ26.out;refine Pr.done ?_;refine Ab.seq (Ab.cond rfl (fun g27=>?_) (fun g27=>?_));have d27:=An g27;refine Ab.skip (Z5 g5 g11 g16 g22 g27 ?_);refine Ab.seq (Ab.block ?_);refine Ab.Am ?_;apply Pr.run;intro Ψ28 hΨ28;refine Aa.region (Z5 g5 g11 g16 g22 g27 ?_)
 refine Ao ?_;refine And.intro (by assumption) ?_;simp -implicitDefEqProofs (dsimp:=false) (disch:=omega) only [i64_in,gd];refine Z5 g5 g11 g16 g22 g27 ?_;exact hΨ28.out;refine Pr.done ?_;refine Ab.Am ?_;apply Pr.run;intro Ψ29 hΨ29;refine Aa.region (Z5 g5 g11 g16 g22 g27 ?_);refine Ao ?_;exact hΨ29.out;refine Pr.done ?_;refine Ab.cond rfl (fun g30=>?_) (fun g30=>?_);have d30:=AB g30;refine Ab.Di ?_;apply Pr.run;intro Ψ31 hΨ31;have hx7:=ER (K6 (hcd i (by omega)) h1 (by simpa using g22) k (by omega) (AB g30));refine Z6 g5 g11 g16 g22 g27 g30 ?_;have hj:=j3 ((l.getD i default).instrs.getD k default).a.toNat (by omega);refine Aa.region (Z6 g5 g11 g16 g22 g27 g30 ?_);refine Ao (Ao (Ao (Ao (Ao ?_))));simp -implicitDefEqProofs (dsimp:=false) (disch:=omega) only [i64_in,gd];refine Z6 g5 g11 g16 g22 g27 g30 ?_;refine Ao (Ao (Ao (Ao ?_)));exact hΨ31.out;refine Pr.done (Z6 g5 g11 g16 g22 g27 g30 ?_);refine Ab.Di ?_;apply Pr.run;intro Ψ32 hΨ32;refine Aa.region (Z6 g5 g11 g16 g22 g27 g30 ?_);exact hΨ32.out;refine Pr.done (Z6 g5 g11 g16 g22 g27 g30 ?_);refine ⟨(k + 1,if (((l.getD i default).instrs.getD k default).op == 7) = true then ms2.set ((l.getD i default).instrs.getD k default).a.toNat (ms2.getD ((l.getD i default).instrs.getD k default).a.toNat 0 + 1) else ms2),?_⟩;constructor;constructor;omega;constructor;simp -implicitDefEqProofs (dsimp:=false) only [go_sem,simprocAttr,g5,g11,g16,g22,g27,g30,Nat.le_refl,List.length_cons,List.length_append,List.length_nil]
 rotate_left;simp -implicitDefEqProofs (dsimp:=false) only [go_sem,simprocAttr,g5,g11,g16,g22,g27,g30,Nat.le_refl,List.length_cons,List.length_append,List.length_nil];rotate_left;constructor;omega;refine ⟨rfl,?_,?_,rfl,?_⟩;refine JB g5 g11 g16 g22 g27 g30 ?_;constructor;rotate_left;trivial;refine JB g5 g11 g16 g22 g27 g30 ?_;rotate_left;exact JB g5 g11 g16 g22 g27 g30 trivial;have d30:=Aq g30;refine Ab.skip (Z6 g5 g11 g16 g22 g27 g30 ?_);refine Ab.Di ?_;apply Pr.run;intro Ψ33 hΨ33;refine Aa.region (Z6 g5 g11 g16 g22 g27 g30 ?_);exact hΨ33.out;refine Pr.done (Z6 g5 g11 g16 g22 g27 g30 ?_);refine ⟨(k + 1,if (((l.getD i default).instrs.getD k default).op == 7) = true then ms2.set ((l.getD i default).instrs.getD k default).a.toNat (ms2.getD ((l.getD i default).instrs.getD k default).a.toNat 0 + 1) else ms2),?_⟩;constructor;constructor;omega;constructor;simp -implicitDefEqProofs (dsimp:=false) only [go_sem,simprocAttr,g5,g11,g16,g22,g27,g30,Nat.le_refl,List.length_cons,List.length_append,List.length_nil]
 assumption
 simp -implicitDefEqProofs (dsimp:=false) only [go_sem,simprocAttr,g5,g11,g16,g22,g27,g30,Nat.le_refl,List.length_cons,List.length_append,List.length_nil];rotate_left;constructor;omega;refine ⟨rfl,?_,?_,rfl,?_⟩;refine JB g5 g11 g16 g22 g27 g30 ?_;constructor;rotate_left;trivial;exact JB g5 g11 g16 g22 g27 g30 trivial;exact JB g5 g11 g16 g22 g27 g30 trivial;have d27:=Aj g27;refine Ab.exit (Z5 g5 g11 g16 g22 g27 ?_);refine Ab.Di ?_;apply Pr.run;intro Ψ34 hΨ34;refine Aa.region (Z5 g5 g11 g16 g22 g27 ?_);exact hΨ34.out;refine Pr.done (Z5 g5 g11 g16 g22 g27 ?_);refine Bd ?_;refine ⟨(i + 1,ms2),?_⟩;constructor;constructor;omega;constructor
 assumption
 constructor;simp -implicitDefEqProofs (dsimp:=false) only [go_sem,simprocAttr,g5,g11,g16,g22,g27,Nat.le_refl,List.length_cons,List.length_append,List.length_nil];rotate_left;simp -implicitDefEqProofs (dsimp:=false) only [go_sem,simprocAttr,g5,g11,g16,g22,g27,Nat.le_refl,List.length_cons,List.length_append,List.length_nil];rotate_left;constructor;omega;refine ⟨rfl,?_,?_,rfl,?_⟩;refine GO g5 g11 g16 g22 g27 ?_;trivial;exact GO g5 g11 g16 g22 g27 trivial;exact GO g5 g11 g16 g22 g27 trivial;have d11:=Aj g11;refine Ab.exit (Z2 g5 g11 ?_);refine Ab.seq ?_;refine Ab.Am ?_;apply Pr.run;intro Ψ35 hΨ35;refine Aa.region (Z2 g5 g11 ?_);exact hΨ35.out;refine Pr.done ?_;refine Ab.block ?_;refine Ab.A0 (fun q:Nat=>[(58,.val (.int .i64 (q:Nat)))]) [57,56,19,18,17,3,0] (fun _=>_) (fun q:Nat=>q <= l.length) (fun q:Nat=>l.length - q) (0) ?_ rfl ?_ ?_;omega;refine ⟨rfl,?_,?_,rfl,?_⟩;refine Cv g5 g11 ?_;trivial;exact Cv g5 g11 trivial;exact Cv g5 g11 trivial;rintro q k5;refine Z2 g5 g11 ?_;refine Ab.Am ?_;apply Pr.run;intro Ψ36 hΨ36;refine Aa.region (Z2 g5 g11 ?_);exact hΨ36.out;refine Pr.done ?_;refine Ab.seq (Ab.cond rfl (fun g37=>?_) (fun g37=>?_));have d37:=An g37;refine Ab.skip (Z3 g5 g11 g37 ?_);refine Ab.seq (Ab.block ?_);refine Ab.Am ?_;apply Pr.run;intro Ψ38 hΨ38;refine Aa.region (Z3 g5 g11 g37 ?_);refine Ao ?_;refine And.intro (by assumption) ?_;simp -implicitDefEqProofs (dsimp:=false) (disch:=omega) only [i64_in,gd];refine Z3 g5 g11 g37 ?_
 exact hΨ38.out;refine Pr.done ?_;refine Ab.Am ?_;apply Pr.run;intro Ψ39 hΨ39;refine Aa.region (Z3 g5 g11 g37 ?_);refine Ao ?_;exact hΨ39.out;refine Pr.CH (fun g40=>?_) (fun g40=>?_);apply Pr.run;intro Ψ41 hΨ41;refine Z4 g5 g11 g37 g40 ?_;refine Ao ?_;refine And.intro (by assumption) ?_;refine Ao (Ao ?_);simp -implicitDefEqProofs (dsimp:=false) (disch:=omega) only [i64_in,gd];refine Z4 g5 g11 g37 g40 ?_;exact hΨ41.out;refine Pr.done ?_;refine Ab.cond rfl (fun g42=>?_) (fun g42=>?_);have d42:=BT g42;refine Ab.Am ?_;apply Pr.run;intro Ψ43 hΨ43;refine Aa.region (Z5 g5 g11 g37 g40 g42 ?_);exact hΨ43.out;refine Pr.done ?_;refine Ab.ret (Z5 g5 g11 g37 g40 g42 ?_);apply AP.i;intro Ψ44 hΨ44;refine Z5 g5 g11 g37 g40 g42 ?_;exact hΨ44.out;refine ⟨_,rfl,rfl,?_⟩;rotate_left;have d42:=Bt g42;refine Ab.skip (Z5 g5 g11 g37 g40 g42 ?_);refine Ab.Di ?_;apply Pr.run;intro Ψ45 hΨ45;refine Aa.region (Z5 g5 g11 g37 g40 g42 ?_);exact hΨ45.out;refine Pr.done (Z5 g5 g11 g37 g40 g42 ?_);refine Bd ?_;refine ⟨q + 1,?_⟩;constructor;omega;constructor;omega;refine ⟨rfl,?_,?_,rfl,?_⟩;refine GO g5 g11 g37 g40 g42 ?_;trivial;exact GO g5 g11 g37 g40 g42 trivial;exact GO g5 g11 g37 g40 g42 trivial;apply Pr.run;intro Ψ46 hΨ46;refine Z4 g5 g11 g37 g40 ?_;exact hΨ46.out;refine Pr.done ?_;refine Ab.Ax rfl ?_;refine Ab.skip (Z4 g5 g11 g37 g40 ?_);refine Ab.Di ?_;apply Pr.run;intro Ψ47 hΨ47;refine Aa.region (Z4 g5 g11 g37 g40 ?_);exact hΨ47.out;refine Pr.done (Z4 g5 g11 g37 g40 ?_);refine Bd ?_
 refine ⟨q + 1,?_⟩;constructor;omega;constructor;omega;refine ⟨rfl,?_,?_,rfl,?_⟩;refine Mv g5 g11 g37 g40 ?_;trivial;exact Mv g5 g11 g37 g40 trivial;exact Mv g5 g11 g37 g40 trivial;have d37:=Aj g37;refine Ab.exit (Z3 g5 g11 g37 ?_);refine Ab.Am ?_;apply Pr.run;intro Ψ48 hΨ48;refine Aa.region (Z3 g5 g11 g37 ?_);exact hΨ48.out;refine Pr.done ?_;refine Ab.ret ?_;apply AP.i;intro Ψ49 hΨ49;refine Z3 g5 g11 g37 ?_;exact hΨ49.out;refine ⟨_,rfl,rfl,?_⟩;rotate_left
 ·exact ⟨2,rfl,fun h=>absurd h (by omega),fun h=>by have hl0:l.length = 0:=(by rw [h]; rfl); omega⟩
 ·exact ⟨Nat.zero_le _,by simp,fun j hj=>by simp [List.getD_eq_getElem?_getD,hj],fun j hj=>absurd hj (Nat.not_lt_zero j)⟩
 ·have hi:=of_decide_eq_true g11
  exact ⟨40,rfl,fun h=>absurd h (by omega),fun h=>by have hl0:l.length = 0:=(by rw [h]; rfl); omega⟩
 ·have hi:=of_decide_eq_true g11
  exact ⟨40,rfl,fun h=>absurd h (by omega),fun h=>by have hl0:l.length = 0:=(by rw [h]; rfl); omega⟩
 ·exact ⟨Nat.zero_le _,k2,fun j hj=>⟨(k3 j hj).1,by have:=(k3 j hj).2; omega⟩⟩
 ·rw [List.length_set]; exact j2
 ·have hi:=of_decide_eq_true g11
  have hk:=of_decide_eq_true g27;have hci:=(hcd i (by omega)).instrs;have hx7:=ER (K6 (hcd i (by omega)) h1 (by simpa using g22) k (by omega) (AB g30));have h9:=j3 ((l.getD i default).instrs.getD k default).a.toNat (by omega);intro j hj;have h0:=j3 j hj;rw [Y7]
  split
  ·omega
  ·omega
 ·have hi:=of_decide_eq_true g11
  have hci:=(hcd i (by omega)).instrs;rw [i64_in (by omega) (by omega)]
 ·have hi:=of_decide_eq_true g11
  have hk:=of_decide_eq_true g27;have hci:=(hcd i (by omega)).instrs;have hx7:=ER (K6 (hcd i (by omega)) h1 (by simpa using g22) k (by omega) (AB g30));have h9:=j3 ((l.getD i default).instrs.getD k default).a.toNat (by omega);rw [i64_in (by omega) (by omega)]
  show _ = Ah.row true 0 1 ((is ms2).set _ (AV.val _))
  rw [Yd]
 ·intro j hj
  have h0:=j3 j hj;omega
 ·have hi:=of_decide_eq_true g11
  have hci:=(hcd i (by omega)).instrs;rw [i64_in (by omega) (by omega)]
 ·have hi:=of_decide_eq_true g11
  have hci:=(hcd i (by omega)).instrs;intro j hj;have h0:=j3 j hj;omega
 ·have hi:=of_decide_eq_true g11
  intro j hj
  rcases Nat.lt_or_eq_of_le (Nat.le_of_lt_succ hj) with h | h
  ·exact k4 j h
  ·rw [h]; exact aaB (hcd i (by omega)) h1 (by simpa using g16)
 ·have hi:=of_decide_eq_true g37
  exact ⟨40,rfl,fun h=>absurd h (by omega),fun h=>by have hl0:l.length = 0:=(by rw [h]; rfl); omega⟩
 ·have e1:=of_decide_eq_false g5
  have e2:=of_decide_eq_false g11;exact ⟨0,rfl,fun _=>⟨by omega,fun j hj=>k4 j (by omega)⟩,fun _=>rfl⟩
end
theorem x96:∃ F:List Cd -> Int,∀ l,(l.length <= 1048576 /\ ∀ c ∈ l,FO c) -> ((F l = 0 -> Sy l) /\ (l = [] -> F l = 0) /\ Af prog 96 [.sl false (LQ l)] (· = .val (.int .i64 (F l)))) :=
 HP (D:=fun l:List Cd=>l.length <= 1048576 /\ ∀ c ∈ l,FO c) (Q:=fun l e=>(e = 0 -> Sy l) /\ (l = [] -> e = 0) /\ Af prog 96 [.sl false (LQ l)] (· = .val (.int .i64 e))) fun l hl=>by
  obtain ⟨v,⟨e,rfl,h1,h2⟩,hc⟩:=e96 l hl.1 hl.2;exact ⟨e,h1,h2,hc⟩
noncomputable def Se:List Cd -> Int:=x96.choose
theorem c96 (l:List Cd) (h1:l.length <= 1048576) (h2:∀ c ∈ l,FO c):Af prog 96 [.sl false (LQ l)] (· = .val (.int .i64 (Se l))):=(x96.choose_spec l ⟨h1,h2⟩).2.2
theorem Rz:Se [] = 0:=(x96.choose_spec [] ⟨by simp,by simp⟩).2.1 rfl
end Go.Proofs.Tryz

namespace Go.Proofs.Tryz
open Go.PM
attribute [local irreducible] BM BP Bq Ci AU AO Az
structure Cw (w:Wd):Prop where
 lo:w.objs.length <= 1048576
 la:w.acts.length <= 1048576
 lc:w.codes.length <= 1048576
 OZ:∀ o ∈ w.objs,KV o
 Od:∀ a ∈ w.acts,UN a
 LQ:∀ c ∈ w.codes,FO c
 no:Cn w.nobj
 na:Cn w.nact
structure B6 (w:Wd):Prop where
 lo:w.objs.length <= 3000
 la:w.acts.length <= 4000
 no:NX (w.objs.map (·.oid)) w.nobj = true
 na:NX (w.acts.map (·.aid)) w.nact = true
 codes:Se w.codes = 0
 roots:∀ n:Int,1 <= n -> n <= 10 -> (Bi w n).isSome = true
 lits:∀ i,i < w.codes.length -> Ls w (w.codes.getD i default).lits = true /\ Ls w (w.codes.getD i default).init = true
 acts:(w.acts.any fun a=>!V0 w a) = false
 objs:(w.objs.any fun o=>!NS w o) = false
theorem Zd (w:Wd) (n:Int) (K:Bool -> Prop):F1 prog 153 (Vh w n) (.pointer none) K = K (!(Bi w n).isSome):=by
 unfold Vh
 cases Bi w n <;> simp only [F1,underlying153] <;> rfl
section
attribute [local go_sem] DI D9 En Cl Zd SS O0 ntmps52
theorem e52 (w:Wd) (hw:Cw w):B9 prog 52 [DI w] (fun v=>∃ b:Bool,v = .val (.bool b) /\ (b = true ↔ B6 w)):=by
 have hN:∀ (_:¬ B6 w),∃ b:Bool,AV.val (.bool false) = .val (.bool b) /\ (b = true ↔ B6 w):=fun h=>⟨false,rfl,by simp [h]⟩
 have h1:=hw.lo;have h2:=hw.la;have h3:=hw.lc;have hcd:∀ i,i < w.codes.length -> FO (w.codes.getD i default):=fun i hi=>hw.LQ _ (Bs hi);refine B9.of (DX.intro (fun R=>R) (fun _ h=>h) func52 (by decide) rfl ?_);refine Bj ?_;refine Ab.Am ?_;apply Pr.run;intro Ψ4 hΨ4;refine Aa.region (Z0 ?_);exact hΨ4.out;refine Pr.done ?_;refine Ab.seq ?_;refine Ab.Am ?_;apply Pr.run;intro Ψ5 hΨ5;refine Aa.BS [(0,.read),(1,.free),(2,.free),(3,.free),(4,.read),(5,.read),(6,.free),(7,.free),(8,.read),(9,.free),(10,.free),(11,.free),(12,.read),(13,.read),(14,.free),(15,.free),(16,.free),(17,.read),(18,.free),(19,.free),(20,.free),(21,.read),(22,.read),(23,.free),(24,.free),(25,.free),(26,.read),(27,.free),(28,.free),(29,.free),(30,.free),(31,.read),(32,.free),(33,.free),(34,.free),(35,.read),(36,.read),(37,.free),(38,.free),(39,.free),(40,.read),(41,.free),(42,.free),(43,.free),(44,.free),(45,.read),(46,.free),(47,.free),(48,.free),(49,.read),(50,.free),(51,.free),(52,.free)] mixed (by kernel_rfl) ?_;refine Az.cut [(0,.read),(1,.free),(2,.free),(3,.free),(4,.read),(5,.read),(6,.free),(7,.free)] [(8,.read),(9,.free),(10,.free),(11,.free),(12,.read),(13,.read),(14,.free),(15,.free),(16,.free),(17,.read),(18,.free),(19,.free),(20,.free),(21,.read),(22,.read),(23,.free),(24,.free),(25,.free),(26,.read),(27,.free),(28,.free),(29,.free),(30,.free),(31,.read),(32,.free),(33,.free),(34,.free),(35,.read),(36,.read),(37,.free),(38,.free),(39,.free),(40,.read),(41,.free),(42,.free),(43,.free),(44,.free),(45,.read),(46,.free),(47,.free),(48,.free),(49,.read),(50,.free),(51,.free),(52,.free)] rfl ?_
 refine Z0 ?_;refine Ao (Ao ?_);refine And.intro (by trivial) ?_;refine Au.mk ?_;refine Az.cut [(8,.read),(9,.free),(10,.free),(11,.free),(12,.read),(13,.read),(14,.free),(15,.free)] [(16,.free),(17,.read),(18,.free),(19,.free),(20,.free),(21,.read),(22,.read),(23,.free),(24,.free),(25,.free),(26,.read),(27,.free),(28,.free),(29,.free),(30,.free),(31,.read),(32,.free),(33,.free),(34,.free),(35,.read),(36,.read),(37,.free),(38,.free),(39,.free),(40,.read),(41,.free),(42,.free),(43,.free),(44,.free),(45,.read),(46,.free),(47,.free),(48,.free),(49,.read),(50,.free),(51,.free),(52,.free)] rfl ?_;refine Z0 ?_;exact hΨ5.out;refine Pr.CH (fun g6=>?_) (fun g6=>?_);have d6:=An g6;apply Pr.run;intro Ψ7 hΨ7;refine Z1 g6 ?_;refine Au.mk ?_;refine Az.cut [(16,.free),(17,.read),(18,.free),(19,.free),(20,.free),(21,.read),(22,.read),(23,.free)] [(24,.free),(25,.free),(26,.read),(27,.free),(28,.free),(29,.free),(30,.free),(31,.read),(32,.free),(33,.free),(34,.free),(35,.read),(36,.read),(37,.free),(38,.free),(39,.free),(40,.read),(41,.free),(42,.free),(43,.free),(44,.free),(45,.read),(46,.free),(47,.free),(48,.free),(49,.read),(50,.free),(51,.free),(52,.free)] rfl ?_;refine Z1 g6 ?_;refine Au.mk ?_;refine Az.cut [(24,.free),(25,.free),(26,.read),(27,.free),(28,.free),(29,.free),(30,.free),(31,.read)] [(32,.free),(33,.free),(34,.free),(35,.read),(36,.read),(37,.free),(38,.free),(39,.free),(40,.read),(41,.free),(42,.free),(43,.free),(44,.free),(45,.read),(46,.free),(47,.free),(48,.free),(49,.read),(50,.free),(51,.free),(52,.free)] rfl ?_
 refine Z1 g6 ?_;refine Au.mk ?_;refine Az.cut [(32,.free),(33,.free),(34,.free),(35,.read),(36,.read),(37,.free),(38,.free),(39,.free)] [(40,.read),(41,.free),(42,.free),(43,.free),(44,.free),(45,.read),(46,.free),(47,.free),(48,.free),(49,.read),(50,.free),(51,.free),(52,.free)] rfl (Z1 g6 ?_);refine Au.mk ?_;refine Az.cut [(40,.read),(41,.free),(42,.free),(43,.free),(44,.free),(45,.read),(46,.free),(47,.free)] [(48,.free),(49,.read),(50,.free),(51,.free),(52,.free)] rfl (Z1 g6 ?_);refine Au.mk (Z1 g6 ?_);exact hΨ7.out;refine Pr.done ?_;refine Ab.Ar rfl ?_;refine Ab.Am ?_;apply Pr.run;intro Ψ8 hΨ8;refine Aa.region (Z1 g6 ?_);exact hΨ8.out;refine Pr.done ?_;refine Ab.ret (Z1 g6 ?_);apply AP.i;intro Ψ9 hΨ9;refine Z1 g6 ?_;exact hΨ9.out;refine ⟨_,rfl,rfl,?_⟩;rotate_left;have d6:=Aj g6;apply Pr.run;intro Ψ10 hΨ10;refine Z1 g6 ?_;refine Ao (Ao ?_);refine And.intro (by trivial) ?_;refine Au.mk ?_;refine Az.cut [(16,.free),(17,.read),(18,.free),(19,.free),(20,.free),(21,.read),(22,.read),(23,.free)] [(24,.free),(25,.free),(26,.read),(27,.free),(28,.free),(29,.free),(30,.free),(31,.read),(32,.free),(33,.free),(34,.free),(35,.read),(36,.read),(37,.free),(38,.free),(39,.free),(40,.read),(41,.free),(42,.free),(43,.free),(44,.free),(45,.read),(46,.free),(47,.free),(48,.free),(49,.read),(50,.free),(51,.free),(52,.free)] rfl ?_;refine Z1 g6 ?_;exact hΨ10.out
 refine Pr.CH (fun g11=>?_) (fun g11=>?_);have d11:=An g11;apply Pr.run;intro Ψ12 hΨ12;refine Z2 g6 g11 ?_;refine Au.mk ?_;refine Az.cut [(24,.free),(25,.free),(26,.read),(27,.free),(28,.free),(29,.free),(30,.free),(31,.read)] [(32,.free),(33,.free),(34,.free),(35,.read),(36,.read),(37,.free),(38,.free),(39,.free),(40,.read),(41,.free),(42,.free),(43,.free),(44,.free),(45,.read),(46,.free),(47,.free),(48,.free),(49,.read),(50,.free),(51,.free),(52,.free)] rfl ?_;refine Z2 g6 g11 ?_;refine Au.mk ?_;refine Az.cut [(32,.free),(33,.free),(34,.free),(35,.read),(36,.read),(37,.free),(38,.free),(39,.free)] [(40,.read),(41,.free),(42,.free),(43,.free),(44,.free),(45,.read),(46,.free),(47,.free),(48,.free),(49,.read),(50,.free),(51,.free),(52,.free)] rfl (Z2 g6 g11 ?_);refine Au.mk ?_;refine Az.cut [(40,.read),(41,.free),(42,.free),(43,.free),(44,.free),(45,.read),(46,.free),(47,.free)] [(48,.free),(49,.read),(50,.free),(51,.free),(52,.free)] rfl (Z2 g6 g11 ?_);refine Au.mk (Z2 g6 g11 ?_);exact hΨ12.out;refine Pr.done ?_;refine Ab.Ar rfl ?_;refine Ab.Am ?_;apply Pr.run;intro Ψ13 hΨ13;refine Aa.region (Z2 g6 g11 ?_);exact hΨ13.out;refine Pr.done ?_;refine Ab.ret (Z2 g6 g11 ?_);apply AP.i;intro Ψ14 hΨ14;refine Z2 g6 g11 ?_;exact hΨ14.out;refine ⟨_,rfl,rfl,?_⟩;rotate_left;have d11:=Aj g11;apply Pr.run;intro Ψ15 hΨ15;refine Z2 g6 g11 ?_;refine Ao (Ao ?_);refine Au.mk ?_
 refine Az.cut [(24,.free),(25,.free),(26,.read),(27,.free),(28,.free),(29,.free),(30,.free),(31,.read)] [(32,.free),(33,.free),(34,.free),(35,.read),(36,.read),(37,.free),(38,.free),(39,.free),(40,.read),(41,.free),(42,.free),(43,.free),(44,.free),(45,.read),(46,.free),(47,.free),(48,.free),(49,.read),(50,.free),(51,.free),(52,.free)] rfl ?_;refine Z2 g6 g11 ?_;refine Ao (Ao ?_);refine AI.go (c92 w.objs w.nobj (by omega)) rfl (Z2 g6 g11 ?_);exact hΨ15.out;refine Pr.CH (fun g16=>?_) (fun g16=>?_);apply Pr.run;intro Ψ17 hΨ17;refine Z3 g6 g11 g16 ?_;refine Au.mk ?_;refine Az.cut [(32,.free),(33,.free),(34,.free),(35,.read),(36,.read),(37,.free),(38,.free),(39,.free)] [(40,.read),(41,.free),(42,.free),(43,.free),(44,.free),(45,.read),(46,.free),(47,.free),(48,.free),(49,.read),(50,.free),(51,.free),(52,.free)] rfl (Z3 g6 g11 g16 ?_);refine Au.mk ?_;refine Az.cut [(40,.read),(41,.free),(42,.free),(43,.free),(44,.free),(45,.read),(46,.free),(47,.free)] [(48,.free),(49,.read),(50,.free),(51,.free),(52,.free)] rfl (Z3 g6 g11 g16 ?_);refine Au.mk (Z3 g6 g11 g16 ?_);exact hΨ17.out;refine Pr.done ?_;refine Ab.Ar rfl ?_;refine Ab.Am ?_;apply Pr.run;intro Ψ18 hΨ18;refine Aa.region (Z3 g6 g11 g16 ?_);exact hΨ18.out;refine Pr.done ?_;refine Ab.ret (Z3 g6 g11 g16 ?_);apply AP.i;intro Ψ19 hΨ19;refine Z3 g6 g11 g16 ?_;exact hΨ19.out;refine ⟨_,rfl,rfl,?_⟩;rotate_left;apply Pr.run
 intro Ψ20 hΨ20;refine Z3 g6 g11 g16 ?_;refine Au.mk ?_;refine Az.cut [(32,.free),(33,.free),(34,.free),(35,.read),(36,.read),(37,.free),(38,.free),(39,.free)] [(40,.read),(41,.free),(42,.free),(43,.free),(44,.free),(45,.read),(46,.free),(47,.free),(48,.free),(49,.read),(50,.free),(51,.free),(52,.free)] rfl (Z3 g6 g11 g16 ?_);refine Ao (Ao (Ao (Ao ?_)));refine Au.mk ?_;refine Az.cut [(40,.read),(41,.free),(42,.free),(43,.free),(44,.free),(45,.read),(46,.free),(47,.free)] [(48,.free),(49,.read),(50,.free),(51,.free),(52,.free)] rfl (Z3 g6 g11 g16 ?_);refine AI.go (c94 w.acts w.nact (by omega)) rfl (Z3 g6 g11 g16 ?_);exact hΨ20.out;refine Pr.CH (fun g21=>?_) (fun g21=>?_);apply Pr.run;intro Ψ22 hΨ22;refine Z4 g6 g11 g16 g21 ?_;refine Au.mk (Z4 g6 g11 g16 g21 ?_);exact hΨ22.out;refine Pr.done ?_;refine Ab.Ar rfl ?_;refine Ab.Am ?_;apply Pr.run;intro Ψ23 hΨ23;refine Aa.region (Z4 g6 g11 g16 g21 ?_);exact hΨ23.out;refine Pr.done ?_;refine Ab.ret (Z4 g6 g11 g16 g21 ?_);apply AP.i;intro Ψ24 hΨ24;refine Z4 g6 g11 g16 g21 ?_;exact hΨ24.out;refine ⟨_,rfl,rfl,?_⟩;rotate_left;apply Pr.run;intro Ψ25 hΨ25;refine Z4 g6 g11 g16 g21 ?_;refine Ao ?_;refine Au.mk (Z4 g6 g11 g16 g21 ?_);refine Ao ?_;refine AI.go (c96 w.codes h3 hw.LQ) rfl (Z4 g6 g11 g16 g21 ?_);exact hΨ25.out;refine Pr.done ?_;refine Ab.cond rfl (fun g26=>?_) (fun g26=>?_);have d26:=BT g26;refine Ab.Am ?_;apply Pr.run;intro Ψ27 hΨ27;refine Aa.region (Z5 g6 g11 g16 g21 g26 ?_)
 exact hΨ27.out;refine Pr.done ?_;refine Ab.ret (Z5 g6 g11 g16 g21 g26 ?_);apply AP.i;intro Ψ28 hΨ28;refine Z5 g6 g11 g16 g21 g26 ?_;exact hΨ28.out;refine ⟨_,rfl,rfl,?_⟩;rotate_left;have d26:=Bt g26;refine Ab.skip (Z5 g6 g11 g16 g21 g26 ?_);refine Ab.seq ?_;refine Ab.Am ?_;apply Pr.run;intro Ψ29 hΨ29;refine Aa.region (Z5 g6 g11 g16 g21 g26 ?_);exact hΨ29.out;refine Pr.done ?_;refine Ab.block ?_;refine Ab.A0 (fun n:Int=>[(3,.val (.int .i64 n))]) [1] (fun _=>_) (fun n:Int=>1 <= n /\ n <= 11 /\ (∀ k:Int,1 <= k -> k < n -> (Bi w k).isSome = true)) (fun n:Int=>(11 - n).toNat) (1) ?_ rfl ?_ ?_;refine Z5 g6 g11 g16 g21 g26 ?_
 (congr 1 <;> omega)
 refine ⟨rfl,?_,?_,rfl,?_⟩;refine GO g6 g11 g16 g21 g26 ?_;trivial;exact GO g6 g11 g16 g21 g26 trivial;exact GO g6 g11 g16 g21 g26 trivial;rintro n ⟨k1,k2,k3⟩;refine Z5 g6 g11 g16 g21 g26 ?_;refine Ab.seq ?_;refine Ab.Am ?_;apply Pr.run;intro Ψ30 hΨ30;refine Aa.region (Z5 g6 g11 g16 g21 g26 ?_);exact hΨ30.out;refine Pr.done ?_;refine Ab.cond rfl (fun g31=>?_) (fun g31=>?_);have d31:=An g31;refine Ab.skip (Z6 g6 g11 g16 g21 g26 g31 ?_);refine Ab.seq (Ab.block ?_);refine Ab.Am ?_;apply Pr.run;intro Ψ32 hΨ32;refine Aa.region (Z6 g6 g11 g16 g21 g26 g31 ?_);refine Af.eq (c97 _ _) rfl (Z6 g6 g11 g16 g21 g26 g31 ?_);exact hΨ32.out;refine Pr.done ?_;refine Ab.cond rfl (fun g34=>?_) (fun g34=>?_);refine Ab.Am ?_;apply Pr.run;intro Ψ35 hΨ35;refine Aa.region (Z7 g6 g11 g16 g21 g26 g31 g34 ?_);exact hΨ35.out;refine Pr.done ?_;refine Ab.ret (Z7 g6 g11 g16 g21 g26 g31 g34 ?_);apply AP.i;intro Ψ36 hΨ36;refine Z7 g6 g11 g16 g21 g26 g31 g34 ?_;exact hΨ36.out;refine ⟨_,rfl,rfl,?_⟩;rotate_left;refine Ab.skip (Z7 g6 g11 g16 g21 g26 g31 g34 ?_);refine Ab.Di ?_;apply Pr.run;intro Ψ37 hΨ37;refine Aa.region (Z7 g6 g11 g16 g21 g26 g31 g34 ?_);exact hΨ37.out;refine Pr.done (Z7 g6 g11 g16 g21 g26 g31 g34 ?_);refine Bd ?_;refine ⟨n + 1,?_⟩;constructor;constructor;omega;constructor;omega;rotate_left;constructor;omega;refine ⟨rfl,?_,?_,rfl,?_⟩;refine Mu g6 g11 g16 g21 g26 g31 g34 ?_;trivial;exact Mu g6 g11 g16 g21 g26 g31 g34 trivial;exact Mu g6 g11 g16 g21 g26 g31 g34 trivial;have d31:=Aj g31
 refine Ab.exit (Z6 g6 g11 g16 g21 g26 g31 ?_);refine Ab.seq ?_;refine Ab.Am ?_;apply Pr.run;intro Ψ38 hΨ38;refine Aa.region (Z6 g6 g11 g16 g21 g26 g31 ?_);refine Ao (Ao ?_);exact hΨ38.out;refine Pr.done ?_;refine Ab.block ?_;refine Ab.A0 (fun i:Nat=>[(73,.val (.int .i64 (i:Nat)))]) [72,71,3,1] (fun _=>_) (fun i:Nat=>i <= w.codes.length /\ (∀ k,k < i -> Ls w (w.codes.getD k default).lits = true /\ Ls w (w.codes.getD k default).init = true)) (fun i:Nat=>w.codes.length - i) (0) ?_ rfl ?_ ?_;refine ⟨?_,?_⟩ <;> omega
 refine ⟨rfl,?_,?_,rfl,?_⟩;refine JB g6 g11 g16 g21 g26 g31 ?_;trivial;exact JB g6 g11 g16 g21 g26 g31 trivial;exact JB g6 g11 g16 g21 g26 g31 trivial;rintro i ⟨k4,k5⟩;refine Z6 g6 g11 g16 g21 g26 g31 ?_;refine Ab.Am ?_;apply Pr.run;intro Ψ39 hΨ39;refine Aa.region (Z6 g6 g11 g16 g21 g26 g31 ?_);exact hΨ39.out;refine Pr.done ?_;refine Ab.seq (Ab.cond rfl (fun g40=>?_) (fun g40=>?_));have d40:=An g40;refine Ab.skip (Z7 g6 g11 g16 g21 g26 g31 g40 ?_);refine Ab.seq (Ab.block ?_);refine Ab.Am ?_;apply Pr.run;intro Ψ41 hΨ41;refine Aa.region (Z7 g6 g11 g16 g21 g26 g31 g40 ?_);refine Ao ?_;refine And.intro (by assumption) ?_;simp -implicitDefEqProofs (dsimp:=false) (disch:=omega) only [i64_in,gd];refine Z7 g6 g11 g16 g21 g26 g31 g40 ?_;exact hΨ41.out;refine Pr.done ?_;refine Ab.Am ?_;apply Pr.run;intro Ψ42 hΨ42;refine Aa.region (Z7 g6 g11 g16 g21 g26 g31 g40 ?_);refine Ao ?_;refine Af.eq (c98 w _ (hcd i (by omega)).lits (hcd i (by omega)).vl) rfl (Z7 g6 g11 g16 g21 g26 g31 g40 ?_);exact hΨ42.out;refine Pr.CH (fun g44=>?_) (fun g44=>?_);apply Pr.run;intro Ψ45 hΨ45;refine Z8 g6 g11 g16 g21 g26 g31 g40 g44 ?_;exact hΨ45.out;refine Pr.done ?_;refine Ab.Ar rfl ?_;refine Ab.Am ?_;apply Pr.run;intro Ψ46 hΨ46;refine Aa.region (Z8 g6 g11 g16 g21 g26 g31 g40 g44 ?_);exact hΨ46.out;refine Pr.done ?_;refine Ab.ret (Z8 g6 g11 g16 g21 g26 g31 g40 g44 ?_);apply AP.i;intro Ψ47 hΨ47;refine Z8 g6 g11 g16 g21 g26 g31 g40 g44 ?_;exact hΨ47.out;refine ⟨_,rfl,rfl,?_⟩;rotate_left;apply Pr.run
 intro Ψ48 hΨ48;refine Z8 g6 g11 g16 g21 g26 g31 g40 g44 ?_;refine Ao ?_;refine Af.eq (c98 w _ (hcd i (by omega)).init (hcd i (by omega)).vi) rfl (Z8 g6 g11 g16 g21 g26 g31 g40 g44 ?_);exact hΨ48.out;refine Pr.done ?_;refine Ab.cond rfl (fun g50=>?_) (fun g50=>?_);refine Ab.Am ?_;apply Pr.run;intro Ψ51 hΨ51;refine Aa.region (Z9 g6 g11 g16 g21 g26 g31 g40 g44 g50 ?_);exact hΨ51.out;refine Pr.done ?_;refine Ab.ret (Z9 g6 g11 g16 g21 g26 g31 g40 g44 g50 ?_);apply AP.i;intro Ψ52 hΨ52;refine Z9 g6 g11 g16 g21 g26 g31 g40 g44 g50 ?_;exact hΨ52.out;refine ⟨_,rfl,rfl,?_⟩;rotate_left;refine Ab.skip (Z9 g6 g11 g16 g21 g26 g31 g40 g44 g50 ?_);refine Ab.Di ?_;apply Pr.run;intro Ψ53 hΨ53;refine Aa.region (Z9 g6 g11 g16 g21 g26 g31 g40 g44 g50 ?_);exact hΨ53.out;refine Pr.done (Z9 g6 g11 g16 g21 g26 g31 g40 g44 g50 ?_);refine Bd ?_;refine ⟨i + 1,?_⟩;constructor;constructor;omega;rotate_left;constructor;omega;refine ⟨rfl,?_,?_,rfl,?_⟩;refine Zl9 g6 g11 g16 g21 g26 g31 g40 g44 g50 ?_;trivial;exact Zl9 g6 g11 g16 g21 g26 g31 g40 g44 g50 trivial;exact Zl9 g6 g11 g16 g21 g26 g31 g40 g44 g50 trivial;have d40:=Aj g40;refine Ab.exit (Z7 g6 g11 g16 g21 g26 g31 g40 ?_);refine Ab.seq ?_;refine Ab.Am ?_;apply Pr.run;intro Ψ54 hΨ54;refine Aa.freeze 1 (Z7 g6 g11 g16 g21 g26 g31 g40 ?_);refine Aa.region (Z7 g6 g11 g16 g21 g26 g31 g40 ?_);refine Ao (Ao ?_);refine Af.eq (c99 w.acts 100 [.cptr [DI w]] rfl (fun a=>!V0 w a) (fun a h=>ajb w a (hw.Od a h) h2) (by omega)) rfl (Z7 g6 g11 g16 g21 g26 g31 g40 ?_)
 exact hΨ54.out;refine Pr.done ?_;refine Ab.cond rfl (fun g56=>?_) (fun g56=>?_);refine Ab.Am ?_;apply Pr.run;intro Ψ57 hΨ57;refine Aa.region (Z8 g6 g11 g16 g21 g26 g31 g40 g56 ?_);exact hΨ57.out;refine Pr.done ?_;refine Ab.ret (Z8 g6 g11 g16 g21 g26 g31 g40 g56 ?_);apply AP.i;intro Ψ58 hΨ58;refine Z8 g6 g11 g16 g21 g26 g31 g40 g56 ?_;exact hΨ58.out;refine ⟨_,rfl,rfl,?_⟩;rotate_left;refine Ab.skip (Z8 g6 g11 g16 g21 g26 g31 g40 g56 ?_);refine Ab.Am ?_;apply Pr.run;intro Ψ59 hΨ59;refine Aa.region (Z8 g6 g11 g16 g21 g26 g31 g40 g56 ?_);refine Ao (Ao ?_);refine Af.eq (aiR w.objs 103 [.cptr [DI w]] rfl (fun o=>!NS w o) (fun o h=>ahU w o (hw.OZ o h) h2) (by omega)) rfl (Z8 g6 g11 g16 g21 g26 g31 g40 g56 ?_);exact hΨ59.out;refine Pr.done ?_;refine Ab.ret ?_;apply AP.i;intro Ψ61 hΨ61;refine Z8 g6 g11 g16 g21 g26 g31 g40 g56 ?_;exact hΨ61.out;refine ⟨_,rfl,rfl,?_⟩;rotate_left
 ·exact hN fun h=>by have:=h.lo; have:=of_decide_eq_true g6; omega
 ·exact hN fun h=>by have:=h.la; have:=of_decide_eq_true g11; omega
 ·exact hN fun h=>by rw [h.no] at g16; cases g16
 ·exact hN fun h=>by rw [h.na] at g21; cases g21
 ·exact hN fun h=>by rw [h.codes] at g26; cases g26
 ·have hn:=of_decide_eq_true g31
  exact hN fun h=>by rw [h.roots n k1 hn] at g34; cases g34
 ·intro k hk1 hk2
  rcases Int.lt_or_le k n with h | h
  ·exact k3 k hk1 h
  ·obtain rfl:k = n:=by omega
   simpa using g34
 ·have hi:=of_decide_eq_true g40
  exact hN fun h=>by rw [(h.lits i (by omega)).1] at g44; cases g44
 ·have hi:=of_decide_eq_true g40
  exact hN fun h=>by rw [(h.lits i (by omega)).2] at g50; cases g50
 ·intro k hk
  rcases Nat.lt_or_eq_of_le (Nat.le_of_lt_succ hk) with h | h
  ·exact k5 k h
  ·rw [h]; exact ⟨by simpa using g44,by simpa using g50⟩
 ·exact hN fun h=>by rw [h.acts] at g56; cases g56
 ·have e1:=of_decide_eq_false g6
  have e2:=of_decide_eq_false g11;have e3:=of_decide_eq_false g31;have e4:=of_decide_eq_false g40;refine ⟨_,rfl,?_⟩
  cases hz:w.objs.any fun o=>!NS w o with
  | true=>exact ⟨fun h=>(by cases h),fun h=>by rw [h.objs] at hz; cases hz⟩
  | false=>exact ⟨fun _=>⟨by omega,by omega,by simpa using g16,by simpa using g21,by simpa using g26,fun m m1 m2=>k3 m m1 (by omega),fun m hm=>k5 m (by omega),g56,hz⟩,fun _=>rfl⟩
end
open Classical in
noncomputable def CP (w:Wd):Bool:=decide (B6 w)
theorem Ck {w:Wd}:CP w = true ↔ B6 w:=by unfold CP; simp
theorem c52 (w:Wd) (hw:Cw w):Af prog 52 [DI w] (· = .val (.bool (CP w))):=by
 obtain ⟨v,⟨b,rfl,hb⟩,hc⟩:=e52 w hw
 rwa [show CP w = b from Bool.eq_iff_iff.2 (Ck.trans hb.symm)]
section
attribute [local go_sem] C2 JV ntmps27
theorem c27 (w:Wd) (hw:Cw w):Af prog 27 [C2 w] (· = .val (.int .i64 (if CP w = true then 0 else 50))):=by
 have h1:=hw.lo;refine Ag.intro func27 (by decide) rfl (Bj ?_);refine Aa.Ad (Z0 ?_);refine Aa.seq ?_;refine Aa.Ad (Z0 ?_);refine Af.eq (c51 w (by omega)) rfl (Z0 ?_);refine Af.eq (c52 w hw) rfl (Z0 ?_);refine Aa.cond rfl (fun g4=>?_) (fun g4=>?_);refine Aa.Ad (Z1 g4 ?_);refine Aa.ret (Z1 g4 ?_);refine Ae rfl ?_;rotate_left;refine Aa.skip (Z1 g4 ?_);refine Aa.Ad (Z1 g4 ?_);refine Aa.ret (Z1 g4 ?_);refine Ae rfl ?_;rotate_left
 all_goals (cases hv:CP w <;> simp_all)
end
end Go.Proofs.Tryz

namespace Go.PM
theorem QT {vis:Int -> List Int -> Gx -> Gx} (hv:∀ oid path s y,y ∈ s.1 -> y ∈ (vis oid path s).1):∀ (l:List (Nat × Int)) path s y,y ∈ s.1 -> y ∈ (E5 vis path l s).1
 | [],_,_,_,h=>h
 | _ :: l,_,_,y,h=>QT hv l _ _ y (hv _ _ _ y h)
theorem Ti (G:Jw):∀ n oid path s y,y ∈ s.1 -> y ∈ (D6 G n oid path s).1
 | 0,_,_,_,_,h=>h
 | n + 1,oid,path,s,y,h=>by
  unfold D6
  split
  ·exact h
  ·split
   ·exact List.mem_append_left _ h
   ·exact QT (Ti G n) _ _ _ y (List.mem_append_left _ h)
theorem JM (vis:Int -> List Int -> Gx -> Gx) (path:List Int):∀ (a b:List (Nat × Int)) (s:Gx),E5 vis path (a ++ b) s = E5 vis path b (E5 vis path a s)
 | [],_,_=>rfl
 | _ :: a,b,_=>JM vis path a b _
theorem aaq {G:Jw} {o x:Int} (hm:G.mt o = none) (hx:(G.mt x).isSome = true):Kb G (· = o) x ↔ Kb G (fun z=>∃ p ∈ G.ps o,p.2 = z) x:=by
 have hne:x ≠ o:=fun e=>by rw [e,hm] at hx; cases hx
 constructor
 ·intro h
  have:x = o \/ Kb G (fun z=>∃ p ∈ G.ps o,p.2 = z) x:=by
   clear hx hne
   induction h with
   | base h1=>exact .inl h1
   | @step y x i _ h2 h3 ih =>
    rcases ih with rfl | ih
    ·exact .inr (.base ⟨_,h3,rfl⟩)
    ·exact .inr (.step ih h2 h3)
  exact this.resolve_left hne
 ·intro h
  refine h.mono fun z hz=>?_;obtain ⟨p,h1,rfl⟩:=hz;exact .step (.base rfl) hm h1
inductive Kr (G:Jw) (x:Int):List Int -> List Int -> Int -> Prop
 | nil:Kr G x [] [x] x
 | snoc {p l:List Int} {y z:Int} {i:Nat}:Kr G x p l y -> G.mt y = none -> (i,z) ∈ G.ps y -> z ∉ l -> Kr G x (p ++ [(i:Int)]) (l ++ [z]) z
def ZD (G:Jw) (x:Int) (met:List Int) (path:List Int) (oid:Int):Prop :=
 (path = [] /\ oid = x) \/ ∃ p l y i,path = p ++ [((i:Nat):Int)] /\ Kr G x p l y /\ (∀ z ∈ l,z ∈ met) /\ G.mt y = none /\ (i,oid) ∈ G.ps y
theorem ZD.way {G:Jw} {x:Int} {met path:List Int} {oid:Int} (h:ZD G x met path oid) (ho:oid ∉ met):∃ l,Kr G x path l oid /\ ∀ z ∈ l,z ∈ met ++ [oid]:=by
 rcases h with ⟨rfl,rfl⟩ | ⟨p,l,y,i,rfl,h1,h2,h3,h4⟩
 ·exact ⟨_,.nil,fun z hz=>List.mem_append_right _ hz⟩
 ·refine ⟨_,.snoc h1 h3 h4 fun hl=>ho (h2 _ hl),fun z hz=>?_⟩
  rcases List.mem_append.1 hz with hz | hz
  ·exact List.mem_append_left _ (h2 z hz)
  ·exact List.mem_append_right _ hz
theorem Qk {G:Jw} {x:Int} {vis:Int -> List Int -> Gx -> Gx} (hs:∀ oid path s y,y ∈ s.1 -> y ∈ (vis oid path s).1)
  (hv:∀ oid path s,ZD G x s.1 path oid -> ∀ h ∈ (vis oid path s).2,h ∈ s.2 \/ ∃ l,Kr G x h.path l h.oid) {p l:List Int} {y:Int} (hw:Kr G x p l y) (hm:G.mt y = none) :
  ∀ (ps:List (Nat × Int)) s,(∀ q ∈ ps,q ∈ G.ps y) -> (∀ z ∈ l,z ∈ s.1) -> ∀ h ∈ (E5 vis p ps s).2,h ∈ s.2 \/ ∃ l,Kr G x h.path l h.oid
 | [],_,_,_,_,h=>.inl h
 | q :: ps,s,hp,hl,h,hh=>by
  rcases Qk hs hv hw hm ps (vis q.2 (p ++ [(q.1:Int)]) s) (fun r hr=>hp r (List.mem_cons_of_mem _ hr)) (fun z hz=>hs _ _ _ _ (hl z hz)) h hh with h1 | h1
  ·exact hv q.2 (p ++ [(q.1:Int)]) s (.inr ⟨p,l,y,q.1,rfl,hw,hl,hm,hp q List.mem_cons_self⟩) h h1
  ·exact .inr h1
theorem SR {G:Jw} {x:Int}:∀ n oid path s,ZD G x s.1 path oid -> ∀ h ∈ (D6 G n oid path s).2,h ∈ s.2 \/ ∃ l,Kr G x h.path l h.oid
 | 0,_,_,_,_,_,h=>.inl h
 | n + 1,oid,path,s,hc,h,hh=>by
  unfold D6 at hh
  by_cases h1:oid ∈ s.1
  ·rw [if_pos h1] at hh
   exact .inl hh
  ·rw [if_neg h1] at hh
   obtain ⟨l,h2,h3⟩:=hc.way h1
   cases hm:G.mt oid with
   | some p =>
    rw [hm] at hh
    rcases List.mem_append.1 hh with hh | hh
    ·exact .inl hh
    ·rw [List.mem_singleton.1 hh]
     exact .inr ⟨l,h2⟩
   | none =>
    rw [hm] at hh;exact Qk (Ti G n) (SR n) h2 hm (G.ps oid) (s.1 ++ [oid],s.2) (fun _ h=>h) h3 h hh
end Go.PM

namespace Go.Proofs.Tryz
open Go.PM
def BX (s:HA):Bool:=s.kind == 3 || s.kind == 4
def GM (s:HA):Bool:=s.kind == 2 || s.kind == 4
def AJ (w:Wd) (n:Int):Ob:=match Bi w n with
 | some k=>w.objs.getD k.toNat default
 | none=>default
noncomputable def Ay (w:Wd) (v:Vl):Int × Bool :=
 if CA v = true then (if v.k = 4 then (v.n,(Bi w v.n).isSome) else if v.k = 3 then (6,true) else (5,true)) else (0,false)
def AN (o:Ob) (sel:List UInt8):Option (Nat × Bool) :=
 match o.slots.findIdx? (fun s=>s.name == sel) with
 | some i=>some (i,false)
 | none=>if Dh sel [58] = true then (match o.slots.findIdx? (fun s=>s.name == sel.take (sel.length - 1) && GM s) with
  | some i=>some (i,true)
  | none=>none) else none
noncomputable def Fs (w:Wd) (ss:List HA):Nat -> List (Nat × Int)
 | 0=>[]
 | i + 1=>Fs w ss i ++ (if BX (ss.getD i default) = true then [(i,(Ay w (ss.getD i default).v).1)] else [])
noncomputable def Ca (w:Wd) (o:Ob):List (Nat × Int):=Fs w o.slots o.slots.length
noncomputable def Gk (w:Wd) (sel:List UInt8):Jw:=⟨fun x=>AN (AJ w x) sel,fun x=>Ca w (AJ w x)⟩
noncomputable def WO (w:Wd) (sel:List UInt8) (oid:Int) (path:List Int) (s:Gx):Gx:=D6 (Gk w sel) (w.objs.length + 1) oid path s
theorem Hi {w:Wd} {ss:List HA} {p:Nat × Int}:∀ {n:Nat},p ∈ Fs w ss n ↔ p.1 < n /\ BX (ss.getD p.1 default) = true /\ p.2 = (Ay w (ss.getD p.1 default).v).1
 | 0=>by simp [Fs]
 | n + 1=>by
  rw [Fs,List.mem_append,Hi (n:=n)];constructor
  ·rintro (⟨h1,h2⟩ | h)
   ·exact ⟨by omega,h2⟩
   ·split at h
    ·rename_i hl
     rw [List.mem_singleton] at h;subst h;exact ⟨Nat.lt_succ_self _,hl,rfl⟩
    ·cases h
  ·rintro ⟨h1,h2,h3⟩
   rcases Nat.lt_or_eq_of_le (Nat.le_of_lt_succ h1) with h | h
   ·exact .inl ⟨h,h2,h3⟩
   ·refine .inr ?_
    obtain ⟨a,b⟩:=p;simp only at h h2 h3;subst h h3;rw [if_pos h2];exact List.mem_singleton.2 rfl
theorem Eh {w:Wd} {o:Ob} {p:Nat × Int}:p ∈ Ca w o ↔ p.1 < o.slots.length /\ BX (o.slots.getD p.1 default) = true /\ p.2 = (Ay w (o.slots.getD p.1 default).v).1:=Hi
theorem BV {w:Wd} {n:Int} (h:(Bi w n).isSome = true):AJ w n ∈ w.objs /\ (AJ w n).oid = n:=by
 unfold AJ
 cases hk:Bi w n with
 | none=>rw [hk] at h; cases h
 | some k =>
  obtain ⟨j,rfl,hj,hn⟩:=Fe hk;simp only [Int.toNat_natCast];exact ⟨Bs hj,hn⟩
theorem NA {w:Wd} {n:Int} (h:Bi w n = none):AJ w n = default:=by
 unfold AJ;rw [h]
theorem GR (w:Wd) (sel:List UInt8) (y:Int) (h:(Gk w sel).ps y ≠ []):y ∈ w.objs.map (·.oid):=by
 cases hk:Bi w y with
 | none =>
  exfalso
  apply h
  show Ca w (AJ w y) = []
  rw [NA hk];rfl
 | some k =>
  have hs:(Bi w y).isSome = true:=by rw [hk]; rfl
  exact List.mem_map.2 ⟨_,(BV hs).1,(BV hs).2⟩
theorem X4 {w:Wd} {o:Ob} {s:HA} (h:Fg w o s = true) (hl:BX s = true) (h5:s.v.k ≠ 5):GQ w s.v = true:=by
 unfold Fg at h;rw [if_neg (by simpa using h5)] at h;simp only [Bool.and_eq_true] at h;exact h.2.2.2
theorem Vz {w:Wd} {o:Ob} {s:HA} (h:Fg w o s = true) (hl:BX s = true):s.v.k ≠ 5:=by
 intro h5;unfold Fg at h;rw [if_pos (by simpa using h5)] at h;simp only [Bool.and_eq_true,beq_iff_eq] at h;unfold BX at hl;rw [h.1] at hl;cases hl
theorem Gl {w:Wd} (hv:B6 w) {v:Vl} (h:(Ay w v).2 = true):(Bi w (Ay w v).1).isSome = true:=by
 unfold Ay at h ⊢
 split at h
 ·rw [if_pos ‹_›]
  split at h
  ·rw [if_pos ‹_›]; exact h
  ·rw [if_neg ‹_›]
   split
   ·exact hv.roots 6 (by omega) (by omega)
   ·exact hv.roots 5 (by omega) (by omega)
 ·cases h
theorem VW {w:Wd} {v:Vl} (h:GQ w v = true):(Ay w v).2 = true:=by
 unfold GQ at h;simp only [Bool.and_eq_true,Bool.or_eq_true,Bool.not_eq_true',beq_eq_false_iff_ne] at h;unfold Ay;rw [if_pos h.1]
 split
 ·rename_i h4
  exact h.2.resolve_left fun h5=>h5 h4
 ·split <;> rfl
theorem I4 {w:Wd} (hv:B6 w) {o:Ob} (ho:o ∈ w.objs):N6 w o:=by
 have:=List.any_eq_false.1 hv.objs o ho;simp only [Bool.not_eq_true',Bool.not_eq_false] at this;exact KP.1 this
theorem KC {w:Wd} (hv:B6 w) {x:Int} {p:Nat × Int} (hx:(Bi w x).isSome = true) (h:p ∈ Ca w (AJ w x)):(Bi w p.2).isSome = true:=by
 obtain ⟨h1,h2,h3⟩:=Eh.1 h;have h4:=(I4 hv (BV hx).1).each p.1 h1;rw [h3];exact Gl hv (VW (X4 h4 h2 (Vz h4 h2)))
theorem Oi {w:Wd} (hv:B6 w) {sel:List UInt8} {S:Int -> Prop} (hS:∀ x,S x -> (Bi w x).isSome = true) {x:Int} (h:Kb (Gk w sel) S x):(Bi w x).isSome = true:=by
 induction h with
 | base h1=>exact hS _ h1
 | step _ _ h3 ih=>exact KC hv ih h3
end Go.Proofs.Tryz

namespace Go.Proofs.Tryz
open Go.PM
attribute [local irreducible] BM BP Bq Ci AU AO Az
section
attribute [local go_sem] Cy ntmps56
theorem c56 (w:Wd) (v:Vl) (hv:Cm v):Af prog 56 [DI w,Cy v] (· = .tup [.val (.int .i64 (Ay w v).1),.val (.bool (Ay w v).2)]):=by
 have h0:=c67 w v.n;have h1:=c105 v hv;unfold Ay
 cases hb:CA v <;> simp only [hb,Bool.false_eq_true,if_true,if_false] at h1 ⊢
 ·refine Ag.intro func56 (by decide) rfl (Bj ?_)
  refine Aa.Ad (Z0 ?_);refine Aa.seq ?_;refine Aa.Ad (Z0 ?_);refine Af.eq (h1) rfl (Z0 ?_);refine Aa.Ar rfl ?_;refine Aa.Ad (Z0 ?_);refine Aa.ret (Z0 ?_);exact Ae rfl (Z0 trivial)
 ·by_cases h4:v.k = 4
  ·have h4':(v.k == 4) = true:=beq_iff_eq.2 h4
   cases ho:Bi w v.n <;> simp only [ho,Option.isSome_none,Option.isSome_some] at h0 ⊢
   ·refine Ag.intro func56 (by decide) rfl (D5 h4' ?_)
    refine Aa.Ad (Z1 h4' ?_);refine Aa.seq ?_;refine Aa.Ad (Z1 h4' ?_);refine Af.eq (h1) rfl (Z1 h4' ?_);refine Aa.Ax rfl ?_;refine Aa.skip (Z1 h4' ?_);refine Aa.seq ?_;refine Aa.Ad (Z1 h4' ?_);refine Ao ?_;refine Aa.block ?_;refine Aa.Ad (Z1 h4' ?_);refine Aa.Ar rfl ?_;refine Aa.Ad (Z1 h4' ?_);refine Ao ?_;refine Af.eq (h0) rfl (Z1 h4' ?_);refine Aa.Ad (Z1 h4' ?_);refine Ao ?_;refine Aa.ret (Z1 h4' ?_);refine Ae rfl ?_;rotate_left
    all_goals simp [h4]
   ·refine Ag.intro func56 (by decide) rfl (D5 h4' ?_)
    refine Aa.Ad (Z1 h4' ?_);refine Aa.seq ?_;refine Aa.Ad (Z1 h4' ?_);refine Af.eq (h1) rfl (Z1 h4' ?_);refine Aa.Ax rfl ?_;refine Aa.skip (Z1 h4' ?_);refine Aa.seq ?_;refine Aa.Ad (Z1 h4' ?_);refine Ao ?_;refine Aa.block ?_;refine Aa.Ad (Z1 h4' ?_);refine Aa.Ar rfl ?_;refine Aa.Ad (Z1 h4' ?_);refine Ao ?_;refine Af.eq (h0) rfl (Z1 h4' ?_);refine Aa.Ad (Z1 h4' ?_);refine Ao ?_;refine Aa.ret (Z1 h4' ?_);refine Ae rfl ?_;rotate_left
    all_goals simp [h4]
  ·have h4':(v.k == 4) = false:=beq_eq_false_iff_ne.2 h4
   by_cases h3:v.k = 3
   ·have h3':(v.k == 3) = true:=beq_iff_eq.2 h3
    refine Ag.intro func56 (by decide) rfl (VY h4' h3' ?_);refine Aa.Ad (Z2 h4' h3' ?_);refine Aa.seq ?_;refine Aa.Ad (Z2 h4' h3' ?_);refine Af.eq (h1) rfl (Z2 h4' h3' ?_);refine Aa.Ax rfl ?_;refine Aa.skip (Z2 h4' h3' ?_);refine Aa.seq ?_;refine Aa.Ad (Z2 h4' h3' ?_);refine Ao ?_;refine Aa.block ?_;refine Aa.Ad (Z2 h4' h3' ?_);refine Aa.Ax rfl ?_;refine Aa.Ad (Z2 h4' h3' ?_);refine Aa.Ar rfl ?_;refine Aa.Ad (Z2 h4' h3' ?_);refine Aa.ret (Z2 h4' h3' ?_);refine Ae rfl ?_;rotate_left
    all_goals simp [h3]
   ·have h3':(v.k == 3) = false:=beq_eq_false_iff_ne.2 h3
    refine Ag.intro func56 (by decide) rfl (VY h4' h3' ?_);refine Aa.Ad (Z2 h4' h3' ?_);refine Aa.seq ?_;refine Aa.Ad (Z2 h4' h3' ?_);refine Af.eq (h1) rfl (Z2 h4' h3' ?_);refine Aa.Ax rfl ?_;refine Aa.skip (Z2 h4' h3' ?_);refine Aa.seq ?_;refine Aa.Ad (Z2 h4' h3' ?_);refine Ao ?_;refine Aa.block ?_;refine Aa.Ad (Z2 h4' h3' ?_);refine Aa.Ax rfl ?_;refine Aa.Ad (Z2 h4' h3' ?_);refine Aa.Ax rfl ?_;refine Aa.skip (Z2 h4' h3' ?_);refine Aa.Ad (Z2 h4' h3' ?_);refine Aa.ret (Z2 h4' h3' ?_);refine Ae rfl ?_;rotate_left
    all_goals simp [h3,h4]
end
def HQ (o:Ob) (sel:List UInt8):Option (List AV):=(AN o sel).map fun p=>[.val (.int .i64 (p.1:Nat)),.val (.bool p.2)]
theorem Iu {α:Type} {l:List α} {p:α -> Bool} {d:α} {i:Nat} (hi:i < l.length) (hn:∀ j,j < i -> p (l.getD j d) = false) (hp:p (l.getD i d) = true):l.findIdx? p = some i:=by
 rw [List.findIdx?_eq_some_iff_getElem];refine ⟨hi,?_,fun j hj=>?_⟩
 ·simpa [List.getD_eq_getElem?_getD,hi] using hp
 ·have:=hn j hj
  have hj':j < l.length:=by omega
  simpa [List.getD_eq_getElem?_getD,hj'] using this
theorem EH {α:Type} {l:List α} {p:α -> Bool} {d:α} (hn:∀ j,j < l.length -> p (l.getD j d) = false):l.findIdx? p = none:=by
 rw [List.findIdx?_eq_none_iff];intro x hx;obtain ⟨j,hj,rfl⟩:=List.mem_iff_getElem.1 hx;have:=hn j hj
 simpa [List.getD_eq_getElem?_getD,hj] using this
section
variable {o:Ob} {sel:List UInt8} {i:Nat}
theorem Im (hi:i < o.slots.length) (hn:∀ j,j < i -> ((o.slots.getD j default).name == sel) = false) (hp:((o.slots.getD i default).name == sel) = true):AN o sel = some (i,false):=by
 unfold AN;rw [Iu (d:=default) hi hn hp]
theorem VO (hn:∀ j,j < o.slots.length -> ((o.slots.getD j default).name == sel) = false) (hs:Dh sel [58] = false):AN o sel = none:=by
 unfold AN;rw [EH (d:=default) hn,hs];rfl
theorem Jd (hn:∀ j,j < o.slots.length -> ((o.slots.getD j default).name == sel) = false) (hs:Dh sel [58] = true) (hi:i < o.slots.length) (hm:∀ j,j < i -> ((o.slots.getD j default).name == sel.take (sel.length - 1) && GM (o.slots.getD j default)) = false) (hp:((o.slots.getD i default).name == sel.take (sel.length - 1) && GM (o.slots.getD i default)) = true):AN o sel = some (i,true):=by
 unfold AN;rw [EH (d:=default) hn,hs,Iu (d:=default) hi hm hp];rfl
theorem Sk (hn:∀ j,j < o.slots.length -> ((o.slots.getD j default).name == sel) = false) (hm:∀ j,j < o.slots.length -> ((o.slots.getD j default).name == sel.take (sel.length - 1) && GM (o.slots.getD j default)) = false):AN o sel = none:=by
 unfold AN;rw [EH (d:=default) hn,EH (d:=default) hm];simp
end
section
attribute [local go_sem] Du ntmps122
theorem ahA (o:Ob) (sel:List UInt8):Af prog 122 [Du o,.val (.string (Ak sel))] (· = .fn 151 [.cptr (Du o).cells,.cptr [.val (.string (Ak sel))]]):=by
 refine Ag.intro func122 (by decide) rfl (Bj ?_);refine Aa.Ad (Z0 ?_);refine Aa.freeze 2 (Z0 ?_);refine Aa.freeze 3 (Z0 ?_);refine Aa.Ad (Z0 ?_);refine Aa.ret (Z0 ?_);exact Ae rfl (Z0 trivial)
end
theorem ad8 {n:Nat} {X Y:List Ah} (ext:List Ah) (hn:X.length = n) (hu:Aw X) (hx:X = Y):∃ h'',BI h''.length (D4 n X ++ ext) h'' /\ n <= h''.length /\ AE.under h''.length (AE.ret (.tup [])) = true /\ (∃ x,AE.ret (.tup []) = AE.ret x) /\ h'' = Y :=
 ⟨X,by rw [DD hn]; exact Cc ext hu,by omega,rfl,⟨_,rfl⟩,hx⟩
theorem afg {n:Nat} {X Y:List Ah} (hn:X.length = n) (hu:Aw X) (hx:X = Y):∃ h'',BI h''.length (D4 n X) h'' /\ n <= h''.length /\ AE.under h''.length (AE.ret (.tup [])) = true /\ (∃ x,AE.ret (.tup []) = AE.ret x) /\ h'' = Y:=by
 have:=ad8 [] hn hu hx
 rwa [List.append_nil] at this
theorem NT {n:Nat} {X:List Ah} (ext:List Ah) (hn:X.length = n) (hu:Aw X):BI n (D4 n X ++ ext) (D4 n X):=by
 rw [DD hn,<- hn];exact Cc ext hu
theorem Xw {n:Nat} {X:List Ah} (hn:X.length = n) (hu:Aw X):BI n (D4 n X) (D4 n X):=by
 have:=NT [] hn hu
 rwa [List.append_nil] at this
theorem Nu {o:Ob} {sel:List UInt8} {p:Nat × Bool} (h:AN o sel = some p) (A B:List Ah):A = if (HQ o sel).isSome = true then A else B:=by
 unfold HQ;rw [h];rfl
theorem Nn {o:Ob} {sel:List UInt8} (h:AN o sel = none) {A B C:List Ah} (hB:B = C):C = if (HQ o sel).isSome = true then A else B:=by
 unfold HQ;rw [h];exact hB.symm
section
attribute [local go_sem] Du Cu H9 List.append_assoc De N4 PH N8 P8 List.length_append ntmps151
theorem ad2 (o:Ob) (sel:List UInt8) (hs:sel.length <= 1000000000) (ho:o.slots.length <= 1000000000):ag7 prog 151 [.cptr (Du o).cells,.cptr [.val (.string (Ak sel))]] (HQ o sel):=by
 intro l hcF hc0 hu huF hlF hl hy;have hr:(∃ x,AE.ret (.tup []) = .ret x):=⟨_,rfl⟩
 generalize hn:hc0.length = n at hl hlF;have hp0:=DD hn;have hpF:=DD hlF;rw [<- hp0];refine Ag.less ?_;refine Ag.intro func151 (by decide) rfl (Bj ?_);refine Aa.seq ?_;refine Aa.Ad (Z0 ?_);refine Ao ?_;refine Aa.block ?_;refine Aa.A0 (fun i:Nat=>[(13,.val (.int .i64 (i:Nat)))]) [12,11,0,1,2] (fun i:Nat=>D4 n hc0) (fun i:Nat=>i <= o.slots.length /\ ∀ j,j < i -> ((o.slots.getD j default).name == sel) = false) (fun i:Nat=>o.slots.length - i) (0) ?_ rfl ?_ ?_;refine ⟨?_,?_⟩ <;> omega
 refine ⟨rfl,?_,?_,rfl,?_⟩;refine C1 ?_;exact decide_eq_true (by omega);refine C1 ?_;rotate_left;exact C1 trivial;rintro i ⟨hi,hn1⟩;refine Z0 ?_;refine Aa.Ad (Z0 ?_);refine Aa.seq (Aa.cond rfl (fun g1=>?_) (fun g1=>?_));have d1:=An g1;refine Aa.skip (Z1 g1 ?_);refine Aa.seq (Aa.block ?_);refine Aa.Ad (Z1 g1 ?_);refine Ao ?_;refine And.intro (by assumption) ?_;simp -implicitDefEqProofs (dsimp:=false) (disch:=omega) only [i64_in,gd];refine Z1 g1 ?_;refine Aa.Ad (Z1 g1 ?_);refine Ao ?_;refine Ap (fun g2=>?_) (fun g2=>?_);refine Z2 g1 g2 ?_
 first | refine Bl.mono (OL _ hn hlF hu rfl (hy _ (by unfold HQ; rw [Im (by omega) hn1 (by assumption)]; rfl))) ?_ | refine Bl.mono (OL _ hn hlF hu rfl (hy _ (by unfold HQ; rw [Jd hnAll hsf (by omega) hn2 (by simp only [hsf,if_true] at g6; simp only [GM,g6,g8,Bool.and_self])]; rfl))) ?_
 rintro r2 h2 ⟨rfl,rfl⟩;refine Z2 g1 g2 ?_;refine Aa.Ar rfl ?_;refine Aa.ret (Z2 g1 g2 ?_);rotate_left;refine Z2 g1 g2 ?_;refine Aa.Ax rfl ?_;refine Aa.skip (Z2 g1 g2 ?_);refine Aa.region (Z2 g1 g2 ?_);refine Bd ?_;refine ⟨i + 1,?_⟩;constructor;constructor;omega;rotate_left;constructor;omega;constructor;omega;refine ⟨rfl,?_,?_,rfl,?_⟩;refine Cv g1 g2 ?_;exact decide_eq_true (by omega);refine Cv g1 g2 ?_;rotate_left;exact Cv g1 g2 trivial;have d1:=Aj g1;refine Aa.exit (Z1 g1 ?_);refine Aa.Ad (Z1 g1 ?_);refine Af.eq (c77 sel [58] (by omega) (by simp)) rfl (Z1 g1 ?_);refine Aa.seq ?_;refine Aa.Ad (Z1 g1 ?_);refine Aa.cond rfl (fun g4=>?_) (fun g4=>?_);refine Aa.ret (Z2 g1 g4 ?_);rotate_left;refine Aa.skip (Z2 g1 g4 ?_);refine Aa.Ad (Z2 g1 g4 ?_);refine Ao ?_;refine Aa.block ?_;refine Aa.A0 (fun k:Nat=>[(39,.val (.int .i64 (k:Nat)))]) [38,37,6,13,12,11,0,1,2] (fun k:Nat=>D4 n hc0) (fun k:Nat=>k <= o.slots.length /\ ∀ j,j < k -> ((o.slots.getD j default).name == sel.take (sel.length - 1) && GM (o.slots.getD j default)) = false) (fun k:Nat=>o.slots.length - k) (0) ?_ rfl ?_ ?_;refine ⟨?_,?_⟩ <;> omega
 refine ⟨rfl,?_,?_,rfl,?_⟩;refine Cv g1 g4 ?_;exact decide_eq_true (by omega);refine Cv g1 g4 ?_;rotate_left;exact Cv g1 g4 trivial;rintro k ⟨hk,hn2⟩;have hnAll:∀ j,j < o.slots.length -> ((o.slots.getD j default).name == sel) = false:=fun j hj=>hn1 j (by have:=of_decide_eq_false g1; omega);have hsf:Dh sel [58] = true:=by simpa using g4
 refine Z2 g1 g4 ?_;refine Aa.Ad (Z2 g1 g4 ?_);refine Aa.seq (Aa.cond rfl (fun g5=>?_) (fun g5=>?_));have d5:=An g5;refine Aa.skip (Z3 g1 g4 g5 ?_);refine Aa.seq (Aa.block ?_);refine Aa.Ad (Z3 g1 g4 g5 ?_);refine Ao ?_;refine And.intro (by assumption) ?_;simp -implicitDefEqProofs (dsimp:=false) (disch:=omega) only [i64_in,gd];refine Z3 g1 g4 g5 ?_;refine Aa.Ad (Z3 g1 g4 g5 ?_);refine Ao ?_;refine Ap (fun g6=>?_) (fun g6=>?_);refine Z4 g1 g4 g5 g6 ?_;refine Af.eq (c152 _) rfl (Z4 g1 g4 g5 g6 ?_);refine Ap (fun g8=>?_) (fun g8=>?_);refine Z5 g1 g4 g5 g6 g8 ?_
 first | refine Bl.mono (OL _ hn hlF hu rfl (hy _ (by unfold HQ; rw [Im (by omega) hn1 (by assumption)]; rfl))) ?_ | refine Bl.mono (OL _ hn hlF hu rfl (hy _ (by unfold HQ; rw [Jd hnAll hsf (by omega) hn2 (by simp only [hsf,if_true] at g6; simp only [GM,g6,g8,Bool.and_self])]; rfl))) ?_
 rintro r2 h2 ⟨rfl,rfl⟩;refine Z5 g1 g4 g5 g6 g8 ?_;refine Aa.Ar rfl ?_;refine Aa.ret (Z5 g1 g4 g5 g6 g8 ?_);rotate_left;refine Z5 g1 g4 g5 g6 g8 ?_;refine Aa.Ax rfl ?_;refine Aa.skip (Z5 g1 g4 g5 g6 g8 ?_);refine Aa.region (Z5 g1 g4 g5 g6 g8 ?_);refine Bd ?_;refine ⟨k + 1,?_⟩;constructor;constructor;omega;rotate_left;constructor;omega;constructor;omega;refine ⟨rfl,?_,?_,rfl,?_⟩;refine GO g1 g4 g5 g6 g8 ?_;exact decide_eq_true (by omega);refine GO g1 g4 g5 g6 g8 ?_;rotate_left;exact GO g1 g4 g5 g6 g8 trivial;refine Z4 g1 g4 g5 g6 ?_;refine Aa.Ax rfl ?_;refine Aa.skip (Z4 g1 g4 g5 g6 ?_);refine Aa.region (Z4 g1 g4 g5 g6 ?_);refine Bd ?_;refine ⟨k + 1,?_⟩;constructor;constructor;omega;rotate_left;constructor;omega;constructor;omega;refine ⟨rfl,?_,?_,rfl,?_⟩;refine Mv g1 g4 g5 g6 ?_;exact decide_eq_true (by omega);refine Mv g1 g4 g5 g6 ?_;rotate_left;exact Mv g1 g4 g5 g6 trivial;have d5:=Aj g5;refine Aa.exit (Z3 g1 g4 g5 ?_);rotate_left
 ·exact Xw hn hu
 ·exact ad8 _ hlF huF (Nu (Im (by simpa using g1) hn1 g2) _ _)
 ·intro j hj
  rcases Nat.lt_or_eq_of_le (Nat.le_of_lt_succ hj) with h | h
  ·exact hn1 j h
  ·rw [h]; exact g2
 ·exact NT _ hn hu
 ·exact afg hn hu (Nn (VO (fun j hj=>hn1 j (by have:=of_decide_eq_false g1; omega)) (by simpa using g4)) hp0)
 ·exact Xw hn hu
 ·refine ad8 _ hlF huF (Nu (Jd hnAll hsf (by simpa using g5) hn2 ?_) _ _)
  simp only [hsf,if_true] at g6;simp only [GM,g6,g8,Bool.and_self]
 ·intro j hj
  rcases Nat.lt_or_eq_of_le (Nat.le_of_lt_succ hj) with h | h
  ·exact hn2 j h
  ·rw [h]; simp only [GM,g8,Bool.and_false]
 ·exact NT _ hn hu
 ·intro j hj
  rcases Nat.lt_or_eq_of_le (Nat.le_of_lt_succ hj) with h | h
  ·exact hn2 j h
  ·rw [h]
   simp only [hsf,if_true] at g6;rw [g6,Bool.false_and]
 ·exact NT _ hn hu
 ·exact afg hn hu (Nn (Sk hnAll fun j hj=>hn2 j (by have:=of_decide_eq_false g5; omega)) hp0)
end
def abu (o:Ob) (sel:List UInt8):AV:=match AN o sel with
 | some p=>.tup [.val (.int .i64 (p.1:Nat)),.val (.bool p.2),.val (.bool true)]
 | none=>.tup [.val (.int .i64 0),.val (.bool false),.val (.bool false)]
section
attribute [local go_sem] Du ntmps87
theorem c87 (o:Ob) (sel:List UInt8) (hs:sel.length <= 1000000000) (ho:o.slots.length <= 1000000000):Af prog 87 [Du o,.val (.string (Ak sel))] (· = abu o sel):=by
 have hq:=ad2 o sel hs ho;have hi:HQ o sel = (AN o sel).map fun p=>[.val (.int .i64 (p.1:Nat)),.val (.bool p.2)]:=rfl;unfold abu;refine Ag.intro func87 (by decide) rfl (Bj ?_);refine Aa.Ad (Z0 ?_);refine Aa.seq ?_;refine Aa.Ad (Z0 ?_);refine Af.eq (ahA _ _) rfl (Z0 ?_);refine Aa.block ?_;rotate_left
 cases hm:AN o sel with
 | none =>
  rw [hm] at hi;refine Aa.YD rfl hq [.dead,.dead,.dead,.dead] rfl ?_ ?_ ?_ (fun args hk=>by rw [hi] at hk; cases hk) (fun args fn hk=>by rw [hi] at hk; cases hk) (fun hk fn=>?_) (fun args hk fn=>by rw [hi] at hk; cases hk)
  ·intro x hx; simp at hx; rcases hx with rfl | rfl | rfl | rfl <;> rfl
  ·intro x hx; simp at hx; subst hx; rfl
  ·rfl
  ·refine Z0 ?_
   refine Aa.Ad (Z0 ?_);refine Aa.ret (Z0 ?_);exact Ae rfl (Z0 trivial)
 | some p =>
  rw [hm] at hi;refine Aa.YD rfl hq [.cells (Du o).cells,.cells [.val (.int .i64 (p.1:Nat))],.cells [.val (.bool p.2)],.cells [.val (.bool true)]] rfl ?_ ?_ ?_ (fun args hk=>by rw [hi] at hk; cases hk; rfl) (fun args fn hk=>?_) (fun hk fn=>by rw [hi] at hk; cases hk) (fun args hk fn=>?_)
  ·intro x hx; simp at hx; rcases hx with rfl | rfl | rfl | rfl <;> rfl
  ·intro x hx; simp at hx; rcases hx with rfl | rfl | rfl | rfl <;> rfl
  ·rfl
  ·rw [hi] at hk
   cases hk;refine Aa.Ad (Z0 ?_);refine Aa.region (Z0 ?_);refine Aa.block ?_;refine Aa.Ad (Z0 ?_);exact Aa.ret (Z0 trivial)
  ·refine Z0 ?_
   exact Ae rfl (Z0 trivial)
end
end Go.Proofs.Tryz

namespace Go.Proofs.Tryz
open Go.PM
def AF (l:List Int):List Int:=l.foldl (fun a x=>if x ∈ a then a else a ++ [x]) []
theorem YU (l:List Int):∀ (a:List Int) (x:Int),x ∈ l.foldl (fun a x=>if x ∈ a then a else a ++ [x]) a ↔ x ∈ a \/ x ∈ l:=by
 induction l with
 | nil=>intro a x; simp
 | cons y l ih =>
  intro a x;rw [List.foldl_cons,ih]
  by_cases h:y ∈ a
  ·rw [if_pos h]
   simp only [List.mem_cons];constructor
   ·rintro (h1 | h1)
    ·exact .inl h1
    ·exact .inr (.inr h1)
   ·rintro (h1 | h1 | h1)
    ·exact .inl h1
    ·exact .inl (h1 ▸ h)
    ·exact .inr h1
  ·rw [if_neg h]
   simp only [List.mem_append,List.mem_cons,List.not_mem_nil,or_false];constructor
   ·rintro ((h1 | h1) | h1)
    ·exact .inl h1
    ·exact .inr (.inl h1)
    ·exact .inr (.inr h1)
   ·rintro (h1 | h1 | h1)
    ·exact .inl (.inl h1)
    ·exact .inl (.inr h1)
    ·exact .inr h1
theorem Ej {l:List Int} {x:Int}:x ∈ AF l ↔ x ∈ l:=by
 unfold AF;rw [YU];simp
theorem Q4 (l:List Int):∀ (a:List Int),a.Nodup -> (l.foldl (fun a x=>if x ∈ a then a else a ++ [x]) a).Nodup:=by
 induction l with
 | nil=>intro a h; exact h
 | cons y l ih =>
  intro a h;rw [List.foldl_cons];apply ih
  by_cases hy:y ∈ a
  ·rw [if_pos hy]; exact h
  ·rw [if_neg hy,List.nodup_append]
   exact ⟨h,by simp,fun x hx z hz=>by rw [List.mem_singleton.1 hz]; exact fun e=>hy (e ▸ hx)⟩
theorem Pv (l:List Int):(AF l).Nodup:=Q4 l [] List.nodup_nil
noncomputable def C9 (w:Wd) (sel:List UInt8):Int -> List Int -> Option Int
 | x,[]=>some x
 | x,i :: p=>if (AN (AJ w x) sel = none /\ 0 <= i /\ i < (AJ w x).slots.length) /\ BX ((AJ w x).slots.getD i.toNat default) = true then C9 w sel (Ay w ((AJ w x).slots.getD i.toNat default).v).1 p else none
noncomputable def G1 (w:Wd) (sel:List UInt8) (x:Int) (path:List Int) (oid slot:Int):Option Bool :=
 match C9 w sel x path with
 | none=>none
 | some e=>match AN (AJ w e) sel with
  | some p=>if e = oid /\ (p.1:Int) = slot then some p.2 else none
  | none=>none
structure DC (w:Wd) (sel:List UInt8) (x:Int) (l:List Int):Prop where
 objs:∀ y ∈ l,(Bi w y).isSome = true
 first:x ∈ l
 shut:∀ y ∈ l,AN (AJ w y) sel = none -> ∀ p ∈ Ca w (AJ w y),p.2 ∈ l
def Oc (w:Wd) (sel:List UInt8) (l:List Int):Nat:=((AF l).filter fun y=>(AN (AJ w y) sel).isSome).length
def XK (f:GS):Prop:=f.holder2 = 0 /\ f.slot2 = 0 /\ f.path2 = []
theorem EG (w:Wd) (sel:List UInt8):∀ (p:List Int) (x:Int) (q:List Int),C9 w sel x (p ++ q) = (C9 w sel x p).bind fun y=>C9 w sel y q
 | [],_,_=>rfl
 | i :: p,x,q=>by
  rw [List.cons_append,C9,C9]
  split
  ·exact EG w sel p _ q
  ·rfl
theorem Y3 {w:Wd} {sel:List UInt8} {x:Int} {p l:List Int} {y:Int} (h:Kr (Gk w sel) x p l y):C9 w sel x p = some y:=by
 induction h with
 | nil=>rfl
 | @snoc p l y z i _ h2 h3 _ ih =>
  rw [EG,ih];obtain ⟨h5,h6,h7⟩:=Eh.1 h3
  show C9 w sel y [(i:Int)] = some z
  rw [C9,if_pos ⟨⟨h2,by omega,by exact_mod_cast h5⟩,by simpa using h6⟩,C9];simp only [Int.toNat_natCast];exact congrArg some h7.symm
noncomputable def seen (w:Wd) (sel:List UInt8) (x:Int):Gx:=WO w sel x [] ([],[])
theorem Jo (w:Wd) (sel:List UInt8) (x:Int):Jg (Gk w sel) (· = x) (seen w sel x):=QP (GR w sel) x [] (by rw [List.length_map]; exact Nat.lt_succ_self _)
theorem PL {w:Wd} {sel:List UInt8} {x:Int} {h:VX} (hh:h ∈ (seen w sel x).2):∃ l,Kr (Gk w sel) x h.path l h.oid:=by
 rcases SR _ x [] ([],[]) (.inl ⟨rfl,rfl⟩) h hh with h1 | h1
 ·cases h1
 ·exact h1
theorem Uc {w:Wd} {sel:List UInt8} {x:Int} {h:VX} (hh:h ∈ (seen w sel x).2):G1 w sel x h.path h.oid h.slot = some h.set:=by
 obtain ⟨l,hw⟩:=PL hh;obtain ⟨p,p1,p2,p3⟩:=(Jo w sel x).vis.ok h hh;have p1':AN (AJ w h.oid) sel = some p:=p1;unfold G1;rw [Y3 hw];simp only [p1'];rw [if_pos ⟨trivial,p2.symm⟩,p3]
end Go.Proofs.Tryz

namespace Go.Proofs.Tryz
open Go.PM
noncomputable def IH (w:Wd) (sel:List UInt8) (o:Int):Gx:=E5 (D6 (Gk w sel) (w.objs.length + 1)) [] (Ca w (AJ w o)) ([],[])
noncomputable def OI (w:Wd) (sel:List UInt8) (tg:Int) (k:Nat):Gx:=WO w sel tg [(k:Int)] ([],[])
theorem Qj (w:Wd) (sel:List UInt8) (o:Int):Jg (Gk w sel) (fun x=>∃ p ∈ Ca w (AJ w o),p.2 = x) (IH w sel o):=Uq (GR w sel) _ [] (by rw [List.length_map]; exact Nat.lt_succ_self _)
theorem XJ (w:Wd) (sel:List UInt8) (x:Int) (k:Nat):Jg (Gk w sel) (· = x) (OI w sel x k):=QP (GR w sel) x [(k:Int)] (by rw [List.length_map]; exact Nat.lt_succ_self _)
theorem SH {w:Wd} {sel:List UInt8} {x:Int} {p:Nat × Bool} (h:AN (AJ w x) sel = some p):Bo (seen w sel x).2 = ⟨1,x,(p.1:Nat),[],p.2,0,0,[]⟩:=by
 have h':(Gk w sel).mt x = some p:=h;unfold seen WO D6;rw [if_neg (by simp),h'];rfl
theorem Va {w:Wd} {sel:List UInt8} {x:Int} (h:AN (AJ w x) sel = none):ED (Bo (seen w sel x).2) (Bo (IH w sel x).2) = true :=
 (Jo w sel x).alike (Qj w sel x) (fun _=>rfl) fun y hy=>aaq (G:=Gk w sel) h hy
section
variable {w:Wd} {i:Nat} {s:HA}
theorem Px {n sel:List UInt8}:(Dh sel [58] = true /\ n = sel.take (sel.length - 1)) ↔ n ++ [58] = sel:=by
 unfold Dh;simp only [List.length_cons,List.length_nil,Nat.zero_add,beq_iff_eq];constructor
 ·rintro ⟨h1,rfl⟩
  rw [<- h1];exact List.take_append_drop _ _
 ·rintro rfl
  simp
end
end Go.Proofs.Tryz

namespace Go.Proofs.Tryz
open Go.PM
attribute [local irreducible] BM BP Bq Ci AU AO Az
section
attribute [local go_sem] C2 JV ntmps57
theorem Rt (w:Wd) (hw:Cw w) (hv:CP w = true):Af prog 57 [C2 w] (· = .tup [DI w,.val (.int .i64 0)]):=by
 have h0:=c27 w hw;rw [if_pos hv] at h0;have h1:=hw.lo;refine Ag.res ?_;refine Ag.intro func57 (by decide) rfl (Bj ?_);refine Aa.Ad (Z0 ?_);refine Aa.seq ?_;refine Aa.Ad (Z0 ?_);refine Af.eq (h0) rfl (Z0 ?_);refine Aa.Ad (Z0 ?_);refine Aa.Ax rfl ?_;refine Aa.skip (Z0 ?_);refine Aa.Ad (Z0 ?_);refine Aa.seq ?_;refine Aa.Ad (Z0 ?_);refine Ao ?_;refine Aa.block ?_;refine Aa.A0 (fun i:Nat=>[(20,.val (.int .i64 (i:Nat)))]) [19,18,5] (fun i:Nat=>[.cells (JV w),Hb w.objs i,.cells [.sl false (OZ w.objs),.sl false (Od w.acts),.sl false (LQ w.codes),.val (.int .i64 w.nobj),.val (.int .i64 w.nact),.mp 1]]) (fun i:Nat=>i <= w.objs.length) (fun i:Nat=>w.objs.length - i) (0) ?_ rfl ?_ ?_;omega;refine ⟨rfl,?_,?_,rfl,?_⟩;refine C1 ?_;trivial;refine C1 ?_;constructor;exact .inr ⟨rfl,rfl⟩;trivial;exact C1 trivial;rintro i hi;refine Z0 ?_;refine Aa.Ad (Z0 ?_);refine Aa.seq (Aa.cond rfl (fun g3=>?_) (fun g3=>?_));have d3:=An g3;refine Aa.skip (Z1 g3 ?_);refine Aa.seq (Aa.block ?_);refine Aa.Ad (Z1 g3 ?_);refine Ao ?_;refine And.intro (by assumption) ?_;simp -implicitDefEqProofs (dsimp:=false) (disch:=omega) only [i64_in,gd];refine Z1 g3 ?_;refine Aa.BS [(0,.free),(1,.free),(2,.free),(4,.free),(6,.free),(3,.read),(5,.read),(7,.upd)] mixed (by kernel_rfl) (Z1 g3 ?_);refine Ao (Ao ?_);refine And.intro (by (repeat first | exact Ai.refl _ | exact Ai.nil _ | refine Ai.same ?_ | refine Ai.row ?_ | refine Ai.ON ?_ | refine Ai.F8 ?_ | refine Ai.F9 ?_)) ?_
 refine Aa.region (Z1 g3 ?_);refine Bd ?_;refine ⟨i + 1,?_⟩;constructor;omega;constructor;omega;refine ⟨rfl,?_,?_,rfl,?_⟩;refine Mr g3 ?_;trivial;refine Mr g3 ?_;trivial;exact Mr g3 trivial;have d3:=Aj g3;refine Aa.exit (Z1 g3 ?_);refine Aa.Ad (Z1 g3 ?_);refine Aa.ret (Z1 g3 ?_);refine Ae rfl ?_;rotate_left
 ·obtain rfl:i = w.objs.length:=by omega
  rfl
end
section
attribute [local go_sem] C2 JV ntmps57
theorem adv (w:Wd) (hw:Cw w) (hv:CP w = false):Af prog 57 [C2 w] (· = .tup [.val (.pointer none),.val (.int .i64 50)]):=by
 have h0:=c27 w hw;rw [if_neg (by rw [hv]; simp)] at h0;refine Ag.intro func57 (by decide) rfl (Bj ?_);refine Aa.Ad (Z0 ?_);refine Aa.seq ?_;refine Aa.Ad (Z0 ?_);refine Af.eq (h0) rfl (Z0 ?_);refine Aa.Ad (Z0 ?_);refine Aa.Ar rfl ?_;refine Aa.Ad (Z0 ?_);refine Aa.ret (Z0 ?_);exact Ae rfl (Z0 trivial)
end
section
attribute [local go_sem] ntmps79
theorem c79 (w:Wd) (sel:List UInt8):Ag prog 79 [DI w,.val (.string (Ak sel))] [] (fun r h=>r = .ret (.ptr 1 0) /\ h = [.map [] [] 0,.cells [DI w,.val (.string (Ak sel)),.mp 0,.sl true [],.sl true []]]):=by
 refine Ag.intro func79 (by decide) rfl (Bj ?_);refine Aa.Ad (Z0 ?_);refine Aa.Ad (Z0 ?_);refine And.intro (by trivial) ?_;refine And.intro (by trivial) ?_;exact Aa.ret (Z0 trivial)
end
noncomputable def Bg (w:Wd) (v:Vl) (sel:List UInt8):Int:=if CP w = true then (if (Ay w v).2 = true then (if decide (Bu sel < 0) = true then 1 else 0) else 1) else 50
theorem Dn (w:Wd) (n:Nat):(DI w).shift n = DI w:=rfl
section
attribute [local go_sem] C2 JV Cy ntmps43
theorem af2 (w:Wd) (v:Vl) (sel:List UInt8) (hw:Cw w) (hv:Cm v) (he:Bg w v sel ≠ 0):Af prog 43 [C2 w,Cy v,.val (.string (Ak sel))] (· = .tup [.val (.pointer none),.val (.int .i64 0),.val (.int .i64 (Bg w v sel))]):=by
 cases hvw:CP w with
 | false =>
  have e:Bg w v sel = 50:=by unfold Bg; rw [hvw]; rfl
  rw [e];refine Ag.intro func43 (by decide) rfl (Bj ?_);refine Aa.Ad (Z0 ?_);refine Aa.Ad (Z0 ?_);refine Af.eq (adv w hw hvw) rfl (Z0 ?_);refine Aa.seq ?_;refine Aa.Ad (Z0 ?_);refine Aa.Ar rfl ?_;refine Aa.Ad (Z0 ?_);refine Aa.ret (Z0 ?_);exact Ae rfl (Z0 trivial)
 | true =>
  have e:Bg w v sel = 1:=by
   unfold Bg at he ⊢;rw [if_pos hvw] at he ⊢
   split
   ·rename_i h1
    rw [if_pos h1] at he
    split
    ·rfl
    ·rename_i h2; rw [if_neg h2] at he; exact absurd rfl he
   ·rfl
  rw [e];have h56:=c56 w v hv
  cases hs:(Ay w v).2 with
  | false =>
   rw [hs] at h56;refine Ag.intro func43 (by decide) rfl (Bj ?_);refine Aa.Ad (Z0 ?_);refine Aa.Ad (Z0 ?_);refine Af.eq (Rt w hw hvw) rfl (Z0 ?_);refine Aa.seq ?_;refine Aa.Ad (Z0 ?_);refine Aa.Ax rfl ?_;refine Aa.skip (Z0 ?_);refine Aa.Ad (Z0 ?_);refine Af.eq (h56) rfl (Z0 ?_);refine Aa.seq ?_;refine Aa.Ad (Z0 ?_);refine Aa.Ar rfl ?_;refine Aa.Ad (Z0 ?_);refine Aa.ret (Z0 ?_);exact Ae rfl (Z0 trivial)
  | true =>
   rw [hs] at h56;have ha:decide (Bu sel < 0) = true:=by
    unfold Bg at he;rw [if_pos hvw,if_pos hs] at he
    by_cases h:decide (Bu sel < 0) = true
    ·exact h
    ·rw [if_neg h] at he; exact absurd rfl he
   refine Ag.intro func43 (by decide) rfl (D5 ha ?_);refine Aa.Ad (Z1 ha ?_);refine Aa.Ad (Z1 ha ?_);refine Af.eq (Rt w hw hvw) rfl (Z1 ha ?_);refine Aa.seq ?_;refine Aa.Ad (Z1 ha ?_);refine Aa.Ax rfl ?_;refine Aa.skip (Z1 ha ?_);refine Aa.Ad (Z1 ha ?_);refine Af.eq (h56) rfl (Z1 ha ?_);refine Aa.seq ?_;refine Aa.Ad (Z1 ha ?_);refine Af.eq (c75 _) rfl (Z1 ha ?_);refine Aa.Ar rfl ?_;refine Aa.Ad (Z1 ha ?_);refine Aa.ret (Z1 ha ?_);exact Ae rfl (Z1 ha trivial)
end
theorem Fk {w:Wd} {v:Vl} {sel:List UInt8} (he:Bg w v sel = 0):CP w = true /\ (Ay w v).2 = true /\ decide (Bu sel < 0) = false:=by
 unfold Bg at he
 split at he
 ·rename_i h1
  split at he
  ·rename_i h2
   split at he
   ·exact absurd he (by decide)
   ·rename_i h3; exact ⟨h1,h2,by simpa using h3⟩
  ·exact absurd he (by decide)
 ·exact absurd he (by decide)
section
attribute [local go_sem] C2 JV Cy Dn ntmps43
theorem abD (w:Wd) (v:Vl) (sel:List UInt8) (hw:Cw w) (hv:Cm v) (he:Bg w v sel = 0):Ag prog 43 [C2 w,Cy v,.val (.string (Ak sel))] [] (fun r h=>r = .ret (.tup [.ptr 3 0,.val (.int .i64 (Ay w v).1),.val (.int .i64 0)]) /\ h = [.dead,.dead,.map [] [] 0,.cells [DI w,.val (.string (Ak sel)),.mp 2,.sl true [],.sl true []]]):=by
 obtain ⟨hvw,hs,ha⟩:=Fk he;have h56:=c56 w v hv;rw [hs] at h56;refine Ag.less ?_;refine Ag.intro func43 (by decide) rfl (D5 ha ?_);refine Aa.Ad (Z1 ha ?_);refine Aa.Ad (Z1 ha ?_);refine Af.eq (Rt w hw hvw) rfl (Z1 ha ?_);refine Aa.seq ?_;refine Aa.Ad (Z1 ha ?_);refine Aa.Ax rfl ?_;refine Aa.skip (Z1 ha ?_);refine Aa.Ad (Z1 ha ?_);refine Af.eq (h56) rfl (Z1 ha ?_);refine Aa.seq ?_;refine Aa.Ad (Z1 ha ?_);refine Af.eq (c75 _) rfl (Z1 ha ?_);refine Aa.Ax rfl ?_;refine Aa.skip (Z1 ha ?_);refine Aa.Ad (Z1 ha ?_);refine Ag.eq (Ag.EZ (c79 _ _) rfl) (Z1 ha ?_);refine Aa.ret (Z1 ha ?_);rotate_left;exact ⟨[.dead,.dead,.map [] [] 0,.cells [DI w,.val (.string (Ak sel)),.mp 2,.sl true [],.sl true []]],⟨.inl rfl,.inl rfl,.inr ⟨rfl,rfl⟩,.inr ⟨rfl,rfl⟩,trivial⟩,Nat.zero_le _,rfl,rfl⟩
end
end Go.Proofs.Tryz

namespace Go.Proofs.Tryz
open Go.PM
attribute [local irreducible] BM BP Bq Ci AU AO Az
section
attribute [local go_sem] F1 underlying29 ntmps91 is List.map_nil
theorem ajy (l:List Int) (hl:l.length <= 1000000000):Ag prog 91 [.sl false (is l)] [] (fun r h=>r = .ret (.hsl 0 1 0 l.length) /\ h = [.row true 1 1 (is l)]):=by
 cases l with
 | nil =>
  refine Ag.intro func91 (by decide) rfl (Bj ?_);refine Aa.Ad (Z0 ?_);refine Aa.seq ?_;refine Aa.Ad (Z0 ?_);intro b1;intro hb2;refine Aa.cond rfl (fun g3=>?_) (fun g3=>?_);refine Aa.Ad (Z1 g3 ?_)
  first | refine Aa.E7 2 1 1 rfl ?_ | skip
  exact Aa.ret (Z1 g3 trivial);refine Aa.skip (Z1 g3 ?_);refine Aa.Ad (Z1 g3 ?_);refine And.intro (by trivial) ?_;constructor;rotate_left
  first | refine Aa.E7 2 1 1 rfl ?_ | skip
  exact Aa.ret (Z1 g3 trivial);exact JI []
 | cons a l =>
  have hne':is (a :: l) ≠ []:=by simp [is]
  have hu:Xn 1 (is (a :: l)):=JI _;have hn:(is (a :: l)).length = (a :: l).length:=BO _;generalize hg:is (a :: l) = es at *;generalize (a :: l).length = k at *;refine Ag.intro func91 (by decide) rfl (Bj ?_);refine Aa.Ad (Z0 ?_);refine Aa.seq ?_;refine Aa.Ad (Z0 ?_);intro b1;intro hb2;refine Aa.cond rfl (fun g3=>?_) (fun g3=>?_);refine Aa.Ad (Z1 g3 ?_);refine Aa.ret (Z1 g3 ?_);constructor;rotate_left;rotate_left;refine Aa.skip (Z1 g3 ?_);refine Aa.Ad (Z1 g3 ?_);refine And.intro (by trivial) ?_;refine And.intro (by assumption) ?_;refine Ao ?_;refine Aa.ret (Z1 g3 ?_);rotate_left
  ·rw [hb2 hne'] at g3; cases g3
  ·rw [hb2 hne'] at g3; cases g3
  ·rw [hn]
end
def Dt (w:Wd) (sel:List UInt8) (s:Gx):List Ah:=[Bx BC (.agg []) s.1,.cells [DI w,.val (.string (Ak sel)),.mp 0,.hsl 2 s.1.length 0 s.1.length,.hsl 3 s.2.length 0 s.2.length],.row true s.1.length 1 (is s.1),.row true s.2.length 4 (HL s.2)]
theorem RY (w:Wd) (n:Int):Af prog 67 [DI w,.val (.int .i64 n)] (· = .tup [Du (AJ w n),.val (.bool (Bi w n).isSome)]):=by
 have h:=c67 w n;unfold AJ
 cases ho:Bi w n <;> simp only [ho] at h ⊢ <;> exact h
theorem IB {w:Wd} (hv:B6 w) {sel:List UInt8} {S:Int -> Prop} (hS:∀ x,S x -> (Bi w x).isSome = true) {A:List Int} {s:Gx} (h:O2 (Gk w sel) S A s):s.1.length <= w.objs.length /\ s.2.length <= w.objs.length:=by
 have h1:s.1.length <= (w.objs.map (·.oid)).length:=C0 h.nodup fun y hy=>by
  have h2:=Oi hv hS (h.rch y hy);exact List.mem_map.2 ⟨_,(BV h2).1,(BV h2).2⟩
 rw [List.length_map] at h1;have h2:=congrArg List.length h.hits;rw [List.length_map] at h2;have h3:=List.length_filter_le (fun y=>((Gk w sel).mt y).isSome) s.1;omega
def Oa (w:Wd) (sel:List UInt8) (S:Int -> Prop) (n:Nat):Prop :=
 ∀ A oid path s,Kb (Gk w sel) S oid -> DP (w.objs.map (·.oid)) s.1 < n -> O2 (Gk w sel) S A s -> path.length + n <= 2000000 ->
  Ag prog 44 [.ptr 1 0,.val (.int .i64 oid),.sl false (is path)] (Dt w sel s) (fun r h=>r = .ret (.tup []) /\ h = Dt w sel (D6 (Gk w sel) n oid path s))
theorem E1 (w:Wd) (sel:List UInt8) (s:Gx):Aw (Dt w sel s):=by
 intro b hb;simp only [Dt,List.mem_cons,List.not_mem_nil,or_false] at hb
 rcases hb with rfl | rfl | rfl | rfl
 ·exact Bz _ _
 ·rfl
 ·rfl
 ·rfl
end Go.Proofs.Tryz

namespace Go.Proofs.Tryz
open Go.PM
attribute [local irreducible] BM BP Bq Ci AU AO Az
theorem Ag.aed {P:Program} {f:FuncId} {args:List AV} {h h0:List Ah} {x:AE} (ext:List Ah) (hu:Aw h) (ha:AZ h.length args = true) (hl:h0.length = h.length) (hc:Ag P f args h (fun r h'=>r = x /\ h' = h0)) :
  Ag P f args (h ++ ext) (fun r h'=>r = x /\ h' = h0 ++ ext) :=
 (Ag.pre ext hu ha (fun r h' h=>by rw [h.2]; exact hl) hc).mono fun r h' ⟨h1,⟨h2,h3⟩,h4⟩=>⟨h2,by rw [h4,h3]⟩
section
variable {w:Wd} {sel:List UInt8} {S:Int -> Prop} {n:Nat}
theorem aiY (ih:Oa w sel S n) (B4 B5:Ah) (ver:Nat) {A:List Int} {oid:Int} {p:List Int} {s:Gx} (hr:Kb (Gk w sel) S oid) (hf:DP (w.objs.map (·.oid)) s.1 < n) (hv:O2 (Gk w sel) S A s) (hp:p.length + n <= 2000000) :
  Ag prog 44 [.ptr 1 0,.val (.int .i64 oid),.hsl 6 ver 0 p.length] (Dt w sel s ++ [B4,B5,.row true ver 1 (is p)]) (fun r h=>r = .ret (.tup []) /\ h = Dt w sel (D6 (Gk w sel) n oid p s) ++ [B4,B5,.row false ver 1 (is p)]):=by
 refine Ag.agl [.ptr 1 0,.val (.int .i64 oid)] [] ⟨_,func44,by decide,rfl⟩ ?_;have hc:=ih A oid p s hr hf hv hp;have hi:(Dt w sel s ++ [B4,B5,.row true ver 1 (is p)])[6]? = some (.row true ver 1 (is p)):=rfl;have Cf:(Dt w sel s ++ [B4,B5,.row true ver 1 (is p)]).set 6 (.row false ver 1 (is p)) = Dt w sel s ++ [B4,B5,.row false ver 1 (is p)]:=rfl;have ht:((is p).take (0 + p.length)).drop 0 = is p:=by rw [List.drop_zero,Nat.zero_add]; exact List.take_of_length_le (by rw [BO]; exact Nat.le_refl _)
 simp only [Ef,hi,Cf,ht];exact ⟨trivial,by rw [BO]; omega,Ag.aed [B4,B5,.row false ver 1 (is p)] (E1 w sel s) rfl rfl hc⟩
end
def O1 (w:Wd) (sel:List UInt8) (S:Int -> Prop) (n:Nat):Prop :=
 ∀ A (o:Ob) path s,KV o -> o.slots.length <= 1000000 -> (∀ p ∈ Ca w o,Kb (Gk w sel) S p.2) -> (Ca w o ≠ [] -> DP (w.objs.map (·.oid)) s.1 < n) -> O2 (Gk w sel) S A s -> path.length + 1 + n <= 2000000 ->
  Ag prog 50 [.ptr 1 0,Du o,.sl false (is path)] (Dt w sel s) (fun r h=>r = .ret (.tup []) /\ h = Dt w sel (E5 (D6 (Gk w sel) n) path (Ca w o) s))
section
attribute [local go_sem] Dt Du H9 Cu List.cons_append List.nil_append BO ntmps50
theorem L1 {w:Wd} (hw:Cw w) (hv:B6 w) {sel:List UInt8} {S:Int -> Prop} (hS:∀ x,S x -> (Bi w x).isSome = true) {n:Nat} (ih:Oa w sel S n):O1 w sel S n:=by
 intro A o path s ho hso hr hf hvis hp;obtain ⟨st,hst⟩:∃ st:Nat -> Gx,∀ i,st i = E5 (D6 (Gk w sel) n) path (Fs w o.slots i) s:=⟨_,fun _=>rfl⟩
 have hst0:st 0 = s:=hst 0;have hsub:∀ i,i <= o.slots.length -> ∀ p ∈ Fs w o.slots i,p ∈ Ca w o:=fun i hi p hp=>by
  obtain ⟨h1,h2⟩:=Hi.1 hp;exact Hi.2 ⟨by omega,h2⟩
 have hV:∀ i,i <= o.slots.length -> Step (Gk w sel) S A s (st i):=fun i hi=>by
  rw [hst];exact (Ht (U:=w.objs.map (·.oid)) (path:=path) (I2 (GR w sel) n A) (Fs w o.slots i) s (fun p hp=>hr p (hsub i hi p hp)) (fun hne=>hf fun e=>hne (List.eq_nil_iff_forall_not_mem.2 fun p hp=>by have:=hsub i hi p hp; rw [e] at this; cases this)) hvis).1
 have hskip:∀ i,BX (o.slots.getD i default) = false -> st (i + 1) = st i:=fun i hl=>by
  rw [hst,hst,Fs,hl]; simp
 have hgo:∀ i,BX (o.slots.getD i default) = true -> st (i + 1) = D6 (Gk w sel) n (Ay w (o.slots.getD i default).v).1 (path ++ [(i:Int)]) (st i):=fun i hl=>by
  rw [hst,hst,Fs,if_pos hl,JM]; rfl
 have hE:∀ (B4 B5:Ah) (ver i:Nat),i < o.slots.length -> BX (o.slots.getD i default) = true -> Ag prog 44 [.ptr 1 0,.val (.int .i64 (Ay w (o.slots.getD i default).v).1),.hsl 6 ver 0 (path.length + 1)] (Dt w sel (st i) ++ [B4,B5,.row true ver 1 (is path ++ [.val (.int .i64 (i:Nat))])]) (fun r h=>r = .ret (.tup []) /\ h = Dt w sel (st (i + 1)) ++ [B4,B5,.row false ver 1 (is path ++ [.val (.int .i64 (i:Nat))])]):=fun B4 B5 ver i hi hl=>by
  have hm:(i,(Ay w (o.slots.getD i default).v).1) ∈ Ca w o:=Eh.2 ⟨hi,hl,rfl⟩;have h1:=aiY ih B4 B5 ver (p:=path ++ [(i:Int)]) (hr _ hm) (Nat.lt_of_le_of_lt (Gb (hV i (by omega)).sub) (hf (List.ne_nil_of_mem hm))) (hV i (by omega)).vis (by simp; omega);rw [<- hgo i hl] at h1;have e1:is (path ++ [(i:Int)]) = is path ++ [.val (.int .i64 (i:Nat))]:=by simp [is]
  rw [e1,List.length_append] at h1;exact h1
 have hlen:∀ i,i <= o.slots.length -> (st i).1.length <= 1048576 /\ (st i).2.length <= 1048576:=fun i hi=>by
  have h1:=IB hv hS (hV i hi).vis;have h2:=hw.lo;omega
 have hend:E5 (D6 (Gk w sel) n) path (Ca w o) s = st o.slots.length:=(hst _).symm;rw [hend,<- hst0];have h56:∀ i,i < o.slots.length -> Af prog 56 [DI w,Cy (o.slots.getD i default).v] (· = .tup [.val (.int .i64 (Ay w (o.slots.getD i default).v).1),.val (.bool (Ay w (o.slots.getD i default).v).2)]):=fun i hi=>c56 w _ (ho.ss _ (Bs hi));refine Ag.trim (by simp [Dt]) rfl (E1 w sel _) ?_;clear hst hV hgo;refine Ag.intro func50 (by decide) rfl (Bj ?_);refine Aa.Ad (Z0 ?_);refine Aa.Ad (Z0 ?_);refine Aa.Ad (Z0 ?_);refine Ao ?_;refine Aa.block ?_;refine Aa.A0 (fun i:Nat=>[(16,.val (.int .i64 (i:Nat)))]) [15,14,6,0,2] (fun i:Nat=>[Bx BC (.agg []) (st i).1,.cells [DI w,.val (.string (Ak sel)),.mp 0,.hsl 2 (st i).1.length 0 (st i).1.length,.hsl 3 (st i).2.length 0 (st i).2.length],.row true (st i).1.length 1 (is (st i).1),.row true (st i).2.length 4 (HL (st i).2),.dead]) (fun i:Nat=>i <= o.slots.length) (fun i:Nat=>o.slots.length - i) (0) ?_ rfl ?_ ?_;omega;refine ⟨rfl,?_,?_,rfl,?_⟩;refine C1 ?_;constructor;trivial;trivial;refine C1 ?_;constructor;rotate_left;trivial;exact C1 trivial;rintro i hi;refine Z0 ?_;refine Aa.Ad (Z0 ?_);refine Aa.seq (Aa.cond rfl (fun g57=>?_) (fun g57=>?_));have d57:=An g57;refine Aa.skip (Z1 g57 ?_);refine Aa.seq (Aa.block ?_);refine Aa.Ad (Z1 g57 ?_);refine Ao ?_;refine And.intro (by assumption) ?_;simp -implicitDefEqProofs (dsimp:=false) (disch:=omega) only [i64_in,gd];refine Z1 g57 ?_;refine Aa.Ad (Z1 g57 ?_)
 refine Af.eq (c55 _) rfl (Z1 g57 ?_);refine Aa.cond rfl (fun g59=>?_) (fun g59=>?_);refine Aa.BQ [(0,.free),(1,.free),(2,.free),(4,.free),(3,.read),(5,.read),(6,.free),(7,.free),(8,.free),(9,.free),(10,.free),(11,.free)] mixed (by kernel_rfl) (Z2 g57 g59 ?_);refine Ao (Ao ?_);refine AI.go (h56 i (by omega)) rfl (Z2 g57 g59 ?_);refine Aa.region (Z2 g57 g59 ?_);refine Ag.eq (Ag.EZ (ajy path (by omega)) rfl) (Z2 g57 g59 ?_);refine And.intro (by trivial) ?_;constructor;rotate_left;refine Ao ?_;refine Ag.eq (hE _ _ _ i (by omega) (by assumption)) (Z2 g57 g59 ?_);refine Aa.region (Z2 g57 g59 ?_);refine Bd ?_;refine ⟨i + 1,?_⟩;constructor;omega;constructor;omega;refine ⟨rfl,?_,?_,rfl,?_⟩;refine Cv g57 g59 ?_;constructor;trivial;trivial;refine Cv g57 g59 ?_;constructor;rotate_left;trivial;exact Cv g57 g59 trivial;refine Aa.skip (Z2 g57 g59 ?_);refine Aa.region (Z2 g57 g59 ?_);refine Bd ?_;refine ⟨i + 1,?_⟩;constructor;omega;constructor;omega;refine ⟨rfl,?_,?_,rfl,?_⟩;refine Cv g57 g59 ?_;constructor;trivial;trivial;refine Cv g57 g59 ?_;constructor;rotate_left;constructor;constructor;rotate_left;trivial;constructor;rotate_left;rotate_left;exact Cv g57 g59 trivial;have d57:=Aj g57;refine Aa.exit (Z1 g57 ?_);rotate_left
 ·exact .inr (Bz _ _)
 ·exact JI [(i:Int)]
 ·exact .inr (Bz _ _)
 ·rw [hskip i g59]; exact .inr ⟨rfl,Bz _ _⟩
 ·rw [hskip i g59]
 ·rw [hskip i g59]
 ·rw [hskip i g59]
 ·obtain rfl:i = o.slots.length:=by have:=of_decide_eq_false g57; omega
  exact ⟨[.dead],rfl⟩
end
theorem acK (l:List Int) (x:Int) (ext:List Ah):Ag prog 86 [.mp 0,.val (.int .i64 x)] (Bx BC (.agg []) l :: ext) (fun r h=>r = .ret (.val (.bool (!Hk x l))) /\ h = Bx BC (.agg []) (if x ∈ l then l else l ++ [x]) :: ext) :=
 Ag.aed (h:=[Bx BC (.agg []) l]) (h0:=[Bx BC (.agg []) (if x ∈ l then l else l ++ [x])]) ext (fun b hb=>by rw [List.mem_singleton.1 hb]; exact Bz _ _) rfl rfl (c86 l x)
theorem V6 {G:Jw} {S:Int -> Prop} {A:List Int} {oid:Int} {s:Gx} (hr:Kb G S oid) (h1:oid ∉ s.1) (hm:G.mt oid = none) (h:O2 G S A s):O2 G S (oid :: A) (s.1 ++ [oid],s.2):=by
 refine ⟨?_,fun y hy=>?_,fun y hy=>?_,?_,h.ok⟩
 ·rw [List.nodup_append]
  exact ⟨h.nodup,by simp,fun a ha b hb=>by rw [List.mem_singleton.1 hb]; exact fun e=>h1 (e ▸ ha)⟩
 ·rcases List.mem_append.1 hy with hy | hy
  ·exact h.rch y hy
  ·rw [List.mem_singleton.1 hy]; exact hr
 ·rcases List.mem_append.1 hy with hy | hy
  ·rcases h.good y hy with h2 | h2 | h2
   ·exact .inl (List.mem_cons_of_mem _ h2)
   ·exact .inr (.inl h2)
   ·exact .inr (.inr fun q hq=>List.mem_append_left _ (h2 q hq))
  ·rw [List.mem_singleton.1 hy]; exact .inl List.mem_cons_self
 ·simp [h.hits,hm]
section
attribute [local go_sem] Dt if_false Du ntmps44 List.length_append List.length_cons List.length_nil if_true
theorem WR {w:Wd} (hw:Cw w) (hv:B6 w) {sel:List UInt8} (hs:sel.length <= 1000000000) {S:Int -> Prop} (hS:∀ x,S x -> (Bi w x).isSome = true) {n:Nat} (ih:O1 w sel S n):Oa w sel S (n + 1):=by
 intro A oid path s hr hf hvis hp;have hx:=Oi hv hS hr;have ho:=hw.OZ _ (BV hx).1;have hso:(AJ w oid).slots.length <= 1000000:=by have:=(I4 hv (BV hx).1).slots; omega
 have hl:=IB hv hS hvis;have hlo:=hw.lo;have h67:=RY w oid;have h87:=c87 (AJ w oid) sel hs (by omega);unfold D6;refine Ag.trim (by simp [Dt]) rfl (E1 w sel _) ?_
 by_cases hm:oid ∈ s.1
 ·rw [if_pos hm]
  have hin:Hk oid s.1 = true:=by simp [Hk,hm]
  refine Ag.intro func44 (by decide) rfl (VY hin hm ?_);refine Aa.seq ?_;refine Aa.Ad (Z2 hin hm ?_);refine Ao ?_;refine Ag.eq (acK s.1 oid _) (Z2 hin hm ?_);refine Aa.Ar rfl ?_;refine Aa.ret (Z2 hin hm ?_);rotate_left;exact ⟨[],rfl⟩
 ·rw [if_neg hm]
  have hin:Hk oid s.1 = false:=by simp [Hk,hm]
  have hmt:(Gk w sel).mt oid = AN (AJ w oid) sel:=rfl;rw [hmt];have hsn:is (s.1 ++ [oid]) = is s.1 ++ [.val (.int .i64 oid)]:=by simp [is]
  unfold abu at h87;have h50:AN (AJ w oid) sel = none -> ∀ B,Ag prog 50 [.ptr 1 0,Du (AJ w oid),.sl false (is path)] (Dt w sel (s.1 ++ [oid],s.2) ++ [B]) (fun r h=>r = .ret (.tup []) /\ h = Dt w sel (E5 (D6 (Gk w sel) n) path (Ca w (AJ w oid)) (s.1 ++ [oid],s.2)) ++ [B]):=fun hm0 B =>
   Ag.aed [B] (E1 w sel _) rfl rfl (ih (oid :: A) (AJ w oid) path (s.1 ++ [oid],s.2) ho hso (fun p hp=>.step (i:=p.1) hr hm0 hp) (fun hne=>by
    have:=PI (GR w sel oid hne) hm
    show DP _ (s.1 ++ [oid]) < n
    omega) (V6 hr hm hm0 hvis) (by omega))
  have hps:(Gk w sel).ps oid = Ca w (AJ w oid):=rfl;rw [hps];simp only [Dt,hsn,List.length_append,List.length_cons,List.length_nil,Nat.zero_add,List.cons_append,List.nil_append] at h50;generalize AJ w oid = o at *
  cases hmp:AN o sel with
  | some p =>
   rw [hmp] at h87;simp only at h87 ⊢;have hhn:HL (s.2 ++ [⟨oid,(p.1:Nat),p.2,path⟩]) = HL s.2 ++ [.agg [.val (.int .i64 oid),.val (.int .i64 (p.1:Nat)),.val (.bool p.2),.sl false (is path)]]:=by simp [HL,NP]
   refine Ag.intro func44 (by decide) rfl (VY hin hm ?_);refine Aa.seq ?_;refine Aa.Ad (Z2 hin hm ?_);refine Ao ?_;refine Ag.eq (acK s.1 oid _) (Z2 hin hm ?_);refine Aa.Ax rfl ?_;refine Aa.skip (Z2 hin hm ?_);refine Aa.Ad (Z2 hin hm ?_);refine Ao ?_;refine And.intro (by trivial) ?_;constructor;rotate_left;refine Ao (Ao ?_);refine Aa.Ad (Z2 hin hm ?_);refine Ao ?_;refine Af.eq (h67) rfl (Z2 hin hm ?_);refine Aa.seq ?_;refine Aa.BQ [(1,.free),(2,.free),(3,.free),(0,.read),(4,.read),(5,.free),(6,.free),(7,.free),(8,.free),(9,.free),(10,.free),(11,.free),(12,.free)] mixed (by kernel_rfl) (Z2 hin hm ?_);refine Ao ?_;refine AI.go (h87) rfl (Z2 hin hm ?_);refine Aa.Ad (Z2 hin hm ?_);refine Aa.Ar rfl ?_;refine Aa.Ad (Z2 hin hm ?_);refine Ao ?_;refine And.intro (by trivial) ?_;constructor;rotate_left;refine Ao (Ao ?_);refine Aa.ret (Z2 hin hm ?_);rotate_left
   ·exact JI [oid]
   ·exact VH [⟨oid,(p.1:Nat),p.2,path⟩]
   ·rw [hsn,hhn]; exact ⟨_,rfl⟩
  | none =>
   rw [hmp] at h87;simp only at h87 ⊢;refine Ag.intro func44 (by decide) rfl (VY hin hm ?_);refine Aa.seq ?_;refine Aa.Ad (Z2 hin hm ?_);refine Ao ?_;refine Ag.eq (acK s.1 oid _) (Z2 hin hm ?_);refine Aa.Ax rfl ?_;refine Aa.skip (Z2 hin hm ?_);refine Aa.Ad (Z2 hin hm ?_);refine Ao ?_;refine And.intro (by trivial) ?_;constructor;rotate_left;refine Ao (Ao ?_);refine Aa.Ad (Z2 hin hm ?_);refine Ao ?_;refine Af.eq (h67) rfl (Z2 hin hm ?_);refine Aa.seq ?_;refine Aa.BQ [(1,.free),(2,.free),(3,.free),(0,.read),(4,.read),(5,.free),(6,.free),(7,.free),(8,.free),(9,.free),(10,.free),(11,.free),(12,.free)] mixed (by kernel_rfl) (Z2 hin hm ?_);refine Ao ?_;refine AI.go (h87) rfl (Z2 hin hm ?_);refine Aa.Ad (Z2 hin hm ?_);refine Aa.Ax rfl ?_;refine Aa.skip (Z2 hin hm ?_);refine Aa.region (Z2 hin hm ?_);refine Ag.eq (h50 hmp _) (Z2 hin hm ?_);rotate_left
   ·exact JI [oid]
   ·exact ⟨_,rfl⟩
end
theorem Hh {w:Wd} (hw:Cw w) (hv:B6 w) {sel:List UInt8} (hs:sel.length <= 1000000000) {S:Int -> Prop} (hS:∀ x,S x -> (Bi w x).isSome = true):∀ n,Oa w sel S n
 | 0=>fun _ _ _ _ _ hf=>absurd hf (Nat.not_lt_zero _)
 | n + 1=>WR hw hv hs hS (L1 hw hv hS (Hh hw hv hs hS n))
end Go.Proofs.Tryz

namespace Go.Proofs.Tryz
open Go.PM
attribute [local irreducible] BM BP Bq Ci AU AO Az
section
attribute [local go_sem] NP ntmps45
theorem af4 (w:Wd) (sel:List UInt8) (B0 B2:Ah) (x3:AV) (hs:List AV) (a b:VX) (hl:1 < hs.length) (h2:hs.length <= 1000000000) (e0:hs.getD 0 .dead = NP a) (e1:hs.getD 1 .dead = NP b) :
  Ag prog 45 [.ptr 1 0] [B0,.cells [DI w,.val (.string (Ak sel)),.mp 0,x3,.hsl 3 hs.length 0 hs.length],B2,.row true hs.length 4 hs] (fun r h=>r = .ret (HG ⟨2,a.oid,a.slot,a.path,a.set,b.oid,b.slot,b.path⟩) /\ ∃ g,h = [B0,.cells [DI w,.val (.string (Ak sel)),.mp 0,x3,.hsl 3 hs.length 0 hs.length],B2,.row true hs.length 4 hs] ++ g):=by
 refine Ag.I7 ?_;have g0:(decide ((hs.length:Int) > 1)) = true:=by simp; omega
 have g1:(((hs.length:Int)) == 0) = false:=beq_eq_false_iff_ne.2 (by omega);refine Ag.intro func45 (by decide) rfl (VY e0 e1 ?_);refine Aa.Ad (Z2 e0 e1 ?_);refine Aa.seq ?_;refine Aa.Ad (Z2 e0 e1 ?_);refine Ao ?_;refine Aa.cond rfl (fun g4=>?_) (fun g4=>?_);have d4:=AB g4
 (exfalso; omega)
 have d4:=Aq g4;refine Aa.skip (Z3 e0 e1 g4 ?_);refine Aa.Ad (Z3 e0 e1 g4 ?_);refine Ao (Ao (Ao (Ao ?_)));refine Aa.Ad (Z3 e0 e1 g4 ?_);refine Ao (Ao (Ao (Ao ?_)));refine Aa.seq ?_;refine Aa.Ad (Z3 e0 e1 g4 ?_);refine Ao ?_;refine Aa.cond rfl (fun g5=>?_) (fun g5=>?_);have d5:=An g5;refine Aa.Ad (Z4 e0 e1 g4 g5 ?_);refine Ao ?_;refine And.intro (by assumption) ?_;refine Ao ?_;refine And.intro (by assumption) ?_;refine Aa.BS [(0,.free),(2,.free),(4,.free),(6,.free),(1,.look [6]),(3,.look [6]),(5,.look [6]),(7,.wr 6),(8,.free),(9,.wr 6),(10,.free),(11,.wr 6),(12,.free),(13,.wr 6)] mixed (by kernel_rfl) (Z4 e0 e1 g4 g5 ?_);refine Ao (Ao (Ao (Ao ?_)));refine And.intro (by trivial) ?_;refine And.intro (by trivial) ?_;refine And.intro (by trivial) ?_;refine Ao (Ao (Ao ?_));refine Aa.Ad (Z4 e0 e1 g4 g5 ?_);refine Aa.ret (Z4 e0 e1 g4 g5 ?_);refine And.intro (by trivial) ?_;rotate_left;have d5:=Aj g5
 (exfalso; omega)
 exact ⟨_,rfl⟩
end
section
attribute [local go_sem] NP ntmps45
theorem agi (w:Wd) (sel:List UInt8) (B0 B2:Ah) (x3:AV) (a:VX) :
  Ag prog 45 [.ptr 1 0] [B0,.cells [DI w,.val (.string (Ak sel)),.mp 0,x3,.hsl 3 1 0 1],B2,.row true 1 4 [NP a]] (fun r h=>r = .ret (HG ⟨1,a.oid,a.slot,a.path,a.set,0,0,[]⟩) /\ ∃ g,h = [B0,.cells [DI w,.val (.string (Ak sel)),.mp 0,x3,.hsl 3 1 0 1],B2,.row true 1 4 [NP a]] ++ g):=by
 refine Ag.I7 ?_;refine Ag.intro func45 (by decide) rfl (Bj ?_);refine Aa.Ad (Z0 ?_);refine Aa.seq ?_;refine Aa.Ad (Z0 ?_);refine Ao ?_;refine Aa.Ax rfl ?_;refine Aa.skip (Z0 ?_);refine Aa.Ad (Z0 ?_);refine Ao ?_;refine Aa.Ad (Z0 ?_);refine Ao (Ao (Ao (Ao ?_)));refine Aa.seq ?_;refine Aa.Ad (Z0 ?_);refine Ao ?_;refine Aa.Ax rfl ?_;refine Aa.skip (Z0 ?_);refine Aa.Ad (Z0 ?_);refine Aa.ret (Z0 ?_);refine And.intro (by trivial) ?_;rotate_left;exact ⟨_,rfl⟩
end
section
attribute [local go_sem] ntmps45
theorem afK (w:Wd) (sel:List UInt8) (B0 B2:Ah) (x3:AV) :
  Ag prog 45 [.ptr 1 0] [B0,.cells [DI w,.val (.string (Ak sel)),.mp 0,x3,.hsl 3 0 0 0],B2,.row true 0 4 []] (fun r h=>r = .ret (HG default) /\ ∃ g,h = [B0,.cells [DI w,.val (.string (Ak sel)),.mp 0,x3,.hsl 3 0 0 0],B2,.row true 0 4 []] ++ g):=by
 refine Ag.I7 ?_;refine Ag.intro func45 (by decide) rfl (Bj ?_);refine Aa.Ad (Z0 ?_);refine Aa.seq ?_;refine Aa.Ad (Z0 ?_);refine Ao ?_;refine Aa.Ar rfl ?_;refine Aa.Ad (Z0 ?_);refine Aa.ret (Z0 ?_);refine And.intro (by trivial) ?_;rotate_left;exact ⟨_,rfl⟩
end
theorem acT (w:Wd) (sel:List UInt8) (s:Gx) (hl:s.2.length <= 1000000000):Ag prog 45 [.ptr 1 0] (Dt w sel s) (fun r h=>r = .ret (HG (Bo s.2)) /\ h = Dt w sel s):=by
 refine Ag.trim (Nat.le_refl _) rfl (E1 w sel s) ?_;obtain ⟨met,hits⟩:=s
 match hits,hl with
 | [],_=>exact afK w sel _ _ _
 | [a],_=>exact agi w sel _ _ _ a
 | a :: b :: l,hl =>
  have hn:=IQ (a :: b :: l);have:=af4 w sel (Bx BC (.agg []) met) (.row true met.length 1 (is met)) (.hsl 2 met.length 0 met.length) (HL (a :: b :: l)) a b (by rw [hn]; simp) (by rw [hn]; exact hl) rfl rfl;rw [hn] at this;exact this
def FQ (k:Nat) (w:Wd) (sel:List UInt8) (s:Gx):List Ah:=[Bx BC (.agg []) s.1,.cells [DI w,.val (.string (Ak sel)),.mp k,.hsl (k + 2) s.1.length 0 s.1.length,.hsl (k + 3) s.2.length 0 s.2.length],.row true s.1.length 1 (is s.1),.row true s.2.length 4 (HL s.2)]
theorem CM (k:Nat) (l:List Int):(Bx BC (.agg []) l).shift k = Bx BC (.agg []) l:=by
 unfold Bx Gt;rw [Lo]
 congr 1
 rw [List.map_map,List.map_congr_left];intro p _;simp [M9,KY]
theorem Gp (k:Nat) (w:Wd) (sel:List UInt8) (s:Gx):(Dt w sel s).map (Ah.shift k) = FQ k w sel s:=by
 simp only [Dt,FQ,List.map_cons,List.map_nil,CM];rfl
theorem KQ {k:Nat} {pre:List Ah} (hk:pre.length = k) (hu:Aw pre) {w:Wd} {sel:List UInt8} {s s':Gx} {f:FuncId} {args:List AV} {v:AV} (ha:AZ (k + 4) (args.map (AV.shift k)) = true)
  (hc:Ag prog f args (Dt w sel s) (fun r h=>r = .ret v /\ h = Dt w sel s')) (ext:List Ah) :
  Ag prog f (args.map (AV.shift k)) (pre ++ FQ k w sel s ++ ext) (fun r h=>r = .ret (v.shift k) /\ h = pre ++ FQ k w sel s' ++ ext):=by
 subst hk;have h1:∀ t,Aw (pre ++ FQ pre.length w sel t):=fun t b hb=>by
  have hl:(pre ++ FQ pre.length w sel t).length = pre.length + 4:=by simp [FQ]
  rw [hl]
  rcases List.mem_append.1 hb with hb | hb
  ·exact Ah.CG (by omega) b (hu b hb)
  ·simp only [FQ,List.mem_cons,List.not_mem_nil,or_false] at hb
   rcases hb with rfl | rfl | rfl | rfl
   ·exact Bz _ _
   ·simp [Ah.under,AZ,AV.under,DI]
   ·rfl
   ·rfl
 have h2:=Ag.Tq pre ext hc rfl hu (fun b hb=>by
  simp only [Dt,List.mem_cons,List.not_mem_nil,or_false] at hb
  rcases hb with rfl | rfl | rfl | rfl <;> rfl) (by rw [Gp]; exact h1 s) (by rw [Gp]; simp only [List.length_append]; exact ha)
 rw [Gp,Gp] at h2;exact h2
end Go.Proofs.Tryz

namespace Go.Proofs.Tryz
open Go.PM
attribute [local irreducible] BM BP Bq Ci AU AO Az
noncomputable def DY (w:Wd) (v:Vl) (sel:List UInt8):GS × Int:=if Bg w v sel = 0 then (Bo (seen w sel (Ay w v).1).2,0) else (default,Bg w v sel)
noncomputable def VE (w:Wd) (v:Vl) (sel:List UInt8):List Int × Int:=if Bg w v sel = 0 then ((seen w sel (Ay w v).1).1,0) else ([],Bg w v sel)
theorem NL {w:Wd} (hv:B6 w) {v:Vl} (h:(Ay w v).2 = true):(Bi w (Ay w v).1).isSome = true:=Gl hv h
theorem YN {w:Wd} (hv:B6 w) {sel:List UInt8} {x:Int} (hx:(Bi w x).isSome = true):(seen w sel x).1.length <= w.objs.length /\ (seen w sel x).2.length <= w.objs.length :=
 IB hv (fun y e=>by rw [e]; exact hx) (Jo w sel x).vis
theorem BJ {l:List Ah} (h:l.all (fun b=>b.under l.length) = true):Aw l:=fun b hb=>List.all_eq_true.1 h b hb
theorem Kc {w:Wd} (hw:Cw w) (hv:B6 w) {sel:List UInt8} (hs:sel.length <= 1000000000) {x:Int} (hx:(Bi w x).isSome = true) :
  Ag prog 44 [.ptr 1 0,.val (.int .i64 x),.sl true []] (Dt w sel ([],[])) (fun r h=>r = .ret (.tup []) /\ h = Dt w sel (seen w sel x)):=by
 have h1:=Hh hw hv hs (S:=(· = x)) (fun y e=>by rw [e]; exact hx) (w.objs.length + 1) [] x [] ([],[]) (.base rfl) (by have:=G8 (w.objs.map (·.oid)) []; rw [List.length_map] at this; show DP _ [] < _; omega) (IK _ _) (by have:=hw.lo; simp; omega);exact Ag.OT h1
section
attribute [local go_sem] C2 JV Cy ntmps16 HG Dn
theorem c16 (w:Wd) (v:Vl) (sel:List UInt8) (hw:Cw w) (hvl:Cm v) (hs:sel.length <= 1000000000):Af prog 16 [C2 w,Cy v,.val (.string (Ak sel))] (· = .tup [HG (DY w v sel).1,.val (.int .i64 (DY w v sel).2)]):=by
 by_cases he:Bg w v sel = 0
 ·obtain ⟨h1,h2,h3⟩:=Fk he
  have hv:=Ck.1 h1;have hx:=NL hv h2;have e0:DY w v sel = (Bo (seen w sel (Ay w v).1).2,0):=if_pos he;rw [e0];have h44:=fun b0 b1 b2 (hu:Aw [b0,b1,b2,.dead,.dead])=>KQ (k:=5) (pre:=[b0,b1,b2,.dead,.dead]) rfl hu rfl (Kc hw hv hs hx (sel:=sel)) [];have h45:=fun b0 b1 b2 (hu:Aw [b0,b1,b2,.dead,.dead])=>KQ (k:=5) (pre:=[b0,b1,b2,.dead,.dead]) rfl hu rfl (acT w sel (seen w sel (Ay w v).1) (by have:=(YN hv hx (sel:=sel)).2; have:=hw.lo; omega)) [];refine Ag.intro func16 (by decide) rfl (Bj ?_);refine Aa.Ad (Z0 ?_);refine Aa.Ad (Z0 ?_);refine Ag.eq (Ag.EZ (abD w v sel hw hvl he) rfl) (Z0 ?_);refine Aa.seq ?_;refine Aa.Ad (Z0 ?_);refine Aa.Ax rfl ?_;refine Aa.skip (Z0 ?_);refine Aa.Da 6 3 1 rfl rfl (Z0 ?_);refine Aa.Da 6 4 4 rfl rfl (Z0 ?_);refine Aa.Ad (Z0 ?_);refine Ag.eq (h44 _ _ _ ?_) ?_;exact BJ rfl;refine Z0 ?_;refine Aa.Ad (Z0 ?_);refine Ag.eq (h45 _ _ _ ?_) ?_;exact BJ rfl;refine Z0 ?_;refine Aa.ret (Z0 ?_);exact Ae rfl (Z0 trivial)
 ·have e0:DY w v sel = (default,Bg w v sel):=if_neg he
  rw [e0];have hb:(Bg w v sel != 0) = true:=by simpa using he
  refine Ag.I7 ?_;refine Ag.intro func16 (by decide) rfl (D5 hb ?_);refine Aa.Ad (Z1 hb ?_);refine Aa.Ad (Z1 hb ?_);refine Af.eq (af2 w v sel hw hvl he) rfl (Z1 hb ?_);refine Aa.seq ?_;refine Aa.Ad (Z1 hb ?_);refine Aa.Ar rfl ?_;refine Aa.Ad (Z1 hb ?_);refine Aa.ret (Z1 hb ?_);refine Ae rfl ?_;trivial
end
section
attribute [local go_sem] C2 JV Cy ntmps17 Dn FQ
theorem c17 (w:Wd) (v:Vl) (sel:List UInt8) (hw:Cw w) (hvl:Cm v) (hs:sel.length <= 1000000000):Af prog 17 [C2 w,Cy v,.val (.string (Ak sel))] (· = .tup [.sl false (is (VE w v sel).1),.val (.int .i64 (VE w v sel).2)]):=by
 by_cases he:Bg w v sel = 0
 ·obtain ⟨h1,h2,h3⟩:=Fk he
  have hv:=Ck.1 h1;have hx:=NL hv h2;have e0:VE w v sel = ((seen w sel (Ay w v).1).1,0):=if_pos he;rw [e0];have h44:=fun b0 b1 (hu:Aw [b0,b1,.dead,.dead])=>KQ (k:=4) (pre:=[b0,b1,.dead,.dead]) rfl hu rfl (Kc hw hv hs hx (sel:=sel)) [];refine Ag.res ?_;refine Ag.intro func17 (by decide) rfl (Bj ?_);refine Aa.Ad (Z0 ?_);refine Aa.Ad (Z0 ?_);refine Ag.eq (Ag.EZ (abD w v sel hw hvl he) rfl) (Z0 ?_);refine Aa.seq ?_;refine Aa.Ad (Z0 ?_);refine Aa.Ax rfl ?_;refine Aa.skip (Z0 ?_);refine Aa.Da 5 3 1 rfl rfl (Z0 ?_);refine Aa.Da 5 4 4 rfl rfl (Z0 ?_);refine Aa.Ad (Z0 ?_);refine Ag.eq (h44 _ _ ?_) ?_;exact BJ rfl;refine Z0 ?_;refine Aa.Ad (Z0 ?_);refine Ao ?_;refine Aa.ret (Z0 ?_);refine Ao ?_;refine Ae rfl ?_;rotate_left;rw [List.take_of_length_le (by rw [BO]; exact Nat.le_refl _)]
 ·have e0:VE w v sel = ([],Bg w v sel):=if_neg he
  rw [e0];have hb:(Bg w v sel != 0) = true:=by simpa using he
  refine Ag.I7 ?_;refine Ag.intro func17 (by decide) rfl (D5 hb ?_);refine Aa.Ad (Z1 hb ?_);refine Aa.Ad (Z1 hb ?_);refine Af.eq (af2 w v sel hw hvl he) rfl (Z1 hb ?_);refine Aa.seq ?_;refine Aa.Ad (Z1 hb ?_);refine Aa.Ar rfl ?_;refine Aa.Ad (Z1 hb ?_);refine Aa.ret (Z1 hb ?_);refine Ae rfl ?_;trivial
end
end Go.Proofs.Tryz

namespace Go.Proofs.Tryz
open Go.PM
attribute [local irreducible] BM BP Bq Ci AU AO Az
noncomputable def Bp (w:Wd) (n:Int) (sel:List UInt8):Int:=if CP w = true then (if (Bi w n).isSome = true then (if decide (Bu sel < 0) = true then 1 else 0) else 3) else 50
theorem Hr {w:Wd} {n:Int} {sel:List UInt8} (he:Bp w n sel = 0):CP w = true /\ (Bi w n).isSome = true /\ decide (Bu sel < 0) = false:=by
 unfold Bp at he
 split at he
 ·rename_i h1
  split at he
  ·rename_i h2
   split at he
   ·exact absurd he (by decide)
   ·rename_i h3; exact ⟨h1,h2,by simpa using h3⟩
  ·exact absurd he (by decide)
 ·exact absurd he (by decide)
section
attribute [local go_sem] C2 JV Du Dn ntmps49
theorem acq (w:Wd) (n:Int) (sel:List UInt8) (hw:Cw w) (he:Bp w n sel = 0):Ag prog 49 [C2 w,.val (.int .i64 n),.val (.string (Ak sel))] [] (fun r h=>r = .ret (.tup [.ptr 4 0,Du (AJ w n),.val (.int .i64 0)]) /\ h = [.dead,.dead,.dead] ++ FQ 3 w sel ([],[])):=by
 obtain ⟨hvw,hs,ha⟩:=Hr he;have h67:=RY w n;rw [hs] at h67;have hob:=NU (AJ w n);generalize AJ w n = o at *;refine Ag.less ?_;refine Ag.intro func49 (by decide) rfl (D5 ha ?_);refine Aa.Ad (Z1 ha ?_);refine Aa.Ad (Z1 ha ?_);refine Af.eq (Rt w hw hvw) rfl (Z1 ha ?_);refine Aa.seq ?_;refine Aa.Ad (Z1 ha ?_);refine Aa.Ax rfl ?_;refine Aa.skip (Z1 ha ?_);refine Aa.Ad (Z1 ha ?_);refine Af.eq (h67) rfl (Z1 ha ?_);refine Aa.seq (Aa.block ?_);refine Aa.Ad (Z1 ha ?_);refine Aa.Ax rfl ?_;refine Aa.Ad (Z1 ha ?_);refine Af.eq (c75 _) rfl (Z1 ha ?_);refine Aa.Ax rfl ?_;refine Aa.skip (Z1 ha ?_);refine Aa.BQ [(0,.free),(1,.free),(3,.read),(2,.upd),(4,.free),(5,.set),(6,.free)] mixed (by kernel_rfl) (Z1 ha ?_);refine ⟨⟨_,func79,by decide,rfl⟩,Or.inl ?_⟩;refine Z1 ha ?_;refine Ja.go (Ag.EZ (c79 _ _) rfl) (Z1 ha ?_);refine And.intro (by (repeat first | exact Ai.refl _ | exact Ai.nil _ | refine Ai.same ?_ | refine Ai.row ?_ | refine Ai.ON ?_ | refine Ai.F8 ?_ | refine Ai.F9 ?_)) ?_;refine Aa.Da 4 3 1 rfl rfl ?_;refine Aa.Da 4 4 4 rfl rfl ?_;refine Aa.ret (Z1 ha ?_);rotate_left;exact ⟨[.dead,.dead,.dead,.map [] [] 0,.cells [DI w,.val (.string (Ak sel)),.mp 3,.hsl 5 0 0 0,.hsl 6 0 0 0],.row true 0 1 [],.row true 0 4 []],⟨.inl rfl,.inl rfl,.inl rfl,.inr ⟨rfl,rfl⟩,.inr ⟨rfl,rfl⟩,.inr ⟨rfl,rfl⟩,.inr ⟨rfl,rfl⟩,trivial⟩,Nat.zero_le _,rfl,rfl⟩
end
section
attribute [local go_sem] C2 JV Du ntmps49
theorem agm (w:Wd) (n:Int) (sel:List UInt8) (hw:Cw w) (he:Bp w n sel ≠ 0):Af prog 49 [C2 w,.val (.int .i64 n),.val (.string (Ak sel))] (· = .tup [.val (.pointer none),Du default,.val (.int .i64 (Bp w n sel))]):=by
 refine Ag.I7 ?_
 cases hvw:CP w with
 | false =>
  have e:Bp w n sel = 50:=by unfold Bp; rw [hvw]; rfl
  rw [e];refine Ag.intro func49 (by decide) rfl (Bj ?_);refine Aa.Ad (Z0 ?_);refine Aa.Ad (Z0 ?_);refine Af.eq (adv w hw hvw) rfl (Z0 ?_);refine Aa.seq ?_;refine Aa.Ad (Z0 ?_);refine Aa.Ar rfl ?_;refine Aa.Ad (Z0 ?_);refine Aa.ret (Z0 ?_);refine Ae rfl ?_;trivial
 | true =>
  have h67:=RY w n
  cases hs:(Bi w n).isSome with
  | false =>
   have e:Bp w n sel = 3:=by unfold Bp; rw [hvw,hs]; rfl
   rw [e];rw [hs] at h67;refine Ag.intro func49 (by decide) rfl (Bj ?_);refine Aa.Ad (Z0 ?_);refine Aa.Ad (Z0 ?_);refine Af.eq (Rt w hw hvw) rfl (Z0 ?_);refine Aa.seq ?_;refine Aa.Ad (Z0 ?_);refine Aa.Ax rfl ?_;refine Aa.skip (Z0 ?_);refine Aa.Ad (Z0 ?_);refine Af.eq (h67) rfl (Z0 ?_);refine Aa.seq (Aa.block ?_);refine Aa.Ad (Z0 ?_);refine Aa.Ar rfl ?_;refine Aa.Ad (Z0 ?_);refine Aa.ret (Z0 ?_);refine Ae rfl ?_;trivial
  | true =>
   have ha:decide (Bu sel < 0) = true:=by
    unfold Bp at he;rw [if_pos hvw,if_pos hs] at he
    by_cases h:decide (Bu sel < 0) = true
    ·exact h
    ·rw [if_neg h] at he; exact absurd rfl he
   have e:Bp w n sel = 1:=by unfold Bp; rw [hvw,hs,ha]; rfl
   rw [e];rw [hs] at h67;refine Ag.intro func49 (by decide) rfl (D5 ha ?_);refine Aa.Ad (Z1 ha ?_);refine Aa.Ad (Z1 ha ?_);refine Af.eq (Rt w hw hvw) rfl (Z1 ha ?_);refine Aa.seq ?_;refine Aa.Ad (Z1 ha ?_);refine Aa.Ax rfl ?_;refine Aa.skip (Z1 ha ?_);refine Aa.Ad (Z1 ha ?_);refine Af.eq (h67) rfl (Z1 ha ?_);refine Aa.seq (Aa.block ?_);refine Aa.Ad (Z1 ha ?_);refine Aa.Ax rfl ?_;refine Aa.Ad (Z1 ha ?_);refine Af.eq (c75 _) rfl (Z1 ha ?_);refine Aa.Ar rfl ?_;refine Aa.Ad (Z1 ha ?_);refine Aa.ret (Z1 ha ?_);refine Ae rfl ?_;trivial
end
noncomputable def QA (w:Wd) (n:Int) (sel:List UInt8):GS × Int:=if Bp w n sel = 0 then (Bo (IH w sel n).2,0) else (default,Bp w n sel)
theorem P0 {w:Wd} (hw:Cw w) (hv:B6 w) {x:Int} (hx:(Bi w x).isSome = true):KV (AJ w x) /\ (AJ w x).slots.length <= 40:=⟨hw.OZ _ (BV hx).1,(I4 hv (BV hx).1).slots⟩
theorem abz {w:Wd} (hv:B6 w) {sel:List UInt8} {x:Int} (hx:(Bi w x).isSome = true):(IH w sel x).1.length <= w.objs.length /\ (IH w sel x).2.length <= w.objs.length :=
 IB hv (S:=fun y=>∃ p ∈ Ca w (AJ w x),p.2 = y) (fun y ⟨p,hp,e⟩=>by rw [<- e]; exact KC hv hx hp) (Qj w sel x).vis
theorem Rm {w:Wd} (hw:Cw w) (hv:B6 w) {sel:List UInt8} (hs:sel.length <= 1000000000) {x:Int} (hx:(Bi w x).isSome = true) :
  Ag prog 50 [.ptr 1 0,Du (AJ w x),.sl true []] (Dt w sel ([],[])) (fun r h=>r = .ret (.tup []) /\ h = Dt w sel (IH w sel x)):=by
 have hS:∀ y,(∃ p ∈ Ca w (AJ w x),p.2 = y) -> (Bi w y).isSome = true:=fun y ⟨p,hp,e⟩=>by rw [<- e]; exact KC hv hx hp
 obtain ⟨ho,hso⟩:=P0 hw hv hx;have h1:=L1 hw hv hS (Hh hw hv hs hS (w.objs.length + 1)) [] (AJ w x) [] ([],[]) ho (by omega) (fun p hp=>.base ⟨p,hp,rfl⟩) (fun _=>by have:=G8 (w.objs.map (·.oid)) []; rw [List.length_map] at this; show DP _ [] < _; omega) (IK _ _) (by have:=hw.lo; simp; omega);refine Ag.OT ?_;rw [show [AV.ptr 1 0,Du (AJ w x),.sl true []].map AV.lax = [.ptr 1 0,Du (AJ w x),.sl false (is [])] by simp only [List.map_cons,List.map_nil,NU]; rfl];exact h1
section
attribute [local go_sem] C2 JV Du ntmps23 HG Dn FQ CM
theorem c23 (w:Wd) (n:Int) (sel:List UInt8) (hw:Cw w) (hs:sel.length <= 1000000000):Af prog 23 [C2 w,.val (.int .i64 n),.val (.string (Ak sel))] (· = .tup [HG (QA w n sel).1,.val (.int .i64 (QA w n sel).2)]):=by
 by_cases he:Bp w n sel = 0
 ·obtain ⟨h1,h2,h3⟩:=Hr he
  have hv:=Ck.1 h1;have e0:QA w n sel = (Bo (IH w sel n).2,0):=if_pos he;rw [e0];have h50:=fun b0 b1 B (hu:Aw [b0,b1,.dead,.dead,.dead])=>KQ (k:=5) (pre:=[b0,b1,.dead,.dead,.dead]) rfl hu rfl (Rm hw hv hs h2 (sel:=sel)) [B];have h45:=fun b0 b1 B (hu:Aw [b0,b1,.dead,.dead,.dead])=>KQ (k:=5) (pre:=[b0,b1,.dead,.dead,.dead]) rfl hu rfl (acT w sel (IH w sel n) (by have:=(abz hv h2 (sel:=sel)).2; have:=hw.lo; omega)) [B];have h49:=acq w n sel hw he;generalize AJ w n = o at *;refine Ag.intro func23 (by decide) rfl (Bj ?_);refine Aa.Ad (Z0 ?_);refine Aa.Ad (Z0 ?_);refine Ag.eq (Ag.EZ (h49) rfl) (Z0 ?_);refine Aa.seq ?_;refine Aa.Ad (Z0 ?_);refine Aa.Ax rfl ?_;refine Aa.skip (Z0 ?_);refine Aa.Ad (Z0 ?_);refine Ag.eq (h50 _ _ _ ?_) ?_;exact BJ rfl;refine Z0 ?_;refine Aa.Ad (Z0 ?_);refine Ag.eq (h45 _ _ _ ?_) ?_;exact BJ rfl;refine Z0 ?_;refine Aa.ret (Z0 ?_);exact Ae rfl (Z0 trivial)
 ·have e0:QA w n sel = (default,Bp w n sel):=if_neg he
  rw [e0];have hb:(Bp w n sel != 0) = true:=by simpa using he
  refine Ag.I7 ?_;refine Ag.intro func23 (by decide) rfl (D5 hb ?_);refine Aa.Ad (Z1 hb ?_);refine Aa.Ad (Z1 hb ?_);refine Af.eq (agm w n sel hw he) rfl (Z1 hb ?_);refine Aa.seq ?_;refine Aa.Ad (Z1 hb ?_);refine Aa.Ar rfl ?_;refine Aa.Ad (Z1 hb ?_);refine Aa.ret (Z1 hb ?_);refine Ae rfl ?_;trivial
end
end Go.Proofs.Tryz

namespace Go.Proofs.Tryz
open Go.PM
attribute [local irreducible] BM BP Bq Ci AU AO Az
section
attribute [local go_sem] H9 ntmps54
theorem c54 (s:HA) (name:List UInt8):Af prog 54 [H9 s,.cptr [.val (.string (Ak name))]] (· = .val (.bool (s.name == name && BX s))):=by
 refine Ag.intro func54 (by decide) rfl (Bj ?_);refine Aa.Ad (Z0 ?_);refine Aa.Ad (Z0 ?_);refine Ao ?_;refine Ap (fun g1=>?_) (fun g1=>?_);refine Z1 g1 ?_;refine Af.eq (c55 s) rfl (Z1 g1 ?_);refine Aa.ret (Z1 g1 ?_);refine Ae rfl ?_;trivial;refine Z1 g1 ?_;refine Aa.ret (Z1 g1 ?_);exact Ae rfl (Z1 g1 trivial)
end
def Oj (o:Ob) (name:List UInt8):Int:=FX (fun s=>s.name == name && BX s) o.slots
noncomputable def GK (w:Wd) (n:Int) (name sel:List UInt8):GS × Int :=
 if Bp w n sel = 0 then (if decide (Oj (AJ w n) name < 0) = true then (default,60) else (Bo (OI w sel (Ay w ((AJ w n).slots.getD (Oj (AJ w n) name).toNat default).v).1 (Oj (AJ w n) name).toNat).2,0)) else (default,Bp w n sel)
section
attribute [local go_sem] C2 JV Du ntmps29
theorem aiV (w:Wd) (n:Int) (name sel:List UInt8) (hw:Cw w) (he:Bp w n sel ≠ 0):Af prog 29 [C2 w,.val (.int .i64 n),.val (.string (Ak name)),.val (.string (Ak sel))] (· = .tup [HG (GK w n name sel).1,.val (.int .i64 (GK w n name sel).2)]):=by
 have e0:GK w n name sel = (default,Bp w n sel):=if_neg he;rw [e0];have hb:(Bp w n sel != 0) = true:=by simpa using he
 refine Ag.I7 ?_;refine Ag.intro func29 (by decide) rfl (D5 hb ?_);refine Aa.Ad (Z1 hb ?_);refine Aa.Ad (Z1 hb ?_);refine Af.eq (agm w n sel hw he) rfl (Z1 hb ?_);refine Aa.seq ?_;refine Aa.Ad (Z1 hb ?_);refine Aa.Ar rfl ?_;refine Aa.Ad (Z1 hb ?_);refine Aa.ret (Z1 hb ?_);refine Ae rfl ?_;trivial
end
section
attribute [local go_sem] C2 JV Du HG Dn FQ CM ntmps29
theorem aiP (w:Wd) (n:Int) (name sel:List UInt8) (hw:Cw w) (he:Bp w n sel = 0) (hp:decide (Oj (AJ w n) name < 0) = true):Af prog 29 [C2 w,.val (.int .i64 n),.val (.string (Ak name)),.val (.string (Ak sel))] (· = .tup [HG (GK w n name sel).1,.val (.int .i64 (GK w n name sel).2)]):=by
 have e0:GK w n name sel = (default,60):=by unfold GK; rw [if_pos he,if_pos hp]
 rw [e0];obtain ⟨h1,h2,h3⟩:=Hr he;have hl:=(P0 hw (Ck.1 h1) h2).2;have h49:=acq w n sel hw he;have h53:=c53 (AJ w n).slots 54 [.cptr [.val (.string (Ak name))]] rfl (fun s=>s.name == name && BX s) (fun s _=>c54 s name) (by omega);unfold Oj at hp;refine Ag.I7 ?_;generalize AJ w n = o at *;refine Ag.intro func29 (by decide) rfl (D5 hp ?_);refine Aa.Ad (Z1 hp ?_);refine Aa.Ad (Z1 hp ?_);refine Ag.eq (Ag.EZ (h49) rfl) (Z1 hp ?_);refine Aa.seq ?_;refine Aa.Ad (Z1 hp ?_);refine Aa.Ax rfl ?_;refine Aa.skip (Z1 hp ?_);refine Aa.freeze 6 (Z1 hp ?_);refine Aa.Ad (Z1 hp ?_);refine Ao ?_;refine Af.eq (h53) rfl (Z1 hp ?_);refine Aa.seq ?_;refine Aa.Ad (Z1 hp ?_);refine Aa.Ar rfl ?_;refine Aa.Ad (Z1 hp ?_);refine Aa.ret (Z1 hp ?_);refine Ae rfl ?_;trivial
end
theorem aaX {α:Type} {p:α -> Bool} {l:List α} {d:α} (h:decide (FX p l < 0) = false):∃ i:Nat,FX p l = (i:Int) /\ i < l.length /\ p (l.getD i d) = true:=by
 unfold FX at h ⊢
 cases hf:l.findIdx? p with
 | none=>rw [hf] at h; simp at h
 | some i =>
  obtain ⟨h1,h2,_⟩:=List.findIdx?_eq_some_iff_getElem.1 hf;exact ⟨i,rfl,h1,by simpa [List.getD_eq_getElem?_getD,h1] using h2⟩
section
attribute [local go_sem] C2 JV Du HG Dn FQ CM H9 Cu ntmps29
theorem aiZ (w:Wd) (n:Int) (name sel:List UInt8) (hw:Cw w) (hs:sel.length <= 1000000000) (he:Bp w n sel = 0) (hp:decide (Oj (AJ w n) name < 0) = false):Af prog 29 [C2 w,.val (.int .i64 n),.val (.string (Ak name)),.val (.string (Ak sel))] (· = .tup [HG (GK w n name sel).1,.val (.int .i64 (GK w n name sel).2)]):=by
 obtain ⟨h1,h2,h3⟩:=Hr he;have hv:=Ck.1 h1;have hl:=(P0 hw hv h2).2;have h49:=acq w n sel hw he;have h53:=c53 (AJ w n).slots 54 [.cptr [.val (.string (Ak name))]] rfl (fun s=>s.name == name && BX s) (fun s _=>c54 s name) (by omega);obtain ⟨i,hi,hil,hip⟩:=aaX (d:=default) hp;have e0:GK w n name sel = (Bo (OI w sel (Ay w ((AJ w n).slots.getD i default).v).1 i).2,0):=by
  unfold GK Oj;rw [if_pos he,if_neg (by rw [hi]; simp),hi];rfl
 rw [e0];rw [hi] at h53;have hm:(i,(Ay w ((AJ w n).slots.getD i default).v).1) ∈ Ca w (AJ w n):=Eh.2 ⟨hil,(Bool.and_eq_true_iff.1 hip).2,rfl⟩;have hx:=KC hv h2 hm;have h56:=c56 w ((AJ w n).slots.getD i default).v ((P0 hw hv h2).1.ss _ (Bs hil));generalize hto:(Ay w ((AJ w n).slots.getD i default).v).1 = tg at *;have hV:=Hh hw hv hs (S:=(· = tg)) (fun y e=>by rw [e]; exact hx) (w.objs.length + 1) [] tg [(i:Int)] ([],[]) (.base rfl) (by have:=G8 (w.objs.map (·.oid)) []; rw [List.length_map] at this; show DP _ [] < _; omega) (IK _ _) (by have:=hw.lo; simp; omega);have hV':Ag prog 44 [.ptr 1 0,.val (.int .i64 tg),.sl true [.val (.int .i64 (i:Nat))]] (Dt w sel ([],[])) (fun r h=>r = .ret (.tup []) /\ h = Dt w sel (D6 (Gk w sel) (w.objs.length + 1) tg [(i:Int)] ([],[]))):=Ag.OT hV;have h44:=fun b0 b1 b2 B (hu:Aw [b0,b1,b2,.dead,.dead,.dead])=>KQ (k:=6) (pre:=[b0,b1,b2,.dead,.dead,.dead]) rfl hu rfl hV' [B];have hdl:(OI w sel tg i).2.length <= w.objs.length:=(IB hv (fun y e=>by rw [e]; exact hx) (XJ w sel tg i).vis).2;have h45:=fun b0 b1 b2 B (hu:Aw [b0,b1,b2,.dead,.dead,.dead])=>KQ (k:=6) (pre:=[b0,b1,b2,.dead,.dead,.dead]) rfl hu rfl (acT w sel (OI w sel tg i) (by have:=hw.lo; omega)) [B];have hd:D6 (Gk w sel) (w.objs.length + 1) tg [(i:Int)] ([],[]) = OI w sel tg i:=rfl;rw [hd] at h44;have hi0:decide ((i:Int) < 0) = false:=by simp
 generalize AJ w n = o at *;clear hV hV' e0;refine Ag.intro func29 (by decide) rfl (D5 hi0 ?_);refine Aa.Ad (Z1 hi0 ?_);refine Aa.Ad (Z1 hi0 ?_);refine Ag.eq (Ag.EZ (h49) rfl) (Z1 hi0 ?_);refine Aa.seq ?_;refine Aa.Ad (Z1 hi0 ?_);refine Aa.Ax rfl ?_;refine Aa.skip (Z1 hi0 ?_);refine Aa.freeze 6 (Z1 hi0 ?_);refine Aa.Ad (Z1 hi0 ?_);refine Ao ?_;refine Af.eq (h53) rfl (Z1 hi0 ?_);refine Aa.seq ?_;refine Aa.Ad (Z1 hi0 ?_);refine Aa.Ax rfl ?_;refine Aa.skip (Z1 hi0 ?_);refine Aa.BQ [(0,.free),(1,.free),(2,.free),(4,.free),(6,.free),(3,.read),(5,.read),(7,.read),(8,.free),(9,.read),(10,.free),(11,.free),(12,.free),(13,.free),(14,.free),(15,.free)] mixed (by kernel_rfl) (Z1 hi0 ?_);refine Ao (Ao (Ao (Ao ?_)));simp -implicitDefEqProofs (dsimp:=false) (disch:=omega) only [i64_in,gd];refine Z1 hi0 ?_;refine Ao ?_;refine AI.go (h56) rfl (Z1 hi0 ?_);refine Aa.Ad (Z1 hi0 ?_);refine And.intro (by trivial) ?_;refine Ag.eq (h44 _ _ _ _ ?_) ?_;exact BJ rfl;refine Z1 hi0 ?_;refine Aa.Ad (Z1 hi0 ?_);refine Ag.eq (h45 _ _ _ _ ?_) ?_;exact BJ rfl;refine Z1 hi0 ?_;refine Aa.ret (Z1 hi0 ?_);exact Ae rfl (Z1 hi0 trivial)
end
theorem c29 (w:Wd) (n:Int) (name sel:List UInt8) (hw:Cw w) (hs:sel.length <= 1000000000):Af prog 29 [C2 w,.val (.int .i64 n),.val (.string (Ak name)),.val (.string (Ak sel))] (· = .tup [HG (GK w n name sel).1,.val (.int .i64 (GK w n name sel).2)]):=by
 by_cases he:Bp w n sel = 0
 ·cases hp:decide (Oj (AJ w n) name < 0) with
  | true=>exact aiP w n name sel hw he hp
  | false=>exact aiZ w n name sel hw hs he hp
 ·exact aiV w n name sel hw he
end Go.Proofs.Tryz
