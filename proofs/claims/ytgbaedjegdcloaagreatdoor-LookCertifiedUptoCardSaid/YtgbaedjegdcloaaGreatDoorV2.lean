/- A part of the proof: see the last text. -/
import Derived.Test.YtgbaedjegdcloaaGreatDoorV1
import Derived.DeepKeys4
import Derived.MapKept
import Derived.Laws.IdiomRangeMap
import Derived.RangeFuncLeaves
import Derived.RangeFuncIn
import Derived.OrdersIn
import Derived.Attr
set_option linter.unusedVariables false
set_option linter.unusedSimpArgs false
set_option linter.unusedSectionVars false
set_option linter.defProp false
set_option maxRecDepth 100000
set_option maxHeartbeats 4000000
namespace Go.PM
variable [AA]
def Mem.obj (M:Mem) (b:Nat) (o:Obj):Mem:=⟨M.w.putObj b o,M.lo⟩
theorem F0 (M:Mem) (b:Nat) (o:Obj) {k:Nat} (h:k ≠ b):(M.obj b o).w.heap[k]? = M.w.heap[k]? /\ (M.obj b o).lo k = M.lo k:=⟨World.putObj_heap_other h,rfl⟩
theorem Ia {M:Mem} {b:Nat} {o:Obj} (h:∀ i,M.w.cell? ⟨b,i,none⟩ = none) (hm:¬ M.Ma b):M.Le (M.obj b o):=by
 refine ⟨fun k i hi=>?_,fun k hk=>?_,fun k hk=>?_⟩
 ·have hne:k ≠ b:=fun he=>by have:=hi.2; rw [he,h] at this; cases this
  have:=E3 (w:=M.w) (w':=(M.obj b o).w) (F0 M b o hne).1 i;exact ⟨⟨hi.1,by rw [this]; exact hi.2⟩,by unfold Mem.get; rw [this]⟩
 ·have hne:k ≠ b:=fun he=>hm (he ▸ hk)
  exact ⟨hk.1,(F0 M b o hne).1⟩
 ·have hne:k ≠ b:=fun he=>by
   obtain ⟨c,ty,l,h1,h2,h3⟩:=hk;have h4:=h 0;have h5:M.w.cell? ⟨k,0,none⟩ = c[0]?:=by simp [World.cell?,h1]
   rw [<- he,h5,Array.getElem?_eq_getElem h3] at h4;cases h4
  exact ⟨Nat.le_refl _,(F0 M b o hne).1⟩
theorem Jk {F:Nat -> Prop} {M:Mem} {b:Nat} {o:Obj} (h:∀ i,M.w.cell? ⟨b,i,none⟩ = none) (hm:¬ M.Ma b) (hF:¬ F b):Gu F M (M.obj b o) :=
 ⟨by simp [Mem.obj],rfl,rfl,rfl,Ia h hm,fun k hk=>F0 M b o (fun he=>hF (he ▸ hk))⟩
theorem JA {F:Nat -> Prop} {M:Mem} (ok:Cz F M) (b:Nat) (o:Obj):Cz F (M.obj b o) :=
 ⟨fun k hk=>ok.top k (by simpa [Mem.obj] using hk),fun k hk=>by simpa [Mem.obj] using ok.fr k hk⟩
theorem AR.obj {F:Nat -> Prop} {M:Mem} {hb:List HB} {h:List Ah} (H:AR F M hb h) {id:Nat} {b b':Ah} {e:HB} (h1:h[id]? = some b) (h2:hb[id]? = some e) (ho:b.owns e = true) {o:Obj}
  (hc:∀ i,M.w.cell? ⟨e.blk,i,none⟩ = none) (hm:¬ M.Ma e.blk) (hB:Cr (M.obj e.blk o) hb b' e):AR F (M.obj e.blk o) hb (h.set id b'):=by
 have:=H.update (M':=M.obj e.blk o) (b':=b') (e':=e) h1 h2 (Ia hc hm) (by simp [Mem.obj]) (Bf.set h2 (Nat.le_refl _) rfl (fun _=>rfl) (fun _=>rfl)) (fun k _ hk=>F0 M _ _ (hk ho)) (by rw [Cp h2]; exact hB) (fun _=>.inl ⟨ho,rfl⟩)
 rwa [Cp h2] at this
theorem CF {w:World} {b:Nat} {o:Obj} (h:w.heap[b]? = some o) (hn:∀ c ty fr,o ≠ .cells c ty fr) (i:Nat):w.cell? ⟨b,i,none⟩ = none:=by
 unfold World.cell?;rw [h]
 cases o <;> first | rfl | (exact absurd rfl (hn _ _ _))
def D3:AV -> Value
 | .val v=>v
 | .agg cs=>.agg (cs.map fun c=>(valOf c).getD undef).toArray
 | _=>undef
def plainKey (d:TypeDesc) (k:AV):Prop:=∃ v,k = .val v /\ MapKept.IsKey d v
def S4 (P:Program) (kt:TypeId) (k:AV):Prop:=∃ (vs:List Value) (l:Lit),k = .agg (vs.map .val) /\ (∀ v ∈ vs,plain v = true) /\ keyOf P kt (.agg vs.toArray) = some l
def Fw (P:Program) (kt:TypeId) (ks:List AV):Prop :=
 (∃ d,P.underlying kt = some d /\ ∀ k ∈ ks,plainKey d k) \/ (WideMaps.KeyLaw P kt /\ ∀ k ∈ ks,S4 P kt k)
theorem E9 (vs:List Value):D3 (.agg (vs.map .val)) = .agg vs.toArray:=by
 simp [D3,Function.comp_def,valOf]
theorem Wu {M:Mem} {hb:List HB} {vs:List Value} {v:Value} (h:Al M hb (.agg (vs.map .val)) v):v = .agg vs.toArray:=by
 cases h with
 | @agg _ _ us h1 h2 h3 =>
  congr 1
  apply Array.ext
  ·simpa using h1.symm
  ·intro i hi hi'
   have hl:i < vs.length:=by simpa using hi'
   have:=h3 i (.val vs[i]) (by simp [hl]);have hg:us.getD i undef = us[i]:=by simp [Array.getD_eq_getD_getElem?,hi]
   rw [hg] at this;generalize us[i] = z at this
   cases this
   simp
theorem Fw.rel {P:Program} {kt:TypeId} {ks:List AV} (hK:Fw P kt ks) {k:AV} (hk:k ∈ ks) {M:Mem} {hb:List HB} {v:Value} (hv:Al M hb k v):v = D3 k /\ Al M [] k v:=by
 rcases hK with ⟨d,_,h⟩ | ⟨_,h⟩
 ·obtain ⟨u,rfl,hu⟩:=h k hk
  cases hv with
  | val hp=>exact ⟨rfl,.val hp⟩
 ·obtain ⟨vs,l,rfl,hp,_⟩:=h k hk
  obtain rfl:=Wu hv;refine ⟨(E9 vs).symm,.agg (by simp) (fun i c hc=>?_) (fun i c hc=>?_)⟩
  ·rw [List.getElem?_map,Option.map_eq_some_iff] at hc
   obtain ⟨x,_,rfl⟩:=hc;rfl
  ·rw [List.getElem?_map,Option.map_eq_some_iff] at hc
   obtain ⟨x,hx,rfl⟩:=hc;have hx':vs.toArray[i]? = some x:=by simpa using hx
   simp only [Array.getD_eq_getD_getElem?,hx',Option.getD_some];exact .val (hp x (List.mem_of_getElem? hx))
theorem Fw.inj {P:Program} {kt:TypeId} {ks:List AV} (hK:Fw P kt ks) {k k':AV} (hk:k ∈ ks) (hk':k' ∈ ks) (h:D3 k = D3 k'):k = k':=by
 rcases hK with ⟨d,_,hA⟩ | ⟨_,hA⟩
 ·obtain ⟨u,rfl,hu⟩:=hA k hk
  obtain ⟨u',rfl,hu'⟩:=hA k' hk';simp only [D3] at h;rw [h]
 ·obtain ⟨vs,l,rfl,_,_⟩:=hA k hk
  obtain ⟨vs',l',rfl,_,_⟩:=hA k' hk';rw [E9,E9] at h;have:vs = vs':=by simpa using h
  rw [this]
theorem Fw.check {P:Program} {kt:TypeId} {ks:List AV} (hK:Fw P kt ks) {k:AV} (hk:k ∈ ks) (em:Bool) (w:World):(Instr.checkKey em 10000 kt (D3 k)).run P w = .ok () w:=by
 rcases hK with ⟨d,hd,hA⟩ | ⟨hL,hA⟩
 ·obtain ⟨u,rfl,hu⟩:=hA k hk
  exact MapKept.run_checkKey hd hu em 9999
 ·obtain ⟨vs,l,rfl,_,hl⟩:=hA k hk
  rw [E9];exact hL.check w em hl
theorem Fw.stays {P:Program} {kt:TypeId} {ks:List AV} (hK:Fw P kt ks) {k:AV} (hk:k ∈ ks) (w:World):(Instr.keyThatStays (D3 k) (D3 k)).run P w = .ok (D3 k) w:=by
 rcases hK with ⟨d,hd,hA⟩ | ⟨hL,hA⟩
 ·obtain ⟨u,rfl,hu⟩:=hA k hk
  exact MapKept.run_keyThatStays hu
 ·obtain ⟨vs,l,rfl,_,hl⟩:=hA k hk
  rw [E9];exact hL.stays w hl
theorem Fw.abZ {P:Program} {kt:TypeId} {ks:List AV} (hK:Fw P kt ks) {k:AV} (hk:k ∈ ks) (w:World) (es:List MapEntry) (hes:∀ e ∈ es,∃ k' ∈ ks,e.key = D3 k') :
  ((Instr.findKey kt (D3 k) es).run P w = .ok none w /\ ∀ e ∈ es,e.key ≠ D3 k) \/ ∃ j e,(Instr.findKey kt (D3 k) es).run P w = .ok (some (j,e.val)) w /\ es[j]? = some e /\ e.key = D3 k:=by
 rcases hK with ⟨d,hd,hA⟩ | ⟨hL,hA⟩
 ·obtain ⟨u,rfl,hu⟩:=hA k hk
  rcases MapKept.findNow_spec hu es 0 (fun x hx=>by
   obtain ⟨k',h1,h2⟩:=hes x hx;obtain ⟨u',rfl,hu'⟩:=hA k' h1;rw [h2];exact hu') with ⟨h1,h2⟩ | ⟨j,e,h1,h2,h3⟩
  ·exact .inl ⟨MapKept.run_findKey hd h1,h2⟩
  ·exact .inr ⟨j,e,by rw [Nat.zero_add] at h1; exact MapKept.run_findKey hd h1,h2,h3⟩
 ·obtain ⟨vs,l,rfl,_,hl⟩:=hA k hk
  rw [E9];exact hL.find w hl es (fun x hx=>by
   obtain ⟨k',h1,h2⟩:=hes x hx;obtain ⟨vs',l',rfl,_,hl'⟩:=hA k' h1;rw [h2,E9];exact ⟨l',hl'⟩)
open Classical in
noncomputable def GL:List (AV × AV) -> AV -> Option Nat
 | [],_=>none
 | p :: l,x=>if p.1 = x then some 0 else (GL l x).map (· + 1)
theorem JC {x:AV}:∀ {l:List (AV × AV)},GL l x = none -> ∀ p ∈ l,p.1 ≠ x
 | [],_,p,hp=>by cases hp
 | q :: l,h,p,hp=>by
  unfold GL at h
  split at h
  ·cases h
  ·rename_i hq
   rcases List.mem_cons.1 hp with rfl | hp
   ·exact hq
   ·exact JC (by simpa using h) p hp
theorem Jx {x:AV}:∀ {l:List (AV × AV)} {j:Nat},GL l x = some j -> ∃ y,l[j]? = some (x,y)
 | [],_,h=>by cases h
 | q :: l,j,h=>by
  unfold GL at h
  split at h
  ·rename_i hq
   cases h;exact ⟨q.2,by rw [<- hq]; rfl⟩
  ·obtain ⟨i,hi,rfl⟩:=Option.map_eq_some_iff.1 h
   obtain ⟨y,hy⟩:=Jx hi;exact ⟨y,by simpa using hy⟩
theorem LZ {P:Program} {kt:TypeId} {x:AV} {kvs:List (AV × AV)} {es:Array MapEntry} (w:World) (hK:Fw P kt (x :: kvs.map (·.1))) (hl:es.size = kvs.length)
  (hrel:∀ (i:Nat) (k y:AV),kvs[i]? = some (k,y) -> ∃ m:MapEntry,es[i]? = some m /\ m.key = D3 k) (hnd:(es.toList.map (·.key)).Nodup) :
  (GL kvs x = none /\ (Instr.findKey kt (D3 x) es.toList).run P w = .ok none w) \/ ∃ (j:Nat) (y:AV) (e:MapEntry),GL kvs x = some j /\ kvs[j]? = some (x,y) /\ es[j]? = some e /\ e.key = D3 x /\ (Instr.findKey kt (D3 x) es.toList).run P w = .ok (some (j,e.val)) w:=by
 have hback:∀ (i:Nat) (e:MapEntry),es.toList[i]? = some e -> ∃ k y,kvs[i]? = some (k,y) /\ e.key = D3 k:=by
  intro i e he;have hi:i < kvs.length:=by rw [<- hl]; have:=(List.getElem?_eq_some_iff.1 he).1; simpa using this
  obtain ⟨m,h1,h2⟩:=hrel i kvs[i].1 kvs[i].2 (by simp [hi]);have:es[i]? = some e:=by simpa using he
  rw [this] at h1;cases h1;exact ⟨kvs[i].1,kvs[i].2,by simp [hi],h2⟩
 rcases hK.abZ List.mem_cons_self w es.toList (fun e he=>by
  obtain ⟨i,hi⟩:=List.getElem?_of_mem he;obtain ⟨k,y,h1,h2⟩:=hback i e hi;exact ⟨k,List.mem_cons_of_mem _ (List.mem_map.2 ⟨_,List.mem_of_getElem? h1,rfl⟩),h2⟩) with ⟨h1,h2⟩ | ⟨j,e,h1,h2,h3⟩
 ·left
  refine ⟨?_,h1⟩
  cases hx:GL kvs x with
  | none=>rfl
  | some j =>
   obtain ⟨y,hy⟩:=Jx hx;obtain ⟨m,g1,g2⟩:=hrel j x y hy;exact absurd g2 (h2 m (by have:=Array.mem_of_getElem? g1; simpa using this))
 ·right
  obtain ⟨k,y,g1,g2⟩:=hback j e h2;have hkx:k = x:=hK.inj (List.mem_cons_of_mem _ (List.mem_map.2 ⟨_,List.mem_of_getElem? g1,rfl⟩)) List.mem_cons_self (g2.symm.trans h3);subst hkx
  cases hx:GL kvs k with
  | none=>exact absurd rfl (JC hx _ (List.mem_of_getElem? g1))
  | some j' =>
   obtain ⟨y',hy'⟩:=Jx hx;obtain ⟨m,q1,q2⟩:=hrel j' k y' hy';have hjl:j < (es.toList.map (·.key)).length:=by have:=(List.getElem?_eq_some_iff.1 h2).1; simpa using this
   have:j = j':=(List.getElem?_inj hjl hnd).1 (by
    rw [List.getElem?_map,List.getElem?_map,h2,show es.toList[j']? = some m by simpa using q1];simp [h3,q2])
   subst this;exact ⟨j,y,e,rfl,g1,by simpa using h2,h3,h1⟩
noncomputable def getM (b:Ah) (k:AV):Option AV:=match b with
 | .map kvs _ _=>(GL kvs k).bind fun i=>kvs[i]?.map (·.2)
 | _=>none
noncomputable def D2 (b:Ah) (k z:AV):AV:=(getM b k).getD z
noncomputable def Il (b:Ah) (k:AV):Bool:=(getM b k).isSome
noncomputable def LV (b:Ah) (k y:AV):Ah:=match b with
 | .map kvs bs c=>match GL kvs k with
  | some i=>.map (kvs.set i (k,y)) bs c
  | none=>.map (kvs ++ [(k,y)]) (bs ++ [c]) (c + 1)
 | b=>b
def GA (P:Program) (kt:TypeId) (b:Ah) (k:AV):Prop:=∃ kvs bs c,b = .map kvs bs c /\ Fw P kt (k :: kvs.map (·.1))
def IU (P:Program) (t:TypeId):Option (TypeId × TypeId × Ty) :=
 match P.underlying t with
 | some (.map kt et)=>(Ba P et).map fun T=>(kt,et,T)
 | _=>none
theorem Ic {P:Program} {t kt et:TypeId} {T:Ty} (h:IU P t = some (kt,et,T)):P.underlying t = some (.map kt et) /\ Ba P et = some T:=by
 unfold IU at h
 split at h
 ·rename_i k e hu
  obtain ⟨T',hT,he⟩:=Option.map_eq_some_iff.1 h;cases he;exact ⟨hu,hT⟩
 ·cases h
theorem S5 {M:Mem} {hb:List HB} {e:HB} {kvs:List (AV × AV)} {bs:List Nat} {c:Nat} {P:Program} {kt:TypeId} {x:AV} (hK:Fw P kt (x :: kvs.map (·.1))) (hB:Cr M hb (.map kvs bs c) e) :
  ∃ es:Array MapEntry,M.w.heap[e.blk]? = some (.map es c) /\ es.toList.map (·.born) = bs /\ es.size = kvs.length /\ (∀ b,b ∈ bs -> b < c) /\ bs.Nodup /\ (es.toList.map (·.key)).Nodup /\
   (∀ (i:Nat) (k y:AV),kvs[i]? = some (k,y) -> ∃ m:MapEntry,es[i]? = some m /\ m.key = D3 k) /\
   (∀ (i:Nat) (k y:AV),kvs[i]? = some (k,y) -> ∃ m:MapEntry,es[i]? = some m /\ Al M [] k m.key /\ Al M hb y m.val):=by
 obtain ⟨_,_,es,h2,h3,h4,h5,h6,h7,h8⟩:=hB;refine ⟨es,h2,h3,h4,h5,h6,h7,fun i k y hi=>?_,h8⟩;obtain ⟨m,g1,g2,g3⟩:=h8 i k y hi;exact ⟨m,g1,(hK.rel (List.mem_cons_of_mem _ (List.mem_map.2 ⟨_,List.mem_of_getElem? hi,rfl⟩)) g2).1⟩
def EJ (P:Program) (h:List Ah) (t:TypeId) (m k:AV) (ok:Bool) (K:AV -> Prop):Prop :=
 match IU P t with
 | some (kt,_,T)=>match m with
  | .mp id=>match h[id]? with
   | some b=>GA P kt b k /\ K (if ok = true then .tup [D2 b k (zeroOf T),.val (.bool (Il b k))] else D2 b k (zeroOf T))
   | none=>False
  | .cmp kvs=>GA P kt (.map kvs [] 0) k /\ K (if ok = true then .tup [D2 (.map kvs [] 0) k (zeroOf T),.val (.bool (Il (.map kvs [] 0) k))] else D2 (.map kvs [] 0) k (zeroOf T))
  | .val (.map none)=>Fw P kt [k] /\ K (if ok = true then .tup [zeroOf T,.val (.bool false)] else zeroOf T)
  | _=>False
 | none=>False
theorem Mw {P:Program} {F:Nat -> Prop} {M:Mem} {hb:List HB} {h:List Ah} (H:AR F M hb h) {t:TypeId} {m k:AV} {vm vk:Value} (hm:Al M hb m vm) (hk':Al M hb k vk) {ok:Bool} {K:AV -> Prop} (hk:EJ P h t m k ok K) :
  ∃ x u,K x /\ (Instr.lookup t vm vk ok).run P M.w = .ok u M.w /\ Al M hb x u:=by
 unfold EJ at hk
 split at hk
 ·rename_i kt et T hT
  obtain ⟨hu,hT⟩:=Ic hT;have hz:=BN hT M.w;have hzr:=ES M hb T.zero;have fin:∀ (x:AV) (u:Value) (b:Bool),Al M hb x u -> Al M hb (if ok = true then .tup [x,.val (.bool b)] else x) (if ok = true then .tuple #[u,.bool b] else u):=by
   intro x u b hx
   cases ok with
   | false=>exact hx
   | true =>
    refine .tup rfl fun i c hc=>?_
    match i,hc with
    | 0,hc=>cases hc; exact hx
    | 1,hc=>cases hc; exact .val rfl
  split at hk
  ·rename_i id
   split at hk
   ·rename_i b hh
    obtain ⟨⟨kvs,bs,c,rfl,hK⟩,hk⟩:=hk
    cases hm with
    | mp e q1 q2 =>
     obtain ⟨es,h2,h3,h4,h5,h6,h7,h8,h9⟩:=S5 hK (H.box id _ e hh q1);obtain ⟨rfl,_⟩:=hK.rel List.mem_cons_self hk';have hchk:=hK.check List.mem_cons_self es.isEmpty M.w
     rcases LZ M.w hK h4 h8 h7 with ⟨g1,g2⟩ | ⟨j,y,e0,g1,g2,g3,g4,g5⟩
     ·refine ⟨_,_,hk,?_,fin (D2 (.map kvs bs c) k (zeroOf T)) T.zero (Il (.map kvs bs c) k) (by simp only [D2,getM,g1,Option.bind_none,Option.getD_none]; exact hzr)⟩
      simp only [Instr.lookup,Sem.run_bind,run_underlying hu,Result.andThen_ok,MapKept.run_getObj_map h2,Sem.run_pure,hchk,g2,hz,Il,getM,g1,Option.bind_none,Option.isSome_none]
     ·obtain ⟨m',k1,k2,k3⟩:=h9 j k y g2
      rw [g3] at k1
      cases k1
      refine ⟨_,_,hk,?_,fin (D2 (.map kvs bs c) k (zeroOf T)) e0.val (Il (.map kvs bs c) k) (by simp only [D2,getM,g1,Option.bind_some,g2,Option.map_some,Option.getD_some]; exact k3)⟩;simp only [Instr.lookup,Sem.run_bind,run_underlying hu,Result.andThen_ok,MapKept.run_getObj_map h2,Sem.run_pure,hchk,g5,Il,getM,g1,Option.bind_some,g2,Option.map_some,Option.isSome_some]
   ·exact hk.elim
  ·rename_i kvs
   obtain ⟨⟨kvs',bs',c',he,hK⟩,hk⟩:=hk;cases he
   cases hm with
   | @cmp _ _ b es c q1 h2 h4 h7 q5 q6 =>
    have h8:∀ (i:Nat) (k y:AV),kvs[i]? = some (k,y) -> ∃ m:MapEntry,es[i]? = some m /\ m.key = D3 k:=by
     intro i k' y hi;have hlt:i < es.size:=by rw [h4]; exact (List.getElem?_eq_some_iff.1 hi).1
     have hent:HI es i = es[i]:=by simp [HI,hlt]
     exact ⟨es[i],Array.getElem?_eq_getElem hlt,by rw [<- hent]; exact (hK.rel (List.mem_cons_of_mem _ (List.mem_map.2 ⟨_,List.mem_of_getElem? hi,rfl⟩)) (q5 i k' y hi)).1⟩
    obtain ⟨rfl,_⟩:=hK.rel List.mem_cons_self hk';have hchk:=hK.check List.mem_cons_self es.isEmpty M.w
    rcases LZ M.w hK h4 h8 h7 with ⟨g1,g2⟩ | ⟨j,y,e0,g1,g2,g3,g4,g5⟩
    ·refine ⟨_,_,hk,?_,fin (D2 (.map kvs [] 0) k (zeroOf T)) T.zero (Il (.map kvs [] 0) k) (by simp only [D2,getM,g1,Option.bind_none,Option.getD_none]; exact hzr)⟩
     simp only [Instr.lookup,Sem.run_bind,run_underlying hu,Result.andThen_ok,MapKept.run_getObj_map h2,Sem.run_pure,hchk,g2,hz,Il,getM,g1,Option.bind_none,Option.isSome_none]
    ·have hent:HI es j = e0:=by simp [HI,g3]
     have k3:=q6 j k y g2;rw [hent] at k3;refine ⟨_,_,hk,?_,fin (D2 (.map kvs [] 0) k (zeroOf T)) e0.val (Il (.map kvs [] 0) k) (by simp only [D2,getM,g1,Option.bind_some,g2,Option.map_some,Option.getD_some]; exact k3.pure)⟩;simp only [Instr.lookup,Sem.run_bind,run_underlying hu,Result.andThen_ok,MapKept.run_getObj_map h2,Sem.run_pure,hchk,g5,Il,getM,g1,Option.bind_some,g2,Option.map_some,Option.isSome_some]
  ·obtain ⟨hK,hk⟩:=hk
   cases hm;obtain ⟨rfl,_⟩:=hK.rel List.mem_cons_self hk';have hchk:=hK.check List.mem_cons_self true M.w;refine ⟨_,_,hk,?_,fin (zeroOf T) T.zero false hzr⟩;have hf:(Instr.findKey kt (D3 k) []).run P M.w = .ok none M.w:=by
    rcases hK.abZ List.mem_cons_self M.w [] (fun e he=>by cases he) with ⟨h1,_⟩ | ⟨j,e,_,h2,_⟩
    ·exact h1
    ·simp at h2
   have hch2:(Instr.checkKey (#[]:Array MapEntry).isEmpty 10000 kt (D3 k)).run P M.w = .ok () M.w:=hchk;simp only [Instr.lookup,Sem.run_bind,run_underlying hu,Result.andThen_ok,Sem.run_pure,hch2,hf,hz]
  ·exact hk.elim
 ·exact hk.elim
def Kj (P:Program) (h:List Ah) (t:TypeId) (m k y:AV) (K:List Ah -> Prop):Prop :=
 match IU P t with
 | some (kt,_,_)=>match m with
  | .mp id=>match h[id]? with
   | some b=>GA P kt b k /\ K (h.set id (LV b k y))
   | none=>False
  | _=>False
 | none=>False
theorem Ge {P:Program} {w:World} {r:Nat} {o:Obj} (o':Obj) (hb:w.heap[r]? = some o) (hn:∀ c ty fr,o ≠ .cells c ty fr):(setObj r o').run P w = .ok () (w.putObj r o'):=by
 simp only [setObj,Sem.run,hb]
 cases o <;> first | rfl | (exact absurd rfl (hn _ _ _))
theorem Mk {P:Program} {F:Nat -> Prop} {M:Mem} {hb:List HB} {h:List Ah} (H:AR F M hb h) (ok:Cz F M) {t:TypeId} {m k y:AV} {vm vk vy:Value} (hm:Al M hb m vm) (hk':Al M hb k vk) (hy:Al M hb y vy) {K:List Ah -> Prop} (hk:Kj P h t m k y K) :
  agw F M hb ((Instr.mapUpdate t vm vk vy).run P M.w) K:=by
 unfold Kj at hk
 split at hk
 ·rename_i kt et T hT
  obtain ⟨hu,hT⟩:=Ic hT
  split at hk
  ·rename_i id
   split at hk
   ·rename_i b hh
    obtain ⟨⟨kvs,bs,c,rfl,hK⟩,hk⟩:=hk
    cases hm with
    | mp e q1 q2 =>
     obtain ⟨es,h2,h3,h4,h5,h6,h7,h8,h9⟩:=S5 hK (H.box id _ e hh q1);obtain ⟨rfl,hkr⟩:=hK.rel List.mem_cons_self hk';have hown:=H.own id _ e hh q1 rfl;have hc:∀ i,M.w.cell? ⟨e.blk,i,none⟩ = none:=CF h2 (fun _ _ _ he=>by cases he);have hlo:M.lo e.blk = 0:=(H.box id _ e hh q1).2.1;have hnm:¬ M.Ma e.blk:=fun hi=>by have:=hi.1; omega
     have hchk:=hK.check List.mem_cons_self false M.w
     rcases LZ M.w hK h4 h8 h7 with ⟨g1,g2⟩ | ⟨j,y0,e0,g1,g2,g3,g4,g5⟩
     ·have hle:=Ia (o:=.map (es.push { key:=D3 k,val:=vy,born:=c }) (c + 1)) hc hnm
      refine ⟨_,M.obj e.blk (.map (es.push { key:=D3 k,val:=vy,born:=c }) (c + 1)),hb,hk,?_,?_,JA ok _ _,Jk hc hnm hown.2,.refl hb⟩
      ·simp only [Instr.mapUpdate,Sem.run_bind,run_underlying hu,Result.andThen_ok,MapKept.run_getObj_map h2,hchk,g2,Ge _ h2 (fun _ _ _ he=>by cases he)]
       rfl
      ·refine H.obj hh q1 rfl hc hnm ?_
       simp only [LV,g1];refine ⟨q2,hlo,_,World.putObj_heap_same hown.1,by simp [h3],by simp [h4],fun b hb'=>?_,?_,?_,fun i k' x hx=>?_⟩
       ·rcases List.mem_append.1 hb' with hb' | hb'
        ·have:=h5 b hb'; omega
        ·simp at hb'; omega
       ·rw [List.nodup_append]
        refine ⟨h6,by simp,fun a ha b hb'=>?_⟩;have:=h5 a ha;simp at hb';omega
       ·rw [Array.toList_push,List.map_append,List.nodup_append]
        refine ⟨h7,by simp,fun a ha b hb'=>?_⟩;simp at hb';subst hb';obtain ⟨m',hm',rfl⟩:=List.mem_map.1 ha;obtain ⟨i,hi⟩:=List.getElem?_of_mem hm';have hil:i < kvs.length:=by rw [<- h4]; have:=(List.getElem?_eq_some_iff.1 hi).1; simpa using this
        obtain ⟨m2,r1,r2⟩:=h8 i kvs[i].1 kvs[i].2 (by simp [hil]);have:es[i]? = some m':=by simpa using hi
        rw [this] at r1
        cases r1
        rw [r2];intro he;exact JC g1 kvs[i] (by simp) (hK.inj (List.mem_cons_of_mem _ (List.mem_map.2 ⟨_,List.getElem_mem hil,rfl⟩)) List.mem_cons_self he)
       ·rcases BA hx with ⟨r1,r2⟩ | ⟨r1,r2⟩
        ·obtain ⟨m',s1,s2,s3⟩:=h9 i k' x r2
         have hi':i < es.size:=by omega
         exact ⟨m',by rw [Array.getElem?_push_lt hi',<- s1,Array.getElem?_eq_getElem hi'],s2.mem hle,s3.mem hle⟩
        ·cases r2
         subst r1;refine ⟨{ key:=D3 k,val:=vy,born:=c },by rw [<- h4]; simp,hkr.mem hle,hy.mem hle⟩
     ·let f:MapEntry -> MapEntry:=fun e=>{ e with key:=D3 k,val:=vy }
      have hle:=Ia (o:=.map (es.modify j f) c) hc hnm;have hjl:j < es.size:=(Array.getElem?_eq_some_iff.1 g3).1;have hget:∀ i:Nat,(es.modify j f)[i]? = if j = i then es[i]?.map f else es[i]?:=fun i=>by rw [Array.getElem?_modify]
      have hmaps:∀ (g:MapEntry -> Nat),(∀ e,g (f e) = g e) -> (es.modify j f).toList.map g = es.toList.map g:=by
       intro g hg;apply List.ext_getElem?;intro i;rw [List.getElem?_map,List.getElem?_map];have h1:(es.modify j f).toList[i]? = (es.modify j f)[i]?:=Array.getElem?_toList;have h2:es.toList[i]? = es[i]?:=by simp
       rw [h1,h2,hget]
       split
       ·cases es[i]? <;> simp [hg]
       ·rfl
      have hkeys:(es.modify j f).toList.map (·.key) = es.toList.map (·.key):=by
       apply List.ext_getElem?;intro i;rw [List.getElem?_map,List.getElem?_map];have h1:(es.modify j f).toList[i]? = (es.modify j f)[i]?:=Array.getElem?_toList;have h2:es.toList[i]? = es[i]?:=by simp
       rw [h1,h2,hget]
       split
       ·rename_i hij
        subst hij;rw [g3];simp [f,g4]
       ·rfl
      refine ⟨_,M.obj e.blk (.map (es.modify j f) c),hb,hk,?_,?_,JA ok _ _,Jk hc hnm hown.2,.refl hb⟩
      ·have hst:=hK.stays List.mem_cons_self M.w
       simp only [Instr.mapUpdate,Sem.run_bind,run_underlying hu,Result.andThen_ok,MapKept.run_getObj_map h2,hchk,g5,g3,Option.map_some,Option.getD_some,g4,hst,Ge _ h2 (fun _ _ _ he=>by cases he)];rfl
      ·refine H.obj hh q1 rfl hc hnm ?_
       simp only [LV,g1];refine ⟨q2,hlo,_,World.putObj_heap_same hown.1,by rw [hmaps _ (fun _=>rfl),h3],by simp [h4],h5,h6,by rw [hkeys]; exact h7,fun i k' x hx=>?_⟩;rw [hget]
       by_cases hij:j = i
       ·subst hij
        rw [if_pos rfl,g3];have hjk:j < kvs.length:=by omega
        simp [hjk] at hx;obtain ⟨rfl,rfl⟩:=hx;exact ⟨f e0,rfl,hkr.mem hle,hy.mem hle⟩
       ·rw [if_neg hij]
        rw [List.getElem?_set_ne hij] at hx;obtain ⟨m',s1,s2,s3⟩:=h9 i k' x hx;exact ⟨m',s1,s2.mem hle,s3.mem hle⟩
   ·exact hk.elim
  ·exact hk.elim
 ·exact hk.elim
def WL:Option AV -> Prop
 | none=>True
 | some (.val (.int _ _))=>True
 | _=>False
def FI (P:Program) (h:List Ah) (t:TypeId) (r:Option AV) (K:AV -> List Ah -> Prop):Prop :=
 (IU P t).isSome = true /\ WL r /\ K (.mp h.length) (h ++ [.map [] [] 0])
theorem On {F:Nat -> Prop} {M:Mem} {hb:List HB} {h:List Ah} (H:AR F M hb h) (ok:Cz F M) (o:Obj) (b:Ah) (hB:∀ hb':List HB,Bf hb hb' -> Cr (M.new o 0) hb' b ⟨M.w.heap.size,0,0,0,true,true⟩) :
  AR F (M.new o 0) (hb ++ [⟨M.w.heap.size,0,0,0,true,true⟩]) (h ++ [b]) /\ Cz F (M.new o 0) /\ Gu F M (M.new o 0) /\ Bf hb (hb ++ [⟨M.w.heap.size,0,0,0,true,true⟩]):=by
 have hA:=Ch.new M o 0;exact ⟨H.push hA ok b _ (hB _ (.append hb _)) (fun _=>⟨Nat.le_refl _,by rw [Mem.DT]; exact Nat.lt_succ_self _⟩),ok.new _ _,hA.gu ok,.append hb _⟩
theorem Mf {P:Program} {F:Nat -> Prop} {M:Mem} {hb:List HB} {h:List Ah} (H:AR F M hb h) (ok:Cz F M) {t:TypeId} {r:Option AV} {vr:Option Value} (hr:match r,vr with | some x,some y=>Al M hb x y | none,none=>True | _,_=>False) {K:AV -> List Ah -> Prop} (hk:FI P h t r K) :
  Lt F M hb ((Instr.makeMap t vr).run P M.w) K:=by
 obtain ⟨hT,hh,hk⟩:=hk;obtain ⟨⟨kt,et,T⟩,hT⟩:=Option.isSome_iff_exists.1 hT;obtain ⟨hu,_⟩:=Ic hT;obtain ⟨g1,g2,g3,g4⟩:=On H ok (.map #[] 0) (.map [] [] 0) (fun hb' _=>⟨rfl,Mem.HZ M _ _,#[],Mem.Df M _ _,rfl,rfl,by simp,by simp,by simp,fun i k x hx=>by simp at hx⟩);refine ⟨_,.map (some M.w.heap.size),_,M.new (.map #[] 0) 0,_,hk,?_,.mp ⟨M.w.heap.size,0,0,0,true,true⟩ (by rw [<- H.len]; exact Dd hb _) rfl,g1,g2,g3,g4⟩
 cases r with
 | none =>
  cases vr with
  | none=>simp only [Instr.makeMap,newObj,Mem.new]; rfl
  | some v=>exact hr.elim
 | some x =>
  cases vr with
  | none=>exact hr.elim
  | some v =>
   cases x <;> try exact hh.elim
   rename_i z
   cases z <;> try exact hh.elim
   cases hr;simp only [Instr.makeMap,Sem.run_bind,run_underlying hu,Result.andThen_ok,Mem.new,asInt];rfl
end Go.PM

namespace Go.PM
variable [AA]
def H3 (b:Ah):Nat:=match b with
 | .map _ _ c=>c
 | _=>0
def HH (b:Ah) (i:Nat):Nat:=match b with
 | .map _ bs _=>bs.getD i 0
 | _=>0
def PY (b:Ah) (i:Nat):AV:=match b with
 | .map kvs _ _=>(kvs.getD i (.dead,.dead)).1
 | _=>.dead
def O8 (b:Ah) (i:Nat):AV:=match b with
 | .map kvs _ _=>(kvs.getD i (.dead,.dead)).2
 | _=>.dead
def Zx (A B:Prop):Prop:=A /\ B
theorem adC {A B:Prop} (h1:A) (h2:B):Zx A B:=⟨h1,h2⟩
def Fa (P:Program) (h:List Ah) (t:TypeId) (x:AV) (K:AV -> List Ah -> Prop):Prop :=
 match P.underlying t with
 | some .string=>match x with
  | .val (.string s)=>K (.ptr h.length 0) (h ++ [.siter s 0])
  | _=>False
 | some (.map _ _)=>match x with
  | .mp id=>match h[id]? with
   | some b=>isMap b /\ K (.ptr h.length 0) (h ++ [.iter id (H3 b) [] (H3 b)])
   | none=>False
  | _=>False
 | _=>False
theorem Oq {P:Program} {F:Nat -> Prop} {M:Mem} {hb:List HB} {h:List Ah} (H:AR F M hb h) (ok:Cz F M) {t:TypeId} {x:AV} {v:Value} (hv:Al M hb x v) {K:AV -> List Ah -> Prop} (hk:Fa P h t x K) :
  Lt F M hb ((Instr.range t v).run P M.w) K:=by
 unfold Fa at hk
 split at hk
 ·rename_i hu
  split at hk
  ·rename_i s
   cases hv;obtain ⟨g1,g2,g3,g4⟩:=On H ok (.stringIter s 0) (.siter s 0) (fun hb' _=>⟨rfl,Mem.Df M _ _⟩);exact ⟨_,.pointer (some ⟨M.w.heap.size,0,none⟩),_,M.new (.stringIter s 0) 0,_,hk,by simp only [Instr.range,Sem.run_bind,run_underlying hu,Result.andThen_ok,Mem.new]; rfl,.ptr ⟨M.w.heap.size,0,0,0,true,true⟩ (by rw [<- H.len]; exact Dd hb _) rfl,g1,g2,g3,g4⟩
  ·exact hk.elim
 ·rename_i kt et hu
  split at hk
  ·rename_i id
   split at hk
   ·rename_i b hh
    obtain ⟨⟨kvs,bs,c,rfl⟩,hk⟩:=hk
    cases hv with
    | mp e q1 q2 =>
     have hB:=H.box id _ e hh q1;obtain ⟨_,_,es,h2,_⟩:=hB;obtain ⟨g1,g2,g3,g4⟩:=On H ok (.mapIter (some e.blk) c #[] c) (.iter id c [] c) (fun hb' hle=>by
      obtain ⟨e',k1,k2,k3,k4,k5⟩:=hle id e q1;rw [k4 q2] at k1;exact ⟨rfl,e,k1,q2,Mem.Df M _ _⟩)
     exact ⟨_,.pointer (some ⟨M.w.heap.size,0,none⟩),_,M.new (.mapIter (some e.blk) c #[] c) 0,_,hk,by simp only [Instr.range,Sem.run_bind,run_underlying hu,MapKept.run_getObj_map h2,Result.andThen_ok,Mem.new]; rfl,.ptr ⟨M.w.heap.size,0,0,0,true,true⟩ (by rw [<- H.len]; exact Dd hb _) rfl,g1,g2,g3,g4⟩
   ·exact hk.elim
  ·exact hk.elim
 ·exact hk.elim
def Qt (h:List Ah) (it:AV) (isS:Bool) (K:AV -> List Ah -> Prop):Prop :=
 match it with
 | .ptr id o=>o = 0 /\ match h[id]?,isS with
  | some (.siter s pos),true=>Zx (pos < s.size -> K (.tup [.val (.bool true),.val (.int .i64 pos),.val (.int .i32 (Utf8.decode s pos).1)]) (h.set id (.siter s (pos + (Utf8.decode s pos).2)))) (s.size <= pos -> K (.tup [.val (.bool false)]) h)
  | some (.iter Jb since seen step),false=>match h[Jb]? with
   | some b=>isMap b /\ (∀ i,i < Jv b -> HH b i < since) /\ since <= step /\
     Zx (∀ i,i < Jv b -> HH b i ∉ seen -> K (.tup [.val (.bool true),PY b i,O8 b i]) (h.set id (.iter Jb since (HH b i :: seen) (H3 b)))) ((∀ i,i < Jv b -> HH b i ∈ seen) -> K (.tup [.val (.bool false)]) h)
   | none=>False
  | _,_=>False
 | _=>False
theorem run_choose {P:Program} (w:World) {n:Nat} (hn:0 < n):∃ (j:Nat) (w1:World),j < n /\ (w1 = w \/ w1 = w.drew) /\ (choose (.mapNext n)).run P w = .ok j w1:=by
 by_cases hf:n <= 1
 ·exact ⟨0,w,hn,.inl rfl,by simp [choose,Sem.run,Question.forced,hf]⟩
 ·exact ⟨_,w.drew,Nat.mod_lt _ (by omega),.inr rfl,by
   simp only [choose,Sem.run,Question.forced,decide_eq_true_eq,hf,if_false,Question.cut];rfl⟩
theorem Qd {P:Program} {F:Nat -> Prop} {M:Mem} {hb:List HB} {h:List Ah} (H:AR F M hb h) (ok:Cz F M) {it:AV} {v:Value} {isS:Bool} (hv:Al M hb it v) {K:AV -> List Ah -> Prop} (hk:Qt h it isS K) (ty:TypeId) :
  Lt F M hb ((Instr.next v isS ty).run P M.w) K:=by
 unfold Qt at hk
 split at hk
 ·rename_i id o
  obtain ⟨rfl,hk⟩:=hk
  cases hv with
  | ptr e q1 q2 =>
   split at hk
   ·rename_i s pos hh
    obtain ⟨_,h2⟩:=H.box id _ e hh q1;have hown:=H.own id _ e hh q1 rfl;have hc:∀ i,M.w.cell? ⟨e.blk,i,none⟩ = none:=CF h2 (fun _ _ _ he=>by cases he);have hnm:¬ M.Ma e.blk:=Jt h2 (fun _ _ he=>by cases he);have hg:(getObj e.blk).run P M.w = .ok (.stringIter s pos) M.w:=by simp [getObj,Sem.run,h2]
    by_cases hp:pos < s.size
    ·refine ⟨_,.tuple #[.bool true,.int .i64 pos,.int .i32 (Utf8.decode s pos).1],_,M.obj e.blk (.stringIter s (pos + (Utf8.decode s pos).2)),hb,hk.1 hp,?_,?_,H.obj hh q1 rfl hc hnm ⟨q2,World.putObj_heap_same hown.1⟩,JA ok _ _,Jk hc hnm hown.2,.refl hb⟩
     ·simp only [Instr.next,Sem.run_bind,hg,Result.andThen_ok,hp,if_true,Ge _ h2 (fun _ _ _ he=>by cases he)]
      rfl
     ·refine .tup rfl fun i c hc=>?_
      match i,hc with
      | 0,hc=>cases hc; exact .val rfl
      | 1,hc=>cases hc; exact .val rfl
      | 2,hc=>cases hc; exact .val rfl
    ·refine ⟨_,.tuple #[.bool false],_,M,hb,hk.2 (by omega),?_,?_,H,ok,.refl F M,.refl hb⟩
     ·simp only [Instr.next,Sem.run_bind,hg,Result.andThen_ok,hp,if_false]
      rfl
     ·refine .tup rfl fun i c hc=>?_
      match i,hc with
      | 0,hc=>cases hc; exact .val rfl
   ·rename_i Jb since seen step hh
    split at hk
    ·rename_i b hm
     obtain ⟨⟨kvs,bs,c,rfl⟩,hb1,hb2,hk⟩:=hk;obtain ⟨_,em,g1,g2,g3⟩:=H.box id _ e hh q1;obtain ⟨_,_,es,h2,h3,h4,h5,h6,h7,h8⟩:=H.box Jb _ em hm g1;have hown:=H.own id _ e hh q1 rfl;have hc:∀ i,M.w.cell? ⟨e.blk,i,none⟩ = none:=CF g3 (fun _ _ _ he=>by cases he);have hgi:(getObj e.blk).run P M.w = .ok (.mapIter (some em.blk) since seen.reverse.toArray step) M.w:=by simp [getObj,Sem.run,g3]
     have hborn:∀ (i:Nat) (x:MapEntry),es[i]? = some x -> i < Jv (.map kvs bs c) /\ HH (.map kvs bs c) i = x.born:=by
      intro i x hx;have hi:i < es.size:=(Array.getElem?_eq_some_iff.1 hx).1;refine ⟨by simp only [Jv]; omega,?_⟩;simp only [HH];rw [<- h3,List.getD_eq_getElem?_getD,List.getElem?_map];have:es.toList[i]? = some x:=by simpa using hx
      rw [this];rfl
     have hsince:∀ x ∈ es.toList,x.born < since:=by
      intro x hx;obtain ⟨i,hi⟩:=List.getElem?_of_mem hx;obtain ⟨k1,k2⟩:=hborn i x (by simpa using hi);rw [<- k2];exact hb1 i k1
     have htest:=next_test_false seen.reverse.toArray es since step hsince hb2
     by_cases h0:(es.filter fun e=>!seen.reverse.toArray.contains e.born) = #[]
     ·refine ⟨_,.tuple #[.bool false],_,M,hb,hk.2 (fun i hi=>?_),?_,?_,H,ok,.refl F M,.refl hb⟩
      ·have hi':i < es.size:=by simp only [Jv] at hi; omega
       obtain ⟨k1,k2⟩:=hborn i es[i] (by simp [hi']);rw [k2];have hne:=Array.filter_eq_empty_iff.1 h0 es[i] (by simp)
       simpa using hne
      ·simp only [Instr.next,Sem.run_bind,hgi,Result.andThen_ok,MapKept.run_getObj_map h2,htest,Bool.false_eq_true,if_false,h0]
       simp [choose,Sem.run,Question.forced]
      ·refine .tup rfl fun i c hc=>?_
       match i,hc with
       | 0,hc=>cases hc; exact .val rfl
     ·generalize hL:(es.filter fun e=>!seen.reverse.toArray.contains e.born) = L at h0
      have hsz:0 < L.size:=by
       rcases Nat.eq_zero_or_pos L.size with hz | hz
       ·exact absurd (Array.eq_empty_of_size_eq_zero hz) h0
       ·exact hz
      have hmem:∀ x ∈ L.toList,x.born < since:=by
       intro x hx;rw [<- hL] at hx;simp at hx;exact hsince x (by simpa using hx.1)
      have e1:L.filter (fun x=>decide (x.born < since)) = L:=Array.filter_eq_self.2 (fun x hx=>by simpa using hmem x (by simpa using hx));have e2:L.filter (fun x=>decide (x.born >= since)) = #[]:=by
       rw [Array.filter_eq_empty_iff];intro x hx;have:=hmem x (by simpa using hx);simp;omega
      have hne:L.isEmpty = false:=by simp [Array.isEmpty]; omega
      obtain ⟨j,w1,hj,hw1,hrun⟩:=run_choose (P:=P) M.w hsz;have hLj:L[j] ∈ es /\ L[j].born ∉ seen:=by
       have hm:L[j] ∈ es.filter (fun e=>!seen.reverse.toArray.contains e.born):=by rw [hL]; exact Array.getElem_mem hj
       generalize L[j] = y at hm;rw [Array.mem_filter] at hm;exact ⟨hm.1,by simpa using hm.2⟩
      obtain ⟨i,hi,hei⟩:=Array.getElem_of_mem hLj.1;obtain ⟨k1,k2⟩:=hborn i L[j] (by rw [Array.getElem?_eq_getElem hi,hei]);have hik:i < kvs.length:=by simpa only [Jv] using k1
      obtain ⟨m,r1,r2,r3⟩:=h8 i kvs[i].1 kvs[i].2 (by simp [hik]);rw [Array.getElem?_eq_getElem hi,hei] at r1
      cases r1
      obtain ⟨M1,hM1w,hM1⟩:∃ M1:Mem,M1.w = w1 /\ Ch M M1 /\ Cz F M1 /\ M1.w.heap = M.w.heap:=by
       rcases hw1 with rfl | rfl
       ·exact ⟨M,rfl,.refl M,ok,rfl⟩
       ·exact ⟨M.drew,rfl,.drew M,ok.drew,rfl⟩
      obtain ⟨hA,ok1,hheap⟩:=hM1;have H1:=H.Lw hA ok;have g3':M1.w.heap[e.blk]? = some (.mapIter (some em.blk) since seen.reverse.toArray step):=by rw [hheap]; exact g3
      have hown1:=H1.own id _ e hh q1 rfl;have hc1:∀ i,M1.w.cell? ⟨e.blk,i,none⟩ = none:=CF g3' (fun _ _ _ he=>by cases he);have hnm1:¬ M1.Ma e.blk:=Jt g3' (fun _ _ he=>by cases he);have hle:=Ia (o:=.mapIter (some em.blk) since (L[j].born :: seen).reverse.toArray c) hc1 hnm1;refine ⟨_,.tuple #[.bool true,L[j].key,L[j].val],_,M1.obj e.blk (.mapIter (some em.blk) since (L[j].born :: seen).reverse.toArray c),hb,hk.1 i k1 (by rw [k2]; exact hLj.2),?_,?_,?_,JA ok1 _ _,(hA.gu ok).trans (Jk hc1 hnm1 hown1.2),.refl hb⟩
      ·have hpush:seen.reverse.toArray.push L[j].born = (L[j].born :: seen).reverse.toArray:=by simp
       have Cf:=Ge (P:=P) (w:=w1) (.mapIter (some em.blk) since (L[j].born :: seen).reverse.toArray c) (by rw [<- hM1w]; exact g3') (fun _ _ _ he=>by cases he);simp only [Instr.next,Sem.run_bind,hgi,Result.andThen_ok,MapKept.run_getObj_map h2,htest,Bool.false_eq_true,if_false,hL,e1,e2,hne,Array.append_empty,Array.empty_append,Array.size_map,hrun,Array.getElem?_map,Array.getElem?_eq_getElem hj,Option.map_some,hpush,Cf];rw [<- hM1w];rfl
      ·refine .tup rfl fun i' c' hc'=>?_
       match i',hc' with
       | 0,hc'=>cases hc'; exact .val rfl
       | 1,hc' =>
        cases hc'
        have:PY (.map kvs bs c) i = kvs[i].1:=by simp only [PY]; rw [List.getD_eq_getElem?_getD,List.getElem?_eq_getElem hik]; rfl
        rw [this];exact ((r2.mem (hA.gu ok).le).mem hle).pure
       | 2,hc' =>
        cases hc'
        have:O8 (.map kvs bs c) i = kvs[i].2:=by simp only [O8]; rw [List.getD_eq_getElem?_getD,List.getElem?_eq_getElem hik]; rfl
        rw [this];exact (r3.mem (hA.gu ok).le).mem hle
      ·refine H1.obj hh q1 rfl hc1 hnm1 ?_
       refine ⟨q2,em,g1,g2,?_⟩;rw [k2];exact World.putObj_heap_same hown1.1
    ·exact hk.elim
   ·exact hk.elim
 ·exact hk.elim
def Gi (h:List Ah) (it:AV) (K:AV -> Prop):Prop :=
 match it with
 | .ptr id o=>o = 0 /\ match h[id]? with
  | some (.iter Jb _ (s :: _) step)=>match h[Jb]? with
   | some b=>∃ i,s = HH b i /\ isMap b /\ i < Jv b /\ step = H3 b /\ K (.tup [PY b i,O8 b i])
   | none=>False
  | _=>False
 | _=>False
theorem OD {P:Program} {F:Nat -> Prop} {M:Mem} {hb:List HB} {h:List Ah} (H:AR F M hb h) {it:AV} {v:Value} (hv:Al M hb it v) {K:AV -> Prop} (hk:Gi h it K) :
  ∃ x u,K x /\ (Instr.entry v).run P M.w = .ok u M.w /\ Al M hb x u:=by
 unfold Gi at hk
 split at hk
 ·rename_i id o
  obtain ⟨rfl,hk⟩:=hk
  cases hv with
  | ptr e q1 q2 =>
   split at hk
   ·rename_i Jb since s seen step hh
    split at hk
    ·rename_i b hm
     obtain ⟨i,hs,⟨kvs,bs,c,rfl⟩,hi,hstep,hk⟩:=hk;obtain ⟨_,em,g1,g2,g3⟩:=H.box id _ e hh q1;obtain ⟨_,_,es,h2,h3,h4,h5,h6,h7,h8⟩:=H.box Jb _ em hm g1;have hgi:(getObj e.blk).run P M.w = .ok (.mapIter (some em.blk) since (s :: seen).reverse.toArray step) M.w:=by simp only [getObj,Sem.run,g3]
     have hik:i < kvs.length:=by simpa only [Jv] using hi
     have hie:i < es.size:=by omega
     obtain ⟨m,r1,r2,r3⟩:=h8 i kvs[i].1 kvs[i].2 (by simp [hik]);rw [Array.getElem?_eq_getElem hie] at r1
     cases r1
     have hb':s = es[i].born:=by
      rw [hs];simp only [HH];rw [<- h3,List.getD_eq_getElem?_getD,List.getElem?_map];have:es.toList[i]? = some es[i]:=by simp [hie]
      rw [this];rfl
     have hf:es.find? (·.born == s) = some es[i]:=by
      rw [hb',<- Array.find?_toList];exact find_born es[i] es.toList (by rw [h3]; exact h6) (by simp)
     have hback:(s :: seen).reverse.toArray.back? = some s:=by simp
     have hst:step = c:=by simpa only [H3] using hstep
     subst hst;refine ⟨_,.tuple #[es[i].key,es[i].val],hk,?_,?_⟩
     ·simp only [Instr.entry,Sem.run_bind,hgi,Result.andThen_ok,hback,MapKept.run_getObj_map h2,bne_self_eq_false,Bool.false_eq_true,if_false,hf]
      rfl
     ·refine .tup rfl fun i' c' hc'=>?_
      match i',hc' with
      | 0,hc' =>
       cases hc'
       have:PY (.map kvs bs step) i = kvs[i].1:=by simp only [PY]; rw [List.getD_eq_getElem?_getD,List.getElem?_eq_getElem hik]; rfl
       rw [this];exact r2.pure
      | 1,hc' =>
       cases hc'
       have:O8 (.map kvs bs step) i = kvs[i].2:=by simp only [O8]; rw [List.getD_eq_getElem?_getD,List.getElem?_eq_getElem hik]; rfl
       rw [this];exact r3
    ·exact hk.elim
   ·exact hk.elim
 ·exact hk.elim
end Go.PM

namespace Go.PM
variable [AA]
def Bl (P:Program) (id:Nat) (args:List AV) (h:List Ah) (R:AE -> List Ah -> Prop):Prop :=
 ∀ F M hb vs,AR F M hb h -> Cz F M -> AW M hb args vs -> ∃ e:HB,hb[id]? = some e /\ e.fix = true /\
  ∃ fn tmps assign body,(Instr.yield e.blk vs).run P M.w = .ok (.round e.blk fn tmps assign body) M.w /\ RoundIn Fence.wide 0 P e.blk fn tmps assign body M.w (Np F M hb R)
theorem Bl.mono {P:Program} {id:Nat} {args:List AV} {h:List Ah} {R R':AE -> List Ah -> Prop} (hc:Bl P id args h R) (hr:∀ r h',R r h' -> R' r h'):Bl P id args h R':=by
 intro F M hb vs H ok hv;obtain ⟨e,h1,h2,fn,tmps,assign,body,h3,h4⟩:=hc F M hb vs H ok hv;exact ⟨e,h1,h2,fn,tmps,assign,body,h3,RoundIn.mono h4 fun _ _ ⟨r,h',M',hb',k,rest⟩=>⟨r,h',M',hb',hr r h' k,rest⟩⟩
def Eu (s:St) (dst:Option Tmp) (K:St -> Prop) (Φ:AX -> St -> Prop):AE -> List Ah -> Prop
 | .ret x,h=>K ((⟨s.t,h,s.d⟩:St).put dst x)
 | .panic x,h=>Φ (.panic x) ⟨s.t,h,s.d⟩
def BP (P:Program) (o:Oper) (s:St) (K:St -> Prop) (Φ:AX -> St -> Prop):Prop :=
 match o.op with
 | .alloc t=>EC P s.h t (fun v h=>K ((⟨s.t,h,s.d⟩:St).put o.dst v))
 | .box _ x=>PT s.h (s.ev x) (fun v h=>K ((⟨s.t,h,s.d⟩:St).put o.dst v))
 | .build t ps=>Ea P t (ps.toList.map fun p=>(p.1,s.ev p.2)) (fun v=>K (s.put o.dst v))
 | .buildSlice t n ps=>BL P s.h t n (ps.toList.map (·.1)) (ps.toList.map fun p=>s.ev p.2) (fun v h=>K ((⟨s.t,h,s.d⟩:St).put o.dst v))
 | .store t p x=>DE P s.h t (s.ev p) (s.ev x) (fun h=>K ((⟨s.t,h,s.d⟩:St).put o.dst .dead))
 | .makeSlice t l c=>CU P s.h t (s.ev l) (s.ev c) (fun v h=>K ((⟨s.t,h,s.d⟩:St).put o.dst v))
 | .panic x=>match s.ev x with
  | .iface t v=>Φ (.panic (.iface t v)) s
  | _=>False
 | .lookup t m k c=>EJ P s.h t (s.ev m) (s.ev k) c (fun v=>K (s.put o.dst v))
 | .mapUpdate t m k x=>Kj P s.h t (s.ev m) (s.ev k) (s.ev x) (fun h=>K ((⟨s.t,h,s.d⟩:St).put o.dst .dead))
 | .insert t m k x=>Kj P s.h t (s.ev m) (s.ev k) (s.ev x) (fun h=>K ((⟨s.t,h,s.d⟩:St).put o.dst .dead))
 | .makeMap t r=>FI P s.h t (r.map s.ev) (fun v h=>K ((⟨s.t,h,s.d⟩:St).put o.dst v))
 | .range t x=>Fa P s.h t (s.ev x) (fun v h=>K ((⟨s.t,h,s.d⟩:St).put o.dst v))
 | .next it isS=>Qt s.h (s.ev it) isS (fun v h=>K ((⟨s.t,h,s.d⟩:St).put o.dst v))
 | .entry it=>Gi s.h (s.ev it) (fun v=>K (s.put o.dst v))
 | .call c=>match c.callee with
  | .builtin .append=>EM P s.h c.argTypes.toList (c.args.toList.map s.ev) (fun v h=>K ((⟨s.t,h,s.d⟩:St).put o.dst v))
  | .builtin .copy=>J0 P s.h c.argTypes.toList (c.args.toList.map s.ev) (fun v h=>K ((⟨s.t,h,s.d⟩:St).put o.dst v))
  | .builtin b=>Fb P s.h b c.argTypes.toList (c.args.toList.map s.ev) (fun v=>K (s.put o.dst v))
  | .value f=>match s.ev f with
   | .fn f caps=>Ag P f (c.args.toList.map s.ev ++ caps) s.h (Eu s o.dst K Φ)
   | .yld id=>Bl P id (c.args.toList.map s.ev) s.h (Eu s o.dst K Φ)
   | .bnd f first=>Ag P f (first ++ c.args.toList.map s.ev) s.h (Eu s o.dst K Φ)
   | _=>False
  | _=>False
 | .convert src dst x=>FN P src dst (s.ev x) (fun v=>K (s.put o.dst v))
 | _=>FB P s o.op (fun v=>K (s.put o.dst v))
theorem AW.evs {F:Nat -> Prop} {M:Mem} {hb:List HB} {s:St} {a:Act} (hs:BR F M hb s a) (xs:Array Operand):AW M hb (xs.toList.map s.ev) (xs.map a.eval):=by
 refine ⟨by simp,fun i x hx=>?_⟩;simp only [List.getElem?_map,Option.map_eq_some_iff] at hx;obtain ⟨y,hy,rfl⟩:=hx;have hy':xs[i]? = some y:=by simpa using hy
 simp [Array.getD_eq_getD_getElem?,hy'];exact hs.ev y
theorem AW.app {M:Mem} {hb:List HB} {l l':List AV} {c c':Array Value} (h:AW M hb l c) (h':AW M hb l' c'):AW M hb (l ++ l') (c ++ c'):=by
 refine ⟨by simp [h.1,h'.1],fun i x hx=>?_⟩
 by_cases hi:i < l.length
 ·rw [List.getElem?_append_left hi] at hx
  have:=h.2 i x hx;have hi':i < c.size:=h.1 ▸ hi;rw [Array.getD_eq_getD_getElem?] at this ⊢
  rwa [Array.getElem?_append_left hi']
 ·rw [List.getElem?_append_right (by omega)] at hx
  have:=h'.2 _ x hx;have hi':c.size <= i:=by rw [<- h.1]; omega
  rw [Array.getD_eq_getD_getElem?] at this ⊢
  rwa [Array.getElem?_append_right hi',<- h.1]
theorem BR.HN {F:Nat -> Prop} {M M':Mem} {hb hb':List HB} {s:St} {a:Act} {h':List Ah} (hs:BR F M hb s a) (g4:AR F M' hb' h') (g5:Cz F M') (g6:Gu F M M') (g7:Bf hb hb'):BR F M' hb' ⟨s.t,h',s.d⟩ a :=
 hs.move g6.le g7 g4 g5
theorem EK {P:Program} {f:FuncId} (hf:Ks P f) (args:Array Value) (w:World):(callFunc f args).run P w = .ok (.enter f args) w:=by
 obtain ⟨fn,h1,h2,h3⟩:=hf;have h5:fn.body ≠ none:=fun h=>by rw [h] at h3; cases h3
 simp [callFunc,h1,h2,h5]
theorem DM {P:Program} {F:Nat -> Prop} {M:Mem} {hb:List HB} {s:St} {a:Act} (ro:Option Nat) (hs:BR F M hb s a) {o:Oper} {K:St -> Prop} {Φ:AX -> St -> Prop} (hk:BP P o s K Φ)
  {next:Act -> World -> Prop} {Q:Exit -> Act -> World -> Prop}
  (hnext:∀ (s':St) (M':Mem) (hb':List HB) (a':Act),K s' -> BR F M' hb' s' a' -> Gu F M M' -> Bf hb hb' -> next a' M'.w)
  (hQ:∀ (x:AV) (v:Value) (s':St) (M':Mem) (hb':List HB),Φ (.panic x) s' -> Al M' hb' x v -> BR F M' hb' s' a -> Gu F M M' -> Bf hb hb' -> Q (.panic [{ v,recovered:=false }]) a M'.w) :
  o.wpIn (AY ro) 0 P a M.w next Q:=by
 refine ⟨fun _ _=>trivial,?_⟩;have hq:∀ {K':AV -> Prop},adD P M hb a o K' -> (∀ c,o.op ≠ .defer c) -> (∀ v,K' v -> K (s.put o.dst v)) -> o.uponIn (AY ro) 0 P a next Q ((o.semAt (AY ro).round a.eval).run P M.w):=by
  rintro K' ⟨x,v,k1,k2,k3⟩ hnd hK;rw [Oper.semAt_eq _ _ _ hnd,k2,Oper.uponIn_value];exact hnext _ M hb _ (hK _ k1) (hs.put o.dst k3) (.refl _ _) (.refl _)
 have hV:∀ {r:Sem Value} {K':AV -> List Ah -> Prop},Lt F M hb (r.run P M.w) K' -> (∀ c,o.op ≠ .defer c) -> (∀ (v:AV) (h:List Ah),K' v h -> K ((⟨s.t,h,s.d⟩:St).put o.dst v)) ->
   execOp a.eval o = (do pure (.value (<- r))) -> o.uponIn (AY ro) 0 P a next Q ((o.semAt (AY ro).round a.eval).run P M.w):=by
  rintro r K' ⟨x,v,h',M',hb',k1,k2,k3,k4,k5,k6,k7⟩ hnd hK he;rw [Oper.semAt_eq _ _ _ hnd,he,Sem.run_bind,k2,Result.andThen_ok,Sem.run_pure,Oper.uponIn_value];exact hnext _ M' hb' _ (hK _ _ k1) ((hs.HN k4 k5 k6 k7).put o.dst k3) k6 k7
 unfold BP at hk
 split at hk
 ·rename_i t hop
  exact hV (OM hs.hp hs.ok hk) (fun c=>by rw [hop]; intro h; cases h) (fun _ _ h=>h) (by simp only [execOp,hop])
 ·rename_i t x hop
  exact hV (RC hs.hp hs.ok (t:=t) (hs.ev x) hk) (fun c=>by rw [hop]; intro h; cases h) (fun _ _ h=>h) (by simp only [execOp,hop])
 ·rename_i t ps hop
  obtain ⟨x,v,k1,k2,k3⟩:=Oz (qs:=ps.map fun (i,x)=>(i,a.eval x)) (by simp) (fun k i x hx=>by
   simp only [List.getElem?_map,Option.map_eq_some_iff] at hx;obtain ⟨p,hp,he⟩:=hx;simp only [Prod.mk.injEq] at he;obtain ⟨rfl,rfl⟩:=he;have hp':ps[k]? = some p:=by simpa using hp
   exact ⟨a.eval p.2,by simp [hp'],hs.ev p.2⟩) hk
  exact hq ⟨x,v,k1,by simp only [execOp,hop,Sem.run_bind,k2,Result.andThen_ok,Sem.run_pure],k3⟩ (fun c=>by rw [hop]; intro h; cases h) (fun _ h=>h)
 ·rename_i t n ps hop
  refine hV (IG hs.hp hs.ok (vs:=ps.toList.map fun p=>a.eval p.2) (qs:=ps.map fun (i,x)=>(i,a.eval x)) (by simp) (fun i x hx=>?_) ?_ hk) (fun c=>by rw [hop]; intro h; cases h) (fun _ _ h=>h) (by simp only [execOp,hop])
  ·rw [List.getElem?_map,Option.map_eq_some_iff] at hx
   obtain ⟨p,hp,rfl⟩:=hx;have hg:(ps.toList.map fun p=>a.eval p.2).getD i undef = a.eval p.2:=by rw [List.getD_eq_getElem?_getD,List.getElem?_map,hp]; rfl
   rw [hg];exact hs.ev p.2
  ·simp only [Array.toList_map]
   rw [List.zip_map']
 ·rename_i t p x hop
  obtain ⟨h',M',hb',k1,k2,k4,k5,k6,k7⟩:=OK hs.hp hs.ok (hs.ev p) (hs.ev x) hk;rw [Oper.semAt_eq _ _ _ (fun c=>by rw [hop]; intro h; cases h)];simp only [execOp,hop,Sem.run_bind,k2,Result.andThen_ok,Sem.run_pure,Oper.uponIn_skip];exact hnext _ M' hb' _ k1 ((hs.HN k4 k5 k6 k7).put o.dst .dead) k6 k7
 ·rename_i t l c hop
  exact hV (Jq hs.hp hs.ok (hs.ev l) (hs.ev c) hk) (fun c=>by rw [hop]; intro h; cases h) (fun _ _ h=>h) (by simp only [execOp,hop])
 ·rename_i x hop
  split at hk
  ·rename_i t y hxx
   have hx:=hs.ev x;rw [hxx] at hx;generalize hv:a.eval x = v at hx
   cases hx with
   | iface hx =>
    rw [Oper.semAt_eq _ _ _ (fun c=>by rw [hop]; intro h; cases h)];simp [execOp,hop,hv,Instr.panic,Oper.uponIn];exact hQ _ _ _ M hb hk (.iface hx) hs (.refl _ _) (.refl _)
  ·exact hk.elim
 ·rename_i t m k c hop
  obtain ⟨x,v,k1,k2,k3⟩:=Mw hs.hp (hs.ev m) (hs.ev k) hk;exact hq ⟨x,v,k1,by simp only [execOp,hop,Sem.run_bind,k2,Result.andThen_ok,Sem.run_pure],k3⟩ (fun c=>by rw [hop]; intro h; cases h) (fun _ h=>h)
 ·rename_i t m k x hop
  obtain ⟨h',M',hb',k1,k2,k4,k5,k6,k7⟩:=Mk hs.hp hs.ok (hs.ev m) (hs.ev k) (hs.ev x) hk;rw [Oper.semAt_eq _ _ _ (fun c=>by rw [hop]; intro h; cases h)];simp only [execOp,hop,Sem.run_bind,k2,Result.andThen_ok,Sem.run_pure,Oper.uponIn_skip];exact hnext _ M' hb' _ k1 ((hs.HN k4 k5 k6 k7).put o.dst .dead) k6 k7
 ·rename_i t m k x hop
  obtain ⟨h',M',hb',k1,k2,k4,k5,k6,k7⟩:=Mk hs.hp hs.ok (hs.ev m) (hs.ev k) (hs.ev x) hk;rw [Oper.semAt_eq _ _ _ (fun c=>by rw [hop]; intro h; cases h)];simp only [execOp,hop,Sem.run_bind,k2,Result.andThen_ok,Sem.run_pure,Oper.uponIn_skip];exact hnext _ M' hb' _ k1 ((hs.HN k4 k5 k6 k7).put o.dst .dead) k6 k7
 ·rename_i t r hop
  exact hV (Mf hs.hp hs.ok (Gc hs r) hk) (fun c=>by rw [hop]; intro h; cases h) (fun _ _ h=>h) (by simp only [execOp,hop])
 ·rename_i t x hop
  exact hV (Oq hs.hp hs.ok (hs.ev x) hk) (fun c=>by rw [hop]; intro h; cases h) (fun _ _ h=>h) (by simp only [execOp,hop])
 ·rename_i it isS hop
  exact hV (Qd hs.hp hs.ok (hs.ev it) hk o.type) (fun c=>by rw [hop]; intro h; cases h) (fun _ _ h=>h) (by simp only [execOp,hop])
 ·rename_i it hop
  obtain ⟨x,v,k1,k2,k3⟩:=OD (P:=P) hs.hp (hs.ev it) hk;exact hq ⟨x,v,k1,by simp only [execOp,hop,Sem.run_bind,k2,Result.andThen_ok,Sem.run_pure],k3⟩ (fun c=>by rw [hop]; intro h; cases h) (fun _ h=>h)
 ·rename_i c hop
  have hnd:∀ c,o.op ≠ .defer c:=fun c=>by rw [hop]; intro h; cases h
  split at hk
  ·rename_i hcal
   refine hV (MK hs.hp hs.ok (vs:=c.args.map a.eval) (AW.evs hs c.args).1 (AW.evs hs c.args).2 hk o.type) hnd (fun _ _ h=>h) ?_;simp only [execOp,hop,resolve,hcal,invoke,pure_bind]; rfl
  ·rename_i hcal
   refine hV (Po hs.hp hs.ok (vs:=c.args.map a.eval) (AW.evs hs c.args).1 (AW.evs hs c.args).2 hk o.type) hnd (fun _ _ h=>h) ?_;simp only [execOp,hop,resolve,hcal,invoke,pure_bind]; rfl
  ·rename_i b _ _ hcal
   refine hq (MU (o:=o) (K:=fun v=>K (s.put o.dst v)) hs ?_) hnd (fun _ h=>h);simp only [FB,hop,hcal];exact hk
  ·rename_i f hcal
   have hf:=hs.ev f;have hargs:=AW.evs hs c.args;rw [Oper.semAt_eq _ _ _ hnd]
   split at hk
   ·rename_i g caps hff
    rw [hff] at hf;generalize hv:a.eval f = v at hf
    cases hf with
    | @fn _ _ _ us h1 h2 =>
     simp only [execOp,hop,resolve,hcal,hv,Deferred.ofValue,Sem.run_bind,Sem.run_pure,Result.andThen_ok,invoke,EK hk.1];rw [Oper.uponIn_enter];refine ⟨fun h=>by simp [AY,Fence.wide] at h,Ex.2 ?_⟩;have hl:AW M hb (c.args.toList.map s.ev ++ caps) ((#[] ++ c.args.map a.eval) ++ us):=by
      rw [Array.empty_append];exact hargs.app ⟨h1,h2⟩
     refine Calls.mono (hk.2 F M hb _ hs.hp hs.ok hl) ?_;rintro e w' ⟨r,h',M',hb',k1,k2,rfl,k4,k5,k6,k7⟩
     cases r <;> cases e <;> try exact k2.elim
     ·exact hnext _ M' hb' _ k1 ((hs.HN k4 k5 k6 k7).put o.dst k2) k6 k7
     ·obtain ⟨v,rfl,hv'⟩:=k2
      exact hQ _ v _ M' hb' k1 hv' (hs.HN k4 k5 k6 k7) k6 k7
   ·rename_i id hff
    rw [hff] at hf;generalize hv:a.eval f = v at hf
    cases hf with
    | yld e q1 q2 =>
     obtain ⟨e',r1,r2,fn,tmps,assign,body,r3,r4⟩:=hk F M hb _ hs.hp hs.ok hargs;rw [q1] at r1
     cases r1
     simp only [execOp,hop,resolve,hcal,hv,Deferred.ofValue,Sem.run_bind,Sem.run_pure,Result.andThen_ok,invoke,Array.empty_append,r3];rw [Oper.uponIn_round];refine ⟨fun h=>by simp [AY,Fence.wide] at h,trivial,fun c cs hroom=>?_⟩;obtain ⟨e₂,w',hR,hC⟩:=r4.2 c cs (room_wide _);refine ⟨e₂,w',?_,hC⟩;obtain ⟨r,h',M',hb',k1,k2,rfl,k4,k5,k6,k7⟩:=hR
     cases r <;> cases e₂ <;> try exact k2.elim
     ·exact hnext _ M' hb' _ k1 ((hs.HN k4 k5 k6 k7).put o.dst k2) k6 k7
     ·obtain ⟨v,rfl,hv'⟩:=k2
      exact hQ _ v _ M' hb' k1 hv' (hs.HN k4 k5 k6 k7) k6 k7
   ·rename_i g first hff
    rw [hff] at hf;generalize hv:a.eval f = v at hf
    cases hf with
    | @bnd _ _ _ us h1 h2 =>
     simp only [execOp,hop,resolve,hcal,hv,Deferred.ofValue,Sem.run_bind,Sem.run_pure,Result.andThen_ok,invoke,EK hk.1];rw [Oper.uponIn_enter];refine ⟨fun h=>by simp [AY,Fence.wide] at h,Ex.2 ?_⟩;have hl:AW M hb (first ++ c.args.toList.map s.ev) ((us ++ c.args.map a.eval) ++ #[]):=by
      rw [Array.append_empty];exact AW.app ⟨h1,h2⟩ hargs
     refine Calls.mono (hk.2 F M hb _ hs.hp hs.ok hl) ?_;rintro e w' ⟨r,h',M',hb',k1,k2,rfl,k4,k5,k6,k7⟩
     cases r <;> cases e <;> try exact k2.elim
     ·exact hnext _ M' hb' _ k1 ((hs.HN k4 k5 k6 k7).put o.dst k2) k6 k7
     ·obtain ⟨v,rfl,hv'⟩:=k2
      exact hQ _ v _ M' hb' k1 hv' (hs.HN k4 k5 k6 k7) k6 k7
   ·exact hk.elim
  ·exact hk.elim
 ·rename_i src dst x hop
  exact hV (QB hs.hp hs.ok (hs.ev x) hk) (fun c=>by rw [hop]; intro h; cases h) (fun _ _ ⟨e,k⟩=>by subst e; exact k) (by simp only [execOp,hop])
 ·rename_i hne
  by_cases hnd:∀ c,o.op ≠ .defer c
  ·exact hq (MU (o:=o) (K:=fun v=>K (s.put o.dst v)) hs hk) hnd (fun _ h=>h)
  ·exfalso
   obtain ⟨c,hc⟩:=Classical.not_forall.1 hnd;have hc:=Classical.not_not.1 hc;rw [hc] at hk;exact hk
end Go.PM

namespace Go.PM
variable [AA]
def DW (ops:Array Oper) (j:Nat):Option Tmp:=(ops[j]?).bind (·.dst)
def BM (P:Program) (ops:Array Oper) (Φ:AX -> St -> Prop):List Oper -> St -> Prop
 | [],s=>Φ .normal s
 | o :: rest,s=>match o.guard with
  | none=>BP P o s (BM P ops Φ rest) Φ
  | some (j,want)=>match DW ops j with
   | some d=>match s.t.get d with
    | .val (.bool b)=>(b = want -> BP P o s (BM P ops Φ rest) Φ) /\ (b = !want -> BM P ops Φ rest (s.put o.dst (.tup [])))
    | .tup []=>BM P ops Φ rest (s.put o.dst (.tup []))
    | _=>False
   | none=>False
theorem O4 {M:Mem} {hb:List HB} {ops:Array Oper} {t:Tm} {tmps:Array Value} (h:Bv M hb t tmps) {j d:Nat} {b:Bool} (hd:DW ops j = some d) (hg:t.get d = .val (.bool b)):yielded ops tmps j = some b:=by
 have hv:=h.2 d;rw [hg] at hv;generalize hu:tmps.getD d undef = u at hv;cases hv;have hlt:d < tmps.size:=by
  rcases Nat.lt_or_ge d tmps.size with hlt | hge
  ·exact hlt
  ·rw [Array.getD_eq_getD_getElem?,Array.getElem?_eq_none hge] at hu
   simp [undef] at hu
 have hs:tmps[d]? = some (.bool b):=by
  rw [Array.getD_eq_getD_getElem?,Array.getElem?_eq_getElem hlt] at hu;rw [Array.getElem?_eq_getElem hlt]
  simpa using hu
 unfold DW at hd;simp [yielded,hd,hs]
theorem Ei {M:Mem} {hb:List HB} {ops:Array Oper} {t:Tm} {tmps:Array Value} (h:Bv M hb t tmps) {o:Oper} {j d:Nat} {want b:Bool} (hgd:o.guard = some (j,want)) (hd:DW ops j = some d) (hg:t.get d = .val (.bool b)) :
  Region.wanted o (yielded ops tmps) = (b == want):=by
 simp [Region.wanted,hgd,O4 h hd hg]
theorem CX {M:Mem} {hb:List HB}:Al M hb (.tup []) undef:=.tup rfl (fun i c h=>by simp at h)
theorem Eg {M:Mem} {hb:List HB} {ops:Array Oper} {t:Tm} {tmps:Array Value} (h:Bv M hb t tmps) {o:Oper} {j d:Nat} {want:Bool} (hgd:o.guard = some (j,want)) (hd:DW ops j = some d) (hg:t.get d = .tup []) :
  Region.wanted o (yielded ops tmps) = false:=by
 have hv:=h.2 d;rw [hg] at hv;have hy:yielded ops tmps j = none:=by
  unfold DW at hd;unfold yielded;rw [hd]
  show (match tmps[d]? with | some (.bool b)=>some b | _=>none) = none
  cases hs:tmps[d]? with
  | none=>rfl
  | some u =>
   have hu:tmps.getD d undef = u:=by rw [Array.getD_eq_getD_getElem?,hs]; rfl
   rw [hu] at hv;cases hv;rfl
 simp [Region.wanted,hgd,hy]
theorem Su {P:Program} {F:Nat -> Prop} {ops:Array Oper} {Φ:AX -> St -> Prop} (ro:Option Nat):∀ (k i:Nat),i + k = ops.size -> ∀ (M0:Mem) (hb0:List HB) (M:Mem) (hb:List HB) (s:St) (a:Act),Gu F M0 M -> Bf hb0 hb -> BR F M hb s a -> BM P ops Φ (ops.toList.drop i) s ->
  wpOpsIn (AY ro) 0 P ops (Dx F M0 hb0 Φ) (List.range' i k) a M.w:=by
 intro k
 induction k with
 | zero =>
  intro i hi M0 hb0 M hb s a hG hH hs hk;rw [List.drop_eq_nil_of_le (by simp; omega)] at hk;exact ⟨.normal,s,M,hb,hk,trivial,rfl,hs,hG,hH⟩
 | succ k ih =>
  intro i hi M0 hb0 M hb s a hG hH hs hk;have hlt:i < ops.size:=by omega
  have hdrop:ops.toList.drop i = ops[i] :: ops.toList.drop (i + 1):=by
   rw [List.drop_eq_getElem_cons (by simpa using hlt)];simp
  rw [hdrop] at hk;rw [List.range'_succ];simp only [wpOpsIn,Array.getElem?_eq_getElem hlt];have hrun:BP P ops[i] s (BM P ops Φ (ops.toList.drop (i + 1))) Φ -> ops[i].wpIn (AY ro) 0 P a M.w (wpOpsIn (AY ro) 0 P ops (Dx F M0 hb0 Φ) (List.range' (i + 1) k)) (Dx F M0 hb0 Φ):=fun h =>
   DM ro hs h (fun s' M' hb' a' k1 k2 k3 k4=>ih (i + 1) (by omega) M0 hb0 M' hb' s' a' (hG.trans k3) (hH.trans k4) k2 k1)
    (fun x v s' M' hb' k1 k2 k3 k4 k5=>⟨.panic x,s',M',hb',k1,⟨v,rfl,k2⟩,rfl,k3,hG.trans k4,hH.trans k5⟩)
  unfold BM at hk
  split at hk
  ·rename_i hg
   simp only [Region.wanted,hg,if_true];exact hrun hk
  ·rename_i j want hg
   split at hk
   ·rename_i d hd
    split at hk
    ·rename_i b hbv
     rw [Ei hs.tm hg hd hbv]
     by_cases hbw:b = want
     ·simp only [hbw,beq_self_eq_true,if_true]
      exact hrun (hk.1 hbw)
     ·have:(b == want) = false:=by simpa using hbw
      simp only [this,Bool.false_eq_true,if_false];refine ⟨fun _ _=>trivial,ih (i + 1) (by omega) M0 hb0 M hb _ _ hG hH (hs.put ops[i].dst CX) (hk.2 ?_)⟩
      cases b <;> cases want <;> simp_all
    ·rename_i hbv
     rw [Eg hs.tm hg hd hbv];simp only [Bool.false_eq_true,if_false];exact ⟨fun _ _=>trivial,ih (i + 1) (by omega) M0 hb0 M hb _ _ hG hH (hs.put ops[i].dst CX) hk⟩
    ·exact hk.elim
   ·exact hk.elim
theorem Aa.region {P:Program} {rd:Option Nat} {s:St} {Φ:AX -> St -> Prop} {id:Nat} {ops:Array Oper} (h:BM P ops Φ ops.toList s):Aa P rd (.region id ops false) s Φ:=by
 intro F M hb a ro hs hr;refine wpIn_region ?_;rw [List.range_eq_range'];exact Su ro ops.size 0 (by omega) M hb M hb s a (.refl _ _) (.refl _) hs h
end Go.PM

namespace Go.PM
variable [AA]
def AV.Ix:AV -> Bool
 | .agg cs=>cs.all AV.BK
 | x=>x.BK
def AV.pure:AV -> Bool
 | .tup vs=>vs.all AV.Ix
 | x=>x.Ix
theorem Al.TB {M:Mem} {hb:List HB} {x:AV} {v:Value} (h:Al M hb x v) (hp:x.Ix = true):Al M [] x v:=by
 cases x with
 | agg cs =>
  cases h with
  | agg h1 h2 h3=>exact .agg h1 h2 fun i c hc=>(h3 i c hc).IY (List.all_eq_true.1 hp c (List.mem_of_getElem? hc))
 | _=>exact h.IY hp
theorem Al.toPure {M:Mem} {hb:List HB} {x:AV} {v:Value} (h:Al M hb x v) (hp:x.pure = true):Al M [] x v:=by
 cases x with
 | tup cs =>
  cases h with
  | tup h1 h2=>exact .tup h1 fun i c hc=>(h2 i c hc).TB (List.all_eq_true.1 hp c (List.mem_of_getElem? hc))
 | _=>exact h.TB hp
def AE.val:AE -> AV
 | .ret x | .panic x=>x
theorem Ag.frame {P:Program} {f:FuncId} {args:List AV} {h:List Ah} {R:AE -> Prop} (hp:args.all AV.pure = true) (hc:Ag P f args [] (fun r _=>r.val.pure = true /\ R r)) :
  Ag P f args h (fun r h'=>h' = h /\ R r):=by
 refine ⟨hc.1,fun F M hb vs H ok hv=>?_⟩;have hF:Cz (fun b=>F b \/ Ii hb h b) M:=⟨ok.top,fun b hb'=>hb'.elim (ok.fr b) (fun hh=>(H.OC hh).1)⟩
 have H0:AR (fun b=>F b \/ Ii hb h b) M [] []:=⟨rfl,H.gl,fun i b e h1=>by simp at h1,fun i b e h1=>by simp at h1,fun i j b b' e e' h1=>by simp at h1⟩
 have hl:AW M [] args vs:=⟨hv.1,fun i x hx=>(hv.2 i x hx).toPure (List.all_eq_true.1 hp x (List.mem_of_getElem? hx))⟩
 refine Calls.mono (hc.2 _ M [] vs H0 hF hl) ?_;rintro e w' ⟨r,h',M',hb',⟨hpr,hR⟩,k2,rfl,k4,k5,k6,k7⟩;refine ⟨r,h,M',hb,⟨rfl,hR⟩,?_,rfl,H.frame k6,⟨k5.top,fun b hb''=>k5.fr b (.inl hb'')⟩,k6.less (fun b hb''=>.inl hb''),.refl hb⟩
 cases r <;> cases e <;> try exact k2.elim
 ·exact (Al.toPure k2 hpr).pure
 ·obtain ⟨v,h1,h2⟩:=k2
  exact ⟨v,h1,(Al.toPure h2 hpr).pure⟩
def Af (P:Program) (f:FuncId) (args:List AV) (R:AV -> Prop):Prop :=
 Ag P f args [] (fun r _=>r.val.pure = true /\ ∃ x,r = .ret x /\ R x)
theorem Af.call {P:Program} {f:FuncId} {args:List AV} {R:AV -> Prop} {s:St} {dst:Option Tmp} {K:St -> Prop} {Φ:AX -> St -> Prop} (hc:Af P f args R) (hp:args.all AV.pure = true) (hk:∀ x,R x -> K (s.put dst x)) :
  Ag P f args s.h (Eu s dst K Φ):=by
 refine (Ag.frame (R:=fun r=>∃ x,r = .ret x /\ R x) hp hc).mono ?_;rintro r h' ⟨rfl,x,rfl,hR⟩;exact hk x hR
theorem Af.mono {P:Program} {f:FuncId} {args:List AV} {R R':AV -> Prop} (hc:Af P f args R) (h:∀ x,R x -> R' x):Af P f args R' :=
 Ag.mono hc fun _ _ ⟨h1,x,h2,h3⟩=>⟨h1,x,h2,h x h3⟩
def E0 (h:List Ah) (x:AV) (K:AV -> List Ah -> Prop):Prop :=
 match x with
 | .agg cs=>GJ cs h (fun cs' h'=>K (.agg cs') h')
 | .ptr id off=>match h[id]? with
  | some (.cells cs)=>GJ cs (h.set id .dead) (fun cs' h'=>K (.cptr (cs'.drop off)) h')
  | _=>False
 | x=>Ef h x K
theorem Sb {F:Nat -> Prop} {M:Mem} {hb:List HB} {h:List Ah} (H:AR F M hb h) (ok:Cz F M) {id:Nat} {cs:List AV} {e:HB} (hh:h[id]? = some (.cells cs)) (he:hb[id]? = some e) :
  ∃ (M':Mem) (c:Array Value),M'.w = M.w /\ AR F M' hb (h.set id .dead) /\ Cz F M' /\ Gu F M M' /\ BE M' hb cs c /\ ∀ j,j < cs.length -> M'.QM e.blk j /\ M'.get e.blk j = c.getD j undef:=by
 obtain ⟨q1,q2,c,q3,q4⟩:=H.box id _ e hh he;have hown:=H.own id _ e hh he rfl
 let M':Mem:=⟨M.w,fun b=>if b = e.blk then cs.length else M.lo b⟩
 have hle:M.Le M':=by
  refine ⟨fun b o hi=>?_,fun b hb'=>⟨?_,rfl⟩,fun b hb'=>⟨?_,rfl⟩⟩
  ·by_cases hb':b = e.blk
   ·subst hb'; have:=hi.1; omega
   ·exact ⟨⟨by simp only [M',if_neg hb']; exact hi.1,hi.2⟩,rfl⟩
  ·have hne:b ≠ e.blk:=fun hbe=>by have:=hb'.1; rw [hbe] at this; omega
   simp only [M',if_neg hne];exact hb'.1
  ·have hne:b ≠ e.blk:=fun hbe=>by
    obtain ⟨c',ty',l,h1,h2,h3⟩:=hb';rw [hbe] at h2;omega
   simp only [M',if_neg hne];exact Nat.le_refl _
 have hoth:∀ k:Nat,k ≠ e.blk -> M'.w.heap[k]? = M.w.heap[k]? /\ M'.lo k = M.lo k:=fun k hk=>⟨rfl,by simp [M',hk]⟩
 have hu:=H.update (M':=M') (b':=.dead) (e':=e) hh he hle (Nat.le_refl _) (Bf.set he (Nat.le_refl _) rfl (fun _=>rfl) (fun _=>rfl)) (fun k _ hk=>hoth k (hk rfl)) trivial (fun hf=>by cases hf);rw [Cp he] at hu;refine ⟨M',c,rfl,hu,⟨fun b hb'=>?_,ok.fr⟩,⟨Nat.le_refl _,rfl,rfl,rfl,hle,fun b hb'=>hoth b (fun heq=>hown.2 (heq ▸ hb'))⟩,q4.mono hle (.refl hb),fun j hj=>?_⟩
 ·have hne:b ≠ e.blk:=by have h1:=hown.1; have h2:M.w.heap.size <= b:=hb'; omega
  simp only [M',if_neg hne];exact ok.top b hb'
 ·obtain ⟨ty,hc⟩:=q3
  have hcell:M'.w.cell? ⟨e.blk,j,none⟩ = some (c.getD j undef):=by
   rw [Cq (w:=M'.w) hc];have:j < c.size:=by rw [q4.1]; exact hj
   simp [Array.getD_eq_getD_getElem?,this]
  exact ⟨⟨by simp [M',hj],by rw [hcell]; rfl⟩,by unfold Mem.get; rw [hcell]; rfl⟩
theorem HW {F:Nat -> Prop} {M:Mem} {hb:List HB} {h:List Ah} (H:AR F M hb h) (ok:Cz F M) {x:AV} {v:Value} (hv:Al M hb x v) {K:AV -> List Ah -> Prop} (hk:E0 h x K) :
  ∃ (x':AV) (h':List Ah) (M':Mem),K x' h' /\ M'.w = M.w /\ Al M' [] x' v /\ AR F M' hb h' /\ Cz F M' /\ Gu F M M':=by
 unfold E0 at hk
 split at hk
 ·exact Lr (x:=.agg _) H ok hv hk
 ·rename_i id off
  split at hk
  ·rename_i cs hh
   cases hv with
   | ptr e q1 q2 =>
    obtain ⟨M1,c,g1,g2,g3,g4,g5,g6⟩:=Sb H ok hh q1;obtain ⟨cs',h',M2,k1,k2,k3,k4,k5,k6,k7,k8⟩:=Lk cs g2 g3 (vs:=c.toList) (by simp [g5.1]) (fun i x hx=>by
     have:=(g5.2 i x hx).2
     simpa [Array.getD_eq_getD_getElem?,List.getD_eq_getElem?_getD] using this) hk
    have hone:∀ y:AV,y ∈ cs' -> y.single = true:=k8 fun x hx=>by
     obtain ⟨i,hi⟩:=List.getElem?_of_mem hx;exact (g5.2 i x hi).1
    have hlen:cs'.length = cs.length:=by rw [k3]; simp [g5.1]
    refine ⟨_,h',M2,k1,k2.trans g1,.cptr rfl (fun j y hy=>?_) (fun j y hy=>?_),k5,k6,g4.trans k7⟩
    ·rw [List.getElem?_drop] at hy
     have hj:off + j < cs.length:=by rw [<- hlen]; exact (List.getElem?_eq_some_iff.1 hy).1
     exact ⟨(k7.le.c _ _ (g6 _ hj).1).1,hone y (List.mem_of_getElem? hy)⟩
    ·rw [List.getElem?_drop] at hy
     have hj:off + j < cs.length:=by rw [<- hlen]; exact (List.getElem?_eq_some_iff.1 hy).1
     show Al M2 [] y (M2.get e.blk (off + j))
     rw [(k7.le.c _ _ (g6 _ hj).1).2,(g6 _ hj).2];have:=k4 _ y hy
     simpa [Array.getD_eq_getD_getElem?,List.getD_eq_getElem?_getD] using this
  ·exact hk.elim
 ·obtain ⟨x',h',M',k1,k2,k3,k4,k5,k6,_⟩:=Gd H ok hv hk
  exact ⟨x',h',M',k1,k2,k3,k4,k5,k6⟩
def FD:List AV -> List Ah -> (List AV -> List Ah -> Prop) -> Prop
 | [],h,K=>K [] h
 | x :: xs,h,K=>E0 h x (fun x' h'=>FD xs h' (fun xs' h''=>K (x' :: xs') h''))
theorem J9 {F:Nat -> Prop} {hb:List HB}:∀ (xs:List AV) {M:Mem} {h:List Ah} (_:AR F M hb h) (_:Cz F M) {vs:List Value} (_:xs.length = vs.length) (_:∀ (i:Nat) (x:AV),xs[i]? = some x -> Al M hb x (vs.getD i undef)) {K:List AV -> List Ah -> Prop} (_:FD xs h K),
  ∃ (xs':List AV) (h':List Ah) (M':Mem),K xs' h' /\ M'.w = M.w /\ xs'.length = vs.length /\ (∀ (i:Nat) (x:AV),xs'[i]? = some x -> Al M' [] x (vs.getD i undef)) /\ AR F M' hb h' /\ Cz F M' /\ Gu F M M':=by
 intro xs
 induction xs with
 | nil =>
  intro M h H ok vs hl hv K hk;exact ⟨[],h,M,hk,rfl,hl,fun i x hx=>by simp at hx,H,ok,.refl F M⟩
 | cons x xs ih =>
  intro M h H ok vs hl hv K hk
  cases vs with
  | nil=>simp at hl
  | cons v vs =>
   obtain ⟨x',h',M',k1,k2,k3,k4,k5,k6⟩:=HW H ok (hv 0 x rfl) hk;obtain ⟨xs',h'',M'',q1,q2,q3,q4,q5,q6,q7⟩:=ih k4 k5 (vs:=vs) (by simpa using hl) (fun i y hy=>by
    have:=hv (i + 1) y (by simpa using hy);exact Al.mem k6.le (by simpa using this)) k1
   refine ⟨x' :: xs',h'',M'',q1,q2.trans k2,by simp [q3],fun i y hy=>?_,q5,q6,k6.trans q7⟩
   cases i with
   | zero=>simp at hy; subst hy; exact k3.mem q7.le
   | succ i=>simpa using q4 i y (by simpa using hy)
theorem Ag.args {P:Program} {f:FuncId} {args:List AV} {h:List Ah} {R:AE -> List Ah -> Prop} (hf:Ks P f) (hc:FD args h (fun args' h'=>Ag P f args' h' R)):Ag P f args h R:=by
 refine ⟨hf,fun F M hb vs H ok hv=>?_⟩;obtain ⟨args',h',M',k1,k2,k3,k4,k5,k6,k7⟩:=J9 args H ok (vs:=vs.toList) (by simp [hv.1]) (fun i x hx=>by
  have:=hv.2 i x hx
  simpa [Array.getD_eq_getD_getElem?,List.getD_eq_getElem?_getD] using this) hc
 have:=k1.2 F M' hb vs k5 k6 ⟨by simp [k3],fun i x hx=>by
  have:=k4 i x hx;exact Al.pure (by simpa [Array.getD_eq_getD_getElem?,List.getD_eq_getElem?_getD] using this)⟩
 rw [k2] at this;exact Calls.mono this fun e w' ⟨r,h'',M'',hb'',j1,j2,j3,j4,j5,j6,j7⟩=>⟨r,h'',M'',hb'',j1,j2,j3,j4,j5,k7.trans j6,j7⟩
def QI (h:List Ah) (x:AV) (K:AV -> List Ah -> Prop):Prop :=
 match x with
 | .tup vs=>FD vs h (fun vs' h'=>K (.tup vs') h')
 | x=>E0 h x K
theorem KS {F:Nat -> Prop} {M:Mem} {hb:List HB} {h:List Ah} (H:AR F M hb h) (ok:Cz F M) {x:AV} {v:Value} (hv:Al M hb x v) {K:AV -> List Ah -> Prop} (hk:QI h x K) :
  ∃ (x':AV) (h':List Ah) (M':Mem),K x' h' /\ M'.w = M.w /\ Al M' [] x' v /\ AR F M' hb h' /\ Cz F M' /\ Gu F M M':=by
 unfold QI at hk
 split at hk
 ·rename_i xs
  cases hv with
  | @tup _ _ vs g1 g2 =>
   obtain ⟨xs',h',M',k1,k2,k3,k4,k5,k6,k7⟩:=J9 xs H ok (vs:=vs.toList) (by simp [g1]) (fun i x hx=>by
    have:=g2 i x hx
    simpa [Array.getD_eq_getD_getElem?,List.getD_eq_getElem?_getD] using this) hk
   exact ⟨_,h',M',k1,k2,.tup (by simpa using k3) (fun i x hx=>by
    have:=k4 i x hx
    simpa [Array.getD_eq_getD_getElem?,List.getD_eq_getElem?_getD] using this),k5,k6,k7⟩
 ·exact HW H ok hv hk
def adS (R:AE -> List Ah -> Prop):AE -> List Ah -> Prop
 | .ret x,h=>QI h x (fun x' h'=>R (.ret x') h')
 | .panic x,h=>QI h x (fun x' h'=>R (.panic x') h')
theorem Ag.res {P:Program} {f:FuncId} {args:List AV} {h:List Ah} {R:AE -> List Ah -> Prop} (hc:Ag P f args h (adS R)):Ag P f args h R:=by
 refine ⟨hc.1,fun F M hb vs H ok hv=>Calls.mono (hc.2 F M hb vs H ok hv) ?_⟩;rintro e w' ⟨r,h',M',hb',k1,k2,rfl,k4,k5,k6,k7⟩
 cases r <;> cases e <;> try exact k2.elim
 ·obtain ⟨x',h'',M'',j1,j2,j3,j4,j5,j6⟩:=KS (K:=fun x' h'=>R (.ret x') h') k4 k5 k2 k1
  exact ⟨.ret x',h'',M'',hb',j1,Al.pure j3,j2,j4,j5,k6.trans j6,k7⟩
 ·obtain ⟨v,rfl,hv'⟩:=k2
  obtain ⟨x',h'',M'',j1,j2,j3,j4,j5,j6⟩:=KS (K:=fun x' h'=>R (.panic x') h') k4 k5 hv' k1;exact ⟨.panic x',h'',M'',hb',j1,⟨v,rfl,Al.pure j3⟩,j2,j4,j5,k6.trans j6,k7⟩
def Dm (n:Nat) (args:List AV):Tm:=⟨args.length + (n - args.length),(List.range' 0 args.length).zip args⟩
theorem Zj:∀ (args:List AV) (k i:Nat),look ((List.range' k args.length).zip args) i = if k <= i then args.getD (i - k) .dead else .dead:=by
 intro args
 induction args with
 | nil=>intro k i; simp [look]
 | cons x xs ih =>
  intro k i;rw [List.length_cons,List.range'_succ,List.zip_cons_cons];simp only [look]
  cases hb:Nat.beq k i with
  | true =>
   obtain rfl:=Nat.eq_of_beq_eq_true hb;simp
  | false =>
   have hne:=Nat.ne_of_beq_eq_false hb;simp only [ih]
   by_cases hle:k <= i
   ·rw [if_pos (by omega),if_pos hle,show i - k = (i - (k + 1)) + 1 by omega]
    simp
   ·rw [if_neg (by omega),if_neg hle]
theorem JT {M:Mem} {hb:List HB} {args:List AV} {vs:Array Value} (h:AW M hb args vs) (n:Nat):Bv M hb (Dm n args) (vs ++ Array.replicate (n - vs.size) undef):=by
 refine ⟨by simp [Dm,h.1],fun i=>?_⟩;simp only [Dm,Tm.get,Zj,Nat.zero_le,if_true,Nat.sub_zero]
 by_cases hi:i < args.length
 ·have hx:args[i]? = some (args.getD i .dead):=by simp [List.getD_eq_getElem?_getD,hi]
  have:=h.2 i _ hx;have hi':i < vs.size:=h.1 ▸ hi;rw [Array.getD_eq_getD_getElem?] at this ⊢
  rwa [Array.getElem?_append_left hi']
 ·rw [List.getD_eq_getElem?_getD,List.getElem?_eq_none (by omega)]
  exact .dead
def ae0 (P:Program) (t:Tm) (h:List Ah):ResultVar -> (AV -> Prop) -> Prop
 | .tmp i,K=>K (t.get i)
 | .cell i ty,K=>DN P h ty (t.get i) K
def Kv (P:Program) (t:Tm) (h:List Ah):List ResultVar -> (List AV -> Prop) -> Prop
 | [],K=>K []
 | r :: rs,K=>ae0 P t h r (fun x=>Kv P t h rs (fun xs=>K (x :: xs)))
def pack:List AV -> AV
 | [x]=>x
 | xs=>.tup xs
def GP:Option Value -> FrameMode
 | none=>.returning
 | some v=>.panicking [{ v,recovered:=false }]
def Io (M:Mem) (hb:List HB):Option AV -> Option Value -> Prop
 | none,none=>True
 | some x,some v=>Al M hb x v
 | _,_=>False
theorem Io.mono {M M':Mem} {hb hb':List HB} {x:Option AV} {v:Option Value} (h:Io M hb x v) (hM:M.Le M') (hh:Bf hb hb'):Io M' hb' x v:=by
 cases x <;> cases v <;> try exact h
 exact (Al.mem hM h).hb hh
def Kt (P:Program) (f:FuncId) (args:List AV) (pan:Option AV) (h:List Ah) (K:Option AV -> List Ah -> Prop):Prop :=
 ∀ F M hb (vs:Array Value) (pv:Option Value),AR F M hb h -> Cz F M -> AW M hb args vs -> Io M hb pan pv ->
  Ks P f /\ CallsDIn Fence.wide 0 P f vs (GP pv) M.w (fun e u' w'=>∃ v,e = .returned v /\ ∃ (pan':Option AV) (pv':Option Value) (h':List Ah) (M':Mem) (hb':List HB),
   K pan' h' /\ Io M' hb' pan' pv' /\ settle u' = GP pv' /\ M'.w = w' /\ AR F M' hb' h' /\ Cz F M' /\ Gu F M M' /\ Bf hb hb')
def DK (P:Program) (rs:List ResultVar) (t:Tm) (R:AE -> List Ah -> Prop):Option AV -> List AD -> List Ah -> Prop
 | pan,[],h=>match pan with
  | none=>Kv P t h rs (fun xs=>R (.ret (pack xs)) h)
  | some x=>R (.panic x) h
 | pan,.mark id :: ds,h=>h[id]? = some .defer /\ DK P rs t R pan ds (h.set id .dead)
 | pan,.call f args caps :: ds,h=>Kt P f (args ++ caps) pan h (fun pan' h'=>DK P rs t R pan' ds h')
theorem AW.ain {M:Mem} {hb:List HB} {l l':List AV} {c c':Array Value} (h:AW M hb l c) (h':AW M hb l' c'):AW M hb (l ++ l') (c ++ c'):=h.app h'
theorem Mz {P:Program} {f:FuncId} (hf:Ks P f) (args:Array Value) (w:World):(callFunc f args).run P w = .ok (.enter f args) w:=EK hf args w
theorem K5 {P:Program} {t:TypeId} {v u:Value} {w:World} (h:(Instr.loadAt t v).run P w = .ok u w):((do loadVar t (<- asAddr v):Sem Value)).run P w = .ok u w:=by
 unfold Instr.loadAt Instr.sureAddr at h;unfold asAddr
 split at h
 ·exact h
 ·simp at h
def aax (tmps:Array Value) (r:ResultVar):Sem Value :=
 match r with
 | .tmp t=>pure (tmps.getD t undef)
 | .cell a t=>do loadVar t (<- asAddr (tmps.getD a undef))
theorem Ri {P:Program} {F:Nat -> Prop} {M:Mem} {hb:List HB} {t:Tm} {tmps:Array Value} (ht:Bv M hb t tmps) {h:List Ah} (H:AR F M hb h):∀ (rs:List ResultVar) {K:List AV -> Prop},Kv P t h rs K ->
  ∃ (xs:List AV) (vs:List Value),K xs /\ xs.length = vs.length /\ (∀ (i:Nat) (x:AV),xs[i]? = some x -> Al M hb x (vs.getD i undef)) /\
   (rs.mapM (aax tmps)).run P M.w = .ok vs M.w:=by
 intro rs
 induction rs with
 | nil=>intro K hk; exact ⟨[],[],hk,rfl,fun i x hx=>by simp at hx,by simp⟩
 | cons r rs ih =>
  intro K hk;have hone:∃ x v,Kv P t h rs (fun xs=>K (x :: xs)) /\ Al M hb x v /\ (aax tmps r).run P M.w = .ok v M.w:=by
   cases r with
   | tmp i=>exact ⟨_,_,hk,ht.2 i,rfl⟩
   | cell i ty =>
    obtain ⟨x,u,k1,k2,k3⟩:=JZ H (ht.2 i) hk;exact ⟨x,u,k1,k3,K5 k2⟩
  obtain ⟨x,v,k1,k2,k3⟩:=hone;obtain ⟨xs,vs,q1,q2,q3,q4⟩:=ih k1;refine ⟨x :: xs,v :: vs,q1,by simp [q2],fun i y hy=>?_,?_⟩
  ·cases i with
   | zero=>simp at hy; subst hy; simpa using k2
   | succ i=>simpa using q3 i y (by simpa using hy)
  ·rw [List.mapM_cons,Sem.run_bind,k3,Result.andThen_ok,Sem.run_bind,q4]
   rfl
theorem Ms {P:Program} {F:Nat -> Prop} {M:Mem} {hb:List HB} {t:Tm} {tmps:Array Value} (ht:Bv M hb t tmps) {h:List Ah} (H:AR F M hb h) {fn:Func} {K:List AV -> Prop} (hk:Kv P t h fn.results.toList K) :
  ∃ (xs:List AV) (v:Value),K xs /\ Al M hb (pack xs) v /\ (results fn tmps).run P M.w = .ok v M.w:=by
 obtain ⟨xs,vs,k1,k2,k3,k4⟩:=Ri ht H fn.results.toList hk;have hr:(results fn tmps).run P M.w = .ok (if h:vs.toArray.size = 1 then vs.toArray[0] else .tuple vs.toArray) M.w:=by
  have he:results fn tmps = (do let vs <- fn.results.mapM (aax tmps); pure (if h:vs.size = 1 then vs[0] else .tuple vs)):=rfl;rw [he,Array.mapM_eq_mapM_toList,Sem.run_bind];have:Sem.run P (List.toArray <$> List.mapM (aax tmps) fn.results.toList) M.w = .ok vs.toArray M.w:=by
   rw [map_eq_pure_bind,Sem.run_bind,k4]; rfl
  rw [this];rfl
 by_cases h1:vs.length = 1
 ·obtain ⟨v,rfl⟩:=List.length_eq_one_iff.1 h1
  obtain ⟨x,rfl⟩:=List.length_eq_one_iff.1 (k2.trans h1);exact ⟨[x],v,k1,k3 0 x rfl,by simpa using hr⟩
 ·refine ⟨xs,.tuple vs.toArray,k1,?_,by rw [hr]; simp [h1]⟩
  have hp:pack xs = .tup xs:=by
   unfold pack
   split
   ·rename_i x; simp at k2; omega
   ·rfl
  rw [hp];refine .tup (by simp [k2]) fun i x hx=>?_;have:=k3 i x hx
  simpa [Array.getD_eq_getD_getElem?,List.getD_eq_getElem?_getD] using this
end Go.PM

namespace Go.PM
variable [AA]
theorem Gs {P:Program} {F:Nat -> Prop} {M0:Mem} {hb0:List HB} {fn:Func} {R:AE -> List Ah -> Prop} {t:Tm} {tmps:Array Value} :
  ∀ (ds:List AD) (pan:Option AV) (pv:Option Value) (hb:List HB) (M:Mem) (h:List Ah) (defers:List Deferred),Bf hb0 hb -> Gu F M0 M -> Bv M hb t tmps -> Gz M hb ds defers -> AR F M hb h -> Cz F M -> Io M hb pan pv -> DK P fn.results.toList t R pan ds h ->
  LeavesInM Fence.wide 0 P fn tmps (Np F M0 hb0 R) defers (GP pv) M.w:=by
 intro ds
 induction ds with
 | nil =>
  intro pan pv hb M h defers hH hG ht hd H ok hp hk
  cases defers with
  | cons d ds=>exact hd.elim
  | nil =>
   cases pan <;> cases pv <;> try exact hp.elim
   ·obtain ⟨xs,v,k1,k2,k3⟩:=Ms ht H hk
    exact ⟨v,k3,.ret (pack xs),h,M,hb,k1,k2,rfl,H,ok,hG,hH⟩
   ·rename_i x v
    exact ⟨.panic x,h,M,hb,hk,⟨v,rfl,hp⟩,rfl,H,ok,hG,hH⟩
 | cons d ds ih =>
  intro pan pv hb M h defers hH hG ht hd H ok hp hk
  cases defers with
  | nil=>exact hd.elim
  | cons d' ds' =>
   obtain ⟨hd1,hd2⟩:=hd;have hrun:GP pv ≠ .run:=by cases pv <;> simp [GP]
   cases d with
   | call f args caps =>
    obtain ⟨a,c,rfl,ha,hc⟩:=hd1;obtain ⟨k1,k2⟩:=hk F M hb (a ++ c) pv H ok (ha.ain hc) hp;refine ⟨hrun,.inr ⟨fun h=>by simp [Fence.wide] at h,.func f,c,f,a ++ c,rfl,by simp [invoke,Mz k1],fun _ _=>trivial,?_⟩⟩;refine CallsDIn.mono k2 ?_;rintro e u' w' ⟨v,rfl,pan',pv',h',M',hb',q1,q2,q3,rfl,q5,q6,q7,q8⟩
    show LeavesInM _ _ _ _ _ _ _ (settle u') _
    rw [q3];exact ih pan' pv' hb' M' h' ds' (hH.trans q8) (hG.trans q7) (ht.mono q7.le q8) (hd2.mono q7.le q8) q5 q6 q2 q1
   | mark id =>
    obtain ⟨hh,hk⟩:=hk;obtain ⟨e,q1,q2,rfl⟩:=hd1;obtain ⟨_,hobj⟩:=H.box id _ e hh q1;have hown:=H.own id _ e hh q1 rfl;have hc:∀ i,M.w.cell? ⟨e.blk,i,none⟩ = none:=CF hobj (fun _ _ _ he=>by cases he);have hnm:¬ M.Ma e.blk:=Jt hobj (fun _ _ he=>by cases he);have hle:=Ia (o:=.deferred none) hc hnm;refine ⟨hrun,.inl ⟨e.blk,_,rfl,run_takeDeferred hobj,?_⟩⟩;exact ih pan pv hb (M.obj e.blk (.deferred none)) (h.set id .dead) ds' hH (hG.trans (Jk hc hnm hown.2)) (ht.mono hle (.refl hb)) (hd2.mono hle (.refl hb)) (H.obj hh q1 rfl hc hnm trivial) (JA ok _ _) (hp.mono hle (.refl hb)) hk
def ND (P:Program) (fn:Func) (R:AE -> List Ah -> Prop):AX -> St -> Prop
 | .normal,s | .ret,s=>DK P fn.results.toList s.t R none s.d s.h
 | .panic x,s=>DK P fn.results.toList s.t R (some x) s.d s.h
 | _,_=>False
theorem Ag.intro {P:Program} {f:FuncId} {fn:Func} {c:Code} {args:List AV} {h:List Ah} {R:AE -> List Ah -> Prop} (hf:P.funcs[f]? = some fn) (hn:fn.name ≠ "runtime.NumGoroutine") (hb:fn.body = some c)
  (hc:Aa P none c ⟨Dm fn.ntmps args,h,[]⟩ (ND P fn R)):Ag P f args h R:=by
 refine ⟨⟨fn,hf,hn,by rw [hb]; rfl⟩,fun F M hb0 vs H ok hv=>(callsIn_wide (n:=0)).1 ?_⟩;refine callsIn_of_wp_marks hf hb trivial ?_ rfl;have:=hc F M hb0 { tmps:=vs ++ Array.replicate (fn.ntmps - vs.size) undef,defers:=[] } none ⟨JT hv _,trivial,H,ok⟩ trivial;refine wpIn_mono this ?_;rintro e a w ⟨x,s',M',hb',k1,k2,rfl,k4,k5,k6⟩
 cases x <;> cases e <;> try (first | exact k2.elim | exact k1.elim)
 ·exact Gs s'.d none none hb' M' s'.h a.defers k6 k5 k4.tm k4.df k4.hp k4.ok trivial k1
 ·exact Gs s'.d none none hb' M' s'.h a.defers k6 k5 k4.tm k4.df k4.hp k4.ok trivial k1
 ·obtain ⟨v,rfl,hv'⟩:=k2
  exact Gs s'.d (some _) (some v) hb' M' s'.h a.defers k6 k5 k4.tm k4.df k4.hp k4.ok hv' k1
end Go.PM

namespace Go.PM
variable [AA]
def CN (t:Tm):List Tmp -> List AV -> Tm
 | p :: ps,x :: xs=>CN (t.put p x) ps xs
 | _,_=>t
theorem Xq {M:Mem} {hb:List HB}:∀ (ps:List Tmp) (xs:List AV) (vs:List Value) (t:Tm) (tmps:Array Value),Bv M hb t tmps -> xs.length = vs.length -> (∀ (i:Nat) (x:AV),xs[i]? = some x -> Al M hb x (vs.getD i undef)) ->
  Bv M hb (CN t ps xs) ((ps.zip vs).foldl (fun tmps (t,a)=>tmps.setIfInBounds t a) tmps):=by
 intro ps
 induction ps with
 | nil=>intro xs vs t tmps h _ _; simpa [CN] using h
 | cons p ps ih =>
  intro xs vs t tmps h hl hv
  cases xs with
  | nil=>cases vs with
   | nil=>simpa [CN] using h
   | cons v vs=>simp at hl
  | cons x xs=>cases vs with
   | nil=>simp at hl
   | cons v vs =>
    simp only [CN,List.zip_cons_cons,List.foldl_cons];refine ih xs vs _ _ (h.set p ?_) (by simpa using hl) (fun i y hy=>?_)
    ·simpa using hv 0 x rfl
    ·simpa using hv (i + 1) y (by simpa using hy)
def DR (id:Nat) (R:AE -> List Ah -> Prop) (jump:Option Code) (s:St):Prop :=
 match s.h[id]? with
 | some (.loop fn t ps asg b _ _)=>R (.ret (.val (.bool jump.isNone))) (s.h.set id (.loop fn t ps asg b (if jump.isNone then .ready else .done) jump))
 | _=>False
def KZ (id:Nat) (R:AE -> List Ah -> Prop):AX -> St -> Prop
 | .normal,s=>DR id R none s
 | .ret,s=>DR id R (some .ret) s
 | .exit i,s=>DR id R (some (.exit i)) s
 | .goto l,s=>DR id R (some (.goto l)) s
 | .panic _,_=>False
theorem Jc {F:Nat -> Prop} {M:Mem} {hb:List HB} {h:List Ah} (H:AR F M hb h) (ok:Cz F M) {id:Nat} {fn:FuncId} {t:Tm} {ps:List Tmp} {asg b:Code} {st:LoopState} {Bb:Option Code} (hh:h[id]? = some (.loop fn t ps asg b st Bb)) {e:HB} (he:hb[id]? = some e) :
  ∃ r:Loop,M.w.heap[e.blk]? = some (.loop r) /\ r.fn = fn /\ r.state = st /\ r.pending = Bb /\ r.params.toList = ps /\ r.assign = asg /\ r.body = b /\ Bv M hb t r.tmps /\
   ∀ (st':LoopState) (pend':Option Code),∃ M':Mem,M'.w = M.w.putObj e.blk (.loop { r with state:=st',pending:=pend' }) /\ AR F M' hb (h.set id (.loop fn t ps asg b st' pend')) /\ Cz F M' /\ Gu F M M':=by
 obtain ⟨q2,r,q3,q4,q5,q6,q7,q8,q9,q10⟩:=H.box id _ e hh he;have hown:=H.own id _ e hh he rfl;have hc:∀ i,M.w.cell? ⟨e.blk,i,none⟩ = none:=CF q3 (fun _ _ _ he=>by cases he);have hnm:¬ M.Ma e.blk:=Jt q3 (fun _ _ he=>by cases he);refine ⟨r,q3,q4,q9,q10,q6,q7,q8,q5,fun st' pend'=>⟨M.obj e.blk (.loop { r with state:=st',pending:=pend' }),rfl,?_,JA ok _ _,Jk hc hnm hown.2⟩⟩;refine H.obj hh he rfl hc hnm ⟨q2,_,World.putObj_heap_same hown.1,q4,q5.mono (Ia hc hnm) (.refl hb),q6,q7,q8,rfl,rfl⟩
theorem Gr {P:Program} {F:Nat -> Prop} {M0:Mem} {hb0:List HB} {id:Nat} {R:AE -> List Ah -> Prop} {jump:Option Code} {s:St} {M:Mem} {hb:List HB} {a:Act} (hs:BR F M hb s a) (hG:Gu F M0 M) (hH:Bf hb0 hb) {e:HB} (he:hb[id]? = some e)
  (hk:DR id R jump s):∃ v w',(Instr.endRound e.blk jump).run P M.w = .ok v w' /\ Np F M0 hb0 R (.returned v) w':=by
 unfold DR at hk
 split at hk
 ·rename_i fn t ps asg b st Bb hh
  obtain ⟨r,q1,q2,q3,q4,q5,q6,q7,q8,q9⟩:=Jc hs.hp hs.ok hh he;obtain ⟨M',g1,g2,g3,g4⟩:=q9 (if jump.isNone then .ready else .done) jump;exact ⟨_,_,run_endRound jump q1,_,_,M',hb,hk,.val rfl,g1,g2,g3,hG.trans g4,hH⟩
 ·exact hk.elim
theorem Bl.intro {P:Program} {id:Nat} {args:List AV} {h:List Ah} {R:AE -> List Ah -> Prop} {fn:FuncId} {t:Tm} {ps:List Tmp} {asg b:Code} {st:LoopState} {Bb:Option Code} (hh:h[id]? = some (.loop fn t ps asg b st Bb)) (hl:args.length = ps.length)
  (hc:Aa P (some id) asg ⟨CN t ps args,h,[]⟩ (AX.GG (fun s1=>match s1.h[id]? with
   | some (.loop fn t ps asg b' .ready Bb)=>Aa P (some id) b ⟨s1.t,s1.h.set id (.loop fn t ps asg b' .busy Bb),s1.d⟩ (KZ id R)
   | _=>False) (fun _ _=>False))):Bl P id args h R:=by
 intro F M hb vs H ok hv;obtain ⟨e,he⟩:∃ e,hb[id]? = some e:=by
  have:id < hb.length:=by rw [H.len]; exact (List.getElem?_eq_some_iff.1 hh).1
  exact ⟨_,List.getElem?_eq_getElem this⟩
 have hfix:e.fix = true:=(H.box id _ e hh he).1;obtain ⟨r,q1,q2,q3,q4,q5,q6,q7,q8,_⟩:=Jc H ok hh he;refine ⟨e,he,hfix,r.fn,_,r.assign,r.body,run_yield q1 ?_,?_⟩
 ·rw [<- hv.1,hl,<- q5]; simp
 refine roundIn_of_wpIn trivial ?_;have ht:Bv M hb (CN t ps args) ((r.params.zip vs).foldl (fun tmps (t,a)=>tmps.setIfInBounds t a) r.tmps):=by
  have:=Xq ps args vs.toList t r.tmps q8 (by simp [hv.1]) (fun i x hx=>by
   have:=hv.2 i x hx
   simpa [Array.getD_eq_getD_getElem?,List.getD_eq_getElem?_getD] using this)
  rw [<- q5] at this ⊢;rw [<- Array.foldl_toList]
  simpa using this
 rw [q6,q7];have h1:=hc F M hb { tmps:=(r.params.zip vs).foldl (fun tmps (t,a)=>tmps.setIfInBounds t a) r.tmps,defers:=[] } (some e.blk) ⟨ht,trivial,H,ok⟩ ⟨e,he,hfix,rfl⟩;refine wpIn_mono (F:=Fence.wide.inRound e.blk) h1 ?_;rintro x' a' w' ⟨x,s1,M1,hb1,k1,k2,rfl,k4,k5,k6⟩;obtain ⟨e1,j1,_,_,j4,_⟩:=k6 id e he;rw [j4 hfix] at j1
 cases x <;> cases x' <;> try (first | exact k2.elim | exact k1.elim)
 simp only [AX.GG] at k1
 split at k1
 ·rename_i fn' t' ps' asg' b' pend' hh1
  obtain ⟨r1,p1,p2,p3,p4,p5,p6,p7,p8,p9⟩:=Jc k4.hp k4.ok hh1 j1;obtain ⟨M2,g1,g2,g3,g4⟩:=p9 .busy pend';refine ⟨_,run_beginRound p1 p3,?_⟩;have hw:M2.w = M1.w.putObj e.blk (.loop { r1 with state:=.busy }):=by rw [g1,<- p4]
  rw [<- hw];have h2:=k1 F M2 hb1 a' (some e.blk) ⟨k4.tm.mono g4.le (.refl _),k4.df.mono g4.le (.refl _),g2,g3⟩ ⟨e,j1,hfix,rfl⟩;refine wpIn_mono (F:=Fence.wide.inRound e.blk) h2 ?_;rintro x' a'' w' ⟨x,s3,M3,hb3,m1,m2,rfl,m4,m5,m6⟩;obtain ⟨e3,n1,_,_,n4,_⟩:=m6 id e j1;rw [n4 hfix] at n1
  cases x <;> cases x' <;> try (first | exact m2.elim | exact m1.elim)
  ·exact Gr m4 (k5.trans (g4.trans m5)) (k6.trans m6) n1 m1
  ·obtain rfl:=m2
   exact Gr m4 (k5.trans (g4.trans m5)) (k6.trans m6) n1 m1
  ·obtain rfl:=m2
   exact Gr m4 (k5.trans (g4.trans m5)) (k6.trans m6) n1 m1
  ·exact Gr m4 (k5.trans (g4.trans m5)) (k6.trans m6) n1 m1
 ·exact k1.elim
def HX (P:Program) (rd:Option Nat) (s:St) (Φ:AX -> St -> Prop):AE -> List Ah -> Prop
 | .ret _,h=>match h[s.h.length + 1]? with
  | some (.loop fn t ps asg b st Bb)=>st ≠ .busy /\ (match Bb with
   | none=>Φ .normal ⟨s.t,h.set (s.h.length + 1) (.loop fn t ps asg b .exhausted Bb),.mark s.h.length :: s.d⟩
   | some c=>Aa P rd c ⟨s.t,h.set (s.h.length + 1) (.loop fn t ps asg b .exhausted Bb),.mark s.h.length :: s.d⟩ Φ)
  | _=>False
 | .panic x,h=>Φ (.panic x) ⟨s.t,h,.mark s.h.length :: s.d⟩
theorem Aa.rangeFunc {P:Program} {s:St} {Φ:AX -> St -> Prop} {g:Operand} {ps:Array Tmp} {asg b:Code} {f:FuncId} {caps:List AV} (hg:s.ev g = .fn f caps)
  (hc:∀ fn,Ag P f (.yld (s.h.length + 1) :: caps) (s.h ++ [.defer] ++ [.loop fn s.t ps.toList asg b .ready none]) (HX P none s Φ)):Aa P none (.rangeFunc g ps asg b) s Φ:=by
 intro F M hb a ro hs hr
 cases ro with
 | some _=>exact hr.elim
 | none =>
 refine wpIn_rangeFunc fun fn _=>?_;have hv:=hs.ev g;rw [hg] at hv;generalize hgv:a.eval g = v at hv
 cases hv with
 | @fn _ _ _ us h1 h2 =>
  let M1:=M.new (.deferred (some [])) 0
  let hb1:=hb ++ [⟨M.w.heap.size,0,0,0,true,true⟩]
  have hA1:Ch M M1:=Ch.new _ _ _;have ok1:Cz F M1:=hs.ok.new _ _;have g1:=hA1.gu hs.ok;have H1:AR F M1 hb1 (s.h ++ [.defer]):=hs.hp.push hA1 hs.ok .defer ⟨M.w.heap.size,0,0,0,true,true⟩ ⟨rfl,Mem.Df M _ _⟩ (fun _=>⟨Nat.le_refl _,by rw [Mem.DT]; exact Nat.lt_succ_self _⟩)
  let r:Loop:={ state:=.ready,pending:=none,fn,tmps:=a.tmps,params:=ps,assign:=asg,body:=b,defers:=M.w.heap.size }
  let M2:=M1.new (.loop r) 0
  let hb2:=hb1 ++ [⟨M1.w.heap.size,0,0,0,true,true⟩]
  have hA2:Ch M1 M2:=Ch.new _ _ _;have ok2:Cz F M2:=ok1.new _ _;have g2:=hA2.gu ok1;have hle1:Bf hb hb1:=.append _ _;have hle2:Bf hb1 hb2:=.append _ _;have hsz2:M1.w.heap.size < M2.w.heap.size:=by
   have:M2.w.heap.size = M1.w.heap.size + 1:=Mem.DT _ _ _;omega
  have H2:AR F M2 hb2 (s.h ++ [.defer] ++ [.loop fn s.t ps.toList asg b .ready none]):=H1.push hA2 ok1 _ ⟨M1.w.heap.size,0,0,0,true,true⟩
   ⟨rfl,r,Mem.Df M1 _ _,rfl,hs.tm.mono (g1.trans g2).le (hle1.trans hle2),rfl,rfl,rfl,rfl,rfl⟩ (fun _=>⟨Nat.le_refl _,hsz2⟩)
  have hsz1:M1.w.heap.size = M.w.heap.size + 1:=Mem.DT _ _ _;have hd:hb2[s.h.length]? = some ⟨M.w.heap.size,0,0,0,true,true⟩:=by
   simp only [hb2,hb1,List.append_assoc];rw [List.getElem?_append_right (by rw [hs.hp.len]; exact Nat.le_refl _),hs.hp.len];simp
  have hlp:hb2[s.h.length + 1]? = some ⟨M.w.heap.size + 1,0,0,0,true,true⟩:=by
   simp only [hb2,hb1,List.append_assoc];rw [List.getElem?_append_right (by rw [hs.hp.len]; omega),hs.hp.len];simp [hsz1]
  have hargs:AW M2 hb2 (.yld (s.h.length + 1) :: caps) (#[.func (.yield (M.w.heap.size + 1)) #[] #[]] ++ us):=by
   refine ⟨by simp [h1]; omega,fun i x hx=>?_⟩
   cases i with
   | zero =>
    simp at hx; subst hx;have he:(#[Value.func (.yield (M.w.heap.size + 1)) #[] #[]] ++ us).getD 0 undef = .func (.yield (M.w.heap.size + 1)) #[] #[]:=by
     rw [Array.getD_eq_getD_getElem?,Array.getElem?_append_left (by simp)];rfl
    rw [he];exact .yld _ hlp rfl
   | succ i =>
    have hx':caps[i]? = some x:=by simpa using hx
    have:=(h2 i x hx').mem (g1.trans g2).le |>.hb (hle1.trans hle2)
    have he:(#[Value.func (.yield (M.w.heap.size + 1)) #[] #[]] ++ us).getD (i + 1) undef = us.getD i undef:=by
     simp only [Array.getD_eq_getD_getElem?];rw [Array.getElem?_append_right (by simp)];simp
    rw [he]; exact this
  refine ⟨M.w.heap.size + 1,_,M2.w,{ target:=.fn (.func f) us,args:=#[.func (.yield (M.w.heap.size + 1)) #[] #[]] },M2.w,f,#[.func (.yield (M.w.heap.size + 1)) #[] #[]] ++ us,M2.w,run_enterLoop_outer (w:=M.w) fn a.tmps ps asg b,?_,fun _ _=>trivial,?_,fun h=>by simp [AY,Fence.wide] at h,Ex.2 ?_⟩
  ·have he:(rangeCall g (M.w.heap.size + 1)).args.map a.eval = #[.func (.yield (M.w.heap.size + 1)) #[] #[]]:=by simp [Act.eval]
   unfold resolve;rw [he]
   show (Deferred.ofValue (a.eval g) _).run P _ = _
   rw [hgv];rfl
  ·exact EK (hc fn).1 _ _
  refine Calls.mono ((hc fn).2 F M2 hb2 _ H2 ok2 hargs) ?_;rintro e w' ⟨r',h',M',hb',k1,k2,rfl,k4,k5,k6,k7⟩;have hG:=(g1.trans g2).trans k6;have hH:=(hle1.trans hle2).trans k7;have hdf:Gz M' hb' (.mark s.h.length :: s.d) ([{ target:=.collected M.w.heap.size,args:=#[] }] ++ a.defers):=by
   obtain ⟨e',n1,_,_,n4,_⟩:=k7 _ _ hd;rw [n4 rfl] at n1;exact ⟨⟨_,n1,rfl,rfl⟩,hs.df.mono hG.le hH⟩
  cases r' <;> cases e <;> try exact k2.elim
  ·simp only [HX] at k1
   split at k1
   ·rename_i fn' t' ps' asg' b' st Bb hh1
    obtain ⟨hbusy,k1⟩:=k1;obtain ⟨e',n1,_,_,n4,_⟩:=k7 _ _ hlp;rw [n4 rfl] at n1;obtain ⟨r1,p1,p2,p3,p4,p5,p6,p7,p8,p9⟩:=Jc k4 k5 hh1 n1;obtain ⟨M3,m1,m2,m3,m4⟩:=p9 .exhausted Bb;refine ⟨Bb,M3.w,?_,?_⟩
    ·have:=run_endLoop (P:=P) p1 (by rw [p3]; exact hbusy)
     rw [p4] at this;rw [m1,<- p4] at *
     simpa [p4] using this
    ·have hs3:BR F M3 hb' ⟨s.t,h'.set (s.h.length + 1) (.loop fn' t' ps' asg' b' .exhausted Bb),.mark s.h.length :: s.d⟩ { a with defers:=[{ target:=.collected M.w.heap.size,args:=#[] }] ++ a.defers } :=
      ⟨hs.tm.mono (hG.trans m4).le hH,hdf.mono m4.le (.refl _),m2,m3⟩
     cases Bb with
     | none=>exact ⟨.normal,_,M3,hb',k1,trivial,rfl,hs3,hG.trans m4,hH⟩
     | some c=>exact wpIn_mono (k1 F M3 hb' _ none hs3 trivial) fun _ _ _ hq=>hq.trans (hG.trans m4) hH
   ·exact k1.elim
  ·obtain ⟨v,rfl,hv'⟩:=k2
   exact ⟨.panic _,_,M',hb',k1,⟨v,rfl,hv'⟩,rfl,⟨hs.tm.mono hG.le hH,hdf,k4,k5⟩,hG,hH⟩
end Go.PM

namespace Go.PM
variable [AA]
def Ai (h h':List Ah):Prop:=∀ (id:Nat) (cs:List AV),h[id]? = some (.cells cs) -> h'[id]? = some (.cells cs)
theorem Ai.refl (h:List Ah):Ai h h:=fun _ _ hh=>hh
theorem Ai.trans {a b c:List Ah} (h:Ai a b) (h':Ai b c):Ai a c:=fun id cs hh=>h' id cs (h id cs hh)
theorem Ai.append (h l:List Ah):Ai h (h ++ l):=fun id cs hh=>by
 have hi:=(List.getElem?_eq_some_iff.1 hh).1;rw [List.getElem?_append_left hi]; exact hh
theorem Ai.setRow {h:List Ah} {id:Nat} {mt ver sz es} (hh:h[id]? = some (.row mt ver sz es)) (b:Ah):Ai h (h.set id b):=fun i cs hi=>by
 by_cases he:id = i
 ·subst he; rw [hh] at hi; cases hi
 ·rw [List.getElem?_set_ne he]; exact hi
def AV.E6:AV -> Bool
 | .hsl .. | .eptr .. | .mp _=>false
 | _=>true
theorem Eb {T:Ty} {cs:List AV} {off:Nat} {K:AV -> Prop} (hk:Gh T cs off K):∃ v,K v /\ ∀ K',K' v -> Gh T cs off K':=by
 unfold Gh at *;obtain ⟨h1,h2⟩:=hk
 split at h2
 ·rename_i ha; exact ⟨_,h2,fun K' hK=>⟨h1,by rw [if_pos ha]; exact hK⟩⟩
 ·rename_i ha; exact ⟨_,h2.2,fun K' hK=>⟨h1,by rw [if_neg ha]; exact ⟨h2.1,hK⟩⟩⟩
theorem U2 {P:Program} {h:List Ah} {t:TypeId} {p:AV} {K:AV -> Prop} (hn:p.E6 = true) (hk:DN P h t p K):∃ v,K v /\ ∀ h',Ai h h' -> ∀ K',K' v -> DN P h' t p K':=by
 unfold DN at *
 cases hT:Ba P t with
 | none=>rw [hT] at hk; exact hk.elim
 | some T =>
  rw [hT] at hk;simp only at hk ⊢
  split at hk
  ·split at hk
   ·rename_i cs hh
    obtain ⟨v,k1,k2⟩:=Eb hk;exact ⟨v,k1,fun h' hs K' hK=>by simp only [hs _ _ hh]; exact k2 K' hK⟩
   ·exact hk.elim
  ·cases hn
  ·obtain ⟨v,k1,k2⟩:=Eb hk
   exact ⟨v,k1,fun _ _=>k2⟩
  ·exact hk.elim
theorem GY {P:Program} {st:TypeId} {p:AV} {f:Nat} {K:AV -> Prop} (hk:CT P st p f K):∃ v,K v /\ ∀ K',K' v -> CT P st p f K':=by
 unfold CT at *
 split at hk
 ·exact hk.elim
 ·rename_i off T hT
  obtain ⟨h1,hk⟩:=hk
  split at hk
  ·exact ⟨_,hk,fun K' hK=>⟨h1,hK⟩⟩
  ·exact ⟨_,hk,fun K' hK=>⟨h1,hK⟩⟩
  ·exact ⟨_,hk,fun K' hK=>⟨h1,hK⟩⟩
  ·exact hk.elim
theorem L2 {P:Program} {h:List Ah} {t:TypeId} {p i:AV} {K:AV -> Prop} (hn:p.E6 = true) (hk:BW P h t p i K):∃ v,K v /\ ∀ h' K',K' v -> BW P h' t p i K':=by
 unfold BW at *
 split at hk
 ·split at hk
  ·split at hk
   ·rename_i e T hE
    obtain ⟨h1,h2,h3,hk⟩:=hk;exact ⟨_,hk,fun _ K' hK=>⟨h1,h2,h3,hK⟩⟩
   ·exact hk.elim
  ·cases hn
  ·split at hk
   ·split at hk
    ·obtain ⟨h1,h2,hk⟩:=hk
     exact ⟨_,hk,fun _ K' hK=>⟨h1,h2,hK⟩⟩
    ·exact hk.elim
   ·exact hk.elim
  ·split at hk
   ·split at hk
    ·obtain ⟨h1,h2,hk⟩:=hk
     exact ⟨_,hk,fun _ K' hK=>⟨h1,h2,hK⟩⟩
    ·exact hk.elim
   ·exact hk.elim
  ·exact hk.elim
 ·exact hk.elim
theorem SM {b:Bool} {x y:AV} {q:Prop} {K:AV -> Prop} (h:if b = true then K x else q /\ K y):∃ v,K v /\ ∀ K':AV -> Prop,K' v -> (if b = true then K' x else q /\ K' y):=by
 cases b
 ·exact ⟨y,h.2,fun K' hK=>⟨h.1,hK⟩⟩
 ·exact ⟨x,h,fun K' hK=>hK⟩
theorem Lg {P:Program} {t:TypeId} {p i:AV} {K:AV -> Prop} (hk:F6 P t p i K):∃ v,K v /\ ∀ K',K' v -> F6 P t p i K':=by
 unfold F6 at *
 split at hk
 ·split at hk
  ·obtain ⟨h1,h2,h3,hk⟩:=hk
   exact ⟨_,hk,fun K' hK=>⟨h1,h2,h3,hK⟩⟩
  ·split at hk
   ·rename_i hu
    split at hk
    ·rename_i T hT
     obtain ⟨h1,h2,h3,hk⟩:=hk;obtain ⟨v,k1,k2⟩:=SM hk;exact ⟨v,k1,fun K' hK=>⟨h1,h2,h3,k2 K' hK⟩⟩
    ·exact hk.elim
   ·exact hk.elim
  ·exact hk.elim
 ·exact hk.elim
theorem Lq {P:Program} {t:TypeId} {x:AV} {f:Nat} {K:AV -> Prop} (hk:Ha P t x f K):∃ v,K v /\ ∀ K',K' v -> Ha P t x f K':=by
 unfold Ha at *
 split at hk
 ·split at hk
  ·obtain ⟨h1,hk⟩:=hk
   obtain ⟨v,k1,k2⟩:=SM hk;exact ⟨v,k1,fun K' hK=>⟨h1,k2 K' hK⟩⟩
  ·exact hk.elim
 ·exact hk.elim
theorem Sv {P:Program} {h:List Ah} {t:TypeId} {x:AV} {lo hi mx:Option AV} {K:AV -> Prop} (hn:x.E6 = true) (hk:EE P h t x lo hi mx K):∃ v,K v /\ ∀ h' K',K' v -> EE P h' t x lo hi mx K':=by
 unfold EE at *
 split at hk
 ·split at hk
  ·split at hk
   ·obtain ⟨h0,hk⟩:=hk
    split at hk
    ·obtain ⟨h1,h2,h3,hk⟩:=hk
     exact ⟨_,hk,fun _ K' hK=>⟨h0,h1,h2,h3,hK⟩⟩
    ·obtain ⟨h1,h2,h3,h4,hk⟩:=hk
     exact ⟨_,hk,fun _ K' hK=>⟨h0,h1,h2,h3,h4,hK⟩⟩
    ·exact hk.elim
   ·exact hk.elim
  ·cases hn
  ·obtain ⟨h1,h2,h3,h4,h5,hk⟩:=hk
   exact ⟨_,hk,fun _ K' hK=>⟨h1,h2,h3,h4,h5,hK⟩⟩
  ·split at hk
   ·split at hk
    ·obtain ⟨h1,h2,h3,h4,h5,h6,h7,hk⟩:=hk
     exact ⟨_,hk,fun _ K' hK=>⟨h1,h2,h3,h4,h5,h6,h7,hK⟩⟩
    ·exact hk.elim
   ·exact hk.elim
  ·exact hk.elim
 ·exact hk.elim
theorem Hn {P:Program} {src dst:TypeId} {x:AV} {K:AV -> Prop} (hk:Gw P src dst x K):∃ v,K v /\ ∀ K',K' v -> Gw P src dst x K':=by
 unfold Gw at *
 split at hk
 ·exact ⟨_,hk,fun K' hK=>by simpa only using hK⟩
 ·exact ⟨_,hk,fun K' hK=>hK⟩
 ·exact ⟨_,hk.2.2,fun K' hK=>⟨hk.1,hk.2.1,hK⟩⟩
 ·exact hk.elim
theorem Ub {P:Program} {h:List Ah} {b:Builtin} {ts:List TypeId} {xs:List AV} {K:AV -> Prop} (hn:xs.all AV.E6 = true) (hk:Fb P h b ts xs K):∃ v,K v /\ ∀ h' K',K' v -> Fb P h' b ts xs K':=by
 unfold Fb at *
 split at hk
 ·exact ⟨_,hk.2,fun _ K' hK=>⟨hk.1,hK⟩⟩
 ·exact ⟨_,hk.2,fun _ K' hK=>⟨hk.1,hK⟩⟩
 ·simp [AV.E6] at hn
 ·split at hk
  ·split at hk
   ·exact ⟨_,hk,fun _ K' hK=>hK⟩
   ·exact hk.elim
  ·exact ⟨_,hk,fun _ K' hK=>hK⟩
  ·exact hk.elim
 ·split at hk
  ·exact ⟨_,hk,fun _ K' hK=>hK⟩
  ·exact hk.elim
 ·simp [AV.E6] at hn
 ·split at hk
  ·exact ⟨_,hk,fun _ K' hK=>hK⟩
  ·exact hk.elim
 ·exact ⟨_,hk,fun _ K' hK=>hK⟩
 ·exact ⟨_,hk,fun _ K' hK=>hK⟩
 ·exact hk.elim
theorem QX {u:Option TypeDesc} {op:BinOp} {x y:Value} {K:Value -> Prop} (hk:OO u op x y K):∃ v,K v /\ ∀ K',K' v -> OO u op x y K':=by
 unfold OO at *
 split at hk <;> first
  | exact hk.elim
  | exact ⟨_,hk,fun K' hK=>hK⟩
  | exact ⟨_,hk.2,fun K' hK=>⟨hk.1,hK⟩⟩
  | exact ⟨_,hk.2.2,fun K' hK=>⟨hk.1,hk.2.1,hK⟩⟩
theorem K0 {P:Program} {t:TypeId} {op:BinOp} {xs ys:List AV} {K:Bool -> Prop} (hk:GW P t op xs ys K):∃ v,K v /\ ∀ K',K' v -> GW P t op xs ys K':=by
 unfold GW at *;obtain ⟨h1,h2,h3,hk⟩:=hk
 split at hk
 ·split at hk
  ·exact ⟨_,hk,fun K' hK=>⟨h1,h2,h3,hK⟩⟩
  ·exact ⟨_,hk,fun K' hK=>⟨h1,h2,h3,hK⟩⟩
  ·exact hk.elim
 ·exact hk.elim
def HU:Op -> Bool
 | .binOp _ _ _ y _=>!Bn y
 | _=>true
def CO (s:St) (op:Op):Prop:=∀ x ∈ op.operands,(s.ev x).E6 = true
theorem To {P:Program} {t:Tm} {h:List Ah} {d:List AD} {op:Op} {K:AV -> Prop} (hn:HU op = true) (hr:CO ⟨t,h,d⟩ op) (hk:FB P ⟨t,h,d⟩ op K):∃ v,K v /\ ∀ h' d',Ai h h' -> ∀ K',K' v -> FB P ⟨t,h',d'⟩ op K':=by
 have hev:∀ h' d',(⟨t,h',d'⟩:St).ev = (⟨t,h,d⟩:St).ev:=fun _ _=>funext fun x=>by cases x <;> rfl
 unfold CO at hr;unfold FB at *;simp only [hev]
 split at hk
 ·exact ⟨_,hk,fun _ _ _ K' hK=>hK⟩
 ·exact ⟨_,hk,fun _ _ _ K' hK=>hK⟩
 ·split at hk
  ·rename_i b hb
   cases b
   ·exact ⟨_,hk.2 rfl,fun _ _ _ K' hK=>⟨fun hh=>(by cases hh),fun _=>hK⟩⟩
   ·exact ⟨_,hk.1 rfl,fun _ _ _ K' hK=>⟨fun _=>hK,fun hh=>(by cases hh)⟩⟩
  ·exact hk.elim
 ·split at hk <;> first
   | exact hk.elim
   | exact ⟨_,hk,fun _ _ _ K' hK=>hK⟩
 ·rename_i op tt x y _
  have hny:¬ Bn y = true:=by simpa [HU] using hn
  simp only [if_neg hny] at hk ⊢
  split at hk
  ·obtain ⟨v,k1,k2⟩:=QX hk
   exact ⟨_,k1,fun _ _ _ K' hK=>k2 (fun v=>K' (.val v)) hK⟩
  ·obtain ⟨v,k1,k2⟩:=K0 hk
   exact ⟨_,k1,fun _ _ _ K' hK=>k2 (fun b=>K' (.val (.bool b))) hK⟩
  ·exact hk.elim
 ·split at hk <;> first
   | exact hk.elim
   | exact ⟨_,hk,fun _ _ _ K' hK=>hK⟩
 ·obtain ⟨v,k1,k2⟩:=Hn hk
  exact ⟨v,k1,fun _ _ _=>k2⟩
 ·split at hk
  ·exact hk.elim
  ·exact ⟨_,hk,fun _ _ _ K' hK=>hK⟩
  ·exact hk.elim
 ·split at hk
  ·rename_i hf; exact ⟨_,hk,fun _ _ _ K' hK=>by rw [if_pos hf]; exact hK⟩
  ·rename_i hf; exact ⟨_,hk.2,fun _ _ _ K' hK=>by rw [if_neg hf]; exact ⟨hk.1,hK⟩⟩
 ·obtain ⟨v,k1,k2⟩:=Lq hk
  exact ⟨v,k1,fun _ _ _=>k2⟩
 ·obtain ⟨v,k1,k2⟩:=GY hk.2
  exact ⟨v,k1,fun _ _ _ K' hK=>⟨hk.1,k2 K' hK⟩⟩
 ·obtain ⟨v,k1,k2⟩:=Lg hk
  exact ⟨v,k1,fun _ _ _=>k2⟩
 ·rename_i tt x i
  obtain ⟨v,k1,k2⟩:=L2 (hr x (by simp [Op.operands])) hk;exact ⟨v,k1,fun h' _ _=>k2 h'⟩
 ·rename_i tt x lo hi mx
  obtain ⟨v,k1,k2⟩:=Sv (hr x (by simp [Op.operands])) hk;exact ⟨v,k1,fun h' _ _=>k2 h'⟩
 ·rename_i tt p
  obtain ⟨v,k1,k2⟩:=U2 (hr p (by simp [Op.operands])) hk;exact ⟨v,k1,fun h' _ hs=>k2 h' hs⟩
 ·split at hk
  ·exact ⟨_,hk.2,fun _ _ _ K' hK=>⟨hk.1,hK⟩⟩
  ·exact hk.elim
 ·rename_i c
  split at hk
  ·rename_i b hb
   obtain ⟨v,k1,k2⟩:=Ub (by
    rw [List.all_eq_true];intro x hx;obtain ⟨y,hy,rfl⟩:=List.mem_map.1 hx;exact hr y (by simp only [Op.operands,Call.operands]; exact Array.mem_append.2 (.inr (by simpa using hy)))) hk
   exact ⟨v,k1,fun h' _ _=>k2 h'⟩
  ·exact hk.elim
 ·exact hk.elim
theorem FT {P:Program} {t t1:Tm} {h:List Ah} {d d1:List AD} {op:Op} {K:AV -> Prop} (he:∀ x ∈ op.operands,(⟨t,h,d⟩:St).ev x = (⟨t1,h,d1⟩:St).ev x) (hk:FB P ⟨t,h,d⟩ op K):FB P ⟨t1,h,d1⟩ op K:=by
 have hmap:∀ l:Array Operand,(∀ x ∈ l,(⟨t,h,d⟩:St).ev x = (⟨t1,h,d1⟩:St).ev x) -> l.toList.map (⟨t,h,d⟩:St).ev = l.toList.map (⟨t1,h,d1⟩:St).ev:=fun l hl=>List.map_congr_left fun x hx=>hl x (by simpa using hx)
 cases op <;> simp only [Op.operands] at he <;> simp only [FB] at hk ⊢ <;> try exact hk
 case move x=>rw [<- he x (by simp)]; exact hk
 case assign x=>rw [<- he x (by simp)]; exact hk
 case pick c a b=>rw [<- he a (by simp),<- he b (by simp),<- he c (by simp)]; exact hk
 case nilCheck x=>rw [<- he x (by simp)]; exact hk
 case binOp o tt x y _=>rw [<- he x (by simp),<- he y (by simp)]; exact hk
 case unOp o tt x=>rw [<- he x (by simp)]; exact hk
 case convert s d x=>rw [<- he x (by simp)]; exact hk
 case makeInterface tt x=>rw [<- he x (by simp)]; exact hk
 case makeFunc f first caps =>
  cases f with
  | func f =>
   simp only at hk ⊢;rw [<- hmap caps fun x hx=>he x (by simp [hx]),<- hmap first fun x hx=>he x (by simp [hx])]; exact hk
  | _=>exact hk
 case field tt x f=>rw [<- he x (by simp)]; exact hk
 case fieldAddr tt x f=>rw [<- he x (by simp)]; exact hk
 case index tt x i=>rw [<- he x (by simp),<- he i (by simp)]; exact hk
 case indexAddr tt x i=>rw [<- he x (by simp),<- he i (by simp)]; exact hk
 case slice tt x lo hi mx =>
  have ho:∀ o:Option Operand,(∀ y,o = some y -> (⟨t,h,d⟩:St).ev y = (⟨t1,h,d1⟩:St).ev y) -> o.map (⟨t,h,d⟩:St).ev = o.map (⟨t1,h,d1⟩:St).ev:=fun o hy=>by
   cases o with
   | none=>rfl
   | some y=>simp [hy y rfl]
  rw [<- he x (by simp),<- ho lo (fun y hy=>he y (by simp [hy])),<- ho hi (fun y hy=>he y (by simp [hy])),<- ho mx (fun y hy=>he y (by simp [hy]))]; exact hk
 case load tt x=>rw [<- he x (by simp)]; exact hk
 case extract x i=>rw [<- he x (by simp)]; exact hk
 case call c =>
  cases hc:c.callee <;> simp only [hc] at hk ⊢ <;> try exact hk
  rw [<- hmap c.args fun x hx=>he x (by simp [Call.operands,hc,hx])]; exact hk
end Go.PM

namespace Go.PM
variable [AA]
theorem R9 {P:Program} {h:List Ah} {t:TypeId} {p:AV} {K:AV -> Prop} (hk:DN P h t p K):∃ v,K v /\ ∀ K',K' v -> DN P h t p K':=by
 unfold DN at *
 cases hT:Ba P t with
 | none=>rw [hT] at hk; exact hk.elim
 | some T =>
  rw [hT] at hk;simp only at hk ⊢
  split at hk
  ·split at hk
   ·obtain ⟨v,k1,k2⟩:=Eb hk
    exact ⟨v,k1,k2⟩
   ·exact hk.elim
  ·split at hk
   ·obtain ⟨h1,h2,hk⟩:=hk
    obtain ⟨v,k1,k2⟩:=Eb hk;exact ⟨v,k1,fun K' hK=>⟨h1,h2,k2 K' hK⟩⟩
   ·exact hk.elim
  ·obtain ⟨v,k1,k2⟩:=Eb hk
   exact ⟨v,k1,k2⟩
  ·exact hk.elim
theorem Ku {P:Program} {h:List Ah} {t:TypeId} {p i:AV} {K:AV -> Prop} (hk:BW P h t p i K):∃ v,K v /\ ∀ K',K' v -> BW P h t p i K':=by
 unfold BW at *
 split at hk
 ·split at hk
  ·split at hk
   ·obtain ⟨h1,h2,h3,hk⟩:=hk
    exact ⟨_,hk,fun K' hK=>⟨h1,h2,h3,hK⟩⟩
   ·exact hk.elim
  ·split at hk
   ·obtain ⟨h1,h2,h3,h4,h5,hk⟩:=hk
    exact ⟨_,hk,fun K' hK=>⟨h1,h2,h3,h4,h5,hK⟩⟩
   ·exact hk.elim
  ·split at hk
   ·split at hk
    ·obtain ⟨h1,h2,hk⟩:=hk
     exact ⟨_,hk,fun K' hK=>⟨h1,h2,hK⟩⟩
    ·exact hk.elim
   ·exact hk.elim
  ·split at hk
   ·split at hk
    ·obtain ⟨h1,h2,hk⟩:=hk
     exact ⟨_,hk,fun K' hK=>⟨h1,h2,hK⟩⟩
    ·exact hk.elim
   ·exact hk.elim
  ·exact hk.elim
 ·exact hk.elim
theorem PK {P:Program} {h:List Ah} {t:TypeId} {x:AV} {lo hi mx:Option AV} {K:AV -> Prop} (hk:EE P h t x lo hi mx K):∃ v,K v /\ ∀ K',K' v -> EE P h t x lo hi mx K':=by
 unfold EE at *
 split at hk
 ·split at hk
  ·split at hk
   ·obtain ⟨h0,hk⟩:=hk
    split at hk
    ·obtain ⟨h1,h2,h3,hk⟩:=hk
     exact ⟨_,hk,fun K' hK=>⟨h0,h1,h2,h3,hK⟩⟩
    ·obtain ⟨h1,h2,h3,h4,hk⟩:=hk
     exact ⟨_,hk,fun K' hK=>⟨h0,h1,h2,h3,h4,hK⟩⟩
    ·exact hk.elim
   ·exact hk.elim
  ·split at hk
   ·obtain ⟨h1,h2,h3,h4,h5,h6,hk⟩:=hk
    exact ⟨_,hk,fun K' hK=>⟨h1,h2,h3,h4,h5,h6,hK⟩⟩
   ·exact hk.elim
  ·obtain ⟨h1,h2,h3,h4,h5,hk⟩:=hk
   exact ⟨_,hk,fun K' hK=>⟨h1,h2,h3,h4,h5,hK⟩⟩
  ·split at hk
   ·split at hk
    ·obtain ⟨h1,h2,h3,h4,h5,h6,h7,hk⟩:=hk
     exact ⟨_,hk,fun K' hK=>⟨h1,h2,h3,h4,h5,h6,h7,hK⟩⟩
    ·exact hk.elim
   ·exact hk.elim
  ·exact hk.elim
 ·exact hk.elim
theorem Lj {P:Program} {h:List Ah} {b:Builtin} {ts:List TypeId} {xs:List AV} {K:AV -> Prop} (hk:Fb P h b ts xs K):∃ v,K v /\ ∀ K',K' v -> Fb P h b ts xs K':=by
 unfold Fb at *
 split at hk
 ·exact ⟨_,hk.2,fun K' hK=>⟨hk.1,hK⟩⟩
 ·exact ⟨_,hk.2,fun K' hK=>⟨hk.1,hK⟩⟩
 ·exact ⟨_,hk.2.2,fun K' hK=>⟨hk.1,hk.2.1,hK⟩⟩
 ·split at hk
  ·split at hk
   ·exact ⟨_,hk,fun K' hK=>hK⟩
   ·exact hk.elim
  ·exact ⟨_,hk,fun K' hK=>hK⟩
  ·exact hk.elim
 ·split at hk
  ·exact ⟨_,hk,fun K' hK=>hK⟩
  ·exact hk.elim
 ·split at hk
  ·exact ⟨_,hk.2,fun K' hK=>⟨hk.1,hK⟩⟩
  ·exact hk.elim
 ·split at hk
  ·exact ⟨_,hk,fun K' hK=>hK⟩
  ·exact hk.elim
 ·exact ⟨_,hk,fun K' hK=>hK⟩
 ·exact ⟨_,hk,fun K' hK=>hK⟩
 ·exact hk.elim
theorem LS {P:Program} {s:St} {op:Op} {K:AV -> Prop} (hn:HU op = true) (hk:FB P s op K):∃ v,K v /\ ∀ K',K' v -> FB P s op K':=by
 unfold FB at *
 split at hk
 ·exact ⟨_,hk,fun K' hK=>hK⟩
 ·exact ⟨_,hk,fun K' hK=>hK⟩
 ·split at hk
  ·rename_i b hb
   cases b
   ·exact ⟨_,hk.2 rfl,fun K' hK=>⟨fun hh=>(by cases hh),fun _=>hK⟩⟩
   ·exact ⟨_,hk.1 rfl,fun K' hK=>⟨fun _=>hK,fun hh=>(by cases hh)⟩⟩
  ·exact hk.elim
 ·split at hk <;> first
   | exact hk.elim
   | exact ⟨_,hk,fun K' hK=>hK⟩
 ·rename_i op tt x y _
  have hny:¬ Bn y = true:=by simpa [HU] using hn
  simp only [if_neg hny] at hk ⊢
  split at hk
  ·obtain ⟨v,k1,k2⟩:=QX hk
   exact ⟨_,k1,fun K' hK=>k2 (fun v=>K' (.val v)) hK⟩
  ·obtain ⟨v,k1,k2⟩:=K0 hk
   exact ⟨_,k1,fun K' hK=>k2 (fun b=>K' (.val (.bool b))) hK⟩
  ·exact hk.elim
 ·split at hk <;> first
   | exact hk.elim
   | exact ⟨_,hk,fun K' hK=>hK⟩
 ·exact Hn hk
 ·split at hk
  ·exact hk.elim
  ·exact ⟨_,hk,fun K' hK=>hK⟩
  ·exact hk.elim
 ·split at hk
  ·rename_i hf; exact ⟨_,hk,fun K' hK=>by rw [if_pos hf]; exact hK⟩
  ·rename_i hf; exact ⟨_,hk.2,fun K' hK=>by rw [if_neg hf]; exact ⟨hk.1,hK⟩⟩
 ·exact Lq hk
 ·obtain ⟨v,k1,k2⟩:=GY hk.2
  exact ⟨v,k1,fun K' hK=>⟨hk.1,k2 K' hK⟩⟩
 ·exact Lg hk
 ·exact Ku hk
 ·exact PK hk
 ·exact R9 hk
 ·split at hk
  ·exact ⟨_,hk.2,fun K' hK=>⟨hk.1,hK⟩⟩
  ·exact hk.elim
 ·split at hk
  ·exact Lj hk
  ·exact hk.elim
 ·exact hk.elim
theorem Sm {P:Program} {h:List Ah} {t:TypeId} {K:AV -> List Ah -> Prop} (hk:EC P h t K):∃ v h',K v h' /\ ∀ K',K' v h' -> EC P h t K':=by
 unfold EC at *
 split at hk
 ·exact ⟨_,_,hk.2,fun K' hK=>⟨hk.1,hK⟩⟩
 ·exact hk.elim
theorem Y0 {h:List Ah} {x:AV} {K:AV -> List Ah -> Prop} (hk:PT h x K):∃ v h',K v h' /\ ∀ K',K' v h' -> PT h x K':=⟨_,_,hk.2,fun _ hK=>⟨hk.1,hK⟩⟩
theorem Vp {place:Nat -> Option (Nat × Nat)}:∀ (ps:List (Nat × AV)) (cells:List AV) {K:List AV -> Prop},Gy place cells ps K -> ∃ cs,K cs /\ ∀ K',K' cs -> Gy place cells ps K':=by
 intro ps
 induction ps with
 | nil=>intro cells K hk; exact ⟨_,hk,fun K' hK=>hK⟩
 | cons p ps ih =>
  obtain ⟨i,x⟩:=p;intro cells K hk;simp only [Gy] at hk ⊢
  split at hk
  ·obtain ⟨h1,h2,h3,hk⟩:=hk
   obtain ⟨cs,k1,k2⟩:=ih _ hk;exact ⟨cs,k1,fun K' hK=>⟨h1,h2,h3,k2 K' hK⟩⟩
  ·exact hk.elim
theorem RX {P:Program} {t:TypeId} {ps:List (Nat × AV)} {K:AV -> Prop} (hk:Ea P t ps K):∃ v,K v /\ ∀ K',K' v -> Ea P t ps K':=by
 unfold Ea at *
 split at hk
 ·obtain ⟨h1,h2,h3,hk⟩:=hk
  obtain ⟨cs,k1,k2⟩:=Vp _ _ hk;exact ⟨_,k1,fun K' hK=>⟨h1,h2,h3,k2 (fun cs=>K' (.agg cs)) hK⟩⟩
 ·exact hk.elim
theorem Lx {h:List Ah} {x:AV} {K:AV -> List Ah -> Prop} (hk:Ef h x K):∃ v h',K v h' /\ ∀ K',K' v h' -> Ef h x K':=by
 unfold Ef at *
 split at hk
 ·split at hk
  ·exact ⟨_,_,hk.2.2,fun K' hK=>⟨hk.1,hk.2.1,hK⟩⟩
  ·exact hk.elim
 ·split at hk
  ·exact ⟨_,_,hk.2.2,fun K' hK=>⟨hk.1,hk.2.1,hK⟩⟩
  ·exact hk.elim
 ·exact ⟨_,_,hk.2,fun K' hK=>⟨hk.1,hK⟩⟩
theorem JG {h:List Ah} {x:AV} {K K':AV -> List Ah -> Prop} (hk:Ef h x K) (hm:∀ v h,K v h -> K' v h):Ef h x K':=by
 unfold Ef at *
 split at hk
 ·split at hk
  ·exact ⟨hk.1,hk.2.1,hm _ _ hk.2.2⟩
  ·exact hk.elim
 ·split at hk
  ·exact ⟨hk.1,hk.2.1,hm _ _ hk.2.2⟩
  ·exact hk.elim
 ·exact ⟨hk.1,hm _ _ hk.2⟩
theorem FL:∀ (xs:List AV) (h:List Ah) {K:List AV -> List Ah -> Prop},GJ xs h K -> ∃ vs h',K vs h' /\ ∀ K',K' vs h' -> GJ xs h K':=by
 intro xs
 induction xs with
 | nil=>intro h K hk; exact ⟨_,_,hk,fun K' hK=>hK⟩
 | cons x xs ih =>
  intro h K hk;obtain ⟨v,h1,k1,k2⟩:=Lx hk;obtain ⟨vs,h2,k3,k4⟩:=ih h1 k1;exact ⟨v :: vs,h2,k3,fun K' hK=>k2 _ (k4 _ hK)⟩
where
 frzL_mono:∀ (xs:List AV) (h:List Ah) {K K':List AV -> List Ah -> Prop},GJ xs h K -> (∀ v h,K v h -> K' v h) -> GJ xs h K':=by
  intro xs
  induction xs with
  | nil=>intro h K K' hk hm; exact hm _ _ hk
  | cons x xs ih=>intro h K K' hk hm; exact JG hk fun v h' hh=>ih h' hh fun vs h'' hk=>hm _ _ hk
theorem Yr {h:List Ah} {x:AV} {K:AV -> List Ah -> Prop} (hk:Jj h x K):∃ v h',K v h' /\ ∀ K',K' v h' -> Jj h x K':=by
 unfold Jj at *
 split at hk
 ·obtain ⟨vs,h',k1,k2⟩:=FL _ _ hk
  exact ⟨_,_,k1,fun K' hK=>k2 _ hK⟩
 ·exact Lx hk
theorem UP {h:List Ah} {x:AV} {K K':AV -> List Ah -> Prop} (hk:Jj h x K) (hm:∀ v h,K v h -> K' v h):Jj h x K':=by
 unfold Jj at *
 split at hk
 ·exact FL.frzL_mono _ _ hk fun v h hh=>hm _ _ hh
 ·exact JG hk hm
theorem RQ:∀ (xs:List AV) (h:List Ah) {K K':List AV -> List Ah -> Prop},Hg xs h K -> (∀ v h,K v h -> K' v h) -> Hg xs h K':=by
 intro xs
 induction xs with
 | nil=>intro h K K' hk hm; exact hm _ _ hk
 | cons x xs ih=>intro h K K' hk hm; exact UP hk fun v h' hh=>ih h' hh fun vs h'' hk=>hm _ _ hk
theorem UX:∀ (xs:List AV) (h:List Ah) {K:List AV -> List Ah -> Prop},Hg xs h K -> ∃ vs h',K vs h' /\ ∀ K',K' vs h' -> Hg xs h K':=by
 intro xs
 induction xs with
 | nil=>intro h K hk; exact ⟨_,_,hk,fun K' hK=>hK⟩
 | cons x xs ih =>
  intro h K hk;obtain ⟨v,h1,k1,k2⟩:=Yr hk;obtain ⟨vs,h2,k3,k4⟩:=ih h1 k1;exact ⟨v :: vs,h2,k3,fun K' hK=>k2 _ (k4 _ hK)⟩
theorem Wk {h:List Ah} {x:AV} {K:AV -> List Ah -> Prop} (hk:E0 h x K):∃ v h',K v h' /\ ∀ K',K' v h' -> E0 h x K':=by
 unfold E0 at *
 split at hk
 ·obtain ⟨vs,h',k1,k2⟩:=FL _ _ hk
  exact ⟨_,_,k1,fun K' hK=>k2 _ hK⟩
 ·split at hk
  ·obtain ⟨vs,h',k1,k2⟩:=FL _ _ hk
   exact ⟨_,_,k1,fun K' hK=>k2 _ hK⟩
  ·exact hk.elim
 ·exact Lx hk
theorem Vd {h:List Ah} {x:AV} {K K':AV -> List Ah -> Prop} (hk:E0 h x K) (hm:∀ v h,K v h -> K' v h):E0 h x K':=by
 unfold E0 at *
 split at hk
 ·exact FL.frzL_mono _ _ hk fun v h hh=>hm _ _ hh
 ·split at hk
  ·exact FL.frzL_mono _ _ hk fun v h hh=>hm _ _ hh
  ·exact hk.elim
 ·exact JG hk hm
theorem K3:∀ (xs:List AV) (h:List Ah) {K K':List AV -> List Ah -> Prop},FD xs h K -> (∀ v h,K v h -> K' v h) -> FD xs h K':=by
 intro xs
 induction xs with
 | nil=>intro h K K' hk hm; exact hm _ _ hk
 | cons x xs ih=>intro h K K' hk hm; exact Vd hk fun v h' hh=>ih h' hh fun vs h'' hk=>hm _ _ hk
theorem Nw:∀ (xs:List AV) (h:List Ah) {K:List AV -> List Ah -> Prop},FD xs h K -> ∃ vs h',K vs h' /\ ∀ K',K' vs h' -> FD xs h K':=by
 intro xs
 induction xs with
 | nil=>intro h K hk; exact ⟨_,_,hk,fun K' hK=>hK⟩
 | cons x xs ih =>
  intro h K hk;obtain ⟨v,h1,k1,k2⟩:=Wk hk;obtain ⟨vs,h2,k3,k4⟩:=ih h1 k1;exact ⟨v :: vs,h2,k3,fun K' hK=>k2 _ (k4 _ hK)⟩
theorem Ko {P:Program} {h:List Ah} {t:TypeId} {n:Nat} {idx:List Nat} {xs:List AV} {K:AV -> List Ah -> Prop} (hk:BL P h t n idx xs K):∃ v h',K v h' /\ ∀ K',K' v h' -> BL P h t n idx xs K':=by
 unfold BL at *
 split at hk
 ·obtain ⟨h1,h2,h3,h4,hk⟩:=hk
  obtain ⟨vs,h',k1,k2⟩:=UX _ _ hk;exact ⟨_,_,k1.2,fun K' hK=>⟨h1,h2,h3,h4,k2 _ ⟨k1.1,hK⟩⟩⟩
 ·exact hk.elim
theorem Q1 {P:Program} {h:List Ah} {t:TypeId} {p x:AV} {K:List Ah -> Prop} (hk:DE P h t p x K):∃ h',K h' /\ ∀ K',K' h' -> DE P h t p x K':=by
 unfold DE at *
 split at hk
 ·exact hk.elim
 ·obtain ⟨h1,h2,hk⟩:=hk
  split at hk
  ·split at hk
   ·exact ⟨_,hk.2,fun K' hK=>⟨h1,h2,hk.1,hK⟩⟩
   ·exact hk.elim
  ·split at hk
   ·obtain ⟨h3,h4,h5,h6,h7,hk⟩:=hk
    exact ⟨_,hk,fun K' hK=>⟨h1,h2,h3,h4,h5,h6,h7,hK⟩⟩
   ·exact hk.elim
  ·exact hk.elim
theorem L9 {P:Program} {h:List Ah} {t:TypeId} {l c:AV} {K:AV -> List Ah -> Prop} (hk:CU P h t l c K):∃ v h',K v h' /\ ∀ K',K' v h' -> CU P h t l c K':=by
 unfold CU at *
 split at hk
 ·obtain ⟨h1,h2,h3,h4,h5,h6,h7,hk⟩:=hk
  exact ⟨_,_,hk,fun K' hK=>⟨h1,h2,h3,h4,h5,h6,h7,hK⟩⟩
 ·exact hk.elim
theorem Pj {P:Program} {h:List Ah} {u:TypeId} {size:Nat} {y:AV} {K:List AV -> Prop} (hk:Qo P h u size y K):∃ ys,K ys /\ ∀ K':List AV -> Prop,K' ys -> Qo P h u size y K':=by
 unfold Qo at *
 split at hk
 ·exact ⟨_,hk.2.2,fun K' h'=>⟨hk.1,hk.2.1,h'⟩⟩
 ·split at hk
  ·exact ⟨_,hk.2.2.2.2,fun K' h'=>⟨hk.1,hk.2.1,hk.2.2.1,hk.2.2.2.1,h'⟩⟩
  ·exact hk.elim
 ·exact ⟨_,hk.2.2,fun K' h'=>⟨hk.1,hk.2.1,h'⟩⟩
 ·exact hk.elim
theorem Pz {P:Program} {h:List Ah} {ts:List TypeId} {xs:List AV} {K:AV -> List Ah -> Prop} (hk:EM P h ts xs K):∃ v h',K v h' /\ ∀ K',K' v h' -> EM P h ts xs K':=by
 unfold EM at *
 split at hk
 ·split at hk
  ·obtain ⟨h1,h2,hk⟩:=hk
   obtain ⟨ys,k1,k2⟩:=Pj hk
   split at k1
   ·split at k1
    ·obtain ⟨g1,g2,g3,g4,g5,k1⟩:=k1
     exact ⟨_,_,k1,fun K' hK=>⟨h1,h2,k2 _ ⟨g1,g2,g3,g4,g5,hK⟩⟩⟩
    ·exact k1.elim
   ·exact ⟨_,_,k1.2,fun K' hK=>⟨h1,h2,k2 _ ⟨k1.1,hK⟩⟩⟩
   ·exact k1.elim
  ·exact hk.elim
 ·exact hk.elim
theorem Vy {P:Program} {h:List Ah} {ts:List TypeId} {xs:List AV} {K:AV -> List Ah -> Prop} (hk:J0 P h ts xs K):∃ v h',K v h' /\ ∀ K',K' v h' -> J0 P h ts xs K':=by
 unfold J0 at *
 split at hk
 ·split at hk
  ·obtain ⟨h1,h2,h3,h4,hk⟩:=hk
   obtain ⟨ys,k1,k2⟩:=Pj hk;exact ⟨_,_,k1.2,fun K' hK=>⟨h1,h2,h3,h4,k2 _ ⟨k1.1,hK⟩⟩⟩
  ·exact hk.elim
 ·exact hk.elim
end Go.PM

namespace Go.PM
variable [AA]
inductive Cj where
 | free | read | upd | set
 | wr (id:Nat)
 | look (ids:List Nat)
 deriving DecidableEq
def TG:AV -> Nat -> Prop
 | .ptr i _,id=>i = id
 | _,_=>False
def N0:AV -> List Nat -> Prop
 | .ptr i _,ids=>ids.contains i = false
 | _,_=>False
def La (h:List Ah) (id:Nat):Option Ah -> List Ah
 | none=>h
 | some b=>h.set id b
def AI (P:Program) (f:FuncId) (args:List AV) (K:AV -> Prop):Prop:=args.all AV.pure = true /\ ∃ v,Af P f args (· = v) /\ K v
def He (P:Program) (f:FuncId) (args:List AV) (h:List Ah) (K:AV -> Prop):Prop:=∃ v,(∀ h',Ai h h' -> Ag P f args h' (fun r h''=>h'' = h' /\ r = .ret v)) /\ K v
def Ja (P:Program) (f:FuncId) (args:List AV) (h:List Ah) (K:AV -> List Ah -> Prop):Prop:=∃ v h',Ag P f args h (fun r h''=>r = .ret v /\ h'' = h') /\ K v h'
def Pp (P:Program) (f:FuncId) (args:List AV) (h:List Ah) (K:AV -> List Ah -> Prop):Prop:=Ks P f /\ (FD args h (fun args' h'=>Ja P f args' h' K) \/ Ja P f args h K)
theorem Ja.pure {P:Program} {f:FuncId} {args:List AV} {h:List Ah} {K:AV -> List Ah -> Prop} {v:AV} (hc:Af P f args (· = v)) (hp:args.all AV.pure = true) (hk:K v h):Ja P f args h K :=
 ⟨v,h,(Ag.frame (R:=fun r=>r = .ret v) hp (Ag.mono hc fun r _ ⟨h1,x,h2,h3⟩=>⟨h1,by rw [h2,h3]⟩)).mono (fun _ _ h=>⟨h.2,h.1⟩),hk⟩
def DF:Op -> Bool
 | .move _ | .assign _ | .pick .. | .nilCheck _ | .unOp .. | .convert .. | .makeInterface .. | .makeFunc .. | .field .. | .fieldAddr .. | .index .. | .extract ..=>true
 | .binOp _ _ _ y _=>!Bn y
 | _=>false
theorem P4 {P:Program} {h:List Ah} {t:TypeId} {m k:AV} {ok:Bool} {K:AV -> Prop} (hk:EJ P h t m k ok K):∃ v,K v /\ ∀ K':AV -> Prop,K' v -> EJ P h t m k ok K':=by
 unfold EJ at *
 split at hk
 ·split at hk
  ·split at hk
   ·exact ⟨_,hk.2,fun K' hK=>⟨hk.1,hK⟩⟩
   ·exact hk.elim
  ·exact ⟨_,hk.2,fun K' hK=>⟨hk.1,hK⟩⟩
  ·exact ⟨_,hk.2,fun K' hK=>⟨hk.1,hK⟩⟩
  ·exact hk.elim
 ·exact hk.elim
theorem P3 {P:Program} {h:List Ah} {t:TypeId} {m k y:AV} {K:List Ah -> Prop} (hk:Kj P h t m k y K):∃ h',K h' /\ ∀ K':List Ah -> Prop,K' h' -> Kj P h t m k y K':=by
 unfold Kj at *
 split at hk
 ·split at hk
  ·split at hk
   ·exact ⟨_,hk.2,fun K' hK=>⟨hk.1,hK⟩⟩
   ·exact hk.elim
  ·exact hk.elim
 ·exact hk.elim
theorem R3 {P:Program} {h:List Ah} {t:TypeId} {x:AV} {K:AV -> List Ah -> Prop} (hk:Fa P h t x K):∃ v h',K v h' /\ ∀ K':AV -> List Ah -> Prop,K' v h' -> Fa P h t x K':=by
 unfold Fa at *
 split at hk
 ·split at hk
  ·exact ⟨_,_,hk,fun K' hK=>hK⟩
  ·exact hk.elim
 ·split at hk
  ·split at hk
   ·exact ⟨_,_,hk.2,fun K' hK=>⟨hk.1,hK⟩⟩
   ·exact hk.elim
  ·exact hk.elim
 ·exact hk.elim
theorem RM {h:List Ah} {it:AV} {K:AV -> Prop} (hk:Gi h it K):∃ v,K v /\ ∀ K':AV -> Prop,K' v -> Gi h it K':=by
 unfold Gi at *
 split at hk
 ·obtain ⟨h0,hk⟩:=hk
  split at hk
  ·split at hk
   ·obtain ⟨i,h1,h2,h3,h4,hk⟩:=hk
    exact ⟨_,hk,fun K' hK=>⟨h0,i,h1,h2,h3,h4,hK⟩⟩
   ·exact hk.elim
  ·exact hk.elim
 ·exact hk.elim
def CV (P:Program) (o:Oper) (s:St) (K:AV -> List Ah -> Prop):Prop :=
 match o.op with
 | .alloc t=>EC P s.h t K
 | .box _ x=>PT s.h (s.ev x) K
 | .buildSlice t n ps=>BL P s.h t n (ps.toList.map (·.1)) (ps.toList.map fun p=>s.ev p.2) K
 | .store t p x=>DE P s.h t (s.ev p) (s.ev x) (fun h=>K .dead h)
 | .makeSlice t l c=>CU P s.h t (s.ev l) (s.ev c) K
 | .call c=>match c.callee with
  | .builtin .append=>EM P s.h c.argTypes.toList (c.args.toList.map s.ev) K
  | .builtin .copy=>J0 P s.h c.argTypes.toList (c.args.toList.map s.ev) K
  | .builtin b=>Fb P s.h b c.argTypes.toList (c.args.toList.map s.ev) (fun v=>K v s.h)
  | .value f=>match s.ev f with
   | .fn f caps=>Pp P f (c.args.toList.map s.ev ++ caps) s.h K
   | .bnd f first=>Pp P f (first ++ c.args.toList.map s.ev) s.h K
   | _=>False
  | _=>False
 | .lookup t m k c=>EJ P s.h t (s.ev m) (s.ev k) c (fun v=>K v s.h)
 | .mapUpdate t m k x=>Kj P s.h t (s.ev m) (s.ev k) (s.ev x) (fun h=>K .dead h)
 | .insert t m k x=>Kj P s.h t (s.ev m) (s.ev k) (s.ev x) (fun h=>K .dead h)
 | .makeMap t r=>FI P s.h t (r.map s.ev) K
 | .range t x=>Fa P s.h t (s.ev x) K
 | .entry it=>Gi s.h (s.ev it) (fun v=>K v s.h)
 | .convert src dst x=>FN P src dst (s.ev x) (fun v=>K v s.h)
 | op=>HU op = true /\ FB P s op (fun v=>K v s.h)
def C8 (P:Program) (t:TypeId) (n:Nat) (idx:List Nat) (xs:List AV) (K:AV -> Prop):Prop :=
 match Bk P t with
 | some (_,T)=>idx = List.range n /\ xs.length = n /\ n * T.size <= 16777216 /\ T.zero.cells.size = T.size /\ (∀ h,Hg xs h (fun es h'=>es = xs /\ h' = h)) /\ adM T.size xs = true /\ K (.sl true xs)
 | none=>False
theorem Mt {P:Program} {h:List Ah} {t:TypeId} {n:Nat} {idx:List Nat} {xs:List AV} {K:AV -> List Ah -> Prop} (hk:C8 P t n idx xs (fun v=>K v h)):BL P h t n idx xs K:=by
 unfold C8 at hk;unfold BL
 split at hk
 ·rename_i e T he
  obtain ⟨h1,h2,h3,h4,h5,h6,h7⟩:=hk;rw [he];exact ⟨h1,h2,h3,h4,RQ _ _ (h5 h) fun v h' ⟨e1,e2⟩=>by subst e1 e2; exact ⟨h6,h7⟩⟩
 ·exact hk.elim
theorem Kk {P:Program} {t:TypeId} {n:Nat} {idx:List Nat} {xs:List AV} {K:AV -> Prop} (hk:C8 P t n idx xs K):∃ v,K v /\ ∀ K':AV -> Prop,K' v -> C8 P t n idx xs K':=by
 unfold C8 at *
 split at hk
 ·obtain ⟨h1,h2,h3,h4,h5,h6,h7⟩:=hk
  exact ⟨_,h7,fun K' hK=>⟨h1,h2,h3,h4,h5,h6,hK⟩⟩
 ·exact hk.elim
def LO (P:Program) (t:TypeId) (x:AV) (z:Value):Option Bool :=
 match x,P.underlying t,z with
 | .ptr _ _,some (.pointer _),.pointer none=>some false
 | .cptr _,some (.pointer _),.pointer none=>some false
 | .val (.pointer none),some (.pointer _),.pointer none=>some true
 | .fn _ _,some (.func _ _ _),.nilFunc=>some false
 | .val .nilFunc,some (.func _ _ _),.nilFunc=>some true
 | .iface _ _,some (.interface _),.nilIface=>some false
 | .val .nilIface,some (.interface _),.nilIface=>some true
 | _,_,_=>none
theorem Xp {P:Program} {t:TypeId} {x:AV} {z:Value} {b:Bool} {K:Bool -> Prop} (h:LO P t x z = some b) (hk:K b):F1 P t x z K:=by
 unfold LO at h;unfold F1
 split at h
 all_goals first
  | (cases h; done)
  | (rename_i hu; cases h; simp only [hu]; exact hk)
def Qu (P:Program) (op:BinOp) (t:TypeId) (x:AV) (y:Operand) (K:AV -> Prop):Prop :=
 match op,y with
 | .eql,.const z=>match LO P t x z with
  | some b=>K (.val (.bool b))
  | none=>False
 | .neq,.const z=>match LO P t x z with
  | some b=>K (.val (.bool (!b)))
  | none=>False
 | _,_=>False
theorem YW {P:Program} {op:BinOp} {t:TypeId} {x:AV} {y:Operand} {K:AV -> Prop} (hk:Qu P op t x y K):∃ v,K v /\ ∀ K':AV -> Prop,K' v -> Qu P op t x y K':=by
 cases y with
 | const z =>
  cases op <;> try exact hk.elim
  ·unfold Qu at hk ⊢
   cases hb:LO P t x z with
   | none=>simp only [hb] at hk
   | some b=>simp only [hb] at hk; exact ⟨_,hk,fun K' hK=>(by show (match LO P t x z with | some b=>K' (.val (.bool b)) | none=>False); rw [hb]; exact hK)⟩
  ·unfold Qu at hk ⊢
   cases hb:LO P t x z with
   | none=>simp only [hb] at hk
   | some b=>simp only [hb] at hk; exact ⟨_,hk,fun K' hK=>(by show (match LO P t x z with | some b=>K' (.val (.bool (!b))) | none=>False); rw [hb]; exact hK)⟩
 | _=>cases op <;> exact hk.elim
def AU (P:Program) (o:Oper) (c:Cj) (s:St) (K:AV -> List Ah -> Prop):Prop :=
 match c with
 | .free=>match o.op with
  | .build t ps=>Ea P t (ps.toList.map fun p=>(p.1,s.ev p.2)) (fun v=>K v s.h)
  | .buildSlice t n ps=>C8 P t n (ps.toList.map (·.1)) (ps.toList.map fun p=>s.ev p.2) (fun v=>K v s.h)
  | .call c=>match c.callee with
   | .value f=>match s.ev f with
    | .fn f caps=>AI P f (c.args.toList.map s.ev ++ caps) (fun v=>K v s.h)
    | _=>False
   | _=>False
  | .convert src dst x=>FN P src dst (s.ev x) (fun v=>K v s.h)
  | .binOp op t x y ty=>if Bn y = true then Qu P op t (s.ev x) y (fun v=>K v s.h) else FB P s (.binOp op t x y ty) (fun v=>K v s.h)
  | op=>DF op = true /\ FB P s op (fun v=>K v s.h)
 | .read=>match o.op with
  | .call c=>match c.callee with
   | .value f=>match s.ev f with
    | .fn f caps=>He P f (c.args.toList.map s.ev ++ caps) s.h (fun v=>K v s.h)
    | _=>False
   | .builtin .append | .builtin .copy=>False
   | .builtin _=>CO s o.op /\ FB P s o.op (fun v=>K v s.h)
   | _=>False
  | op=>HU op = true /\ CO s op /\ FB P s op (fun v=>K v s.h)
 | .upd=>CV P o s (fun v h'=>Ai s.h h' /\ K v h')
 | .set=>CV P o s K
 | .wr id=>match o.op with
  | .store t p x=>TG (s.ev p) id /\ DE P s.h t (s.ev p) (s.ev x) (fun h=>K .dead h)
  | _=>False
 | .look ids=>match o.op with
  | .load t p=>N0 (s.ev p) ids /\ DN P s.h t (s.ev p) (fun v=>K v s.h)
  | _=>False
theorem TV {P:Program} {h:List Ah} {t:TypeId} {p x:AV} {id:Nat} {K:List Ah -> Prop} (hp:TG p id) (hk:DE P h t p x K):∃ b,K (La h id (some b)) /\ ∀ h1,h1[id]? = h[id]? -> ∀ K',K' (La h1 id (some b)) -> DE P h1 t p x K':=by
 cases p <;> try exact hp.elim
 rename_i i off
 obtain rfl:i = id:=hp;unfold DE at *
 split at hk
 ·exact hk.elim
 ·obtain ⟨h1,h2,hk⟩:=hk
  simp only at hk
  split at hk
  ·rename_i cs hh
   exact ⟨_,hk.2,fun h3 he K' hK=>⟨h1,h2,by simp only [he,hh]; exact ⟨hk.1,hK⟩⟩⟩
  ·exact hk.elim
theorem Ux {P:Program} {h:List Ah} {t:TypeId} {p:AV} {ids:List Nat} {K:AV -> Prop} (hp:N0 p ids) (hk:DN P h t p K):∃ v,K v /\ ∀ h1:List Ah,(∀ i,ids.contains i = false -> h1[i]? = h[i]?) -> ∀ K',K' v -> DN P h1 t p K':=by
 cases p <;> try exact hp.elim
 rename_i i off
 have hi:ids.contains i = false:=hp;unfold DN at *
 split at hk
 ·exact hk.elim
 ·simp only at hk ⊢
  split at hk
  ·rename_i cs hh
   obtain ⟨v,k1,k2⟩:=Eb hk;exact ⟨v,k1,fun h1 he K' hK=>by rw [he i hi,hh]; exact k2 K' hK⟩
  ·exact hk.elim
theorem EW {s s1:St} {l:Array Operand} (hl:∀ x ∈ l,s.ev x = s1.ev x):l.toList.map s.ev = l.toList.map s1.ev:=List.map_congr_left fun x hx=>hl x (by simpa using hx)
theorem LX {s s1:St} {l:Array (Nat × Operand)} (hl:∀ x ∈ (l.toList.map (·.2)).toArray,s.ev x = s1.ev x):(l.toList.map fun p=>s.ev p.2) = (l.toList.map fun p=>s1.ev p.2) :=
 List.map_congr_left fun x hx=>hl x.2 (by simp only [List.mem_toArray,List.mem_map]; exact ⟨x,hx,rfl⟩)
theorem Rv {s s1:St} {l:Array (Nat × Operand)} (hl:∀ x ∈ (l.toList.map (·.2)).toArray,s.ev x = s1.ev x):(l.toList.map fun p=>(p.1,s.ev p.2)) = (l.toList.map fun p=>(p.1,s1.ev p.2)) :=
 List.map_congr_left fun x hx=>by rw [hl x.2 (by simp only [List.mem_toArray,List.mem_map]; exact ⟨x,hx,rfl⟩)]
theorem J6 {P:Program} {o:Oper} {t t1:Tm} {h:List Ah} {d d1:List AD} {K:AV -> List Ah -> Prop} (he:∀ x ∈ o.op.operands,(⟨t,h,d⟩:St).ev x = (⟨t1,h,d1⟩:St).ev x) (hk:CV P o ⟨t,h,d⟩ K):CV P o ⟨t1,h,d1⟩ K:=by
 unfold CV at hk ⊢
 split at hk
 ·exact hk
 ·rename_i x hop; rw [hop] at he; rw [<- he x (by simp [Op.operands])]; exact hk
 ·rename_i t n ps hop; rw [hop] at he; rw [<- LX he]; exact hk
 ·rename_i t p x hop; rw [hop] at he; rw [<- he p (by simp [Op.operands]),<- he x (by simp [Op.operands])]; exact hk
 ·rename_i t p x hop; rw [hop] at he; rw [<- he p (by simp [Op.operands]),<- he x (by simp [Op.operands])]; exact hk
 ·rename_i c hop
  rw [hop] at he;have ha:∀ x ∈ c.args,(⟨t,h,d⟩:St).ev x = (⟨t1,h,d1⟩:St).ev x:=fun x hx=>he x (by simp only [Op.operands,Call.operands]; exact Array.mem_append.2 (.inr hx))
  split at hk
  ·rw [<- EW ha]; exact hk
  ·rw [<- EW ha]; exact hk
  ·rw [<- EW ha]; exact hk
  ·rename_i f hc
   rw [<- EW ha,<- he f (by simp [Op.operands,Call.operands,hc])]; exact hk
  ·exact hk
 ·rename_i t m k c hop; rw [hop] at he; rw [<- he m (by simp [Op.operands]),<- he k (by simp [Op.operands])]; exact hk
 ·rename_i t m k x hop; rw [hop] at he; rw [<- he m (by simp [Op.operands]),<- he k (by simp [Op.operands]),<- he x (by simp [Op.operands])]; exact hk
 ·rename_i t m k x hop; rw [hop] at he; rw [<- he m (by simp [Op.operands]),<- he k (by simp [Op.operands]),<- he x (by simp [Op.operands])]; exact hk
 ·rename_i t r hop
  rw [hop] at he
  cases r with
  | none=>exact hk
  | some r=>simp only [Option.map_some] at hk ⊢; rw [<- he r (by simp [Op.operands])]; exact hk
 ·rename_i t x hop; rw [hop] at he; rw [<- he x (by simp [Op.operands])]; exact hk
 ·rename_i it hop; rw [hop] at he; rw [<- he it (by simp [Op.operands])]; exact hk
 ·rename_i a b x hop; rw [hop] at he; rw [<- he x (by simp [Op.operands])]; exact hk
 ·exact ⟨hk.1,FT he hk.2⟩
theorem Lm {P:Program} {o:Oper} {c:Cj} {t t1:Tm} {h:List Ah} {d d1:List AD} {K:AV -> List Ah -> Prop} (he:∀ x ∈ o.op.operands,(⟨t,h,d⟩:St).ev x = (⟨t1,h,d1⟩:St).ev x) (hk:AU P o c ⟨t,h,d⟩ K):AU P o c ⟨t1,h,d1⟩ K:=by
 unfold AU at hk ⊢
 cases c with
 | free =>
  simp only at hk ⊢
  split at hk
  ·rename_i t ps hop; rw [hop] at he; rw [<- Rv he]; exact hk
  ·rename_i t n ps hop; rw [hop] at he; rw [<- LX he]; exact hk
  ·rename_i c hop
   rw [hop] at he;have ha:∀ x ∈ c.args,(⟨t,h,d⟩:St).ev x = (⟨t1,h,d1⟩:St).ev x:=fun x hx=>he x (by simp only [Op.operands,Call.operands]; exact Array.mem_append.2 (.inr hx))
   split at hk
   ·rename_i f hc
    rw [<- EW ha,<- he f (by simp [Op.operands,Call.operands,hc])]; exact hk
   ·exact hk
  ·rename_i a b x hop; rw [hop] at he; rw [<- he x (by simp [Op.operands])]; exact hk
  ·rename_i op tt x y ty hop
   rw [hop] at he
   split at hk
   ·rename_i hn; rw [if_pos hn,<- he x (by simp [Op.operands])]; exact hk
   ·rename_i hn; rw [if_neg hn]; exact FT he hk
  ·exact ⟨hk.1,FT he hk.2⟩
 | read =>
  simp only at hk ⊢;have hnr:CO ⟨t,h,d⟩ o.op -> CO ⟨t1,h,d1⟩ o.op:=fun hn x hx=>by rw [<- he x hx]; exact hn x hx
  split at hk
  ·rename_i c hop
   split at hk
   ·rename_i f hc
    rw [hop] at he;have ha:∀ x ∈ c.args,(⟨t,h,d⟩:St).ev x = (⟨t1,h,d1⟩:St).ev x:=fun x hx=>he x (by simp only [Op.operands,Call.operands]; exact Array.mem_append.2 (.inr hx));rw [<- EW ha,<- he f (by simp [Op.operands,Call.operands,hc])]; exact hk
   ·exact hk
   ·exact hk
   ·exact ⟨hnr hk.1,FT he hk.2⟩
   ·exact hk
  ·exact ⟨hk.1,hnr hk.2.1,FT he hk.2.2⟩
 | upd=>exact J6 he hk
 | set=>exact J6 he hk
 | wr id =>
  simp only at hk ⊢
  split at hk
  ·rename_i t p x hop; rw [hop] at he; rw [<- he p (by simp [Op.operands]),<- he x (by simp [Op.operands])]; exact hk
  ·exact hk.elim
 | look ids =>
  simp only at hk ⊢
  split at hk
  ·rename_i t p hop; rw [hop] at he; rw [<- he p (by simp [Op.operands])]; exact hk
  ·exact hk.elim
theorem L8 {P:Program} {t:Tm} {h h':List Ah} {d d':List AD} {op:Op} {K:AV -> Prop} (hn:DF op = true) (hk:FB P ⟨t,h,d⟩ op K):FB P ⟨t,h',d'⟩ op K:=by
 have hev:(⟨t,h',d'⟩:St).ev = (⟨t,h,d⟩:St).ev:=funext fun x=>by cases x <;> rfl
 cases op <;> simp only [DF] at hn <;> try (cases hn; done)
 case makeFunc f first caps=>cases f <;> simp only [FB,hev] at hk ⊢ <;> exact hk
 all_goals (simp only [FB,hev] at hk ⊢; exact hk)
theorem I6 {op:Op} (hn:DF op = true):HU op = true:=by cases op <;> first | rfl | exact hn
theorem Jz {P:Program} {o:Oper} {s:St} {K:AV -> List Ah -> Prop} (hk:CV P o s K):∃ v h',K v h' /\ ∀ K',K' v h' -> CV P o s K':=by
 unfold CV at *
 split at hk
 ·exact Sm hk
 ·exact Y0 hk
 ·exact Ko hk
 ·obtain ⟨h',k1,k2⟩:=Q1 hk
  exact ⟨_,h',k1,fun K' hK=>k2 (fun h=>K' .dead h) hK⟩
 ·exact L9 hk
 ·split at hk
  ·exact Pz hk
  ·exact Vy hk
  ·obtain ⟨v,k1,k2⟩:=Lj hk
   exact ⟨v,_,k1,fun K' hK=>k2 (fun v=>K' v s.h) hK⟩
  ·split at hk
   ·obtain ⟨h1,hk | ⟨v,h2,k1,k2⟩⟩:=hk
    ·obtain ⟨vs,h',⟨v,h2,k1,k2⟩,k3⟩:=Nw _ _ hk
     exact ⟨v,h2,k2,fun K' hK=>⟨h1,.inl (k3 _ ⟨v,h2,k1,hK⟩)⟩⟩
    ·exact ⟨v,h2,k2,fun K' hK=>⟨h1,.inr ⟨v,h2,k1,hK⟩⟩⟩
   ·obtain ⟨h1,hk | ⟨v,h2,k1,k2⟩⟩:=hk
    ·obtain ⟨vs,h',⟨v,h2,k1,k2⟩,k3⟩:=Nw _ _ hk
     exact ⟨v,h2,k2,fun K' hK=>⟨h1,.inl (k3 _ ⟨v,h2,k1,hK⟩)⟩⟩
    ·exact ⟨v,h2,k2,fun K' hK=>⟨h1,.inr ⟨v,h2,k1,hK⟩⟩⟩
   ·exact hk.elim
  ·exact hk.elim
 ·obtain ⟨v,k1,k2⟩:=P4 hk
  exact ⟨v,_,k1,fun K' hK=>k2 (fun v=>K' v s.h) hK⟩
 ·obtain ⟨h',k1,k2⟩:=P3 hk
  exact ⟨_,h',k1,fun K' hK=>k2 (fun h=>K' .dead h) hK⟩
 ·obtain ⟨h',k1,k2⟩:=P3 hk
  exact ⟨_,h',k1,fun K' hK=>k2 (fun h=>K' .dead h) hK⟩
 ·exact ⟨_,_,hk.2.2,fun K' hK=>⟨hk.1,hk.2.1,hK⟩⟩
 ·exact R3 hk
 ·obtain ⟨v,k1,k2⟩:=RM hk
  exact ⟨v,_,k1,fun K' hK=>k2 (fun v=>K' v s.h) hK⟩
 ·obtain ⟨v,k1,k2⟩:=Nr (fun _=>Hn) hk
  exact ⟨v,_,k1,fun K' hK=>k2 (fun v=>K' v s.h) hK⟩
 ·obtain ⟨v,k1,k2⟩:=LS hk.1 hk.2
  exact ⟨v,_,k1,fun K' hK=>⟨hk.1,k2 (fun v=>K' v s.h) hK⟩⟩
theorem PU {P:Program} {o:Oper} {c:Cj} {t:Tm} {h:List Ah} {d:List AD} {K:AV -> List Ah -> Prop} (hk:AU P o c ⟨t,h,d⟩ K) :
  ∃ v h',K v h' /\ (∀ K',K' v h' -> AU P o c ⟨t,h,d⟩ K') /\ (c = .free -> h' = h /\ ∀ h1 K',K' v h1 -> AU P o c ⟨t,h1,d⟩ K') /\
   (c = .read -> h' = h /\ ∀ h1,Ai h h1 -> ∀ K',K' v h1 -> AU P o c ⟨t,h1,d⟩ K') /\ (c = .upd -> Ai h h') /\
   (∀ id,c = .wr id -> ∃ b,h' = La h id b /\ ∀ h1,h1[id]? = h[id]? -> ∀ K',K' v (La h1 id b) -> AU P o c ⟨t,h1,d⟩ K') /\
   (∀ ids,c = .look ids -> h' = h /\ ∀ h1:List Ah,(∀ i,ids.contains i = false -> h1[i]? = h[i]?) -> ∀ K',K' v h1 -> AU P o c ⟨t,h1,d⟩ K'):=by
 have hev:∀ h' d',(⟨t,h',d'⟩:St).ev = (⟨t,h,d⟩:St).ev:=fun _ _=>funext fun x=>by cases x <;> rfl
 cases c with
 | free =>
  have:∃ v,K v h /\ ∀ h1 K',K' v h1 -> AU P o .free ⟨t,h1,d⟩ K':=by
   unfold AU at *;simp only [hev] at hk ⊢
   split at hk
   ·obtain ⟨v,k1,k2⟩:=RX hk
    exact ⟨v,k1,fun h1 K' hK=>k2 (fun v=>K' v h1) hK⟩
   ·obtain ⟨v,k1,k2⟩:=Kk hk
    exact ⟨v,k1,fun h1 K' hK=>k2 (fun v=>K' v h1) hK⟩
   ·split at hk
    ·split at hk
     ·obtain ⟨hp,v,k1,k2⟩:=hk
      exact ⟨v,k2,fun h1 K' hK=>⟨hp,v,k1,hK⟩⟩
     ·exact hk.elim
    ·exact hk.elim
   ·obtain ⟨v,k1,k2⟩:=Nr (fun _=>Hn) hk
    exact ⟨v,k1,fun h1 K' hK=>k2 (fun v=>K' v h1) hK⟩
   ·rename_i op tt x y ty hop
    split at hk
    ·rename_i hn
     obtain ⟨v,k1,k2⟩:=YW hk;exact ⟨v,k1,fun h1 K' hK=>by rw [if_pos hn]; exact k2 (fun v=>K' v h1) hK⟩
    ·rename_i hn
     have hno:DF (.binOp op tt x y ty) = true:=by simpa [DF] using hn
     obtain ⟨v,k1,k2⟩:=LS (I6 hno) hk;exact ⟨v,k1,fun h1 K' hK=>by rw [if_neg hn]; exact L8 hno (k2 (fun v=>K' v h1) hK)⟩
   ·obtain ⟨v,k1,k2⟩:=LS (I6 hk.1) hk.2
    exact ⟨v,k1,fun h1 K' hK=>⟨hk.1,L8 hk.1 (k2 (fun v=>K' v h1) hK)⟩⟩
  obtain ⟨v,k1,k2⟩:=this;exact ⟨v,h,k1,k2 h,fun _=>⟨rfl,k2⟩,fun hc=>(by cases hc),fun hc=>(by cases hc),fun _ hc=>(by cases hc),fun _ hc=>(by cases hc)⟩
 | read =>
  have:∃ v,K v h /\ ∀ h1,Ai h h1 -> ∀ K',K' v h1 -> AU P o .read ⟨t,h1,d⟩ K':=by
   unfold AU at *;have hno:∀ h',CO ⟨t,h',d⟩ o.op = CO ⟨t,h,d⟩ o.op:=fun h'=>by unfold CO; rw [hev]
   simp only at hk ⊢
   split at hk
   ·rename_i c hop
    split at hk
    ·simp only [hev] at hk ⊢
     split at hk
     ·obtain ⟨v,k1,k2⟩:=hk
      exact ⟨v,k2,fun h1 hs K' hK=>⟨v,fun h2 hs2=>k1 h2 (hs.trans hs2),hK⟩⟩
     ·exact hk.elim
    ·exact hk.elim
    ·exact hk.elim
    ·obtain ⟨v,k1,k2⟩:=To (by rw [hop]; rfl) hk.1 hk.2
     refine ⟨v,k1,fun h1 hs K' hK=>?_⟩;simp only [hno];exact ⟨hk.1,k2 h1 d hs _ hK⟩
    ·exact hk.elim
   ·obtain ⟨v,k1,k2⟩:=To hk.1 hk.2.1 hk.2.2
    exact ⟨v,k1,fun h1 hs K' hK=>⟨hk.1,(hno h1).mpr hk.2.1,k2 h1 d hs _ hK⟩⟩
  obtain ⟨v,k1,k2⟩:=this;exact ⟨v,h,k1,k2 h (.refl h),fun hc=>(by cases hc),fun _=>⟨rfl,k2⟩,fun hc=>(by cases hc),fun _ hc=>(by cases hc),fun _ hc=>(by cases hc)⟩
 | upd =>
  obtain ⟨v,h',⟨k1,k2⟩,k3⟩:=Jz (show CV P o ⟨t,h,d⟩ (fun v h'=>Ai h h' /\ K v h') from hk);exact ⟨v,h',k2,fun K' hK=>k3 (fun v h'=>Ai h h' /\ K' v h') ⟨k1,hK⟩,fun hc=>(by cases hc),fun hc=>(by cases hc),fun _=>k1,fun _ hc=>(by cases hc),fun _ hc=>(by cases hc)⟩
 | set =>
  obtain ⟨v,h',k1,k2⟩:=Jz (show CV P o ⟨t,h,d⟩ K from hk);exact ⟨v,h',k1,k2,fun hc=>(by cases hc),fun hc=>(by cases hc),fun hc=>(by cases hc),fun _ hc=>(by cases hc),fun _ hc=>(by cases hc)⟩
 | wr id =>
  unfold AU at *;simp only [hev] at hk ⊢
  split at hk
  ·obtain ⟨hp,hk⟩:=hk
   obtain ⟨b,k1,k2⟩:=TV hp hk;refine ⟨.dead,_,k1,fun K' hK=>⟨hp,k2 h rfl (fun h=>K' .dead h) hK⟩,fun hc=>(by cases hc),fun hc=>(by cases hc),fun hc=>(by cases hc),fun id' hc=>?_,fun _ hc=>(by cases hc)⟩;cases hc;exact ⟨some b,rfl,fun h1 he K' hK=>⟨hp,k2 h1 he (fun h=>K' .dead h) hK⟩⟩
  ·exact hk.elim
 | look ids =>
  unfold AU at *;simp only [hev] at hk ⊢
  split at hk
  ·obtain ⟨hp,hk⟩:=hk
   obtain ⟨v,k1,k2⟩:=Ux hp hk;refine ⟨v,h,k1,fun K' hK=>⟨hp,k2 h (fun _ _=>rfl) (fun v=>K' v h) hK⟩,fun hc=>(by cases hc),fun hc=>(by cases hc),fun hc=>(by cases hc),fun _ hc=>(by cases hc),fun ids' hc=>?_⟩;cases hc;exact ⟨rfl,fun h1 he K' hK=>⟨hp,k2 h1 he (fun v=>K' v h1) hK⟩⟩
  ·exact hk.elim
end Go.PM

namespace Go.PM
variable [AA]
def BU (ops:Array Oper) (i:Nat):Option Tmp:=(ops[i]?).bind (·.dst)
def CD (P:Program) (ops:Array Oper) (p:Nat × Cj) (s:St) (K:AV -> List Ah -> Prop):Prop :=
 match ops[p.1]? with
 | none=>False
 | some o=>match o.guard with
  | none=>AU P o p.2 s K
  | some (j,want)=>match DW ops j with
   | some d=>match s.t.get d with
    | .val (.bool b)=>(b = want -> AU P o p.2 s K) /\ (b = !want -> K (.tup []) s.h)
    | .tup []=>K (.tup []) s.h
    | _=>False
   | none=>False
theorem Em {P:Program} {ops:Array Oper} {i:Nat} {c:Cj} {t:Tm} {h:List Ah} {d:List AD} {K:AV -> List Ah -> Prop} (hk:CD P ops (i,c) ⟨t,h,d⟩ K) :
  ∃ v h',K v h' /\ (∀ K',K' v h' -> CD P ops (i,c) ⟨t,h,d⟩ K') /\ (c = .free -> h' = h /\ ∀ h1 K',K' v h1 -> CD P ops (i,c) ⟨t,h1,d⟩ K') /\
   (c = .read -> h' = h /\ ∀ h1,Ai h h1 -> ∀ K',K' v h1 -> CD P ops (i,c) ⟨t,h1,d⟩ K') /\ (c = .upd -> Ai h h') /\
   (∀ id,c = .wr id -> ∃ b,h' = La h id b /\ ∀ h1,h1[id]? = h[id]? -> ∀ K',K' v (La h1 id b) -> CD P ops (i,c) ⟨t,h1,d⟩ K') /\
   (∀ ids,c = .look ids -> h' = h /\ ∀ h1:List Ah,(∀ i,ids.contains i = false -> h1[i]? = h[i]?) -> ∀ K',K' v h1 -> CD P ops (i,c) ⟨t,h1,d⟩ K'):=by
 unfold CD at *;simp only at hk ⊢
 split at hk
 ·exact hk.elim
 ·rename_i o ho
  split at hk
  ·exact PU hk
  ·rename_i j want hg
   split at hk
   ·rename_i dd hd
    split at hk
    ·rename_i b hb
     by_cases hbw:b = want
     ·obtain ⟨v,h',k1,k2,k3,k4,k5,k6,k7⟩:=PU (hk.1 hbw)
      have hno:¬ b = !want:=by cases b <;> cases want <;> simp_all
      exact ⟨v,h',k1,fun K' hK=>⟨fun _=>k2 K' hK,fun hh=>(hno hh).elim⟩,fun hc=>⟨(k3 hc).1,fun h1 K' hK=>⟨fun _=>(k3 hc).2 h1 K' hK,fun hh=>(hno hh).elim⟩⟩,
       fun hc=>⟨(k4 hc).1,fun h1 hs K' hK=>⟨fun _=>(k4 hc).2 h1 hs K' hK,fun hh=>(hno hh).elim⟩⟩,k5,
       fun id hc=>(let ⟨b,e1,e2⟩:=k6 id hc; ⟨b,e1,fun h1 he K' hK=>⟨fun _=>e2 h1 he K' hK,fun hh=>(hno hh).elim⟩⟩),
       fun ids hc=>⟨(k7 ids hc).1,fun h1 hs K' hK=>⟨fun _=>(k7 ids hc).2 h1 hs K' hK,fun hh=>(hno hh).elim⟩⟩⟩
     ·have hyes:b = !want:=by cases b <;> cases want <;> simp_all
      exact ⟨.tup [],h,hk.2 hyes,fun K' hK=>⟨fun hh=>(hbw hh).elim,fun _=>hK⟩,fun _=>⟨rfl,fun h1 K' hK=>⟨fun hh=>(hbw hh).elim,fun _=>hK⟩⟩,
       fun _=>⟨rfl,fun h1 hs K' hK=>⟨fun hh=>(hbw hh).elim,fun _=>hK⟩⟩,fun _=>.refl h,
       fun id _=>⟨none,rfl,fun h1 he K' hK=>⟨fun hh=>(hbw hh).elim,fun _=>hK⟩⟩,fun ids _=>⟨rfl,fun h1 hs K' hK=>⟨fun hh=>(hbw hh).elim,fun _=>hK⟩⟩⟩
    ·exact ⟨.tup [],h,hk,fun K' hK=>hK,fun _=>⟨rfl,fun h1 K' hK=>hK⟩,fun _=>⟨rfl,fun h1 hs K' hK=>hK⟩,fun _=>.refl h,fun id _=>⟨none,rfl,fun h1 he K' hK=>hK⟩,fun ids _=>⟨rfl,fun h1 hs K' hK=>hK⟩⟩
    ·exact hk.elim
   ·exact hk.elim
theorem WD {ops:Array Oper} {o:Oper} {t t1:Tm} {h:List Ah} {d d1:List AD} (he:∀ i ∈ o.looksAt ops,t.get i = t1.get i):∀ x ∈ o.op.operands,(⟨t,h,d⟩:St).ev x = (⟨t1,h,d1⟩:St).ev x:=by
 intro x hx
 cases x with
 | tmp i=>exact he i (List.mem_append_left _ (List.mem_filterMap.2 ⟨.tmp i,by simpa using hx,rfl⟩))
 | _=>rfl
theorem Fm {P:Program} {ops:Array Oper} {i:Nat} {c:Cj} {t t1:Tm} {h:List Ah} {d d1:List AD} {K:AV -> List Ah -> Prop} (he:∀ o,ops[i]? = some o -> ∀ j ∈ o.looksAt ops,t.get j = t1.get j) (hk:CD P ops (i,c) ⟨t,h,d⟩ K):CD P ops (i,c) ⟨t1,h,d1⟩ K:=by
 unfold CD at *;simp only at hk ⊢
 split at hk
 ·exact hk.elim
 ·rename_i o ho
  have hev:=WD (h:=h) (d:=d) (d1:=d1) (he o ho)
  split at hk
  ·exact Lm hev hk
  ·rename_i j want hg
   split at hk
   ·rename_i dd hd
    have hdd:t.get dd = t1.get dd:=he o ho dd (List.mem_append_right _ (by simp only [hg]; unfold DW at hd; rw [hd]; simp));rw [hdd] at hk
    split at hk
    ·exact ⟨fun hh=>Lm hev (hk.1 hh),hk.2⟩
    ·exact hk
    ·exact hk.elim
   ·exact hk.elim
def AO (P:Program) (ops:Array Oper):List (Nat × Cj) -> St -> (St -> Prop) -> Prop
 | [],s,K=>K s
 | p :: l,s,K=>CD P ops p s (fun v h=>AO P ops l ⟨s.t.BZ (BU ops p.1) v,h,s.d⟩ K)
structure Dl (s s':St):Prop where
 n:s.t.n = s'.t.n
 get:∀ i,s.t.get i = s'.t.get i
 h:s.h = s'.h
 d:s.d = s'.d
theorem Dl.refl (s:St):Dl s s:=⟨rfl,fun _=>rfl,rfl,rfl⟩
theorem Dl.symm {s s':St} (h:Dl s s'):Dl s' s:=⟨h.n.symm,fun i=>(h.get i).symm,h.h.symm,h.d.symm⟩
theorem Dl.trans {a b c:St} (h:Dl a b) (k:Dl b c):Dl a c:=⟨h.n.trans k.n,fun i=>(h.get i).trans (k.get i),h.h.trans k.h,h.d.trans k.d⟩
theorem Dl.put {s s':St} (hs:Dl s s') (dst:Option Tmp) (v:AV):Dl (s.put dst v) (s'.put dst v):=by
 cases dst with
 | none=>exact hs
 | some d=>exact ⟨by simp only [St.put,Tm.BZ,Tm.Iz]; exact hs.n,fun i=>by simp only [St.put,Tm.BZ,Tm.Fo,hs.n,hs.get],hs.h,hs.d⟩
theorem BR.same {F:Nat -> Prop} {M:Mem} {hb:List HB} {s s':St} {a:Act} (h:BR F M hb s a) (hs:Dl s s'):BR F M hb s' a :=
 ⟨⟨hs.n ▸ h.tm.1,fun i=>hs.get i ▸ h.tm.2 i⟩,hs.d ▸ h.df,hs.h ▸ h.hp,h.ok⟩
theorem AO.same {P:Program} {ops:Array Oper}:∀ (l:List (Nat × Cj)) {s s':St} {K:St -> Prop},(∀ s s',Dl s s' -> K s -> K s') -> Dl s s' -> AO P ops l s K -> AO P ops l s' K:=by
 intro l
 induction l with
 | nil=>exact fun hK hs hk=>hK _ _ hs hk
 | cons p l ih =>
  intro s s' K hK hs hk;obtain ⟨i,c⟩:=p;obtain ⟨t,h,d⟩:=s;obtain ⟨t',h',d'⟩:=s';obtain rfl:h = h':=hs.h;obtain rfl:d = d':=hs.d;simp only [AO] at hk ⊢;obtain ⟨v,h1,k1,k2,_⟩:=Em hk;refine Fm (fun o _ j _=>hs.get j) (k2 _ ?_);exact ih hK (Dl.put (s:=⟨t,h1,d⟩) (s':=⟨t',h1,d⟩) ⟨hs.n,hs.get,rfl,rfl⟩ _ _) k1
def clsWr:Cj -> Cj -> Bool
 | .wr a,.wr b=>a != b
 | .look ids,.wr b=>ids.contains b
 | .look _,.look _=>true
 | _,_=>false
theorem LB {h:List Ah} {id i:Nat} {b:Option Ah} (hne:i ≠ id):(La h id b)[i]? = h[i]?:=by
 cases b with
 | none=>rfl
 | some b=>exact List.getElem?_set_ne (Ne.symm hne)
theorem Vo {h:List Ah} {i j:Nat} {a b:Option Ah} (hne:i ≠ j):La (La h i a) j b = La (La h j b) i a:=by
 cases a <;> cases b <;> try rfl
 exact List.set_comm _ _ hne
def compat (ops:Array Oper) (x y:Nat × Cj):Bool :=
 (match ops[x.1]?,ops[y.1]? with
  | some a,some b=>a.apart ops b
  | _,_=>false) && (x.2 == .free || y.2 == .free || (x.2 == .read && (y.2 == .read || y.2 == .upd)) || clsWr x.2 y.2)
theorem YK (t:Tm) (h:List Ah) (d:List AD) (a b:Option Tmp) (x y:AV) (hab:∀ k,a = some k -> b ≠ some k):Dl ⟨(t.BZ a x).BZ b y,h,d⟩ ⟨(t.BZ b y).BZ a x,h,d⟩:=by
 cases a with
 | none=>exact .refl _
 | some i=>cases b with
  | none=>exact .refl _
  | some j =>
   have hne:i ≠ j:=fun h=>hab i rfl (by rw [h]);refine ⟨by simp only [Tm.BZ,Tm.Iz],fun k=>?_,rfl,rfl⟩;simp only [Tm.BZ,Tm.Fo,Tm.Iz]
   by_cases h1:i = k <;> by_cases h2:j = k <;> simp_all
theorem Mn {t:Tm} {dst:Option Tmp} {v:AV} {j:Nat} (hn:∀ k,dst = some k -> k ≠ j):(t.BZ dst v).get j = t.get j:=by
 cases dst with
 | none=>rfl
 | some k=>simp only [Tm.BZ,Tm.Fo]; rw [if_neg (fun hh=>hn k rfl hh.1)]
theorem AO.swap {P:Program} {ops:Array Oper} {x y:Nat × Cj} {l:List (Nat × Cj)} {s:St} {K:St -> Prop} (hK:∀ s s',Dl s s' -> K s -> K s') (hc:compat ops x y = true) (hk:AO P ops (x :: y :: l) s K):AO P ops (y :: x :: l) s K:=by
 obtain ⟨i,c⟩:=x;obtain ⟨j,c'⟩:=y;obtain ⟨t,h,d⟩:=s;simp only [compat,Bool.and_eq_true] at hc;obtain ⟨hap,hcl⟩:=hc
 cases hoi:ops[i]? with
 | none=>simp [hoi] at hap
 | some oi=>cases hoj:ops[j]? with
  | none=>simp [hoi,hoj] at hap
  | some oj =>
   simp only [hoi,hoj] at hap;obtain ⟨a1,a2,a3⟩:=Oper.apart_spec hap;have hdi:BU ops i = oi.dst:=by simp [BU,hoi]
   have hdj:BU ops j = oj.dst:=by simp [BU,hoj]
   simp only [AO] at hk ⊢;obtain ⟨vx,hx,k1,k2,k3,k4,k5,k6,k7⟩:=Em hk;obtain ⟨vy,hy,q1,q2,q3,q4,q5,q6,q7⟩:=Em k1;have hcy:∀ {h0:List Ah} {K':AV -> List Ah -> Prop},CD P ops (j,c') ⟨t.BZ (BU ops i) vx,h0,d⟩ K' -> CD P ops (j,c') ⟨t,h0,d⟩ K' :=
    fun hh=>Fm (fun o ho m hm=>by
     rw [hoj] at ho; cases ho;exact Mn fun k hk' he=>a1 k (by rw [<- hdi]; exact hk') (he ▸ hm)) hh
   have hcx:∀ {h0:List Ah} {K':AV -> List Ah -> Prop},CD P ops (i,c) ⟨t,h0,d⟩ K' -> CD P ops (i,c) ⟨t.BZ (BU ops j) vy,h0,d⟩ K' :=
    fun hh=>Fm (fun o ho m hm=>by
     rw [hoi] at ho; cases ho;exact (Mn fun k hk' he=>a3 k (by rw [<- hdj]; exact hk') (he ▸ hm)).symm) hh
   have hfin:∀ hf:List Ah,AO P ops l ⟨(t.BZ (BU ops i) vx).BZ (BU ops j) vy,hf,d⟩ K -> AO P ops l ⟨(t.BZ (BU ops j) vy).BZ (BU ops i) vx,hf,d⟩ K :=
    fun hf hr=>AO.same l hK (YK t hf d _ _ vx vy fun k hk'=>by rw [hdi] at hk'; rw [hdj]; exact a2 k hk') hr
   simp only [Bool.or_eq_true,Bool.and_eq_true,beq_iff_eq] at hcl
   rcases hcl with ((hfx | hfy) | ⟨hrx,hry⟩) | hw
   ·obtain ⟨e1,k3⟩:=k3 hfx
    rw [e1] at q2;exact hcy (q2 _ (hcx (k3 hy _ (hfin hy q1))))
   ·obtain ⟨e1,q3⟩:=q3 hfy
    rw [e1] at q1;exact hcy (q3 h _ (hcx (k2 _ (hfin hx q1))))
   ·obtain ⟨e1,k4⟩:=k4 hrx
    rw [e1] at q2;refine hcy (q2 _ (hcx (k4 hy ?_ _ (hfin hy q1))))
    rcases hry with hry | hry
    ·rw [(q4 hry).1,e1]; exact .refl h
    ·have:=q5 hry; rwa [e1] at this
   ·cases c <;> cases c' <;> simp only [clsWr,Bool.false_eq_true,bne_iff_ne,ne_eq] at hw
    ·rename_i a b
     obtain ⟨oa,e1,k6⟩:=k6 a rfl;obtain ⟨ob,e2,q6⟩:=q6 b rfl;have hb:h[b]? = hx[b]?:=by rw [e1,LB (Ne.symm hw)]
     refine hcy (q6 h hb _ (hcx (k6 _ (LB hw) _ (hfin _ ?_))));rw [<- Vo hw,<- e1,<- e2];exact q1
    ·rename_i ids b
     obtain ⟨e1,k7⟩:=k7 ids rfl;obtain ⟨ob,e2,q6⟩:=q6 b rfl;rw [e1] at q6 e2;refine hcy (q6 h rfl _ (hcx (k7 _ (fun i hi=>LB (fun he=>by rw [he,hw] at hi; cases hi)) _ (hfin _ ?_))));rw [<- e2];exact q1
    ·rename_i ids ids'
     obtain ⟨e1,k7⟩:=k7 ids rfl;obtain ⟨e2,q7⟩:=q7 ids' rfl;rw [e1] at q7 e2;refine hcy (q7 h (fun _ _=>rfl) _ (hcx (k7 _ (fun _ _=>rfl) _ (hfin _ ?_))));rw [<- e2];exact q1
theorem AO.pull {P:Program} {ops:Array Oper} {e:Nat × Cj} {q:List (Nat × Cj)} {K:St -> Prop} (hK:∀ s s',Dl s s' -> K s -> K s'):∀ (p:List (Nat × Cj)) {s:St},(∀ x ∈ p,compat ops x e = true) -> AO P ops (p ++ e :: q) s K -> AO P ops (e :: (p ++ q)) s K:=by
 intro p
 induction p with
 | nil=>exact fun _ hk=>hk
 | cons x p ih =>
  intro s hc hk;refine AO.swap hK (hc x List.mem_cons_self) ?_;obtain ⟨i,c⟩:=x;obtain ⟨t,h,d⟩:=s;simp only [List.cons_append,AO] at hk;obtain ⟨v,h',k1,k2,_⟩:=Em hk
  show CD P ops (i,c) ⟨t,h,d⟩ _
  exact k2 _ (ih (fun y hy=>hc y (List.mem_cons_of_mem _ hy)) k1)
end Go.PM

namespace Go.PM
variable [AA]
theorem ZW {P:Program} {f:FuncId} {args:List AV} {s:St} {dst:Option Tmp} {K:St -> Prop} {Φ:AX -> St -> Prop} (h:AI P f args (fun v=>K ⟨s.t.BZ dst v,s.h,s.d⟩)):Ag P f args s.h (Eu s dst K Φ):=by
 obtain ⟨hp,v,k1,k2⟩:=h;exact k1.call hp fun x hx=>by subst hx; exact k2
theorem M4 {P:Program} {o:Oper} {s:St} {K:St -> Prop} {Φ:AX -> St -> Prop} (hk:CV P o s (fun v h=>K ⟨s.t.BZ o.dst v,h,s.d⟩)):BP P o s K Φ:=by
 unfold CV at hk;unfold BP
 split at hk
 ·rename_i hop; (try simp only [hop]); exact hk
 ·rename_i hop; (try simp only [hop]); exact hk
 ·rename_i hop; (try simp only [hop]); exact hk
 ·rename_i hop; (try simp only [hop]); exact hk
 ·rename_i hop; (try simp only [hop]); exact hk
 ·rename_i c hop
  (try simp only [hop])
  split at hk
  ·rename_i hc; (try simp only [hc]); exact hk
  ·rename_i hc; (try simp only [hc]); exact hk
  ·rename_i b h1 h2 hc
   (try simp only [hc])
   exact hk
  ·rename_i f hc
   (try simp only [hc])
   split at hk
   ·rename_i g caps hf
    simp only [hf]
    rcases hk.2 with hk2 | ⟨v,h2,k1,k2⟩
    ·refine Ag.args hk.1 (K3 _ _ hk2 fun args' h' hh=>?_)
     obtain ⟨v,h2,k1,k2⟩:=hh;exact k1.mono fun r h'' ⟨e1,e2⟩=>by subst e1 e2; exact k2
    ·exact k1.mono fun r h'' ⟨e1,e2⟩=>by subst e1 e2; exact k2
   ·rename_i g first hf
    simp only [hf]
    rcases hk.2 with hk2 | ⟨v,h2,k1,k2⟩
    ·refine Ag.args hk.1 (K3 _ _ hk2 fun args' h' hh=>?_)
     obtain ⟨v,h2,k1,k2⟩:=hh;exact k1.mono fun r h'' ⟨e1,e2⟩=>by subst e1 e2; exact k2
    ·exact k1.mono fun r h'' ⟨e1,e2⟩=>by subst e1 e2; exact k2
   ·exact hk.elim
  ·exact hk.elim
 ·rename_i hop; (try simp only [hop]); exact hk
 ·rename_i hop; (try simp only [hop]); exact hk
 ·rename_i hop; (try simp only [hop]); exact hk
 ·rename_i hop; (try simp only [hop]); exact hk
 ·rename_i hop; (try simp only [hop]); exact hk
 ·rename_i hop; simp only [hop]; exact hk
 ·rename_i hop; (try simp only [hop]); exact hk
 ·rename_i op h1 h2 h3 h4 h5 h6 h7 h8 h9 h10 h11 h12 h13
  have hn:∀ it isS,o.op ≠ .next it isS:=fun it isS he=>by
   have:=hk.2; rw [he] at this; exact this
  have hb:∀ t ps,o.op ≠ .build t ps:=fun t ps he=>by
   have:=hk.2; rw [he] at this; exact this
  have hp:∀ x,o.op ≠ .panic x:=fun x he=>by
   have:=hk.2; rw [he] at this; exact this
  split
  ·rename_i t he; exact absurd he (h1 t)
  ·rename_i t x he; exact absurd he (h2 t x)
  ·rename_i t ps he; exact absurd he (hb t ps)
  ·rename_i t n ps he; exact absurd he (h3 t n ps)
  ·rename_i t p x he; exact absurd he (h4 t p x)
  ·rename_i t l c he; exact absurd he (h5 t l c)
  ·rename_i x he; exact absurd he (hp x)
  ·rename_i t m k c he; exact absurd he (h7 t m k c)
  ·rename_i t m k x he; exact absurd he (h8 t m k x)
  ·rename_i t m k x he; exact absurd he (h9 t m k x)
  ·rename_i t r he; exact absurd he (h10 t r)
  ·rename_i t x he; exact absurd he (h11 t x)
  ·rename_i it isS he; exact absurd he (hn it isS)
  ·rename_i it he; exact absurd he (h12 it)
  ·rename_i c he; exact absurd he (h6 c)
  ·rename_i a b x he; exact absurd he (h13 a b x)
  ·exact hk.2
theorem KM {P:Program} {o:Oper} {s:St} {K:St -> Prop} {Φ:AX -> St -> Prop} (hk:FB P s o.op (fun v=>K ⟨s.t.BZ o.dst v,s.h,s.d⟩)) (hc:∀ c,o.op ≠ .call c):BP P o s K Φ:=by
 unfold BP
 split
 ·rename_i t he; rw [he] at hk; exact hk.elim
 ·rename_i t he; rw [he] at hk; exact hk.elim
 ·rename_i t he; rw [he] at hk; exact hk.elim
 ·rename_i t he; rw [he] at hk; exact hk.elim
 ·rename_i t he; rw [he] at hk; exact hk.elim
 ·rename_i t he; rw [he] at hk; exact hk.elim
 ·rename_i t he; rw [he] at hk; exact hk.elim
 ·rename_i t he; rw [he] at hk; exact hk.elim
 ·rename_i t he; rw [he] at hk; exact hk.elim
 ·rename_i t he; rw [he] at hk; exact hk.elim
 ·rename_i t he; rw [he] at hk; exact hk.elim
 ·rename_i t he; rw [he] at hk; exact hk.elim
 ·rename_i t he; rw [he] at hk; exact hk.elim
 ·rename_i t he; rw [he] at hk; exact hk.elim
 ·rename_i c he; exact absurd he (hc c)
 ·rename_i a b x he; rw [he] at hk; exact QE hk
 ·exact hk
theorem I5 {P:Program} {o:Oper} {c:Cj} {s:St} {K:St -> Prop} {Φ:AX -> St -> Prop} (hk:AU P o c s (fun v h=>K ⟨s.t.BZ o.dst v,h,s.d⟩)):BP P o s K Φ:=by
 unfold AU at hk
 cases c with
 | free =>
  simp only at hk
  split at hk
  ·rename_i hop; unfold BP; simp only [hop]; exact hk
  ·rename_i hop; unfold BP; simp only [hop]; exact Mt hk
  ·rename_i c hop
   unfold BP;simp only [hop]
   split at hk
   ·rename_i f hc
    simp only [hc]
    split at hk
    ·rename_i hf; simp only [hf]; exact ZW hk
    ·exact hk.elim
   ·exact hk.elim
  ·rename_i hop; unfold BP; simp only [hop]; exact hk
  ·rename_i op tt x y ty hop
   refine KM ?_ (fun c he=>by rw [hop] at he; cases he);rw [hop]
   split at hk
   ·rename_i hn
    unfold Qu at hk;unfold FB;simp only [if_pos hn]
    split at hk
    ·split at hk
     ·rename_i hb; exact Xp hb hk
     ·exact hk.elim
    ·split at hk
     ·rename_i hb; exact Xp hb hk
     ·exact hk.elim
    ·exact hk.elim
   ·exact hk
  ·rename_i h1 h2 h3 h4 h5
   exact KM hk.2 fun c he=>absurd he (h3 c)
 | read =>
  simp only at hk
  split at hk
  ·rename_i c hop
   split at hk
   ·rename_i f hc
    unfold BP;simp only [hop,hc]
    split at hk
    ·rename_i hf
     simp only [hf];obtain ⟨v,k1,k2⟩:=hk;refine (k1 s.h (.refl _)).mono ?_;rintro r h' ⟨rfl,rfl⟩;exact k2
    ·exact hk.elim
   ·exact hk.elim
   ·exact hk.elim
   ·rename_i b h1 h2 hc
    have h3:=hk.2;unfold FB at h3;simp only [hop,hc] at h3;unfold BP;simp only [hop,hc];exact h3
   ·exact hk.elim
  ·rename_i h1
   exact KM hk.2.2 fun c he=>absurd he (h1 c)
 | upd=>exact M4 (heapA_mono hk fun v h hh=>hh.2)
 | set=>exact M4 hk
 | wr id =>
  simp only at hk
  split at hk
  ·rename_i hop; unfold BP; simp only [hop]; exact hk.2
  ·exact hk.elim
 | look ids =>
  simp only at hk
  split at hk
  ·rename_i t p hop
   refine KM ?_ (fun c he=>by rw [hop] at he; cases he);rw [hop];exact hk.2
  ·exact hk.elim
where
 heapA_mono {P:Program} {o:Oper} {s:St} {K K':AV -> List Ah -> Prop} (hk:CV P o s K) (hm:∀ v h,K v h -> K' v h):CV P o s K':=by
  obtain ⟨v,h',k1,k2⟩:=Jz hk;exact k2 _ (hm _ _ k1)
def reachB (ops:Array Oper):Nat -> Nat -> Nat -> Bool
 | 0,_,_=>false
 | f + 1,x,i=>match ops[i]? with
  | some o=>o.after.any fun e=>Region.binds .any e && (e.on == x || (decide (x < e.on) && reachB ops f x e.on))
  | none=>false
def E8 (ops:Array Oper) (x y:Nat × Cj):Bool:=reachB ops ops.size x.1 y.1 || compat ops x y
def EO (ops:Array Oper) (π:List (Nat × Cj)):Bool :=
 decide (π.map (·.1)).Nodup && (List.range ops.size).all (fun i=>(π.map (·.1)).contains i) && π.all (fun p=>decide (p.1 < ops.size)) && decide (π.Pairwise fun x y=>E8 ops x y = true) &&
  (List.range ops.size).all fun i=>match ops[i]? with
   | some o=>o.after.all fun e=>!Region.binds .any e || decide (e.on < i)
   | none=>true
def Om (ops:Array Oper) (listed:Array Bool):Prop:=∀ i o,ops[i]? = some o -> listed.getD i true = true -> ∀ e ∈ o.after,Region.binds .any e = true -> listed.getD e.on false = true
theorem CC {l:Array Bool} {i:Nat} (h:i < l.size):l.getD i true = l.getD i false:=by simp [Array.getD_eq_getD_getElem?,h]
theorem Co {ops:Array Oper} {listed:Array Bool} (hs:listed.size = ops.size) (hc:Om ops listed):∀ (f x i:Nat) (o:Oper),ops[i]? = some o -> (∀ e ∈ o.after,Region.binds .any e = true -> listed.getD e.on false = true) -> reachB ops f x i = true -> listed.getD x false = true:=by
 intro f
 induction f with
 | zero=>intro x i o _ _ h; cases h
 | succ f ih =>
  intro x i o ho hall h;simp only [reachB,ho,Array.any_eq_true'] at h;obtain ⟨e,he,h⟩:=h;simp only [Bool.and_eq_true,Bool.or_eq_true,beq_iff_eq] at h;obtain ⟨hb,h⟩:=h;have h:e.on = x \/ reachB ops f x e.on = true:=h.imp id (fun hh=>hh.2);have hl:=hall e he hb
  rcases h with rfl | h
  ·exact hl
  ·have hlt:e.on < listed.size:=by
    rcases Nat.lt_or_ge e.on listed.size with h' | h'
    ·exact h'
    ·simp [Array.getD_eq_getD_getElem?,Array.getElem?_eq_none h'] at hl
   have hoe:ops[e.on]? = some (ops[e.on]'(by omega)):=Array.getElem?_eq_getElem _;exact ih x e.on _ hoe (hc e.on _ hoe (by rw [CC hlt]; exact hl)) h
structure Left (ops:Array Oper) (listed:Array Bool) (l:List (Nat × Cj)):Prop where
 size:listed.size = ops.size
 closed:Om ops listed
 nodup:(l.map (·.1)).Nodup
 mem:∀ i,i ∈ l.map (·.1) ↔ i < ops.size /\ listed.getD i true = false
 pairs:l.Pairwise fun x y=>E8 ops x y = true
 back:∀ (i:Nat) (o:Oper),ops[i]? = some o -> ∀ e ∈ o.after,Region.binds .any e = true -> e.on < i
theorem Left.ready {ops:Array Oper} {listed:Array Bool} {l:List (Nat × Cj)} (hl:Left ops listed l) (hne:l ≠ []):Region.ready .any ops listed ≠ []:=by
 have hex:∃ n,n ∈ l.map (·.1):=by
  cases l with
  | nil=>exact absurd rfl hne
  | cons p l=>exact ⟨p.1,by simp⟩
 obtain ⟨n,hn,hmin⟩:=least hex;obtain ⟨hlt,hun⟩:=(hl.mem n).1 hn;have hon:ops[n]? = some ops[n]:=Array.getElem?_eq_getElem hlt;have:n ∈ Region.ready .any ops listed:=by
  rw [mem_ready];refine ⟨hun,_,hon,fun e he hb=>?_⟩;have hlt':=hl.back n _ hon e he hb
  cases hd:listed.getD e.on false with
  | true=>rfl
  | false =>
   have hm:e.on ∈ l.map (·.1):=(hl.mem e.on).2 ⟨by omega,by rw [CC (by rw [hl.size]; omega)]; exact hd⟩;have:=hmin _ hm;omega
 intro he;rw [he] at this
 cases this
theorem J7 {P:Program} {F:Nat -> Prop} {M0:Mem} {hb0:List HB} {ops:Array Oper} {Φ:AX -> St -> Prop} (hK:∀ s s',Dl s s' -> Φ .normal s -> Φ .normal s') (ro:Option Nat) :
  ∀ (k:Nat) (l:List (Nat × Cj)) (listed:Array Bool) (M:Mem) (hb:List HB) (s:St) (a:Act),l.length = k -> Left ops listed l -> Gu F M0 M -> Bf hb0 hb -> BR F M hb s a -> AO P ops l s (Φ .normal) ->
  wpAnyIn (AY ro) 0 P .any ops (Dx F M0 hb0 Φ) k listed a M.w:=by
 intro k
 induction k with
 | zero =>
  intro l listed M hb s a hlen hL hG hH hs hk;obtain rfl:=List.eq_nil_of_length_eq_zero hlen;refine ⟨?_,.normal,s,M,hb,hk,trivial,rfl,hs,hG,hH⟩;rw [List.eq_nil_iff_forall_not_mem];intro i hi;obtain ⟨h1,o,ho,_⟩:=(mem_ready).1 hi;have:i < ops.size:=(Array.getElem?_eq_some_iff.1 ho).1;have:=(hL.mem i).2 ⟨this,h1⟩;simp at this
 | succ k ih =>
  intro l listed M hb s a hlen hL hG hH hs hk;have hne:l ≠ []:=fun h=>by rw [h] at hlen; cases hlen
  refine ⟨fun h=>absurd h (hL.ready hne),fun i hi=>?_⟩;obtain ⟨hun,o,ho,hall⟩:=(mem_ready).1 hi;have hilt:i < ops.size:=(Array.getElem?_eq_some_iff.1 ho).1;obtain ⟨⟨i',c⟩,hmem,rfl⟩:=List.mem_map.1 ((hL.mem i).2 ⟨hilt,hun⟩);obtain ⟨p,q,rfl⟩:=List.append_of_mem hmem;simp only at ho hall hun hilt hi ⊢;have hpc:∀ x ∈ p,compat ops x (i',c) = true:=by
   intro x hx;have hpair:E8 ops x (i',c) = true:=by
    have:=List.pairwise_append.1 hL.pairs;exact this.2.2 x hx _ List.mem_cons_self
   simp only [E8,Bool.or_eq_true] at hpair
   rcases hpair with h | h
   ·have h1:=Co hL.size hL.closed _ _ _ o ho hall h
    have h2:=(hL.mem x.1).1 (List.mem_map.2 ⟨x,List.mem_append_left _ hx,rfl⟩);rw [CC (by rw [hL.size]; exact h2.1)] at h2;rw [h2.2] at h1;cases h1
   ·exact h
  have hrun:=AO.pull hK p hpc hk;have Cf:∀ j,(listed.setIfInBounds i' true).getD j true = if i' = j then true else listed.getD j true:=by
   intro j;rw [Array.getD_eq_getD_getElem?,Array.getElem?_setIfInBounds]
   by_cases hij:i' = j
   ·subst hij; simp [hL.size,hilt]
   ·simp [hij,Array.getD_eq_getD_getElem?]
  have hset':∀ j,listed.getD j false = true -> (listed.setIfInBounds i' true).getD j false = true:=by
   intro j hj;rw [Array.getD_eq_getD_getElem?,Array.getElem?_setIfInBounds]
   by_cases hij:i' = j
   ·subst hij; simp [hL.size,hilt]
   ·simpa [hij,Array.getD_eq_getD_getElem?] using hj
  have hnd:=hL.nodup;have hperm:(p ++ (i',c) :: q).map (·.1) = p.map (·.1) ++ i' :: q.map (·.1):=by simp
  rw [hperm] at hnd;have hnotin:i' ∉ (p ++ q).map (·.1):=by
   have:=List.nodup_append.1 hnd;rw [List.map_append,List.mem_append];rintro (h | h)
   ·exact this.2.2 _ h _ List.mem_cons_self rfl
   ·exact (List.nodup_cons.1 this.2.1).1 h
  have hL':Left ops (listed.setIfInBounds i' true) (p ++ q):=by
   refine ⟨by simp [hL.size],fun j oj hj hlj e he hb=>?_,?_,fun j=>?_,?_,hL.back⟩
   ·rw [Cf] at hlj
    by_cases hij:i' = j
    ·subst hij; rw [ho] at hj; cases hj
     exact hset' _ (hall e he hb)
    ·rw [if_neg hij] at hlj
     exact hset' _ (hL.closed j oj hj hlj e he hb)
   ·rw [List.map_append]
    exact (List.Sublist.append (List.Sublist.refl _) (List.sublist_cons_self _ _)).nodup hnd
   ·rw [Cf]
    have h1:=hL.mem j;rw [hperm] at h1
    by_cases hij:i' = j
    ·subst hij
     simp only [if_true];exact ⟨fun h=>absurd h hnotin,fun h=>by cases h.2⟩
    ·rw [if_neg hij,<- h1,List.map_append]
     simp only [List.mem_append,List.mem_cons];constructor
     ·rintro (h | h)
      ·exact .inl h
      ·exact .inr (.inr h)
     ·rintro (h | h | h)
      ·exact .inl h
      ·exact absurd h.symm hij
      ·exact .inr h
   ·exact hL.pairs.sublist (List.Sublist.append (List.Sublist.refl _) (List.sublist_cons_self _ _))
  have hlen':(p ++ q).length = k:=by simp at hlen ⊢; omega
  have hnext:∀ (s':St) (M':Mem) (hb':List HB) (a':Act),AO P ops (p ++ q) s' (Φ .normal) -> BR F M' hb' s' a' -> Gu F M M' -> Bf hb hb' -> wpAnyIn (AY ro) 0 P .any ops (Dx F M0 hb0 Φ) k (listed.setIfInBounds i' true) a' M'.w :=
   fun s' M' hb' a' k1 k2 k3 k4=>ih (p ++ q) _ M' hb' s' a' hlen' hL' (hG.trans k3) (hH.trans k4) k2 k1
  have hdst:BU ops i' = o.dst:=by simp [BU,ho]
  simp only [AO,hdst] at hrun;unfold CD at hrun;simp only [ho] at hrun;unfold wpOpIn;simp only [ho];have hop:AU P o c s (fun v h=>AO P ops (p ++ q) ⟨s.t.BZ o.dst v,h,s.d⟩ (Φ .normal)) -> o.wpIn (AY ro) 0 P a M.w (wpAnyIn (AY ro) 0 P .any ops (Dx F M0 hb0 Φ) k (listed.setIfInBounds i' true)) (Dx F M0 hb0 Φ):=fun h =>
   DM (Φ:=fun _ _=>False) ro hs (I5 (K:=fun s'=>AO P ops (p ++ q) s' (Φ .normal)) h) hnext (fun x v s' M' hb' k1=>k1.elim)
  split at hrun
  ·rename_i hg
   simp only [Region.wanted,hg,if_true];exact hop hrun
  ·rename_i j want hg
   split at hrun
   ·rename_i d hd
    split at hrun
    ·rename_i b hbv
     rw [Ei hs.tm hg hd hbv]
     by_cases hbw:b = want
     ·simp only [hbw,beq_self_eq_true,if_true]
      exact hop (hrun.1 hbw)
     ·have:(b == want) = false:=by simpa using hbw
      simp only [this,Bool.false_eq_true,if_false];refine ⟨fun _ _=>trivial,hnext _ M hb _ (hrun.2 ?_) (hs.put o.dst CX) (.refl _ _) (.refl _)⟩
      cases b <;> cases want <;> simp_all
    ·rename_i hbv
     rw [Eg hs.tm hg hd hbv];simp only [Bool.false_eq_true,if_false];exact ⟨fun _ _=>trivial,hnext _ M hb _ hrun (hs.put o.dst CX) (.refl _ _) (.refl _)⟩
    ·exact hrun.elim
   ·exact hrun.elim
theorem Aa.acr {P:Program} {rd:Option Nat} {s:St} {Φ:AX -> St -> Prop} {id:Nat} {ops:Array Oper} (π:List (Nat × Cj)) (hm:P.follows .mixedOrders = true) (hok:EO ops π = true) (h:AO P ops π s (Φ .normal))
  (hK:∀ s s',Dl s s' -> Φ .normal s -> Φ .normal s'):Aa P rd (.region id ops true) s Φ:=by
 intro F M hb a ro hs hr;refine wpIn_region_any hm ?_;simp only [EO,Bool.and_eq_true,decide_eq_true_eq] at hok;obtain ⟨⟨⟨⟨h1,h2⟩,h3⟩,h4⟩,h5⟩:=hok;have hL:Left ops (Array.replicate ops.size false) π:=by
  refine ⟨by simp,fun i o ho hl=>?_,h1,fun i=>?_,h4,fun i o ho e he hb=>?_⟩
  ·have:i < ops.size:=(Array.getElem?_eq_some_iff.1 ho).1
   simp [Array.getD_eq_getD_getElem?,this] at hl
  ·constructor
   ·intro hi
    obtain ⟨p,hp,rfl⟩:=List.mem_map.1 hi;have:=List.all_eq_true.1 h3 p hp;simp only [decide_eq_true_eq] at this;exact ⟨this,by simp [Array.getD_eq_getD_getElem?,this]⟩
   ·rintro ⟨hi,_⟩
    have:=List.all_eq_true.1 h2 i (List.mem_range.2 hi)
    simpa using this
  ·have hlt:i < ops.size:=(Array.getElem?_eq_some_iff.1 ho).1
   have:=List.all_eq_true.1 h5 i (List.mem_range.2 hlt);rw [ho] at this;simp only [Array.all_eq_true'] at this;have h6:=this e he
   simpa [hb] using h6
 have hlen:π.length = ops.size:=by
  have hp:(π.map (·.1)).Perm (List.range ops.size):=by
   rw [List.perm_ext_iff_of_nodup h1 List.nodup_range];intro i;rw [hL.mem i,List.mem_range];exact ⟨fun h=>h.1,fun h=>⟨h,by simp [Array.getD_eq_getD_getElem?,h]⟩⟩
  have:=hp.length_eq
  simpa using this
 have hA:Ch M M.drew:=Ch.drew M;have hG:=hA.gu hs.ok;exact J7 (M0:=M) (hb0:=hb) (F:=F) (P:=P) (ops:=ops) hK ro ops.size π (Array.replicate ops.size false) M.drew hb s a hlen hL hG (.refl _)
  ⟨hs.tm.mono hG.le (.refl _),hs.df.mono hG.le (.refl _),hs.hp.Lw hA hs.ok,hs.ok.drew⟩ h
theorem Aa.drawn {P:Program} {rd:Option Nat} {s:St} {Φ:AX -> St -> Prop} {id:Nat} {ops:Array Oper} (π:List (Nat × Cj)) (hm:P.follows .mixedOrders = true) (hok:EO ops π = true) (h:AO P ops π s (Φ .normal)) :
  Aa P rd (.region id ops true) s Φ:=by
 have h1:Aa P rd (.region id ops true) s (fun x s'=>∃ s0,Dl s0 s' /\ Φ x s0):=by
  refine Aa.acr π hm hok ?_ (fun s s' hs ⟨s0,h0,hk⟩=>⟨s0,h0.trans hs,hk⟩);exact runK_mono π (fun s hk=>⟨s,.refl s,hk⟩) h
 intro F M hb a ro hs hr;refine wpIn_mono (h1 F M hb a ro hs hr) ?_;rintro e a' w' ⟨x,s',M',hb',⟨s0,h0,hk⟩,r1,r2,r3,r4,r5⟩;exact ⟨x,s0,M',hb',hk,r1,r2,r3.same h0.symm,r4,r5⟩
where
 runK_mono {P:Program} {ops:Array Oper}:∀ (l:List (Nat × Cj)) {s:St} {K K':St -> Prop},(∀ s,K s -> K' s) -> AO P ops l s K -> AO P ops l s K':=by
  intro l
  induction l with
  | nil=>exact fun h hk=>h _ hk
  | cons p l ih =>
   intro s K K' h hk;obtain ⟨i,c⟩:=p;obtain ⟨t,hh,d⟩:=s;obtain ⟨v,h',k1,k2,_⟩:=Em hk;exact k2 _ (ih h k1)
end Go.PM

namespace Go.PM
variable [AA]
theorem Bv.aaz {M:Mem} {hb:List HB} {t:Tm} {tmps:Array Value} (h:Bv M hb t tmps) (i:Nat) {x:AV} (hx:Al M hb x (tmps.getD i undef)):Bv M hb (t.put i x) tmps:=by
 refine ⟨by rw [Tm.Iz]; exact h.1,fun j=>?_⟩;rw [Tm.Fo]
 split
 ·rename_i hj; rw [<- hj.1]; exact hx
 ·exact h.2 j
theorem Aa.Kz {P:Program} {rd:Option Nat} {c:Code} {s:St} {Φ:AX -> St -> Prop} (i sz:Nat) (hi:s.t.get i = .sl true []) (h:Aa P rd c ⟨s.t.put i (.hsl s.h.length 0 0 0),s.h ++ [.row true 0 sz []],s.d⟩ Φ):Aa P rd c s Φ:=by
 intro F M hb a ro hs hr;have hv:=hs.tm.2 i;rw [hi] at hv;obtain ⟨hb1,p1,p2,p3⟩:=Go.PM.Kz hs.hp hs.ok hv sz;refine wpIn_mono (h F M hb1 a ro ⟨(hs.tm.mono (.refl _) p2).aaz i p3,hs.df.mono (.refl _) p2,p1,hs.ok⟩ (hr.mono p2)) fun _ _ _ hq=>hq.trans (.refl _ _) p2
theorem Aa.freeze {P:Program} {rd:Option Nat} {c:Code} {s:St} {Φ:AX -> St -> Prop} (i:Nat) (h:E0 s.h (s.t.get i) (fun x h'=>Aa P rd c ⟨s.t.put i x,h',s.d⟩ Φ)):Aa P rd c s Φ:=by
 intro F M hb a ro hs hr;obtain ⟨x,h',M',k1,k2,k3,k4,k5,k6⟩:=HW hs.hp hs.ok (hs.tm.2 i) h;have:=k1 F M' hb a ro ⟨(hs.tm.mono k6.le (.refl _)).aaz i k3.pure,hs.df.mono k6.le (.refl _),k4,k5⟩ hr;rw [k2] at this;exact wpIn_mono this fun _ _ _ hq=>hq.trans k6 (.refl _)
mutual
def AV.under (n:Nat):AV -> Bool
 | .hsl id _ _ _ | .ptr id _ | .eptr id _ _ _ | .yld id | .mp id=>decide (id < n)
 | .fn _ caps=>AZ n caps
 | .bnd _ first=>AZ n first
 | .iface _ x=>x.under n
 | .agg cs=>AZ n cs
 | .tup vs=>AZ n vs
 | _=>true
def AZ (n:Nat):List AV -> Bool
 | []=>true
 | x :: xs=>x.under n && AZ n xs
end
theorem C7 {n:Nat}:∀ {l:List AV} {i:Nat} {x:AV},AZ n l = true -> l[i]? = some x -> x.under n = true:=by
 intro l
 induction l with
 | nil=>intro i x _ h; simp at h
 | cons y l ih =>
  intro i x h hx;simp only [AZ,Bool.and_eq_true] at h
  cases i with
  | zero=>simp at hx; subst hx; exact h.1
  | succ i=>exact ih h.2 (by simpa using hx)
theorem D0 {hb:List HB} {n id:Nat} {e:HB} (h:hb[id]? = some e) (hlt:id < n):(hb.take n)[id]? = some e:=by rw [List.getElem?_take,if_pos hlt]; exact h
theorem Al.take {M:Mem} {hb:List HB} {x:AV} {v:Value} {n:Nat} (h:Al M hb x v):x.under n = true -> Al M (hb.take n) x v:=by
 induction h with
 | dead=>exact fun _=>.dead
 | val h=>exact fun _=>.val h
 | nil=>exact fun _=>.nil
 | sl sz h1 h2 h3 h4 h5 h6 _=>exact fun _=>.sl sz h1 h2 h3 h4 h5 h6
 | hsl e h1 h2 h3 h4 h5=>exact fun hb=>.hsl e (D0 h1 (by simpa [AV.under] using hb)) h2 h3 h4 h5
 | ptr e h1 h2=>exact fun hb=>.ptr e (D0 h1 (by simpa [AV.under] using hb)) h2
 | eptr e h1 h2 h3 h4 h5=>exact fun hb=>.eptr e (D0 h1 (by simpa [AV.under] using hb)) h2 h3 h4 h5
 | cptr h1 h2 h3 _=>exact fun _=>.cptr h1 h2 h3
 | fn h1 h2 ih=>exact fun hb=>.fn h1 fun i c hc=>ih i c hc (C7 (by simpa [AV.under] using hb) hc)
 | yld e h1 h2=>exact fun hb=>.yld e (D0 h1 (by simpa [AV.under] using hb)) h2
 | iface h ih=>exact fun hb=>.iface (ih (by simpa [AV.under] using hb))
 | agg h1 h2 h3 ih=>exact fun hb=>.agg h1 h2 fun i c hc=>ih i c hc (C7 (by simpa [AV.under] using hb) hc)
 | tup h1 h2 ih=>exact fun hb=>.tup h1 fun i c hc=>ih i c hc (C7 (by simpa [AV.under] using hb) hc)
 | mp e h1 h2=>exact fun hb=>.mp e (D0 h1 (by simpa [AV.under] using hb)) h2
 | bnd h1 h2 ih=>exact fun hb=>.bnd h1 fun i c hc=>ih i c hc (C7 (by simpa [AV.under] using hb) hc)
 | cmp h1 h2 h3 h4 h5 h6 _ _=>exact fun _=>.cmp h1 h2 h3 h4 h5 h6
def Ji (n:Nat) (t:Tm):Bool:=t.l.all fun p=>p.2.under n
theorem So {n:Nat}:∀ {l:List (Nat × AV)} (i:Nat),(l.all fun p=>p.2.under n) = true -> (look l i).under n = true:=by
 intro l
 induction l with
 | nil=>intro i _; rfl
 | cons p l ih =>
  intro i h;obtain ⟨k,v⟩:=p;simp only [List.all_cons,Bool.and_eq_true] at h;simp only [look]
  cases Nat.beq k i with
  | true=>exact h.1
  | false=>exact ih i h.2
def Ah.under (n:Nat):Ah -> Bool
 | .cells cs=>AZ n cs
 | .loop _ t _ _ _ _ _=>Ji n t
 | .map kvs _ _=>kvs.all fun p=>p.2.under n
 | .iter Jb _ _ _=>decide (Jb < n)
 | _=>true
def AD.under (n:Nat):AD -> Bool
 | .mark id=>decide (id < n)
 | .call _ args caps=>AZ n args && AZ n caps
def keeps (t:Tm) (n:Nat):List (Nat × AV) -> Prop
 | []=>True
 | (k,v) :: l=>t.get k = v /\ v.under n = true /\ keeps t n l
def BI (n:Nat):List Ah -> List Ah -> Prop
 | _,[]=>True
 | [],_ :: _=>False
 | b :: h,b' :: h'=>(b' = .dead \/ (b' = b /\ b.under n = true)) /\ BI n h h'
def Gj (n:Nat) (d:List AD):Prop:=∀ x ∈ d,AD.under n x = true
structure DZ (s s':St):Prop where
 n:s'.t.n = s.t.n
 t:keeps s.t s'.h.length s'.t.l
 h:BI s'.h.length s.h s'.h
 d:s'.d = s.d
 db:Gj s'.h.length s.d
theorem Sp {t:Tm} {n:Nat}:∀ {l:List (Nat × AV)},keeps t n l -> ∀ i,look l i = .dead \/ (look l i = t.get i /\ (look l i).under n = true):=by
 intro l
 induction l with
 | nil=>exact fun _ i=>.inl rfl
 | cons p l ih =>
  obtain ⟨k,v⟩:=p;intro h i;obtain ⟨h1,h2,h3⟩:=h;simp only [look]
  cases hb:Nat.beq k i with
  | true=>obtain rfl:=Nat.eq_of_beq_eq_true hb; exact .inr ⟨h1.symm,h2⟩
  | false=>exact ih h3 i
theorem Sa {n:Nat}:∀ {h h':List Ah},BI n h h' -> h'.length <= h.length /\ ∀ (i:Nat) (b:Ah),h'[i]? = some b -> b = .dead \/ (h[i]? = some b /\ b.under n = true):=by
 intro h
 induction h with
 | nil =>
  intro h' hk
  cases h' with
  | nil=>exact ⟨Nat.le_refl _,fun i b hb=>by simp at hb⟩
  | cons=>exact hk.elim
 | cons b h ih =>
  intro h' hk
  cases h' with
  | nil=>exact ⟨Nat.zero_le _,fun i b hb=>by simp at hb⟩
  | cons b' h' =>
   obtain ⟨h1,h2⟩:=hk;obtain ⟨k1,k2⟩:=ih h2;refine ⟨by simp; exact k1,fun i x hx=>?_⟩
   cases i with
   | zero =>
    simp at hx; subst hx
    rcases h1 with h1 | ⟨h1,h3⟩
    ·exact .inl h1
    ·exact .inr ⟨by simp [h1],h1 ▸ h3⟩
   | succ i=>exact k2 i x (by simpa using hx)
theorem Bv.take {M:Mem} {hb:List HB} {t:Tm} {tmps:Array Value} {n:Nat} (h:Bv M hb t tmps) (hb':Ji n t = true):Bv M (hb.take n) t tmps :=
 ⟨h.1,fun i=>(h.2 i).take (So i hb')⟩
theorem Cr.take {M:Mem} {hb:List HB} {b:Ah} {e:HB} {n:Nat} (h:Cr M hb b e) (hb':b.under n = true):Cr M (hb.take n) b e:=by
 cases b with
 | dead=>trivial
 | cells cs =>
  obtain ⟨h1,h2,c,h3,h4⟩:=h;exact ⟨h1,h2,c,h3,h4.1,fun j x hx=>⟨(h4.2 j x hx).1,(h4.2 j x hx).2.take (C7 hb' hx)⟩⟩
 | row mt ver sz es=>exact h
 | loop fn t ps asg bd st Bb =>
  obtain ⟨h1,r,h2,h3,h4,h5⟩:=h;exact ⟨h1,r,h2,h3,h4.take hb',h5⟩
 | defer=>exact h
 | map kvs bs clock =>
  obtain ⟨h1,h0,es,h2,h3,h4,h5,h6,h7,h8⟩:=h;refine ⟨h1,h0,es,h2,h3,h4,h5,h6,h7,fun i k x hx=>?_⟩;obtain ⟨m,g1,g2,g3⟩:=h8 i k x hx;exact ⟨m,g1,g2,g3.take (by
   have:=List.all_eq_true.1 hb' (k,x) (List.mem_of_getElem? hx);exact this)⟩
 | iter Jb since seen step =>
  obtain ⟨h1,em,h2,h3,h4⟩:=h;exact ⟨h1,em,D0 h2 (by simpa [Ah.under] using hb'),h3,h4⟩
 | siter s pos=>exact h
theorem AR.Jr {F:Nat -> Prop} {M:Mem} {hb:List HB} {h h':List Ah} (H:AR F M hb h) (hk:BI h'.length h h'):AR F M (hb.take h'.length) h':=by
 obtain ⟨k1,k2⟩:=Sa hk;have hget:∀ {i:Nat} {e:HB},(hb.take h'.length)[i]? = some e -> hb[i]? = some e:=by
  intro i e he;rw [List.getElem?_take] at he
  split at he
  ·exact he
  ·cases he
 refine ⟨by rw [List.length_take,H.len]; omega,H.gl,fun i b e h1 h2=>?_,fun i b e h1 h2 h3=>?_,fun i j b b' e e' h1 h2 h3 h4 h5 h6 h7=>?_⟩
 ·rcases k2 i b h1 with rfl | ⟨g1,g2⟩
  ·trivial
  ·exact (H.box i b e g1 (hget h2)).take g2
 ·rcases k2 i b h1 with rfl | ⟨g1,g2⟩
  ·cases h3
  ·exact H.own i b e g1 (hget h2) h3
 ·rcases k2 i b h1 with rfl | ⟨g1,g2⟩
  ·cases h5
  ·rcases k2 j b' h3 with rfl | ⟨q1,q2⟩
   ·cases h6
   ·exact H.dis i j b b' e e' g1 (hget h2) q1 (hget h4) h5 h6 h7
theorem Gz.take {M:Mem} {hb:List HB} {n:Nat}:∀ {xs:List AD} {ds:List Deferred},Gz M hb xs ds -> Gj n xs -> Gz M (hb.take n) xs ds
 | [],[],_,_=>trivial
 | [],_ :: _,h,_=>h.elim
 | _ :: _,[],h,_=>h.elim
 | x :: xs,d :: ds,h,hk=>by
  refine ⟨?_,Gz.take h.2 fun y hy=>hk y (List.mem_cons_of_mem _ hy)⟩;have hb':=hk x List.mem_cons_self;have h1:=h.1
  cases x with
  | mark id =>
   obtain ⟨e,g1,g2,g3⟩:=h1;exact ⟨e,D0 g1 (by simpa [AD.under] using hb'),g2,g3⟩
  | call f args caps =>
   obtain ⟨a,c,g1,g2,g3⟩:=h1;simp only [AD.under,Bool.and_eq_true] at hb';exact ⟨a,c,g1,⟨g2.1,fun i x hx=>(g2.2 i x hx).take (C7 hb'.1 hx)⟩,⟨g3.1,fun i x hx=>(g3.2 i x hx).take (C7 hb'.2 hx)⟩⟩
theorem BR.Jr {F:Nat -> Prop} {M:Mem} {hb:List HB} {s s':St} {a:Act} (hs:BR F M hb s a) (hw:DZ s s'):BR F M (hb.take s'.h.length) s' a:=by
 refine ⟨⟨hw.n.trans hs.tm.1,fun i=>?_⟩,?_,hs.hp.Jr hw.h,hs.ok⟩
 ·rcases Sp hw.t i with h | ⟨h1,h2⟩
  ·simp only [Tm.get,h]; exact .dead
  ·have:=hs.tm.2 i
   rw [<- h1] at this;exact this.take h2
 ·rw [hw.d]; exact hs.df.take hw.db
def AX.under (n:Nat):AX -> Bool
 | .panic x=>x.under n
 | _=>true
theorem Bf.take {hb hb':List HB} (h:Bf hb hb') {n:Nat} (hn:hb.length <= n):Bf hb (hb'.take n):=by
 intro i e he;obtain ⟨e',h1,h2⟩:=h i e he;have hi:i < hb.length:=(List.getElem?_eq_some_iff.1 he).1;exact ⟨e',D0 h1 (by omega),h2⟩
theorem Aa.less {P:Program} {rd:Option Nat} {c:Code} {s:St} {Φ:AX -> St -> Prop} (h:Aa P rd c s (fun x s'=>∃ s'',DZ s' s'' /\ s.h.length <= s''.h.length /\ x.under s''.h.length = true /\ Φ x s'')):Aa P rd c s Φ:=by
 intro F M hb a ro hs hr;refine wpIn_mono (h F M hb a ro hs hr) ?_;rintro e a' w' ⟨x,s',M',hb',⟨s'',hw,hlen,hx,hk⟩,r1,r2,r3,r4,r5⟩;refine ⟨x,s'',M',hb'.take s''.h.length,hk,?_,r2,r3.Jr hw,r4,r5.take (by rw [hs.hp.len]; exact hlen)⟩
 cases x <;> cases e <;> try exact r1
 obtain ⟨v,h1,h2⟩:=r1;exact ⟨v,h1,h2.take hx⟩
theorem Aa.Jr {P:Program} {rd:Option Nat} {c:Code} {s s':St} {Φ:AX -> St -> Prop} (hw:DZ s s') (hl:s'.h.length = s.h.length) (h:Aa P rd c s' Φ):Aa P rd c s Φ:=by
 intro F M hb a ro hs hr;have:=hs.Jr hw;rw [hl,<- hs.hp.len,List.take_length] at this;exact h F M hb a ro this hr
end Go.PM

namespace Go.PM
variable [AA]
mutual
def AV.lax:AV -> AV
 | .sl _ es=>.sl false (Fz es)
 | .cptr cs=>.cptr (Fz cs)
 | .fn f caps=>.fn f (Fz caps)
 | .bnd f first=>.bnd f (Fz first)
 | .iface t x=>.iface t x.lax
 | .agg cs=>.agg (Fz cs)
 | .tup vs=>.tup (Fz vs)
 | x=>x
def Fz:List AV -> List AV
 | []=>[]
 | x :: xs=>x.lax :: Fz xs
end
theorem Fp (l:List AV):Fz l = l.map AV.lax:=by
 induction l with
 | nil=>rfl
 | cons x l ih=>simp [Fz,ih]
theorem Je (x:AV):x.lax.cells = x.cells.map AV.lax:=by
 cases x <;> simp [AV.lax,AV.cells,Fp]
theorem H4 (x:AV):x.lax.single = x.single:=by cases x <;> simp [AV.lax,AV.single]
theorem DA {l:List AV} {i:Nat} {y:AV} (h:(l.map AV.lax)[i]? = some y):∃ x,l[i]? = some x /\ y = x.lax:=by
 rw [List.getElem?_map,Option.map_eq_some_iff] at h;obtain ⟨x,h1,h2⟩:=h;exact ⟨x,h1,h2.symm⟩
theorem Al.lax {M:Mem} {hb:List HB} {x:AV} {v:Value} (h:Al M hb x v):Al M hb x.lax v:=by
 induction h with
 | dead=>exact .dead
 | val h=>exact .val h
 | nil=>exact .nil
 | @sl hb full es a cap sz h1 h2 h3 h4 h5 h6 ih =>
  simp only [AV.lax,Fp];have hlen:(es.map AV.lax).length = es.length:=by simp
  have:=Al.sl (M:=M) (hb:=hb) (full:=false) (es:=es.map AV.lax) (a:=a) (cap:=cap) sz h1 (by rw [hlen]; exact h2) (fun h=>by cases h)
   (fun e he=>by obtain ⟨x,hx,rfl⟩:=List.mem_map.1 he; rw [Je,List.length_map]; exact h4 x hx)
   (fun i e j c he hc=>by
    obtain ⟨x,hx,rfl⟩:=DA he;rw [Je] at hc;obtain ⟨y,hy,rfl⟩:=DA hc;exact ⟨(h5 i x j y hx hy).1,by rw [H4]; exact (h5 i x j y hx hy).2⟩)
   (fun i e j c he hc=>by
    obtain ⟨x,hx,rfl⟩:=DA he;rw [Je] at hc;obtain ⟨y,hy,rfl⟩:=DA hc;exact ih i x j y hx hy)
  rwa [hlen] at this
 | hsl e h1 h2 h3 h4 h5=>exact .hsl e h1 h2 h3 h4 h5
 | ptr e h1 h2=>exact .ptr e h1 h2
 | eptr e h1 h2 h3 h4 h5=>exact .eptr e h1 h2 h3 h4 h5
 | cptr h1 h2 h3 ih =>
  simp only [AV.lax,Fp];exact .cptr h1 (fun j c hc=>by obtain ⟨y,hy,rfl⟩:=DA hc; exact ⟨(h2 j y hy).1,by rw [H4]; exact (h2 j y hy).2⟩) (fun j c hc=>by obtain ⟨y,hy,rfl⟩:=DA hc; exact ih j y hy)
 | fn h1 h2 ih =>
  simp only [AV.lax,Fp];exact .fn (by simpa using h1) (fun i c hc=>by obtain ⟨y,hy,rfl⟩:=DA hc; exact ih i y hy)
 | yld e h1 h2=>exact .yld e h1 h2
 | iface h ih=>exact .iface ih
 | agg h1 h2 h3 ih =>
  simp only [AV.lax,Fp];exact .agg (by simpa using h1) (fun i c hc=>by obtain ⟨y,hy,rfl⟩:=DA hc; rw [H4]; exact h2 i y hy) (fun i c hc=>by obtain ⟨y,hy,rfl⟩:=DA hc; exact ih i y hy)
 | tup h1 h2 ih =>
  simp only [AV.lax,Fp];exact .tup (by simpa using h1) (fun i c hc=>by obtain ⟨y,hy,rfl⟩:=DA hc; exact ih i y hy)
 | mp e h1 h2=>exact .mp e h1 h2
 | bnd h1 h2 ih =>
  simp only [AV.lax,Fp];exact .bnd (by simpa using h1) (fun i c hc=>by obtain ⟨y,hy,rfl⟩:=DA hc; exact ih i y hy)
 | cmp h1 h2 h3 h4 h5 h6 _ _=>exact .cmp h1 h2 h3 h4 h5 h6
def AE.lax:AE -> AE
 | .ret x=>.ret x.lax
 | .panic x=>.panic x.lax
theorem Ag.I7 {P:Program} {f:FuncId} {args:List AV} {h:List Ah} {R:AE -> List Ah -> Prop} (hc:Ag P f args h (fun r h'=>R r.lax h')):Ag P f args h R:=by
 refine ⟨hc.1,fun F M hb vs H ok hv=>Calls.mono (hc.2 F M hb vs H ok hv) ?_⟩;rintro e w' ⟨r,h',M',hb',k1,k2,k3,k4,k5,k6,k7⟩;refine ⟨r.lax,h',M',hb',k1,?_,k3,k4,k5,k6,k7⟩
 cases r <;> cases e <;> try exact k2.elim
 ·exact Al.lax k2
 ·obtain ⟨v,h1,h2⟩:=k2
  exact ⟨v,h1,h2.lax⟩
theorem Ag.OT {P:Program} {f:FuncId} {args:List AV} {h:List Ah} {R:AE -> List Ah -> Prop} (hc:Ag P f (args.map AV.lax) h R):Ag P f args h R:=by
 refine ⟨hc.1,fun F M hb vs H ok hv=>hc.2 F M hb vs H ok ⟨by simpa using hv.1,fun i x hx=>?_⟩⟩;obtain ⟨y,hy,rfl⟩:=DA hx;exact (hv.2 i y hy).lax
end Go.PM

namespace Go.PM
variable [AA]
theorem Aa.MV {P:Program} {rd:Option Nat} {c:Code} {s:St} {K:St -> Prop} {Φ:AX -> St -> Prop} (h:Aa P rd c s (AX.GG (fun s'=>∃ s'',DZ s' s'' /\ s.h.length <= s''.h.length /\ K s'') Φ)):Aa P rd c s (AX.GG K Φ):=by
 intro F M hb a ro hs hr;refine wpIn_mono (h F M hb a ro hs hr) ?_;rintro e a' w' ⟨x,s',M',hb',hk,r1,r2,r3,r4,r5⟩
 cases x <;> cases e <;> try exact r1.elim
 ·obtain ⟨s'',hw,hlen,hk⟩:=hk
  exact ⟨.normal,s'',M',hb'.take s''.h.length,hk,trivial,r2,r3.Jr hw,r4,r5.take (by rw [hs.hp.len]; exact hlen)⟩
 case exit.exit i j=>exact ⟨.exit i,s',M',hb',hk,r1,r2,r3,r4,r5⟩
 case goto.goto i j=>exact ⟨.goto i,s',M',hb',hk,r1,r2,r3,r4,r5⟩
 case ret.ret=>exact ⟨.ret,s',M',hb',hk,r1,r2,r3,r4,r5⟩
 case panic.panic x ch=>exact ⟨.panic x,s',M',hb',hk,r1,r2,r3,r4,r5⟩
theorem Af.go {P:Program} {f:FuncId} {args:List AV} {R:AV -> Prop} {t:Tm} {h:List Ah} {d:List AD} {dst:Option Tmp} {K:St -> Prop} {Φ:AX -> St -> Prop} (hc:Af P f args R) (hp:args.all AV.pure = true) (hk:∀ x,R x -> K ⟨t.BZ dst x,h,d⟩) :
  Ag P f args h (Eu ⟨t,h,d⟩ dst K Φ):=Af.call (s:=⟨t,h,d⟩) hc hp hk
theorem VR (k:Nat) (v:AV) (l:List (Nat × AV)) (i:Nat):look ((k,v) :: l) i = if k = i then v else look l i:=by
 simp only [look]
 cases h:Nat.beq k i with
 | true=>simp only; rw [if_pos (Nat.eq_of_beq_eq_true h)]
 | false=>simp only; rw [if_neg (Nat.ne_of_beq_eq_false h)]
theorem aeC (n:Nat) (l:List (Nat × AV)) (i:Nat):Tm.get ⟨n,l⟩ i = look l i:=rfl
theorem aes (n:Nat) (l:List (Nat × AV)) (d:Nat) (v:AV):Tm.put ⟨n,l⟩ d v = if d < n then ⟨n,(d,v) :: l⟩ else ⟨n,l⟩:=by
 unfold Tm.put
 cases h:Nat.blt d n with
 | true=>have hlt:d < n:=Nat.le_of_ble_eq_true h; simp only; rw [if_pos hlt]
 | false=>simp only; rw [if_neg (fun hh=>by rw [show Nat.blt d n = true from Nat.ble_eq_true_of_le hh] at h; cases h)]
theorem TK (t:Tm) (d:Nat) (v:AV):t.BZ (some d) v = t.put d v:=rfl
theorem VU (t:Tm) (v:AV):t.BZ none v = t:=rfl
theorem ady (t:Tm) (h:List Ah) (ds:List AD) (d:Option Tmp) (v:AV):(⟨t,h,ds⟩:St).put d v = ⟨t.BZ d v,h,ds⟩:=rfl
theorem adj (t:Tm) (h:List Ah) (d:List AD) (i:Nat):(⟨t,h,d⟩:St).ev (.tmp i) = t.get i:=rfl
theorem We (t:Tm) (h:List Ah) (d:List AD) (v:Value):(⟨t,h,d⟩:St).ev (.const v) = G3 v:=rfl
theorem aac (t:Tm) (h:List Ah) (d:List AD) (f:FuncId):(⟨t,h,d⟩:St).ev (.func f) = .fn f []:=rfl
theorem TL (k:IntKind) (n:Int):G3 (.int k n) = .val (.int k n):=rfl
theorem Rl (b:Bool):G3 (.bool b) = .val (.bool b):=rfl
theorem TR (b:ByteArray):G3 (.string b) = .val (.string b):=rfl
theorem LF:G3 (.slice none 0 0) = .sl true []:=rfl
theorem OU:G3 (.pointer none) = .val (.pointer none):=rfl
theorem Sf (K:St -> Prop) (Φ:AX -> St -> Prop) (s:St):AX.GG K Φ .normal s = K s:=rfl
theorem abE (K:St -> Prop) (Φ:AX -> St -> Prop) (s:St):AX.GG K Φ .ret s = Φ .ret s:=rfl
theorem WQ (K:St -> Prop) (Φ:AX -> St -> Prop) (i:Nat) (s:St):AX.GG K Φ (.exit i) s = Φ (.exit i) s:=rfl
theorem Uv (K:St -> Prop) (Φ:AX -> St -> Prop) (x:AV) (s:St):AX.GG K Φ (.panic x) s = Φ (.panic x) s:=rfl
theorem SC (id:Nat) (Φ:AX -> St -> Prop) (s:St):AX.Hk id Φ .normal s = Φ .normal s:=rfl
theorem ZU (id:Nat) (Φ:AX -> St -> Prop) (s:St):AX.Hk id Φ .ret s = Φ .ret s:=rfl
theorem YH (id:Nat) (Φ:AX -> St -> Prop) (i:Nat) (s:St):AX.Hk id Φ (.exit i) s = if i = id then Φ .normal s else Φ (.exit i) s:=rfl
theorem UR (v:Value):(AV.val v).cells = [.val v]:=rfl
theorem Wq (f:Bool) (es:List AV):(AV.sl f es).cells = [.sl f es]:=rfl
theorem UA (a b c d:Nat):(AV.hsl a b c d).cells = [.hsl a b c d]:=rfl
theorem Vu (a b:Nat):(AV.ptr a b).cells = [.ptr a b]:=rfl
theorem SB (a:List AV):(AV.cptr a).cells = [.cptr a]:=rfl
theorem X5 (f:FuncId) (a:List AV):(AV.fn f a).cells = [.fn f a]:=rfl
theorem UY (cs:List AV):(AV.agg cs).cells = cs:=rfl
theorem K8 (h:List Ah) (v:Value) (K:AV -> List Ah -> Prop):Ef h (.val v) K = K (.val v) h:=by simp [Ef,AV.BK]
theorem Tw (h:List Ah) (f:Bool) (es:List AV) (K:AV -> List Ah -> Prop):Ef h (.sl f es) K = K (.sl f es) h:=by simp [Ef,AV.BK]
theorem Js (h:List Ah) (es:List AV) (K:AV -> List Ah -> Prop):Ef h (.cptr es) K = K (.cptr es) h:=by simp [Ef,AV.BK]
theorem Xh (h:List Ah) (id ver off len:Nat) (K:AV -> List Ah -> Prop):Ef h (.hsl id ver off len) K = match h[id]? with
  | some (.row _ ver' sz es)=>ver = ver' /\ off + len <= es.length /\ K (.sl false ((es.take (off + len)).drop off)) (h.set id (.row false ver sz es))
  | _=>False:=rfl
theorem Ye (h:List Ah) (K:List AV -> List Ah -> Prop):GJ [] h K = K [] h:=rfl
theorem Ui (x:AV) (xs:List AV) (h:List Ah) (K:List AV -> List Ah -> Prop):GJ (x :: xs) h K = Ef h x (fun x' h'=>GJ xs h' (fun xs' h''=>K (x' :: xs') h'')):=rfl
theorem XR (h:List Ah) (v:Value) (K:AV -> List Ah -> Prop):Jj h (.val v) K = K (.val v) h:=by simp [Jj,K8]
theorem WX (h:List Ah) (cs:List AV) (K:AV -> List Ah -> Prop):Jj h (.agg cs) K = GJ cs h (fun cs' h'=>K (.agg cs') h'):=rfl
theorem US (h:List Ah) (K:List AV -> List Ah -> Prop):Hg [] h K = K [] h:=rfl
theorem Q3 (x:AV) (xs:List AV) (h:List Ah) (K:List AV -> List Ah -> Prop):Hg (x :: xs) h K = Jj h x (fun x' h'=>Hg xs h' (fun xs' h''=>K (x' :: xs') h'')):=rfl
theorem Zk (h:List Ah) (v:Value) (K:AV -> List Ah -> Prop):E0 h (.val v) K = K (.val v) h:=by simp [E0,K8]
theorem abK (h:List Ah) (f:Bool) (es:List AV) (K:AV -> List Ah -> Prop):E0 h (.sl f es) K = K (.sl f es) h:=by simp [E0,Tw]
theorem NG (h:List Ah) (es:List AV) (K:AV -> List Ah -> Prop):E0 h (.cptr es) K = K (.cptr es) h:=by simp [E0,Js]
theorem X6 (h:List Ah) (id ver off len:Nat) (K:AV -> List Ah -> Prop):E0 h (.hsl id ver off len) K = Ef h (.hsl id ver off len) K:=rfl
theorem WG (h:List Ah) (cs:List AV) (K:AV -> List Ah -> Prop):E0 h (.agg cs) K = GJ cs h (fun cs' h'=>K (.agg cs') h'):=rfl
theorem Yb (h:List Ah) (id off:Nat) (K:AV -> List Ah -> Prop):E0 h (.ptr id off) K = match h[id]? with
  | some (.cells cs)=>GJ cs (h.set id .dead) (fun cs' h'=>K (.cptr (cs'.drop off)) h')
  | _=>False:=rfl
theorem Uz (h:List Ah) (K:List AV -> List Ah -> Prop):FD [] h K = K [] h:=rfl
theorem Rb (x:AV) (xs:List AV) (h:List Ah) (K:List AV -> List Ah -> Prop):FD (x :: xs) h K = E0 h x (fun x' h'=>FD xs h' (fun xs' h''=>K (x' :: xs') h'')):=rfl
theorem Yp (h:List Ah) (vs:List AV) (K:AV -> List Ah -> Prop):QI h (.tup vs) K = FD vs h (fun vs' h'=>K (.tup vs') h'):=rfl
theorem XD (h:List Ah) (cs:List AV) (K:AV -> List Ah -> Prop):QI h (.agg cs) K = GJ cs h (fun cs' h'=>K (.agg cs') h'):=rfl
theorem Ya (h:List Ah) (id off:Nat) (K:AV -> List Ah -> Prop):QI h (.ptr id off) K = E0 h (.ptr id off) K:=rfl
theorem Yk (R:AE -> List Ah -> Prop) (x:AV) (h:List Ah):adS R (.ret x) h = QI h x (fun x' h'=>R (.ret x') h'):=rfl
theorem M6 (P:Program) (fn:Func) (R:AE -> List Ah -> Prop) (t:Tm) (h:List Ah) (d:List AD):ND P fn R .ret ⟨t,h,d⟩ = DK P fn.results.toList t R none d h:=rfl
theorem NW (P:Program) (fn:Func) (R:AE -> List Ah -> Prop) (t:Tm) (h:List Ah) (d:List AD):ND P fn R .normal ⟨t,h,d⟩ = DK P fn.results.toList t R none d h:=rfl
theorem PE (P:Program) (fn:Func) (R:AE -> List Ah -> Prop) (x:AV) (t:Tm) (h:List Ah) (d:List AD):ND P fn R (.panic x) ⟨t,h,d⟩ = DK P fn.results.toList t R (some x) d h:=rfl
theorem Mi (P:Program) (rs:List ResultVar) (t:Tm) (R:AE -> List Ah -> Prop) (h:List Ah):DK P rs t R none [] h = Kv P t h rs (fun xs=>R (.ret (pack xs)) h):=rfl
theorem Rc (P:Program) (rs:List ResultVar) (t:Tm) (R:AE -> List Ah -> Prop) (x:AV) (h:List Ah):DK P rs t R (some x) [] h = R (.panic x) h:=rfl
theorem J5 (P:Program) (rs:List ResultVar) (t:Tm) (R:AE -> List Ah -> Prop) (pan:Option AV) (id:Nat) (ds:List AD) (h:List Ah):DK P rs t R pan (.mark id :: ds) h = (h[id]? = some .defer /\ DK P rs t R pan ds (h.set id .dead)):=rfl
theorem XU (P:Program) (t:Tm) (h:List Ah) (K:List AV -> Prop):Kv P t h [] K = K []:=rfl
theorem WE (P:Program) (t:Tm) (h:List Ah) (i:Tmp) (rs:List ResultVar) (K:List AV -> Prop):Kv P t h (.tmp i :: rs) K = Kv P t h rs (fun xs=>K (t.get i :: xs)):=rfl
theorem NF (P:Program) (t:Tm) (h:List Ah) (i:Tmp) (ty:TypeId) (rs:List ResultVar) (K:List AV -> Prop):Kv P t h (.cell i ty :: rs) K = DN P h ty (t.get i) (fun x=>Kv P t h rs (fun xs=>K (x :: xs))):=rfl
theorem XP (x:AV):pack [x] = x:=rfl
theorem WM:pack [] = .tup []:=rfl
theorem XS (x y:AV) (l:List AV):pack (x :: y :: l) = .tup (x :: y :: l):=rfl
theorem Vc (s:St) (dst:Option Tmp) (K:St -> Prop) (Φ:AX -> St -> Prop) (x:AV) (h:List Ah):Eu s dst K Φ (.ret x) h = K ((⟨s.t,h,s.d⟩:St).put dst x):=rfl
theorem Qz (s:St) (dst:Option Tmp) (K:St -> Prop) (Φ:AX -> St -> Prop) (x:AV) (h:List Ah):Eu s dst K Φ (.panic x) h = Φ (.panic x) ⟨s.t,h,s.d⟩:=rfl
theorem U0 (n:Nat) (v:Value):(AV.val v).under n = true:=rfl
theorem XV (n:Nat) (f:Bool) (es:List AV):(AV.sl f es).under n = true:=rfl
theorem Ss (n:Nat) (es:List AV):(AV.cptr es).under n = true:=rfl
theorem T7 (n id off:Nat):(AV.ptr id off).under n = decide (id < n):=rfl
theorem VI (n a b c d:Nat):(AV.hsl a b c d).under n = decide (a < n):=rfl
theorem VB (n id:Nat):(AV.yld id).under n = decide (id < n):=rfl
theorem YG (n:Nat) (f:FuncId) (caps:List AV):(AV.fn f caps).under n = AZ n caps:=rfl
theorem RA (n:Nat):AZ n [] = true:=rfl
theorem PJ (n:Nat) (x:AV) (xs:List AV):AZ n (x :: xs) = (x.under n && AZ n xs):=rfl
theorem VV (t:Tm) (n:Nat):keeps t n [] = True:=rfl
theorem SE (t:Tm) (n k:Nat) (v:AV) (l:List (Nat × AV)):keeps t n ((k,v) :: l) = (t.get k = v /\ v.under n = true /\ keeps t n l):=rfl
theorem Q0 (n:Nat) (h:List Ah):BI n h [] = True:=by cases h <;> rfl
theorem PR (n:Nat) (b b':Ah) (h h':List Ah):BI n (b :: h) (b' :: h') = ((b' = .dead \/ (b' = b /\ b.under n = true)) /\ BI n h h'):=rfl
theorem Rf (n:Nat) (cs:List AV):(Ah.cells cs).under n = AZ n cs:=rfl
theorem XZ (n:Nat) (mt:Bool) (ver sz:Nat) (es:List AV):(Ah.row mt ver sz es).under n = true:=rfl
theorem UC (n:Nat):Ah.dead.under n = true:=rfl
theorem B7 (n:Nat):Gj n []:=fun _ h=>by cases h
section
variable (P:Program) (ops:Array Oper) (Φ:AX -> St -> Prop) (dst:Option Tmp) (ty:TypeId) (pos:String) (after:Array Edge) (rest:List Oper) (s:St) (K:St -> Prop) (g:Option (Nat × Bool))
theorem Xk:BM P ops Φ [] s = Φ .normal s:=rfl
theorem U3 (op:Op):BM P ops Φ (⟨dst,op,ty,pos,after,none⟩ :: rest) s = BP P ⟨dst,op,ty,pos,after,none⟩ s (BM P ops Φ rest) Φ:=rfl
theorem KN (b want:Bool) (A B:Prop):((b = want -> A) /\ (b = !want -> B)) = if b = want then A else B:=by
 cases b <;> cases want <;> simp
def EB (ops:Array Oper) (t:Tm) (j:Nat):AV:=match DW ops j with
 | some d=>t.get d
 | none=>.dead
def Ds (v:AV) (want:Bool) (A B:Prop):Prop:=match v with
 | .val (.bool b)=>if b = want then A else B
 | .tup []=>B
 | _=>False
structure Kept (A B:Prop):Type
def CH (b:Bool) (A B:Prop) (_:Kept A B):Prop:=if b = true then A else B
theorem XY (A B:Prop) (k:Kept A B):CH true A B k = A:=by simp [CH]
theorem YF (A B:Prop) (k:Kept A B):CH false A B k = B:=by simp [CH]
theorem Wy (b:Bool) (A B:Prop):Ds (.val (.bool b)) true A B = CH b A B ⟨⟩:=rfl
theorem WT (b:Bool) (A B:Prop):Ds (.val (.bool b)) false A B = CH b B A ⟨⟩:=by cases b <;> simp [Ds,CH]
theorem RG (want:Bool) (A B:Prop):Ds (.tup []) want A B = B:=rfl
@[congr] theorem ZT {v v':AV} {want:Bool} {A B:Prop} (h:v = v'):Ds v want A B = Ds v' want A B:=by rw [h]
def QS (v:AV) (A B:Prop):Prop:=match v with
 | .val (.bool t)=>CH t A B ⟨⟩
 | _=>False
theorem VN (b:Bool) (A B:Prop):QS (.val (.bool b)) A B = CH b A B ⟨⟩:=rfl
@[congr] theorem acm {v v':AV} {A B:Prop} (h:v = v'):QS v A B = QS v' A B:=by rw [h]
theorem Qm (d:Tmp) (op:Op) (l:List Oper) (t:Tm):EB (List.toArray (⟨some d,op,ty,pos,after,g⟩ :: l)) t 0 = t.get d:=by simp [EB,DW]
theorem QY (o:Oper) (l:List Oper) (t:Tm) (j:Nat):EB (List.toArray (o :: l)) t (j + 1) = EB l.toArray t j:=by simp [EB,DW]
theorem Sj (op:Op) (j:Nat) (want:Bool):BM P ops Φ (⟨dst,op,ty,pos,after,some (j,want)⟩ :: rest) s = Ds (EB ops s.t j) want (BP P ⟨dst,op,ty,pos,after,some (j,want)⟩ s (BM P ops Φ rest) Φ) (BM P ops Φ rest (s.put dst (.tup []))):=by
 simp only [BM,EB]
 cases DW ops j with
 | none=>rfl
 | some d =>
  simp only [Ds];generalize s.t.get d = v
  cases v <;> try rfl
  ·rename_i v
   cases v <;> try rfl
   exact KN _ _ _ _
  ·rename_i l
   cases l <;> rfl
theorem Y9 (x:Operand):BP P ⟨dst,.move x,ty,pos,after,g⟩ s K Φ = K (s.put dst (s.ev x)):=rfl
theorem SL (x:Operand):BP P ⟨dst,.assign x,ty,pos,after,g⟩ s K Φ = K (s.put dst (s.ev x)):=rfl
theorem Uw (t:TypeId):BP P ⟨dst,.alloc t,ty,pos,after,g⟩ s K Φ = EC P s.h t (fun v h=>K ((⟨s.t,h,s.d⟩:St).put dst v)):=rfl
theorem aaU (t:TypeId) (x:Operand):BP P ⟨dst,.box t x,ty,pos,after,g⟩ s K Φ = PT s.h (s.ev x) (fun v h=>K ((⟨s.t,h,s.d⟩:St).put dst v)):=rfl
theorem U4 (t:TypeId) (ps:Array (Nat × Operand)):BP P ⟨dst,.build t ps,ty,pos,after,g⟩ s K Φ = Ea P t (ps.toList.map fun p=>(p.1,s.ev p.2)) (fun v=>K (s.put dst v)):=rfl
theorem K2 (t:TypeId) (n:Nat) (ps:Array (Nat × Operand)):BP P ⟨dst,.buildSlice t n ps,ty,pos,after,g⟩ s K Φ = BL P s.h t n (ps.toList.map (·.1)) (ps.toList.map fun p=>s.ev p.2) (fun v h=>K ((⟨s.t,h,s.d⟩:St).put dst v)):=rfl
theorem Vt (t:TypeId) (p x:Operand):BP P ⟨dst,.store t p x,ty,pos,after,g⟩ s K Φ = DE P s.h t (s.ev p) (s.ev x) (fun h=>K ((⟨s.t,h,s.d⟩:St).put dst .dead)):=rfl
theorem MG (t:TypeId) (l c:Operand):BP P ⟨dst,.makeSlice t l c,ty,pos,after,g⟩ s K Φ = CU P s.h t (s.ev l) (s.ev c) (fun v h=>K ((⟨s.t,h,s.d⟩:St).put dst v)):=rfl
theorem Xu (c a b:Operand):BP P ⟨dst,.pick c a b,ty,pos,after,g⟩ s K Φ = QS (s.ev c) (K (s.put dst (s.ev a))) (K (s.put dst (s.ev b))):=by
 show (match s.ev c with
  | .val (.bool t)=>(t = true -> K (s.put dst (s.ev a))) /\ (t = false -> K (s.put dst (s.ev b)))
  | _=>False) = _
 generalize s.ev c = v
 cases v <;> try rfl
 rename_i v
 cases v <;> try rfl
 exact KN _ true _ _
theorem N9 (x:Operand):BP P ⟨dst,.nilCheck x,ty,pos,after,g⟩ s K Φ = match s.ev x with
  | .ptr id o=>K (s.put dst (.ptr id o))
  | .cptr cs=>K (s.put dst (.cptr cs))
  | .fn f caps=>K (s.put dst (.fn f caps))
  | .yld id=>K (s.put dst (.yld id))
  | _=>False:=rfl
theorem Vj (op:BinOp) (t t':TypeId) (x y:Operand):BP P ⟨dst,.binOp op t x y t',ty,pos,after,g⟩ s K Φ = if Bn y = true then match op,y with
   | .eql,.const z=>F1 P t (s.ev x) z (fun b=>K (s.put dst (.val (.bool b))))
   | .neq,.const z=>F1 P t (s.ev x) z (fun b=>K (s.put dst (.val (.bool (!b)))))
   | _,_=>False
  else match s.ev x,s.ev y with
   | .val a,.val b=>OO (P.underlying t) op a b (fun v=>K (s.put dst (.val v)))
   | .agg xs,.agg ys=>GW P t op xs ys (fun b=>K (s.put dst (.val (.bool b))))
   | _,_=>False:=rfl
theorem WU (op:UnOp) (t:TypeId) (x:Operand):BP P ⟨dst,.unOp op t x,ty,pos,after,g⟩ s K Φ = match op,s.ev x with
  | .not,.val (.bool b)=>K (s.put dst (.val (.bool (!b))))
  | .neg,.val (.int k n)=>K (s.put dst (.val (.int k (k.wrap (0 - n)))))
  | _,_=>False:=rfl
theorem Qw (a b:TypeId) (x:Operand):BP P ⟨dst,.convert a b x,ty,pos,after,g⟩ s K Φ = FN P a b (s.ev x) (fun v=>K (s.put dst v)):=rfl
theorem OF (f:FuncId) (caps:Array Operand):BP P ⟨dst,.makeFunc (.func f) #[] caps,ty,pos,after,g⟩ s K Φ = K (s.put dst (.fn f (caps.toList.map s.ev))):=rfl
theorem Pg (f:FuncId) (x:Operand) (l:List Operand):BP P ⟨dst,.makeFunc (.func f) (List.toArray (x :: l)) #[],ty,pos,after,g⟩ s K Φ = K (s.put dst (.bnd f ((x :: l).map s.ev))):=by
 simp [BP,FB]
theorem RN (t:TypeId) (m k:Operand) (c:Bool):BP P ⟨dst,.lookup t m k c,ty,pos,after,g⟩ s K Φ = EJ P s.h t (s.ev m) (s.ev k) c (fun v=>K (s.put dst v)):=rfl
theorem MO (t:TypeId) (m k x:Operand):BP P ⟨dst,.mapUpdate t m k x,ty,pos,after,g⟩ s K Φ = Kj P s.h t (s.ev m) (s.ev k) (s.ev x) (fun h=>K ((⟨s.t,h,s.d⟩:St).put dst .dead)):=rfl
theorem PA (t:TypeId) (r:Option Operand):BP P ⟨dst,.makeMap t r,ty,pos,after,g⟩ s K Φ = FI P s.h t (r.map s.ev) (fun v h=>K ((⟨s.t,h,s.d⟩:St).put dst v)):=rfl
theorem VJ (t:TypeId) (x:Operand):BP P ⟨dst,.range t x,ty,pos,after,g⟩ s K Φ = Fa P s.h t (s.ev x) (fun v h=>K ((⟨s.t,h,s.d⟩:St).put dst v)):=rfl
theorem YJ (it:Operand) (isS:Bool):BP P ⟨dst,.next it isS,ty,pos,after,g⟩ s K Φ = Qt s.h (s.ev it) isS (fun v h=>K ((⟨s.t,h,s.d⟩:St).put dst v)):=rfl
theorem Vb (it:Operand):BP P ⟨dst,.entry it,ty,pos,after,g⟩ s K Φ = Gi s.h (s.ev it) (fun v=>K (s.put dst v)):=rfl
theorem MN (t:TypeId) (x:Operand) (f:Nat):BP P ⟨dst,.fieldAddr t x f,ty,pos,after,g⟩ s K Φ = ((match s.ev x with | .eptr ..=>False | _=>True) /\ CT P t (s.ev x) f (fun v=>K (s.put dst v))):=rfl
theorem TZ (t:TypeId) (x i:Operand):BP P ⟨dst,.index t x i,ty,pos,after,g⟩ s K Φ = F6 P t (s.ev x) (s.ev i) (fun v=>K (s.put dst v)):=rfl
theorem MI (t:TypeId) (x i:Operand):BP P ⟨dst,.indexAddr t x i,ty,pos,after,g⟩ s K Φ = BW P s.h t (s.ev x) (s.ev i) (fun v=>K (s.put dst v)):=rfl
theorem TO (t:TypeId) (x:Operand) (lo hi mx:Option Operand):BP P ⟨dst,.slice t x lo hi mx,ty,pos,after,g⟩ s K Φ = EE P s.h t (s.ev x) (lo.map s.ev) (hi.map s.ev) (mx.map s.ev) (fun v=>K (s.put dst v)):=rfl
theorem X2 (t:TypeId) (p:Operand):BP P ⟨dst,.load t p,ty,pos,after,g⟩ s K Φ = DN P s.h t (s.ev p) (fun v=>K (s.put dst v)):=rfl
theorem Qq (x:Operand) (i:Nat):BP P ⟨dst,.extract x i,ty,pos,after,g⟩ s K Φ = match s.ev x with
  | .tup vs=>i < vs.length /\ K (s.put dst (vs.getD i .dead))
  | _=>False:=rfl
theorem Sq (args:Array Operand) (ts:Array TypeId):BP P ⟨dst,.call ⟨.builtin .append,args,ts⟩,ty,pos,after,g⟩ s K Φ = EM P s.h ts.toList (args.toList.map s.ev) (fun v h=>K ((⟨s.t,h,s.d⟩:St).put dst v)):=rfl
theorem abg (args:Array Operand) (ts:Array TypeId):BP P ⟨dst,.call ⟨.builtin .len,args,ts⟩,ty,pos,after,g⟩ s K Φ = Fb P s.h .len ts.toList (args.toList.map s.ev) (fun v=>K (s.put dst v)):=rfl
theorem aaJ (args:Array Operand) (ts:Array TypeId):BP P ⟨dst,.call ⟨.builtin .max,args,ts⟩,ty,pos,after,g⟩ s K Φ = Fb P s.h .max ts.toList (args.toList.map s.ev) (fun v=>K (s.put dst v)):=rfl
theorem W5 (f:FuncId) (args:Array Operand) (ts:Array TypeId):BP P ⟨dst,.call ⟨.value (.func f),args,ts⟩,ty,pos,after,g⟩ s K Φ = Ag P f (args.toList.map s.ev ++ []) s.h (Eu s dst K Φ):=rfl
theorem Vk (i:Tmp) (args:Array Operand) (ts:Array TypeId):BP P ⟨dst,.call ⟨.value (.tmp i),args,ts⟩,ty,pos,after,g⟩ s K Φ = match s.t.get i with
   | .fn f caps=>Ag P f (args.toList.map s.ev ++ caps) s.h (Eu s dst K Φ)
   | .yld id=>Bl P id (args.toList.map s.ev) s.h (Eu s dst K Φ)
   | .bnd f first=>Ag P f (first ++ args.toList.map s.ev) s.h (Eu s dst K Φ)
   | _=>False:=rfl
theorem TQ (x:Operand):BP P ⟨dst,.panic x,ty,pos,after,g⟩ s K Φ = match s.ev x with
  | .iface t v=>Φ (.panic (.iface t v)) s
  | _=>False:=rfl
end
section
variable {P:Program} {ops:Array Oper} {Φ:AX -> St -> Prop}
@[congr] theorem abX {rd:Option Nat} {c:Code} {s s':St} (h:s = s'):Aa P rd c s Φ = Aa P rd c s' Φ:=by rw [h]
@[congr] theorem acg {f:FuncId} {args args':List AV} {h h':List Ah} {R:AE -> List Ah -> Prop} (h1:args = args') (h2:h = h'):Ag P f args h R = Ag P f args' h' R:=by rw [h1,h2]
@[congr] theorem aaL {id:Nat} {args args':List AV} {h h':List Ah} {R:AE -> List Ah -> Prop} (h1:args = args') (h2:h = h'):Bl P id args h R = Bl P id args' h' R:=by rw [h1,h2]
end
attribute [go_sem] Option.getD_some Option.getD_none Option.isNone_some Option.isNone_none Bool.false_and Int.toNat_natCast Int.toNat_zero putAt List.take_zero List.take_succ_cons List.take_nil List.drop_zero List.drop_succ_cons List.drop_nil Nat.zero_add Nat.add_zero List.map_cons List.map_nil List.getElem?_cons_zero List.getElem?_cons_succ List.set_cons_zero List.set_cons_succ List.length_cons List.length_nil Option.isSome_some Bool.false_eq_true true_and and_true Bn List.nil_append List.cons_append List.append_nil List.getD_cons_zero List.getD_cons_succ Option.map_some Option.map_none Option.bind_some List.all_cons List.all_nil Bool.and_true Bool.true_and beq_self_eq_true List.size_toArray Bool.and_self Bool.not_true Bool.not_false U0 XV Ss T7 VI VB YG RA PJ VV SE Q0 PR Rf XZ UC UR Wq UA Vu SB X5 UY XP WM XS bnd adM Ec AV.single Ty.isAgg VR aeC aes TK VU ady adj We aac TL Rl TR LF OU
attribute [go_sem] XY YF Wy WT RG VN
attribute [go_sem ↓] Qm QY K8 Tw Js Xh Ye Ui XR WX US Q3 Zk abK NG X6 WG Yb Uz Rb Yp XD Ya Yk M6 NW PE Mi Rc J5 XU WE NF Vc Qz Fb OO BW DN Gh F6 Ha CT EE FN Gw EM Qo J0 BL DE CU EC PT Sf abE WQ Uv SC ZU YH Xk U3 Sj Y9 SL Uw aaU U4 K2 Vt MG Xu N9 Vj WU Qw OF Pg RN MO PA VJ YJ Vb MN TZ MI TO X2 Qq Sq abg aaJ W5 Vk TQ
theorem Yv (n id:Nat):(AV.mp id).under n = decide (id < n):=rfl
theorem TI (n:Nat) (f:FuncId) (l:List AV):(AV.bnd f l).under n = AZ n l:=rfl
theorem Yz (a:Nat):(AV.mp a).cells = [.mp a]:=rfl
theorem TM (n Jb since:Nat) (seen:List Nat) (step:Nat):(Ah.iter Jb since seen step).under n = decide (Jb < n):=rfl
theorem RE (n:Nat) (s:ByteArray) (pos:Nat):(Ah.siter s pos).under n = true:=rfl
attribute [go_sem] Yv TI Yz TM RE WL
attribute [go_sem ↓] EJ Kj FI Fa Gi Qt
end Go.PM
