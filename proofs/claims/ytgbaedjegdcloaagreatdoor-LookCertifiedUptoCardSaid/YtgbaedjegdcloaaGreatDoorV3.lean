/- A part of the proof: see the last text. -/
import Derived.Test.YtgbaedjegdcloaaGreatDoorV2
import Derived.Scope
import Derived.RecoverIn
import Derived.Below
set_option linter.unusedVariables false
set_option linter.unusedSimpArgs false
set_option linter.unusedSectionVars false
set_option linter.defProp false
set_option maxRecDepth 100000
set_option maxHeartbeats 4000000
namespace Go.PM
variable [AA]
def Aw (h:List Ah):Prop:=∀ b ∈ h,b.under h.length = true
theorem AR.split {F:Nat -> Prop} {M:Mem} {hb:List HB} {h ext:List Ah} (H:AR F M hb (h ++ ext)) (ok:Cz F M) (hu:Aw h) :
  let F':Nat -> Prop:=fun b=>F b \/ Ii (hb.drop h.length) ext b
  AR F' M (hb.take h.length) h /\ Cz F' M:=by
 intro F';have hlen:=H.len;simp only [List.length_append] at hlen;have hget:∀ {i:Nat} {e:HB},(hb.take h.length)[i]? = some e -> hb[i]? = some e:=by
  intro i e he;rw [List.getElem?_take] at he
  split at he
  ·exact he
  ·cases he
 have hext:∀ {i:Nat} {x:Ah} {e:HB},ext[i]? = some x -> (hb.drop h.length)[i]? = some e -> (h ++ ext)[h.length + i]? = some x /\ hb[h.length + i]? = some e:=by
  intro i x e h1 h2;refine ⟨by rw [List.getElem?_append_right (by omega)]; simpa using h1,by rw [List.getElem?_drop] at h2; exact h2⟩
 have hpre:∀ {i:Nat} {x:Ah},h[i]? = some x -> (h ++ ext)[i]? = some x:=by
  intro i x h1;have:=(List.getElem?_eq_some_iff.1 h1).1;rw [List.getElem?_append_left this]; exact h1
 refine ⟨⟨by rw [List.length_take]; omega,H.gl,fun i b e h1 h2=>?_,fun i b e h1 h2 h3=>?_,fun i j b b' e e' h1 h2 h3 h4 h5 h6 h7=>?_⟩,⟨ok.top,fun b hb'=>?_⟩⟩
 ·exact (H.box i b e (hpre h1) (hget h2)).take (hu b (List.mem_of_getElem? h1))
 ·have:=H.own i b e (hpre h1) (hget h2) h3
  refine ⟨this.1,fun hf=>?_⟩
  rcases hf with hf | ⟨j,x,e',g1,g2,g3,g4⟩
  ·exact this.2 hf
  ·obtain ⟨k1,k2⟩:=hext g1 g2
   have:=H.dis i _ b x e e' (hpre h1) (hget h2) k1 k2 h3 g3 g4.symm;have hi:=(List.getElem?_eq_some_iff.1 h1).1;omega
 ·exact H.dis i j b b' e e' (hpre h1) (hget h2) (hpre h3) (hget h4) h5 h6 h7
 ·rcases hb' with hf | ⟨j,x,e',g1,g2,g3,rfl⟩
  ·exact ok.fr b hf
  ·obtain ⟨k1,k2⟩:=hext g1 g2
   exact (H.own _ x e' k1 k2 g3).1
theorem AR.join {F:Nat -> Prop} {M M':Mem} {hb hb1:List HB} {h h' ext:List Ah} (H:AR F M hb (h ++ ext)) (hl:h'.length = h.length)
  (H':AR (fun b=>F b \/ Ii (hb.drop h.length) ext b) M' hb1 h') (ok':Cz (fun b=>F b \/ Ii (hb.drop h.length) ext b) M')
  (hg:Gu (fun b=>F b \/ Ii (hb.drop h.length) ext b) M M') (hh:Bf (hb.take h.length) hb1) :
  AR F M' (hb1 ++ hb.drop h.length) (h' ++ ext) /\ Cz F M' /\ Bf hb (hb1 ++ hb.drop h.length):=by
 have hlen:=H.len;simp only [List.length_append] at hlen;have hlen1:=H'.len;have hh2:Bf hb (hb1 ++ hb.drop h.length):=by
  intro i e he
  by_cases hi:i < h.length
  ·obtain ⟨e',k1,k2⟩:=hh i e (D0 he hi)
   exact ⟨e',by rw [List.getElem?_append_left (by omega)]; exact k1,k2⟩
  ·refine ⟨e,?_,Nat.le_refl _,rfl,fun _=>rfl,fun _=>rfl⟩
   rw [List.getElem?_append_right (by omega),List.getElem?_drop];rw [show h.length + (i - hb1.length) = i by omega]; exact he
 have hcase:∀ {i:Nat} {x:Ah} {e:HB},(h' ++ ext)[i]? = some x -> (hb1 ++ hb.drop h.length)[i]? = some e ->
   (i < h'.length /\ h'[i]? = some x /\ hb1[i]? = some e) \/ (h'.length <= i /\ ext[i - h'.length]? = some x /\ (hb.drop h.length)[i - h'.length]? = some e /\ (h ++ ext)[i]? = some x /\ hb[i]? = some e):=by
  intro i x e h1 h2
  by_cases hi:i < h'.length
  ·rw [List.getElem?_append_left hi] at h1
   rw [List.getElem?_append_left (by omega)] at h2;exact .inl ⟨hi,h1,h2⟩
  ·rw [List.getElem?_append_right (by omega)] at h1 h2
   rw [hlen1] at h2;refine .inr ⟨by omega,h1,h2,?_,?_⟩
   ·rw [List.getElem?_append_right (by omega),<- hl]; exact h1
   ·rw [List.getElem?_drop] at h2
    rw [show h.length + (i - h'.length) = i by omega] at h2; exact h2
 refine ⟨⟨by simp only [List.length_append,List.length_drop]; omega,H'.gl,fun i b e h1 h2=>?_,fun i b e h1 h2 h3=>?_,fun i j b b' e e' h1 h2 h3 h4 h5 h6 h7=>?_⟩,⟨ok'.top,fun b hb'=>ok'.fr b (.inl hb')⟩,hh2⟩
 ·rcases hcase h1 h2 with ⟨g1,g2,g3⟩ | ⟨g1,g2,g3,g4,g5⟩
  ·exact (H'.box i b e g2 g3).mono (.refl _) (.append _ _) (fun _=>⟨rfl,rfl⟩)
  ·exact (H.box i b e g4 g5).mono hg.le hh2 (fun ho=>hg.fr _ (.inr ⟨_,b,e,g2,g3,ho,rfl⟩))
 ·rcases hcase h1 h2 with ⟨g1,g2,g3⟩ | ⟨g1,g2,g3,g4,g5⟩
  ·exact ⟨(H'.own i b e g2 g3 h3).1,fun hf=>(H'.own i b e g2 g3 h3).2 (.inl hf)⟩
  ·exact ⟨Nat.lt_of_lt_of_le (H.own i b e g4 g5 h3).1 hg.size,(H.own i b e g4 g5 h3).2⟩
 ·rcases hcase h1 h2 with ⟨g1,g2,g3⟩ | ⟨g1,g2,g3,g4,g5⟩ <;> rcases hcase h3 h4 with ⟨k1,k2,k3⟩ | ⟨k1,k2,k3,k4,k5⟩
  ·exact H'.dis i j b b' e e' g2 g3 k2 k3 h5 h6 h7
  ·exact absurd (.inr ⟨_,b',e',k2,k3,h6,h7.symm⟩) (H'.own i b e g2 g3 h5).2
  ·exact absurd (.inr ⟨_,b,e,g2,g3,h5,h7⟩) (H'.own j b' e' k2 k3 h6).2
  ·exact H.dis i j b b' e e' g4 g5 k4 k5 h5 h6 h7
def AE.under (n:Nat):AE -> Bool
 | .ret x | .panic x=>x.under n
theorem Mp {F:Nat -> Prop} {M:Mem} {hb:List HB} {h ext:List Ah} (H:AR F M hb (h ++ ext)) {R:AE -> List Ah -> Prop} (hR:∀ r h',R r h' -> h'.length = h.length) {e:Ending} {w:World}
  (hc:Np (fun b=>F b \/ Ii (hb.drop h.length) ext b) M (hb.take h.length) R e w):Np F M hb (fun r h''=>∃ h',R r h' /\ h'' = h' ++ ext) e w:=by
 obtain ⟨r,h',M',hb1,k1,k2,k3,k4,k5,k6,k7⟩:=hc;obtain ⟨j1,j2,j3⟩:=H.join (hR r h' k1) k4 k5 k6 k7;refine ⟨r,h' ++ ext,M',_,⟨h',k1,rfl⟩,?_,k3,j1,j2,k6.less (fun b hb=>.inl hb),j3⟩
 cases r <;> cases e <;> try exact k2
 ·exact Al.hb k2 (.append _ _)
 ·obtain ⟨v,h1,h2⟩:=k2
  exact ⟨v,h1,h2.hb (.append _ _)⟩
theorem IT {M:Mem} {hb:List HB} {args:List AV} {vs:Array Value} {n:Nat} (hv:AW M hb args vs) (ha:AZ n args = true):AW M (hb.take n) args vs :=
 ⟨hv.1,fun i x hx=>(hv.2 i x hx).take (C7 ha hx)⟩
theorem Ag.pre {P:Program} {f:FuncId} {args:List AV} {h:List Ah} (ext:List Ah) {R:AE -> List Ah -> Prop} (hu:Aw h) (ha:AZ h.length args = true) (hR:∀ r h',R r h' -> h'.length = h.length) (hc:Ag P f args h R) :
  Ag P f args (h ++ ext) (fun r h''=>∃ h',R r h' /\ h'' = h' ++ ext):=by
 refine ⟨hc.1,fun F M hb vs H ok hv=>?_⟩;obtain ⟨g1,g2⟩:=H.split ok hu;exact Calls.mono (hc.2 _ M _ vs g1 g2 (IT hv ha)) fun e w' hr=>Mp H hR hr
theorem Bl.pre {P:Program} {id:Nat} {args:List AV} {h:List Ah} (ext:List Ah) {R:AE -> List Ah -> Prop} (hu:Aw h) (ha:AZ h.length args = true) (hR:∀ r h',R r h' -> h'.length = h.length) (hc:Bl P id args h R) :
  Bl P id args (h ++ ext) (fun r h''=>∃ h',R r h' /\ h'' = h' ++ ext):=by
 intro F M hb vs H ok hv;obtain ⟨g1,g2⟩:=H.split ok hu;obtain ⟨e,h1,h2,fn,tmps,asg,bd,h3,h4⟩:=hc _ M _ vs g1 g2 (IT hv ha);refine ⟨e,?_,h2,fn,tmps,asg,bd,h3,RoundIn.mono h4 fun e w' hr=>Mp H hR hr⟩;rw [List.getElem?_take] at h1
 split at h1
 ·exact h1
 ·cases h1
theorem Ag.less {P:Program} {f:FuncId} {args:List AV} {h:List Ah} {R:AE -> List Ah -> Prop} (hc:Ag P f args h (fun r h'=>∃ h'',BI h''.length h' h'' /\ h.length <= h''.length /\ r.under h''.length = true /\ R r h'')):Ag P f args h R:=by
 refine ⟨hc.1,fun F M hb vs H ok hv=>Calls.mono (hc.2 F M hb vs H ok hv) ?_⟩;rintro e w' ⟨r,h',M',hb',⟨h'',k1,k2,k3,k4⟩,j2,j3,j4,j5,j6,j7⟩;refine ⟨r,h'',M',hb'.take h''.length,k4,?_,j3,j4.Jr k1,j5,j6,j7.take (by rw [H.len]; exact k2)⟩
 cases r <;> cases e <;> try exact j2
 ·exact Al.take j2 k3
 ·obtain ⟨v,h1,h2⟩:=j2
  exact ⟨v,h1,h2.take k3⟩
theorem Aa.scope {P:Program} {c:Code} {s:St} {Φ:AX -> St -> Prop} (h:Aa P none c s (fun x s'=>match x with | .goto _=>False | x=>Φ x s')):Aa P none (.scope c) s Φ:=by
 intro F M hb a ro hs hr
 cases ro with
 | some _=>exact hr.elim
 | none =>
 have h1:=(wpIn_wide (n:=0)).1 (h F M hb a none hs trivial);refine (wpIn_wide (n:=0)).2 (wp_scope_straight (wp_mono h1 ?_));rintro e a' w' ⟨x,s',M',hb',k,r1,r2,r3,r4,r5⟩
 cases x <;> cases e <;> try (first | exact r1.elim | exact k.elim)
 case normal.normal=>exact ⟨.normal,s',M',hb',k,r1,r2,r3,r4,r5⟩
 case exit.exit i j=>exact ⟨.exit i,s',M',hb',k,r1,r2,r3,r4,r5⟩
 case ret.ret=>exact ⟨.ret,s',M',hb',k,r1,r2,r3,r4,r5⟩
 case panic.panic x ch=>exact ⟨.panic x,s',M',hb',k,r1,r2,r3,r4,r5⟩
end Go.PM

namespace Go.PM
variable [AA]
def Ew (l:Array Oper) (i:Nat) (f:Oper -> Prop):Prop:=match l[i]? with
 | some o=>f o
 | none=>False
theorem T4 (o:Oper) (l:List Oper) (f:Oper -> Prop):Ew (List.toArray (o :: l)) 0 f = f o:=by simp [Ew]
theorem Un (o:Oper) (l:List Oper) (i:Nat) (f:Oper -> Prop):Ew (List.toArray (o :: l)) (i + 1) f = Ew l.toArray i f:=by simp [Ew]
def J3 (P:Program) (ops:Array Oper) (o:Oper) (c:Cj) (s:St) (K:AV -> List Ah -> Prop):Prop :=
 match o.guard with
 | none=>AU P o c s K
 | some (j,want)=>Ds (EB ops s.t j) want (AU P o c s K) (K (.tup []) s.h)
theorem Ln (P:Program) (ops:Array Oper) (i:Nat) (c:Cj) (s:St) (K:AV -> List Ah -> Prop):CD P ops (i,c) s K = Ew ops i (fun o=>J3 P ops o c s K):=by
 simp only [CD,Ew]
 cases ops[i]? with
 | none=>rfl
 | some o =>
  simp only [J3]
  cases o.guard with
  | none=>rfl
  | some gw =>
   obtain ⟨j,want⟩:=gw;simp only [EB]
   cases DW ops j with
   | none=>rfl
   | some d =>
    simp only [Ds];generalize s.t.get d = v
    cases v <;> try rfl
    ·rename_i v
     cases v <;> try rfl
     exact KN _ _ _ _
    ·rename_i l
     cases l <;> rfl
def Az (P:Program) (ops:Array Oper) (l:List (Nat × Cj)) (s:St) (K:St -> Prop):Prop :=
 match l with
 | []=>K s
 | (i,c) :: l=>Ew ops i (fun o=>J3 P ops o c s (fun v h=>Az P ops l ⟨s.t.BZ o.dst v,h,s.d⟩ K))
theorem L0 {P:Program} {ops:Array Oper} {i:Nat} {o:Oper} (ho:ops[i]? = some o) {c:Cj} {s:St} {K K':AV -> List Ah -> Prop} (hk:J3 P ops o c s K) (hm:∀ v h,K v h -> K' v h):J3 P ops o c s K':=by
 have h1:CD P ops (i,c) s K:=by rw [Ln]; simp only [Ew,ho]; exact hk
 obtain ⟨t,h,d⟩:=s;obtain ⟨v,h',k1,k2,_⟩:=Em h1;have h2:=k2 K' (hm _ _ k1);rw [Ln] at h2;simp only [Ew,ho] at h2;exact h2
theorem Az.run {P:Program} {ops:Array Oper} {K:St -> Prop}:∀ (l:List (Nat × Cj)) (s:St),Az P ops l s K -> AO P ops l s K:=by
 intro l
 induction l with
 | nil=>exact fun s h=>h
 | cons p l ih =>
  obtain ⟨i,c⟩:=p;intro s h;simp only [AO,Ln];simp only [Az,Ew] at h ⊢
  cases ho:ops[i]? with
  | none=>rw [ho] at h; exact h
  | some o =>
   rw [ho] at h;simp only at h ⊢;have hd:BU ops i = o.dst:=by simp [BU,ho]
   rw [hd];exact L0 ho h fun v h' hh=>ih _ hh
def kR (P:Program) (ops:Array Oper) (l:List (Nat × Cj)) (t:Tm) (d:List AD) (dst:Option Tmp) (K:St -> Prop) (v:AV) (h:List Ah):Prop:=Az P ops l ⟨t.BZ dst v,h,d⟩ K
def kH (K:AV -> List Ah -> Prop) (h:List Ah) (v:AV):Prop:=K v h
def kU (K:AV -> List Ah -> Prop) (h0:List Ah) (v:AV) (h:List Ah):Prop:=Ai h0 h /\ K v h
theorem Aa.BS {P:Program} {rd:Option Nat} {s:St} {Φ:AX -> St -> Prop} {id:Nat} {ops:Array Oper} (π:List (Nat × Cj)) (hm:P.follows .mixedOrders = true) (hok:EO ops π = true) (h:Az P ops π s (Φ .normal)) :
  Aa P rd (.region id ops true) s Φ:=Aa.drawn π hm hok (Az.run π s h)
section
variable (P:Program) (ops:Array Oper) (dst:Option Tmp) (ty:TypeId) (pos:String) (after:Array Edge) (s:St) (K:AV -> List Ah -> Prop) (g:Option (Nat × Bool)) (c:Cj) (t:Tm) (h:List Ah) (d:List AD)
theorem YY (K:St -> Prop):Az P ops [] s K = K s:=rfl
theorem UB (i:Nat) (c:Cj) (l:List (Nat × Cj)) (K:St -> Prop):Az P ops ((i,c) :: l) s K = Ew ops i (fun o=>J3 P ops o c s (kR P ops l s.t s.d o.dst K)):=rfl
theorem ag2 (l:List (Nat × Cj)) (K:St -> Prop) (v:AV):kR P ops l t d dst K v h = Az P ops l ⟨t.BZ dst v,h,d⟩ K:=rfl
theorem aeZ (v:AV):kH K h v = K v h:=rfl
theorem age (h0:List Ah) (v:AV):kU K h0 v h = (Ai h0 h /\ K v h):=rfl
theorem SF (op:Op):J3 P ops ⟨dst,op,ty,pos,after,none⟩ c s K = AU P ⟨dst,op,ty,pos,after,none⟩ c s K:=rfl
theorem Pa (op:Op) (j:Nat) (want:Bool):J3 P ops ⟨dst,op,ty,pos,after,some (j,want)⟩ c s K = Ds (EB ops s.t j) want (AU P ⟨dst,op,ty,pos,after,some (j,want)⟩ c s K) (K (.tup []) s.h):=rfl
theorem UG (x:Operand):AU P ⟨dst,.move x,ty,pos,after,g⟩ .free s K = K (s.ev x) s.h:=by simp [AU,DF,FB]
theorem O5 (x:Operand):AU P ⟨dst,.assign x,ty,pos,after,g⟩ .free s K = K (s.ev x) s.h:=by simp [AU,DF,FB]
theorem UD (x a b:Operand):AU P ⟨dst,.pick x a b,ty,pos,after,g⟩ .free s K = QS (s.ev x) (K (s.ev a) s.h) (K (s.ev b) s.h):=by
 simp only [AU,DF,true_and,FB];generalize s.ev x = v
 cases v <;> try rfl
 rename_i v
 cases v <;> try rfl
 exact KN _ true _ _
theorem MD (x:Operand):AU P ⟨dst,.nilCheck x,ty,pos,after,g⟩ .free s K = match s.ev x with
  | .ptr id o=>K (.ptr id o) s.h
  | .cptr cs=>K (.cptr cs) s.h
  | .fn f caps=>K (.fn f caps) s.h
  | .yld id=>K (.yld id) s.h
  | _=>False:=by simp only [AU,DF,FB,eq_self,true_and]; rfl
def Fy (y:Operand) (B A:Prop):Prop:=if Bn y = true then B else A
theorem SA (i:Tmp) (B A:Prop):Fy (.tmp i) B A = A:=by simp [Fy,Bn]
theorem RV (k:IntKind) (n:Int) (B A:Prop):Fy (.const (.int k n)) B A = A:=by simp [Fy,Bn]
theorem Q6 (b:ByteArray) (B A:Prop):Fy (.const (.string b)) B A = A:=by simp [Fy,Bn]
theorem R4 (B A:Prop):Fy (.const (.pointer none)) B A = B:=by simp [Fy,Bn]
theorem R2 (op:BinOp) (t1 t2:TypeId) (x y:Operand):AU P ⟨dst,.binOp op t1 x y t2,ty,pos,after,g⟩ .free s K = Fy y (Qu P op t1 (s.ev x) y (kH K s.h)) (match s.ev x,s.ev y with
   | .val a,.val b=>OO (P.underlying t1) op a b (fun v=>K (.val v) s.h)
   | .agg xs,.agg ys=>GW P t1 op xs ys (fun b=>K (.val (.bool b)) s.h)
   | _,_=>False):=by
 simp only [AU,FB,Fy]
 cases hn:Bn y
 ·simp only [Bool.false_eq_true,if_false]; rfl
 ·simp only [if_true]; rfl
theorem Ud (op:UnOp) (t1:TypeId) (x:Operand):AU P ⟨dst,.unOp op t1 x,ty,pos,after,g⟩ .free s K = match op,s.ev x with
  | .not,.val (.bool b)=>K (.val (.bool (!b))) s.h
  | .neg,.val (.int k n)=>K (.val (.int k (k.wrap (0 - n)))) s.h
  | _,_=>False:=by simp only [AU,DF,FB,eq_self,true_and]; rfl
theorem N7 (a b:TypeId) (x:Operand):AU P ⟨dst,.convert a b x,ty,pos,after,g⟩ .free s K = FN P a b (s.ev x) (fun v=>K v s.h):=rfl
theorem Ry (t1:TypeId) (x:Operand) (f:Nat):AU P ⟨dst,.field t1 x f,ty,pos,after,g⟩ .free s K = Ha P t1 (s.ev x) f (fun v=>K v s.h):=by simp [AU,DF,FB]
theorem LN (t1:TypeId) (x:Operand) (f:Nat):AU P ⟨dst,.fieldAddr t1 x f,ty,pos,after,g⟩ .free s K = ((match s.ev x with | .eptr ..=>False | _=>True) /\ CT P t1 (s.ev x) f (fun v=>K v s.h)):=by simp only [AU,DF,FB,eq_self,true_and]; rfl
theorem RO (t1:TypeId) (x i:Operand):AU P ⟨dst,.index t1 x i,ty,pos,after,g⟩ .free s K = F6 P t1 (s.ev x) (s.ev i) (fun v=>K v s.h):=by simp [AU,DF,FB]
theorem N1 (x:Operand) (i:Nat):AU P ⟨dst,.extract x i,ty,pos,after,g⟩ .free s K = match s.ev x with
  | .tup vs=>i < vs.length /\ K (vs.getD i .dead) s.h
  | _=>False:=by simp only [AU,DF,FB,eq_self,true_and]; rfl
theorem Me (t1:TypeId) (m k x:Operand):CV P ⟨dst,.mapUpdate t1 m k x,ty,pos,after,g⟩ s K = Kj P s.h t1 (s.ev m) (s.ev k) (s.ev x) (fun h=>K .dead h):=rfl
theorem Ok (t1:TypeId) (r:Option Operand):CV P ⟨dst,.makeMap t1 r,ty,pos,after,g⟩ s K = FI P s.h t1 (r.map s.ev) K:=rfl
theorem RR (t1:TypeId) (ps:Array (Nat × Operand)):AU P ⟨dst,.build t1 ps,ty,pos,after,g⟩ .free s K = Ea P t1 (ps.toList.map fun p=>(p.1,s.ev p.2)) (fun v=>K v s.h):=rfl
theorem TY (f:FuncId) (args:Array Operand) (ts:Array TypeId):AU P ⟨dst,.call ⟨.value (.func f),args,ts⟩,ty,pos,after,g⟩ .free s K = AI P f (args.toList.map s.ev ++ []) (kH K s.h):=rfl
theorem Rp (i:Tmp) (args:Array Operand) (ts:Array TypeId):AU P ⟨dst,.call ⟨.value (.tmp i),args,ts⟩,ty,pos,after,g⟩ .free s K = match s.t.get i with
  | .fn f caps=>AI P f (args.toList.map s.ev ++ caps) (kH K s.h)
  | _=>False:=rfl
theorem PZ (op:Op):CO s op = ((op.operands.toList.all fun x=>(s.ev x).E6) = true):=by
 simp only [CO,List.all_eq_true,Array.mem_toList_iff]
theorem T3 (t1:TypeId) (p:Operand):AU P ⟨dst,.load t1 p,ty,pos,after,g⟩ .read s K = ((s.ev p).E6 = true /\ DN P s.h t1 (s.ev p) (fun v=>K v s.h)):=by
 simp [AU,HU,FB,CO,Op.operands]
theorem Mm (t1:TypeId) (x i:Operand):AU P ⟨dst,.indexAddr t1 x i,ty,pos,after,g⟩ .read s K = (((s.ev x).E6 = true /\ (s.ev i).E6 = true) /\ BW P s.h t1 (s.ev x) (s.ev i) (fun v=>K v s.h)):=by
 simp [AU,HU,FB,CO,Op.operands]
theorem Sh (t1:TypeId) (x:Operand) (lo hi mx:Option Operand):AU P ⟨dst,.slice t1 x lo hi mx,ty,pos,after,g⟩ .read s K = (CO s (.slice t1 x lo hi mx) /\ EE P s.h t1 (s.ev x) (lo.map s.ev) (hi.map s.ev) (mx.map s.ev) (fun v=>K v s.h)):=by
 simp [AU,HU,FB]
theorem Yi (args:Array Operand) (ts:Array TypeId):AU P ⟨dst,.call ⟨.builtin .len,args,ts⟩,ty,pos,after,g⟩ .read s K = (CO s (.call ⟨.builtin .len,args,ts⟩) /\ Fb P s.h .len ts.toList (args.toList.map s.ev) (fun v=>K v s.h)):=by simp [AU,FB]
theorem UJ (f:FuncId) (args:Array Operand) (ts:Array TypeId):AU P ⟨dst,.call ⟨.value (.func f),args,ts⟩,ty,pos,after,g⟩ .read s K = He P f (args.toList.map s.ev ++ []) s.h (kH K s.h):=rfl
theorem adF (o:Oper):AU P o .upd s K = CV P o s (kU K s.h):=rfl
theorem YL (id:Nat) (t1:TypeId) (p x:Operand):AU P ⟨dst,.store t1 p x,ty,pos,after,g⟩ (.wr id) s K = (TG (s.ev p) id /\ DE P s.h t1 (s.ev p) (s.ev x) (K .dead)):=rfl
theorem Uy (ids:List Nat) (t1:TypeId) (p:Operand):AU P ⟨dst,.load t1 p,ty,pos,after,g⟩ (.look ids) s K = (N0 (s.ev p) ids /\ DN P s.h t1 (s.ev p) (kH K s.h)):=rfl
theorem UK (i o id:Nat):TG (.ptr i o) id = (i = id):=rfl
theorem RU (i o:Nat) (ids:List Nat):N0 (.ptr i o) ids = (ids.contains i = false):=rfl
theorem aeh (o:Oper):AU P o .set s K = CV P o s K:=rfl
theorem heap_alloc (t1:TypeId):CV P ⟨dst,.alloc t1,ty,pos,after,g⟩ s K = EC P s.h t1 K:=rfl
theorem W0 (t1:TypeId) (x:Operand):CV P ⟨dst,.box t1 x,ty,pos,after,g⟩ s K = PT s.h (s.ev x) K:=rfl
theorem Kq (t1:TypeId) (n:Nat) (ps:Array (Nat × Operand)):CV P ⟨dst,.buildSlice t1 n ps,ty,pos,after,g⟩ s K = BL P s.h t1 n (ps.toList.map (·.1)) (ps.toList.map fun p=>s.ev p.2) K:=rfl
theorem R1 (t1:TypeId) (p x:Operand):CV P ⟨dst,.store t1 p x,ty,pos,after,g⟩ s K = DE P s.h t1 (s.ev p) (s.ev x) (fun h=>K .dead h):=rfl
theorem VF (f:FuncId) (args:Array Operand) (ts:Array TypeId):CV P ⟨dst,.call ⟨.value (.func f),args,ts⟩,ty,pos,after,g⟩ s K = Pp P f (args.toList.map s.ev ++ []) s.h K:=rfl
end
section
variable {P:Program} {ops:Array Oper}
@[congr] theorem abM {f:FuncId} {args args':List AV} {K:AV -> Prop} (h1:args = args'):AI P f args K = AI P f args' K:=by rw [h1]
@[congr] theorem acf {f:FuncId} {args args':List AV} {h h':List Ah} {K:AV -> Prop} (h1:args = args') (h2:h = h'):He P f args h K = He P f args' h' K:=by rw [h1,h2]
@[congr] theorem aca {f:FuncId} {args args':List AV} {h h':List Ah} {K:AV -> List Ah -> Prop} (h1:args = args') (h2:h = h'):Pp P f args h K = Pp P f args' h' K:=by rw [h1,h2]
end
theorem T0 (v:Value):(AV.val v).E6 = true:=rfl
theorem WS (f:Bool) (es:List AV):(AV.sl f es).E6 = true:=rfl
theorem UO (a b:Nat):(AV.ptr a b).E6 = true:=rfl
theorem Re (a:List AV):(AV.cptr a).E6 = true:=rfl
attribute [go_sem ↓] ag2 aeZ age T4 Un YY UB SF Pa UG O5 UD MD SA RV Q6 R4 R2 Ud N7 Ry LN RO N1 RR C8 Qu TY Rp T3 Mm Sh Yi UJ YL Uy UK RU adF aeh heap_alloc W0 Kq R1 VF Me Ok
theorem AI.go {P:Program} {f:FuncId} {args:List AV} {v:AV} {K:AV -> Prop} (hc:Af P f args (· = v)) (hp:args.all AV.pure = true) (hk:K v):AI P f args K:=⟨hp,v,hc,hk⟩
attribute [go_sem] implies_true forall_const
attribute [go_sem] PZ Op.operands Call.operands T0 WS UO Re
def Mj (P:Program) (t:TypeId):List AV -> List (Nat × AV) -> (List AV -> Prop) -> Prop
 | cells,[],K=>K cells
 | cells,(i,x) :: rest,K=>match AG P t i with
  | some (off,T)=>x.cells.length = T.size /\ Ec x.cells = true /\ off + T.size <= cells.length /\ Mj P t (putAt cells off x.cells) rest K
  | none=>False
theorem T8 (P:Program) (t:TypeId) (cells:List AV) (K:List AV -> Prop):Mj P t cells [] K = K cells:=rfl
theorem R6 (P:Program) (t:TypeId) (cells:List AV) (i:Nat) (x:AV) (rest:List (Nat × AV)) (K:List AV -> Prop):Mj P t cells ((i,x) :: rest) K = match AG P t i with
  | some (off,T)=>x.cells.length = T.size /\ Ec x.cells = true /\ off + T.size <= cells.length /\ Mj P t (putAt cells off x.cells) rest K
  | none=>False:=rfl
theorem Wn {P:Program} {t:TypeId} {fields:Array Field} (hu:P.underlying t = some (.struct fields)) {place:Nat -> Option (Nat × Nat)} (hp:placeOf P t = some place):∀ (ps:List (Nat × AV)) (cells:List AV) (K:List AV -> Prop),Gy place cells ps K = Mj P t cells ps K:=by
 intro ps
 induction ps with
 | nil=>intro cells K; rfl
 | cons p ps ih =>
  obtain ⟨i,x⟩:=p;intro cells K;simp only [Gy,Mj,AG,hu];unfold placeOf at hp;rw [hu] at hp;simp only [Option.some.injEq] at hp;subst hp;simp only
  cases fields[i]? with
  | none=>rfl
  | some fd =>
   simp only
   cases Ba P fd.type with
   | none=>rfl
   | some T=>simp only [Option.map_some]; rw [ih]
theorem AL {P:Program} {t:TypeId} {fields:Array Field} {T:Ty} (hu:P.underlying t = some (.struct fields)) (hT:Ba P t = some T) (ps:List (Nat × AV)) (K:AV -> Prop) :
  Ea P t ps K = (DJ T = true /\ T.isAgg = true /\ AM P t = true /\ Mj P t (zeroOf T).cells ps (fun cs=>K (.agg cs))):=by
 have hp:∃ place,placeOf P t = some place:=by unfold placeOf; rw [hu]; exact ⟨_,rfl⟩
 obtain ⟨place,hp⟩:=hp;unfold Ea;rw [hT,hp];simp only;rw [Wn hu hp]
attribute [go_sem ↓] T8 R6
end Go.PM

namespace Go.PM
variable [AA]
theorem Aa.Da {P:Program} {rd:Option Nat} {c:Code} {s:St} {Φ:AX -> St -> Prop} (id j sz:Nat) {cs:List AV} (hh:s.h[id]? = some (.cells cs)) (hx:cs[j]? = some (.sl true []))
  (h:Aa P rd c ⟨s.t,s.h.set id (.cells (cs.set j (.hsl s.h.length 0 0 0))) ++ [.row true 0 sz []],s.d⟩ Φ):Aa P rd c s Φ:=by
 intro F M hb a ro hs hr;have H:=hs.hp;obtain ⟨e,he⟩:∃ e,hb[id]? = some e:=by
  have:id < hb.length:=by rw [H.len]; exact (List.getElem?_eq_some_iff.1 hh).1
  exact ⟨_,List.getElem?_eq_getElem this⟩
 obtain ⟨q1,q2,ca,q3,q4⟩:=H.box id _ e hh he;obtain ⟨hb1,p1,p2,p3⟩:=Go.PM.Kz H hs.ok (q4.2 j _ hx).2 sz;obtain ⟨e',he',_,_,hfix,_⟩:=p2 id e he;rw [hfix q1] at he';have hpre:(s.h ++ [Ah.row true 0 sz []])[id]? = some (.cells cs):=by
  have:=(List.getElem?_eq_some_iff.1 hh).1;rw [List.getElem?_append_left this]; exact hh
 have hu:=p1.update (M':=M) (b':=.cells (cs.set j (.hsl s.h.length 0 0 0))) (e':=e) hpre he' (.refl M) (Nat.le_refl _) (Bf.set he' (Nat.le_refl _) rfl (fun _=>rfl) (fun _=>rfl)) (fun _ _ _=>⟨rfl,rfl⟩)
  ⟨q1,q2,ca,q3,by rw [List.length_set]; exact q4.1,fun k y hy=>by
   rw [Cp he']
   by_cases hkj:j = k
   ·subst hkj
    have hjl:=(List.getElem?_eq_some_iff.1 hx).1;simp [hjl] at hy;subst hy;exact ⟨rfl,p3⟩
   ·rw [List.getElem?_set_ne hkj] at hy
    exact ⟨(q4.2 k y hy).1,(q4.2 k y hy).2.hb p2⟩⟩ (fun _=>.inl ⟨rfl,rfl⟩)
 rw [Cp he'] at hu;have Cf:(s.h ++ [Ah.row true 0 sz []]).set id (.cells (cs.set j (.hsl s.h.length 0 0 0))) = s.h.set id (.cells (cs.set j (.hsl s.h.length 0 0 0))) ++ [.row true 0 sz []]:=by
  have:=(List.getElem?_eq_some_iff.1 hh).1;rw [List.set_append_left _ _ this]
 rw [Cf] at hu;exact wpIn_mono (h F M hb1 a ro ⟨hs.tm.mono (.refl _) p2,hs.df.mono (.refl _) p2,hu,hs.ok⟩ (hr.mono p2)) fun _ _ _ hq=>hq.trans (.refl _ _) p2
end Go.PM

namespace Go.PM
variable [AA]
theorem Nf (l:List Ah) (a b c:Ah):(l ++ [a,b]).set (l.length + 1) c = l ++ [a,c]:=by
 rw [List.set_append_right _ _ (by omega),show l.length + 1 - l.length = 1 by omega];rfl
theorem MT (l:List Ah) (a b:Ah):(l ++ [a,b])[l.length + 1]? = some b:=by
 rw [List.getElem?_append_right (by omega),show l.length + 1 - l.length = 1 by omega];rfl
theorem Pt (t:Tm) (p:Tmp) (ps:List Tmp) (x:AV) (xs:List AV):CN t (p :: ps) (x :: xs) = CN (t.put p x) ps xs:=rfl
theorem RZ (t:Tm) (xs:List AV):CN t [] xs = t:=by cases xs <;> rfl
attribute [go_sem] Pt RZ
end Go.PM

namespace Go.PM
variable [AA]
theorem Oper.XG {Fc:Fence} {n:Nat} {P:Program} {o:Oper} {a:Act} {w:World} {next:Act -> World -> Prop} {Q:Exit -> Act -> World -> Prop}
  (h:o.wpIn Fc n P a w (fun a' w'=>(∃ v a0,a0.tmps = a.tmps /\ a' = Act.put a0 o.dst v) -> next a' w') Q):o.wpIn Fc n P a w next Q:=by
 refine ⟨h.1,?_⟩;have h2:=h.2;generalize (o.semAt Fc.round a.eval).run P w = r at h2 ⊢
 cases r with
 | ok x w' =>
  cases x with
  | value v=>exact h2 ⟨v,a,rfl,rfl⟩
  | skip=>exact h2 ⟨undef,a,rfl,rfl⟩
  | defer d=>exact h2 ⟨undef,{ a with defers:=d :: a.defers },rfl,rfl⟩
  | enter f args =>
   refine ⟨h2.1,CallsIn.mono h2.2 ?_⟩;intro e w'' hh
   cases e with
   | returned v=>exact hh ⟨v,a,rfl,rfl⟩
   | panicked ch=>exact hh
   | outgrown=>exact hh
  | row row args=>exact ⟨h2.1,RowsIn.mono h2.2 fun v w'' hh=>hh ⟨v,a,rfl,rfl⟩⟩
  | round l f tmps assign body =>
   refine ⟨h2.1,RoundIn.mono h2.2 ?_⟩;intro e w'' hh
   cases e with
   | returned v=>exact hh ⟨v,a,rfl,rfl⟩
   | panicked ch=>exact hh
   | outgrown=>exact hh
  | _=>exact False.elim h2
 | halt y w'=>cases y <;> exact h2
def H5 (ops:Array Oper) (x y:Nat):Bool:=match ops[x]?,ops[y]? with
 | some a,some b=>a.apart ops b
 | _,_=>false
def DU (ops:Array Oper) (lates:List Nat) (x y:Nat × Cj):Bool:=if lates.contains y.1 then H5 ops x.1 y.1 else E8 ops x y
def NM (ops:Array Oper) (lates:List Nat) (y:Nat × Cj):List (Nat × Cj) -> Bool
 | []=>true
 | x :: r=>(!lates.contains x.1 || compat ops y x || r.all fun j=>!reachB ops ops.size x.1 j.1 || reachB ops ops.size y.1 j.1) && NM ops lates y r
def aa2 (ops:Array Oper) (lates:List Nat):List (Nat × Cj) -> Bool
 | []=>true
 | y :: r=>NM ops lates y r && aa2 ops lates r
def OW (P:Program) (ops:Array Oper) (i:Nat):Bool:=match ops[i]? with
 | some o=>o.guard.isNone && (match o.op with
  | .alloc t=>(match Ba P t with
   | some T=>DJ T
   | none=>false)
  | _=>false)
 | none=>false
theorem Fv {P:Program} {ops:Array Oper} {i:Nat} (h:OW P ops i = true):∃ o t T,ops[i]? = some o /\ o.op = .alloc t /\ o.guard = none /\ Ba P t = some T /\ DJ T = true:=by
 unfold OW at h
 split at h
 ·rename_i o ho
  simp only [Bool.and_eq_true,Option.isNone_iff_eq_none] at h;obtain ⟨h1,h2⟩:=h
  split at h2
  ·rename_i t ht
   split at h2
   ·rename_i T hT
    exact ⟨o,t,T,ho,ht,h1,hT,h2⟩
   ·cases h2
  ·cases h2
 ·cases h
def Sz (P:Program) (ops:Array Oper) (lates:List Nat) (π:List (Nat × Cj)):Bool :=
 decide (π.map (·.1)).Nodup && (List.range ops.size).all (fun i=>(π.map (·.1)).contains i) && π.all (fun p=>decide (p.1 < ops.size)) && decide (π.Pairwise fun x y=>DU ops lates x y = true) &&
  ((List.range ops.size).all fun i=>match ops[i]? with
   | some o=>o.after.all fun e=>!Region.binds .any e || decide (e.on < i)
   | none=>true) && aa2 ops lates π && (lates.all fun i=>OW P ops i) && π.all fun p=>!lates.contains p.1 || p.2 == .upd
def Tri (ops:Array Oper) (lates:List Nat) (l:List (Nat × Cj)):Prop :=
 ∀ y x j,List.Sublist [y,x,j] l -> lates.contains x.1 = true -> reachB ops ops.size x.1 j.1 = true -> reachB ops ops.size y.1 j.1 = true \/ compat ops y x = true
theorem VP {ops:Array Oper} {lates:List Nat} {y:Nat × Cj}:∀ {l:List (Nat × Cj)},NM ops lates y l = true -> ∀ x j,List.Sublist [x,j] l -> lates.contains x.1 = true -> reachB ops ops.size x.1 j.1 = true -> reachB ops ops.size y.1 j.1 = true \/ compat ops y x = true:=by
 intro l
 induction l with
 | nil=>intro _ x j hs; cases hs
 | cons z r ih =>
  intro h x j hs hl hr;simp only [NM,Bool.and_eq_true] at h
  cases hs with
  | cons _ hs=>exact ih h.2 x j hs hl hr
  | cons_cons _ hs =>
   have h1:=h.1;simp only [Bool.or_eq_true,Bool.not_eq_true',List.all_eq_true] at h1
   rcases h1 with (h1 | h1) | h1
   ·rw [hl] at h1; cases h1
   ·exact .inr h1
   ·have hj:j ∈ r:=List.singleton_sublist.1 hs
    rcases h1 j hj with h2 | h2
    ·rw [hr] at h2; cases h2
    ·exact .inl h2
theorem XI {ops:Array Oper} {lates:List Nat}:∀ {l:List (Nat × Cj)},aa2 ops lates l = true -> Tri ops lates l:=by
 intro l
 induction l with
 | nil=>intro _ y x j hs; cases hs
 | cons z r ih =>
  intro h y x j hs hl hr;simp only [aa2,Bool.and_eq_true] at h
  cases hs with
  | cons _ hs=>exact ih h.2 y x j hs hl hr
  | cons_cons _ hs=>exact VP h.1 x j hs hl hr
def FF (F:Nat -> Prop) (Bb:List (Nat × Nat)) (b:Nat):Prop:=F b \/ b ∈ Bb.map (·.2)
structure KA (P:Program) (ops:Array Oper) (M:Mem) (a:Act) (p:Nat × Nat):Prop where
 ex:∃ o t T ty,ops[p.1]? = some o /\ o.op = .alloc t /\ o.guard = none /\ Ba P t = some T /\ DJ T = true /\ M.w.heap[p.2]? = some (.cells T.zero.cells ty (0,0)) /\ (∀ d,o.dst = some d -> d < a.tmps.size -> a.tmps.getD d undef = .pointer (some ⟨p.2,0,none⟩))
 lo:M.lo p.2 = 0
 lt:p.2 < M.w.heap.size
structure Pq (P:Program) (ops:Array Oper) (F:Nat -> Prop) (M:Mem) (a:Act) (Bb:List (Nat × Nat)):Prop where
 each:∀ p ∈ Bb,KA P ops M a p
 nodup:(Bb.map (·.2)).Nodup
 apart:∀ p ∈ Bb,¬ F p.2
structure D7 (P:Program) (ops:Array Oper) (lates:List Nat) (listed:Array Bool) (l:List (Nat × Cj)) (Bb:List (Nat × Nat)):Prop where
 size:listed.size = ops.size
 closed:Om ops listed
 nodup:(l.map (·.1)).Nodup
 pnodup:(Bb.map (·.1)).Nodup
 mem:∀ i,i ∈ l.map (·.1) ↔ i < ops.size /\ (listed.getD i true = false \/ i ∈ Bb.map (·.1))
 plisted:∀ i ∈ Bb.map (·.1),listed.getD i true = true /\ lates.contains i = true
 pairs:l.Pairwise fun x y=>DU ops lates x y = true
 tri:Tri ops lates l
 back:∀ (i:Nat) (o:Oper),ops[i]? = some o -> ∀ e ∈ o.after,Region.binds .any e = true -> e.on < i
 late:∀ i,lates.contains i = true -> OW P ops i = true
 cls:∀ p ∈ l,lates.contains p.1 = true -> p.2 = .upd
theorem CI {α:Type} (p:List α) (x:α) (q:List α):(p ++ q).Sublist (p ++ x :: q):=List.Sublist.append (List.Sublist.refl _) (List.sublist_cons_self _ _)
theorem aem {F:Nat -> Prop} {P1 P2:List (Nat × Nat)} {z:Nat × Nat} {b:Nat}:FF F (P1 ++ z :: P2) b ↔ FF F (P1 ++ P2) b \/ b = z.2:=by
 simp only [FF,List.map_append,List.map_cons,List.mem_append,List.mem_cons];constructor
 ·rintro (h | h | h | h)
  ·exact .inl (.inl h)
  ·exact .inl (.inr (.inl h))
  ·exact .inr h
  ·exact .inl (.inr (.inr h))
 ·rintro ((h | h | h) | h)
  ·exact .inl h
  ·exact .inr (.inl h)
  ·exact .inr (.inr (.inr h))
  ·exact .inr (.inr (.inl h))
theorem V2 {P:Program} {ops:Array Oper} {F:Nat -> Prop} {M:Mem} {hb:List HB} {s:St} {a:Act} {P1 P2:List (Nat × Nat)} {z:Nat × Nat} {c:Cj} {l:List (Nat × Cj)} {K:St -> Prop}
  (hc:c = .upd) (hs:BR (FF F (P1 ++ z :: P2)) M hb s a) (hp:Pq P ops F M a (P1 ++ z :: P2)) (hr:AO P ops ((z.1,c) :: l) s K) :
  ∃ s1 hb1,AO P ops l s1 K /\ BR (FF F (P1 ++ P2)) M hb1 s1 a /\ Bf hb hb1 /\ Pq P ops F M a (P1 ++ P2):=by
 subst hc;have hz:z ∈ P1 ++ z :: P2:=by simp
 obtain ⟨⟨o,t,T,ty,h1,h2,h3,h4,h5,h6,h7⟩,h8,h9⟩:=hp.each z hz;have hd:BU ops z.1 = o.dst:=by simp [BU,h1]
 simp only [AO,CD,h1,h3,AU,CV,h2,hd,EC,h4] at hr;obtain ⟨_,_,hr⟩:=hr;obtain ⟨t0,h0,d0⟩:=s;simp only at hr
 let e:HB:=⟨z.2,0,0,0,true,true⟩
 have hown:∀ (i:Nat) (b:Ah) (e':HB),h0[i]? = some b -> hb[i]? = some e' -> b.owns e' = true -> e'.blk ≠ z.2:=by
  intro i b e' g1 g2 g3 he;exact (hs.hp.own i b e' g1 g2 g3).2 (he ▸ .inr (List.mem_map.2 ⟨z,hz,rfl⟩))
 have hsub:∀ b,FF F (P1 ++ P2) b -> FF F (P1 ++ z :: P2) b:=fun b h=>aem.2 (.inl h);have hnin:¬ FF F (P1 ++ P2) z.2:=by
  rintro (h | h)
  ·exact hp.apart z hz h
  ·have:=hp.nodup
   rw [List.map_append,List.map_cons] at this;have h':=List.nodup_append.1 this;rw [List.map_append,List.mem_append] at h
   rcases h with h | h
   ·exact h'.2.2 _ h _ List.mem_cons_self rfl
   ·exact (List.nodup_cons.1 h'.2.1).1 h
 have hlen:=hs.hp.len;have hle:Bf hb (hb ++ [e]):=.append hb _;have hH:AR (FF F (P1 ++ P2)) M (hb ++ [e]) (h0 ++ [.cells (zeroOf T).cells]):=by
  have hzr:BE M (hb ++ [e]) (zeroOf T).cells T.zero.cells:=by
   simp only [DJ,Bool.and_eq_true] at h5;exact CK (ES M _ T.zero) h5.1.1
  have hget:∀ {i:Nat} {b:Ah} {e':HB},(h0 ++ [Ah.cells (zeroOf T).cells])[i]? = some b -> (hb ++ [e])[i]? = some e' -> (h0[i]? = some b /\ hb[i]? = some e') \/ (i = h0.length /\ b = .cells (zeroOf T).cells /\ e' = e):=by
   intro i b e' g1 g2
   by_cases hi:i < h0.length
   ·rw [List.getElem?_append_left hi] at g1
    rw [List.getElem?_append_left (by rw [hlen]; exact hi)] at g2;exact .inl ⟨g1,g2⟩
   ·have hi':i = h0.length:=by
     have:=(List.getElem?_eq_some_iff.1 g1).1;simp at this; omega
    subst hi';rw [Dd] at g1;rw [<- hlen,Dd] at g2
    cases g1; cases g2
    exact .inr ⟨rfl,rfl,rfl⟩
  refine ⟨by simp [hlen],hs.hp.gl,fun i b e' g1 g2=>?_,fun i b e' g1 g2 g3=>?_,fun i j b b' e1 e2 g1 g2 g3 g4 g5 g6 g7=>?_⟩
  ·rcases hget g1 g2 with ⟨k1,k2⟩ | ⟨_,rfl,rfl⟩
   ·exact (hs.hp.box i b e' k1 k2).mono (.refl M) hle (fun _=>⟨rfl,rfl⟩)
   ·exact ⟨rfl,h8,_,⟨ty,h6⟩,hzr⟩
  ·rcases hget g1 g2 with ⟨k1,k2⟩ | ⟨_,rfl,rfl⟩
   ·have:=hs.hp.own i b e' k1 k2 g3
    exact ⟨this.1,fun h=>this.2 (hsub _ h)⟩
   ·exact ⟨h9,hnin⟩
  ·rcases hget g1 g2 with ⟨k1,k2⟩ | ⟨k0,rfl,rfl⟩ <;> rcases hget g3 g4 with ⟨q1,q2⟩ | ⟨q0,rfl,rfl⟩
   ·exact hs.hp.dis i j b b' e1 e2 k1 k2 q1 q2 g5 g6 g7
   ·exact absurd g7 (hown i b e1 k1 k2 g5)
   ·exact absurd g7.symm (hown j b' e2 q1 q2 g6)
   ·rw [k0,q0]
 have hptr:Al M (hb ++ [e]) (.ptr h0.length 0) (.pointer (some ⟨z.2,0,none⟩)):=.ptr e (by rw [<- hlen]; exact Dd hb e) rfl;refine ⟨_,hb ++ [e],hr,?_,hle,⟨fun p hp'=>hp.each p ?_,?_,fun p hp'=>hp.apart p ?_⟩⟩
 ·have htm:Bv M (hb ++ [e]) t0 a.tmps:=hs.tm.mono (.refl M) hle
  refine ⟨?_,hs.df.mono (.refl M) hle,hH,⟨hs.ok.top,fun b hb'=>hs.ok.fr b (hsub b hb')⟩⟩
  cases hdd:o.dst with
  | none=>exact htm
  | some d =>
   show Bv M (hb ++ [e]) (t0.put d _) a.tmps
   by_cases hlt:d < a.tmps.size
   ·exact htm.aaz d (by rw [h7 d hdd hlt]; exact hptr)
   ·have:t0.put d (.ptr h0.length 0) = t0:=by
     unfold Tm.put;have hn:t0.n = a.tmps.size:=htm.1;have:Nat.blt d t0.n = false:=by
      cases hbl:Nat.blt d t0.n with
      | false=>rfl
      | true=>exact absurd (show d < t0.n from Nat.le_of_ble_eq_true hbl) (by rw [hn]; exact hlt)
     rw [this]
    rw [this]; exact htm
 ·rcases List.mem_append.1 hp' with h | h
  ·exact List.mem_append_left _ h
  ·exact List.mem_append_right _ (List.mem_cons_of_mem _ h)
 ·exact ((CI P1 z P2).map _).nodup hp.nodup
 ·rcases List.mem_append.1 hp' with h | h
  ·exact List.mem_append_left _ h
  ·exact List.mem_append_right _ (List.mem_cons_of_mem _ h)
theorem D7.flush {P:Program} {ops:Array Oper} {lates:List Nat} {listed:Array Bool} {p q:List (Nat × Cj)} {x:Nat × Cj} {P1 P2:List (Nat × Nat)} {z:Nat × Nat} (hz:z.1 = x.1) (h:D7 P ops lates listed (p ++ x :: q) (P1 ++ z :: P2)) :
  D7 P ops lates listed (p ++ q) (P1 ++ P2):=by
 have hpn:=h.pnodup;rw [List.map_append,List.map_cons] at hpn;have hpn':=List.nodup_append.1 hpn;have hznot:z.1 ∉ (P1 ++ P2).map (·.1):=by
  rw [List.map_append,List.mem_append];rintro (hh | hh)
  ·exact hpn'.2.2 _ hh _ List.mem_cons_self rfl
  ·exact (List.nodup_cons.1 hpn'.2.1).1 hh
 have hnd:=h.nodup;rw [List.map_append,List.map_cons] at hnd;have hnd':=List.nodup_append.1 hnd;have hxnot:x.1 ∉ (p ++ q).map (·.1):=by
  rw [List.map_append,List.mem_append];rintro (hh | hh)
  ·exact hnd'.2.2 _ hh _ List.mem_cons_self rfl
  ·exact (List.nodup_cons.1 hnd'.2.1).1 hh
 have hzl:=h.plisted z.1 (by simp);refine ⟨h.size,h.closed,((CI p x q).map _).nodup h.nodup,((CI P1 z P2).map _).nodup h.pnodup,fun i=>?_,fun i hi=>h.plisted i ?_,h.pairs.sublist (CI p x q),fun y x' j hs=>h.tri y x' j (hs.trans (CI p x q)),h.back,h.late,fun p' hp'=>h.cls p' ?_⟩
 ·have hm:=h.mem i
  simp only [List.map_append,List.map_cons,List.mem_append,List.mem_cons] at hm ⊢
  by_cases hix:i = x.1
  ·subst hix
   constructor
   ·intro hh
    exact absurd (by simpa using hh) hxnot
   ·rintro ⟨_,hh | hh⟩
    ·rw [<- hz,hzl.1] at hh; cases hh
    ·rw [<- hz] at hh; exact absurd (by simpa using hh) hznot
  ·have hiz:i ≠ z.1:=fun e=>hix (e.trans hz)
   constructor
   ·intro hh
    obtain ⟨k1,k2⟩:=hm.1 (hh.imp id .inr);refine ⟨k1,k2.imp id ?_⟩;rintro (k | k | k)
    ·exact .inl k
    ·exact absurd k hiz
    ·exact .inr k
   ·rintro ⟨k1,k2⟩
    have:=hm.2 ⟨k1,k2.imp id (fun k=>k.imp id .inr)⟩
    rcases this with k | k | k
    ·exact .inl k
    ·exact absurd k hix
    ·exact .inr k
 ·simp only [List.map_append,List.map_cons,List.mem_append,List.mem_cons] at hi ⊢
  exact hi.imp id .inr
 ·simp only [List.mem_append,List.mem_cons] at hp' ⊢
  exact hp'.imp id .inr
theorem Rs {P:Program} {ops:Array Oper} {i:Nat} {c:Cj} {s:St} {K K':AV -> List Ah -> Prop} (h:CD P ops (i,c) s K) (hm:∀ v h,K v h -> K' v h):CD P ops (i,c) s K':=by
 obtain ⟨t,hh,d⟩:=s;obtain ⟨v,h',k1,k2,_⟩:=Em h;exact k2 _ (hm v h' k1)
theorem AO.forget {P:Program} {ops:Array Oper} {i d:Nat} {o:Oper} {t0:TypeId} (ho:ops[i]? = some o) (hop:o.op = .alloc t0) (hg:o.guard = none) (hd:o.dst = some d) {q:List (Nat × Cj)} {K:St -> Prop} (hK:∀ s s',Dl s s' -> K s -> K s') :
  ∀ (p:List (Nat × Cj)) {s s':St},(∀ x ∈ p,H5 ops x.1 i = true) -> s'.t.n = s.t.n -> (∀ k,(k ≠ d \/ ¬ d < s.t.n) -> s'.t.get k = s.t.get k) -> s'.h = s.h -> s'.d = s.d -> AO P ops (p ++ (i,.upd) :: q) s K -> AO P ops (p ++ (i,.upd) :: q) s' K:=by
 intro p
 induction p with
 | nil =>
  intro s s' _ hn hget hh hdd hr;obtain ⟨t,h,dd⟩:=s;obtain ⟨t',h',dd'⟩:=s';simp only at hn hget hh hdd;subst hh hdd;simp only [List.nil_append,AO,CD,ho,hg,AU,CV,hop] at hr ⊢;have hdst:BU ops i = some d:=by simp [BU,ho,hd]
  simp only [hdst] at hr ⊢;unfold EC at hr ⊢
  cases hT:Ba P t0 with
  | none=>rw [hT] at hr; exact hr.elim
  | some T =>
   rw [hT] at hr;simp only at hr ⊢;obtain ⟨h1,h2,h3⟩:=hr;refine ⟨h1,h2,?_⟩;refine AO.same q hK ?_ h3;refine ⟨?_,fun k=>?_,rfl,rfl⟩
   ·simp only [Tm.BZ,Tm.Iz]; exact hn.symm
   ·simp only [Tm.BZ,Tm.Fo]
    rw [hn]
    by_cases hk:d = k /\ d < t.n
    ·rw [if_pos hk,if_pos hk]
    ·rw [if_neg hk,if_neg hk]
     refine (hget k ?_).symm
     by_cases hkd:k = d
     ·subst hkd
      exact .inr fun hlt=>hk ⟨rfl,hlt⟩
     ·exact .inl hkd
 | cons x p ih =>
  intro s s' hap hn hget hh hdd hr;obtain ⟨t,h,dd⟩:=s;obtain ⟨t',h',dd'⟩:=s';simp only at hn hget hh hdd;subst hh hdd;have hx:=hap x List.mem_cons_self;unfold H5 at hx;obtain ⟨ix,cx⟩:=x;simp only at hx
  cases hox:ops[ix]? with
  | none=>rw [hox] at hx; cases hx
  | some ox =>
   rw [hox,ho] at hx;simp only at hx;obtain ⟨a1,a2,a3⟩:=Oper.apart_spec hx;simp only [List.cons_append,AO] at hr ⊢;have h1:=Fm (t1:=t') (d1:=dd') (fun o' ho' j hj=>by
    rw [hox] at ho'; cases ho';exact (hget j (.inl fun e=>a3 d hd (e ▸ hj))).symm) hr
   refine Rs h1 fun v hv hrr=>?_;refine ih (s:=⟨t.BZ (BU ops ix) v,hv,_⟩) (fun y hy=>hap y (List.mem_cons_of_mem _ hy)) ?_ ?_ rfl rfl hrr
   ·cases hdx:BU ops ix <;> simp [Tm.BZ,Tm.Iz,hn]
   ·intro k hk
    have hk':k ≠ d \/ ¬ d < t.n:=by
     cases hdx:BU ops ix with
     | none=>simpa [hdx,Tm.BZ] using hk
     | some m=>simpa [hdx,Tm.BZ,Tm.Iz] using hk
    cases hdx:BU ops ix with
    | none=>simp only [Tm.BZ]; exact hget k hk'
    | some m =>
     simp only [Tm.BZ,Tm.Fo,hn]
     split
     ·rfl
     ·exact hget k hk'
theorem NY {α:Type} {Q:α -> Prop}:∀ (p:List α),(∃ x ∈ p,Q x) -> ∃ p1 x p2,p = p1 ++ x :: p2 /\ Q x /\ ∀ y ∈ p1,¬ Q y:=by
 intro p
 induction p with
 | nil=>rintro ⟨x,hx,_⟩; cases hx
 | cons z p ih =>
  intro hex
  by_cases hz:Q z
  ·exact ⟨[],z,p,rfl,hz,fun y hy=>by cases hy⟩
  ·obtain ⟨p1,x,p2,rfl,h2,h3⟩:=ih (by
    obtain ⟨x,hx,hq⟩:=hex
    rcases List.mem_cons.1 hx with rfl | hx
    ·exact absurd hq hz
    ·exact ⟨x,hx,hq⟩)
   refine ⟨z :: p1,x,p2,rfl,h2,fun y hy=>?_⟩
   rcases List.mem_cons.1 hy with rfl | hy
   ·exact hz
   ·exact h3 y hy
def un (listed:Array Bool) (x:Nat × Cj):Bool:=!listed.getD x.1 true
theorem Xi (F:Nat -> Prop):FF F [] = F:=by
 funext b
 simp [FF]
theorem Yf {P:Program} {ops:Array Oper} {lates:List Nat} {listed:Array Bool} {F:Nat -> Prop} {M:Mem} {a:Act} {K:St -> Prop}:∀ (l:List (Nat × Cj)) (Bb:List (Nat × Nat)) (s:St) (hb:List HB),(∀ x ∈ l,un listed x = false) -> D7 P ops lates listed l Bb ->
  BR (FF F Bb) M hb s a -> Pq P ops F M a Bb -> AO P ops l s K -> ∃ s1 hb1,K s1 /\ BR F M hb1 s1 a /\ Bf hb hb1:=by
 intro l
 induction l with
 | nil =>
  intro Bb s hb _ hL hs hp hr;have hnil:Bb = []:=by
   cases Bb with
   | nil=>rfl
   | cons z P =>
    have hz:=hL.plisted z.1 (by simp);obtain ⟨o,t,T,ho,_⟩:=Fv (hL.late z.1 hz.2);have:=(hL.mem z.1).2 ⟨(Array.getElem?_eq_some_iff.1 ho).1,.inr (by simp)⟩;simp at this
  subst hnil;rw [Xi] at hs;exact ⟨s,hb,hr,hs,.refl hb⟩
 | cons x l ih =>
  intro Bb s hb hun hL hs hp hr;have hx:=(hL.mem x.1).1 (by simp);have hxp:x.1 ∈ Bb.map (·.1):=by
   rcases hx.2 with h | h
   ·have:=hun x List.mem_cons_self
    simp [un,h] at this
   ·exact h
  obtain ⟨z,hz,hzx⟩:=List.mem_map.1 hxp;obtain ⟨P1,P2,rfl⟩:=List.append_of_mem hz;have hL':D7 P ops lates listed ([] ++ l) (P1 ++ P2):=D7.flush hzx hL;have hc:=hL.cls x List.mem_cons_self (hL.plisted _ hxp).2;obtain ⟨i,c⟩:=x;simp only at hzx;subst hzx;obtain ⟨s1,hb1,k1,k2,k3,k4⟩:=V2 hc hs hp hr;obtain ⟨s2,hb2,q1,q2,q3⟩:=ih _ s1 hb1 (fun y hy=>hun y (List.mem_cons_of_mem _ hy)) hL' k2 k4 k1;exact ⟨s2,hb2,q1,q2,k3.trans q3⟩
theorem D7.ready {P:Program} {ops:Array Oper} {lates:List Nat} {listed:Array Bool} {l:List (Nat × Cj)} {Bb:List (Nat × Nat)} (hl:D7 P ops lates listed l Bb) (hne:∃ x ∈ l,un listed x = true):Region.ready .any ops listed ≠ []:=by
 have hex:∃ n,n < ops.size /\ listed.getD n true = false:=by
  obtain ⟨x,hx,hu⟩:=hne;have:=((hl.mem x.1).1 (List.mem_map.2 ⟨x,hx,rfl⟩)).1;exact ⟨x.1,this,by simpa [un] using hu⟩
 obtain ⟨n,⟨hlt,hun⟩,hmin⟩:=least hex;have hon:ops[n]? = some ops[n]:=Array.getElem?_eq_getElem hlt;have:n ∈ Region.ready .any ops listed:=by
  rw [mem_ready];refine ⟨hun,_,hon,fun e he hb=>?_⟩;have hlt':=hl.back n _ hon e he hb
  cases hd:listed.getD e.on false with
  | true=>rfl
  | false =>
   have:=hmin e.on ⟨by omega,by rw [CC (by rw [hl.size]; omega)]; exact hd⟩;omega
 intro he;rw [he] at this
 cases this
theorem Ee {listed:Array Bool} {ops:Array Oper} (hsz:listed.size = ops.size) {i:Nat} (hi:i < ops.size) (j:Nat):(listed.setIfInBounds i true).getD j true = if i = j then true else listed.getD j true:=by
 rw [Array.getD_eq_getD_getElem?,Array.getElem?_setIfInBounds]
 by_cases hij:i = j
 ·subst hij; simp [hsz,hi]
 ·simp [hij,Array.getD_eq_getD_getElem?]
theorem JY {listed:Array Bool} {ops:Array Oper} (hsz:listed.size = ops.size) {i:Nat} (hi:i < ops.size) (j:Nat) (hj:listed.getD j false = true):(listed.setIfInBounds i true).getD j false = true:=by
 rw [Array.getD_eq_getD_getElem?,Array.getElem?_setIfInBounds]
 by_cases hij:i = j
 ·subst hij; simp [hsz,hi]
 ·simpa [hij,Array.getD_eq_getD_getElem?] using hj
theorem Wc {listed:Array Bool} {ops:Array Oper} (hsz:listed.size = ops.size) {i:Nat} (hi:i < ops.size) (x:Nat × Cj):un (listed.setIfInBounds i true) x = (if x.1 = i then false else un listed x):=by
 unfold un;rw [Ee hsz hi]
 by_cases h:i = x.1
 ·rw [if_pos h,if_pos h.symm]; rfl
 ·rw [if_neg h,if_neg (fun e=>h e.symm)]
theorem Sn {listed:Array Bool} {ops:Array Oper} (hsz:listed.size = ops.size) {i:Nat} {c:Cj} (hi:i < ops.size) (hun:listed.getD i true = false) {p q:List (Nat × Cj)} (hnd:((p ++ (i,c) :: q).map (·.1)).Nodup) {k:Nat} (hk:(p ++ (i,c) :: q).countP (un listed) = k + 1) :
  (p ++ q).countP (un (listed.setIfInBounds i true)) = k /\ (p ++ (i,c) :: q).countP (un (listed.setIfInBounds i true)) = k:=by
 rw [List.map_append,List.map_cons] at hnd;have hnd':=List.nodup_append.1 hnd;have hcong:∀ l:List (Nat × Cj),(∀ x ∈ l,x.1 ≠ i) -> l.countP (un (listed.setIfInBounds i true)) = l.countP (un listed):=fun l hl =>
  List.countP_congr fun x hx=>by rw [Wc hsz hi,if_neg (hl x hx)]
 have hp:=hcong p fun x hx e=>hnd'.2.2 x.1 (List.mem_map.2 ⟨x,hx,rfl⟩) i List.mem_cons_self e;have hq:=hcong q fun x hx e=>(List.nodup_cons.1 hnd'.2.1).1 (e ▸ List.mem_map.2 ⟨x,hx,rfl⟩);have h1:un listed (i,c) = true:=by simp [un,hun]
 have h2:un (listed.setIfInBounds i true) (i,c) = false:=by rw [Wc hsz hi,if_pos rfl]
 rw [List.countP_append,List.countP_cons,h1] at hk;simp only [if_true] at hk;rw [List.countP_append,List.countP_append,List.countP_cons,h2,hp,hq];simp;omega
theorem KA.ae4 {P:Program} {ops:Array Oper} {M M':Mem} {a a':Act} {p:Nat × Nat} (h:KA P ops M a p) (hsz:M.w.heap.size <= M'.w.heap.size) (hh:M'.w.heap[p.2]? = M.w.heap[p.2]? /\ M'.lo p.2 = M.lo p.2)
  (ha:∀ d,BU ops p.1 = some d -> a'.tmps.size = a.tmps.size /\ a'.tmps.getD d undef = a.tmps.getD d undef):KA P ops M' a' p:=by
 obtain ⟨⟨o,t,T,ty,h1,h2,h3,h4,h5,h6,h7⟩,h8,h9⟩:=h;refine ⟨⟨o,t,T,ty,h1,h2,h3,h4,h5,by rw [hh.1]; exact h6,fun d hd hlt=>?_⟩,by rw [hh.2]; exact h8,Nat.lt_of_lt_of_le h9 hsz⟩;obtain ⟨k1,k2⟩:=ha d (by simp [BU,h1,hd]);rw [k2];exact h7 d hd (by rw [<- k1]; exact hlt)
theorem MW {a a0:Act} (h0:a0.tmps = a.tmps) {dst:Option Tmp} {d:Nat} (hd:dst ≠ some d) (v:Value):(Act.put a0 dst v).tmps.size = a.tmps.size /\ (Act.put a0 dst v).tmps.getD d undef = a.tmps.getD d undef:=by
 cases dst with
 | none=>simp [Act.put,h0]
 | some m =>
  have:m ≠ d:=fun e=>hd (by rw [e]);simp [Act.put,h0,Array.getD_eq_getD_getElem?,Array.getElem?_setIfInBounds_ne this]
theorem D7.list {P:Program} {ops:Array Oper} {lates:List Nat} {listed:Array Bool} {p q:List (Nat × Cj)} {i:Nat} {c:Cj} {Bb:List (Nat × Nat)} {o:Oper} (hL:D7 P ops lates listed (p ++ (i,c) :: q) Bb) (ho:ops[i]? = some o)
  (hall:∀ e ∈ o.after,Region.binds .any e = true -> listed.getD e.on false = true):Om ops (listed.setIfInBounds i true):=by
 have hi:i < ops.size:=(Array.getElem?_eq_some_iff.1 ho).1;intro j oj hj hlj e he hb;rw [Ee hL.size hi] at hlj
 by_cases hij:i = j
 ·subst hij; rw [ho] at hj; cases hj
  exact JY hL.size hi _ (hall e he hb)
 ·rw [if_neg hij] at hlj
  exact JY hL.size hi _ (hL.closed j oj hj hlj e he hb)
theorem RP {P:Program} {F:Nat -> Prop} {M0:Mem} {hb0:List HB} {ops:Array Oper} {lates:List Nat} {Φ:AX -> St -> Prop} (hK:∀ s s',Dl s s' -> Φ .normal s -> Φ .normal s') (ro:Option Nat) :
  ∀ (k:Nat) (l:List (Nat × Cj)) (Bb:List (Nat × Nat)) (listed:Array Bool) (M:Mem) (hb:List HB) (s:St) (a:Act),l.countP (un listed) = k -> D7 P ops lates listed l Bb -> Gu F M0 M -> Bf hb0 hb -> BR (FF F Bb) M hb s a -> Pq P ops F M a Bb -> AO P ops l s (Φ .normal) ->
  wpAnyIn (AY ro) 0 P .any ops (Dx F M0 hb0 Φ) k listed a M.w:=by
 intro k
 induction k with
 | zero =>
  intro l Bb listed M hb s a hcount hL hG hH hs hp hk;have hall:∀ x ∈ l,un listed x = false:=by
   intro x hx;have:=List.countP_eq_zero.1 hcount x hx
   simpa using this
  obtain ⟨s1,hb1,k1,k2,k3⟩:=Yf l Bb s hb hall hL hs hp hk;refine ⟨?_,.normal,s1,M,hb1,k1,trivial,rfl,k2,hG,hH.trans k3⟩;rw [List.eq_nil_iff_forall_not_mem];intro i hi;obtain ⟨h1,o,ho,_⟩:=(mem_ready).1 hi;have hlt:i < ops.size:=(Array.getElem?_eq_some_iff.1 ho).1;obtain ⟨x,hx,rfl⟩:=List.mem_map.1 ((hL.mem i).2 ⟨hlt,.inl h1⟩);have:=hall x hx;simp [un,h1] at this
 | succ k ih =>
  intro l Bb listed M hb s a hcount hL hG hH hs hp hk;have hne:∃ x ∈ l,un listed x = true:=by
   have:0 < l.countP (un listed):=by omega
   exact List.countP_pos_iff.1 this
  refine ⟨fun h=>absurd h (hL.ready hne),fun i hi=>?_⟩;obtain ⟨hun,o,ho,hall⟩:=(mem_ready).1 hi;have hilt:i < ops.size:=(Array.getElem?_eq_some_iff.1 ho).1;clear hne;have hpairmem:∀ {l:List (Nat × Cj)} {x y:Nat × Cj},List.Pairwise (fun x y=>DU ops lates x y = true) l -> List.Sublist [x,y] l -> DU ops lates x y = true:=by
   intro l x y hpw hsl;have:=hpw.sublist hsl
   simpa using this
  have inner:∀ (m:Nat) (l:List (Nat × Cj)) (Bb:List (Nat × Nat)) (s:St) (hb:List HB),Bb.length = m -> l.countP (un listed) = k + 1 -> D7 P ops lates listed l Bb -> Bf hb0 hb -> BR (FF F Bb) M hb s a -> Pq P ops F M a Bb -> AO P ops l s (Φ .normal) ->
    wpOpIn (AY ro) 0 P ops (Dx F M0 hb0 Φ) i (wpAnyIn (AY ro) 0 P .any ops (Dx F M0 hb0 Φ) k (listed.setIfInBounds i true)) a M.w:=by
   intro m
   induction m using Nat.strongRecOn with
   | _ m ihm =>
   intro l Bb s hb hm hcount hL hH hs hp hk;obtain ⟨⟨i',c⟩,hmem,rfl⟩:=List.mem_map.1 ((hL.mem i).2 ⟨hilt,.inl hun⟩);obtain ⟨p,q,rfl⟩:=List.append_of_mem hmem;simp only at ho hall hun hilt hi ⊢
   by_cases hex:∃ x ∈ p,reachB ops ops.size x.1 i' = true
   ·obtain ⟨p1,x,p2,rfl,hx,hno⟩:=NY p hex
    have hxl:=Co hL.size hL.closed _ _ _ o ho hall hx;have hxm:=(hL.mem x.1).1 (by simp);have hxp:x.1 ∈ Bb.map (·.1):=by
     rcases hxm.2 with h | h
     ·rw [CC (by rw [hL.size]; exact hxm.1),hxl] at h; cases h
     ·exact h
    obtain ⟨z,hz,hzx⟩:=List.mem_map.1 hxp;obtain ⟨P1,P2,rfl⟩:=List.append_of_mem hz;have hlate:=(hL.plisted _ hxp).2;have hc:=hL.cls x (by simp) hlate;have hcomp:∀ y ∈ p1,compat ops y x = true:=fun y hy=>by
     refine (hL.tri y x (i',c) ?_ hlate hx).resolve_left (hno y hy);have h1:List.Sublist [y] p1:=List.singleton_sublist.2 hy;have h2:List.Sublist [x,(i',c)] (x :: (p2 ++ (i',c) :: q)):=List.Sublist.cons_cons x (List.singleton_sublist.2 (by simp));have:=h1.append h2
     simpa using this
    have hL':D7 P ops lates listed (p1 ++ (p2 ++ (i',c) :: q)) (P1 ++ P2):=by
     have:D7 P ops lates listed (p1 ++ x :: (p2 ++ (i',c) :: q)) (P1 ++ z :: P2):=by simpa using hL
     exact D7.flush hzx this
    have hk':=AO.pull (q:=p2 ++ (i',c) :: q) hK p1 hcomp (by simpa using hk);have hcount':(p1 ++ (p2 ++ (i',c) :: q)).countP (un listed) = k + 1:=by
     have hux:un listed x = false:=by simp [un,(hL.plisted _ hxp).1]
     rw [<- hcount];simp [List.countP_append,List.countP_cons,hux]
    obtain ⟨xi,xc⟩:=x;simp only at hzx hc;subst hzx;obtain ⟨s1,hb1,k1,k2,k3,k4⟩:=V2 hc hs hp hk';exact ihm (P1 ++ P2).length (by rw [<- hm]; simp) _ _ s1 hb1 rfl hcount' hL' (hH.trans k3) k2 k4 k1
   ·have hnd:=hL.nodup
    obtain ⟨hc1,hc2⟩:=Sn hL.size hilt hun hnd hcount;have hno:∀ x ∈ p,reachB ops ops.size x.1 i' = false:=fun x hx=>by
     cases hr:reachB ops ops.size x.1 i' with
     | false=>rfl
     | true=>exact absurd ⟨x,hx,hr⟩ hex
    have hpx:∀ x ∈ p,DU ops lates x (i',c) = true:=fun x hx=>by
     have:=List.pairwise_append.1 hL.pairs;exact this.2.2 x hx _ List.mem_cons_self
    have hqx:∀ x ∈ q,DU ops lates (i',c) x = true:=fun x hx=>by
     have:=(List.pairwise_append.1 hL.pairs).2.1;exact (List.pairwise_cons.1 this).1 x hx
    have hnp:i' ∉ Bb.map (·.1):=fun h=>by
     have:=(hL.plisted _ h).1;rw [hun] at this; cases this
    have hclosed:=D7.list hL ho hall;have hslot:lates.contains i' = false -> ∀ z ∈ Bb,∀ d,BU ops z.1 = some d -> o.dst ≠ some d:=by
     intro hnl z hz d hd;have hzm:z.1 ∈ Bb.map (·.1):=List.mem_map.2 ⟨z,hz,rfl⟩;have hzl:=(hL.plisted _ hzm).2;obtain ⟨oz,tz,Tz,hoz,_⟩:=Fv (hL.late _ hzl);have hdz:oz.dst = some d:=by simpa [BU,hoz] using hd
     obtain ⟨x,hx,hxz⟩:=List.mem_map.1 ((hL.mem z.1).2 ⟨(Array.getElem?_eq_some_iff.1 hoz).1,.inr hzm⟩)
     rcases List.mem_append.1 hx with hx | hx
     ·have h1:=hpx x hx
      simp only [DU,hnl,Bool.false_eq_true,if_false,E8,hno x hx,Bool.false_or,compat,Bool.and_eq_true] at h1;rw [hxz,hoz,ho] at h1;exact (Oper.apart_spec h1.1).2.1 d hdz
     ·rcases List.mem_cons.1 hx with rfl | hx
      ·exact absurd (show i' ∈ Bb.map (·.1) by rw [show i' = z.1 from hxz]; exact hzm) hnp
      ·have h1:=hqx x hx
       have hxl:lates.contains x.1 = true:=by rw [hxz]; exact hzl
       simp only [DU,hxl,if_true,H5] at h1;rw [hxz,hoz,ho] at h1;intro he;exact (Oper.apart_spec h1).2.1 d he hdz
    cases hlt:lates.contains i' with
    | true =>
     obtain ⟨o',t,T,ho',hop,hg,hT,hz⟩:=Fv (hL.late _ hlt);rw [ho] at ho'; cases ho';have hcu:=hL.cls (i',c) (by simp) hlt;simp only at hcu;subst hcu;have hap:∀ x ∈ p,H5 ops x.1 i' = true:=fun x hx=>by
      have:=hpx x hx;rw [DU,if_pos hlt] at this;exact this
     let M1:=M.new (.cells T.zero.cells t) 0
     have hA:Ch M M1:=Ch.new M _ 0;have hGF:Gu (FF F Bb) M M1:=hA.gu hs.ok;have hrun:AO P ops (p ++ (i',.upd) :: q) (s.put o.dst .dead) (Φ .normal):=by
      cases hd:o.dst with
      | none=>exact hk
      | some d =>
       refine AO.forget (s:=s) (s':=s.put (some d) .dead) ho hop hg hd hK p hap ?_ ?_ rfl rfl hk
       ·simp [St.put,Tm.BZ,Tm.Iz]
       ·intro k' hk'
        simp only [St.put,Tm.BZ,Tm.Fo];rw [if_neg];rintro ⟨h1,h2⟩
        rcases hk' with h | h
        ·exact h h1.symm
        ·exact h h2
     unfold wpOpIn;simp only [ho,Region.wanted,hg,if_true];refine ⟨fun _ _=>trivial,?_⟩;rw [Oper.semAt_eq _ _ _ (fun c=>by rw [hop]; intro h; cases h)];have hex1:(execOp a.eval o).run P M.w = .ok (.value (.pointer (some ⟨M.w.heap.size,0,none⟩))) M1.w:=by
      simp only [execOp,hop,Sem.run_bind];simp [Instr.alloc,BN hT,newVar,newRow,M1,Mem.new]
     rw [hex1,Oper.uponIn_value];have hb1:∀ z ∈ Bb,z.2 < M.w.heap.size:=fun z hz=>(hp.each z hz).lt;refine ih (p ++ (i',.upd) :: q) ((i',M.w.heap.size) :: Bb) _ M1 hb (s.put o.dst .dead) _ hc2 ?_ (hG.trans (hGF.less fun b hb=>.inl hb)) hH ?_ ?_ hrun
     ·refine ⟨by simp [hL.size],hclosed,hL.nodup,?_,fun j=>?_,fun j hj=>?_,hL.pairs,hL.tri,hL.back,hL.late,hL.cls⟩
      ·rw [List.map_cons]
       exact List.nodup_cons.2 ⟨hnp,hL.pnodup⟩
      ·rw [hL.mem j,Ee hL.size hilt,List.map_cons,List.mem_cons]
       by_cases hij:i' = j
       ·subst hij; simp [hilt,hun]
       ·rw [if_neg hij]
        have hji:j ≠ i':=fun e=>hij e.symm;simp [hji]
      ·rw [List.map_cons,List.mem_cons] at hj
       rw [Ee hL.size hilt]
       rcases hj with rfl | hj
       ·exact ⟨by simp,hlt⟩
       ·have:=hL.plisted j hj
        refine ⟨?_,this.2⟩
        split
        ·rfl
        ·exact this.1
     ·refine BR.put ?_ _ .dead
      refine ⟨hs.tm.mono hGF.le (.refl _),hs.df.mono hGF.le (.refl _),?_,⟨?_,?_⟩⟩
      ·have:=hs.hp.Lw hA hs.ok
       refine ⟨this.len,this.gl,this.box,fun j b e h1 h2 h3=>⟨(this.own j b e h1 h2 h3).1,?_⟩,this.dis⟩;intro hf;have h4:=hs.hp.own j b e h1 h2 h3
       rcases hf with hf | hf
       ·exact h4.2 (.inl hf)
       ·rw [List.map_cons,List.mem_cons] at hf
        rcases hf with hf | hf
        ·rw [hf] at h4; exact absurd h4.1 (Nat.lt_irrefl _)
        ·exact h4.2 (.inr hf)
      ·exact (hs.ok.new _ _).top
      ·intro b hb'
       rw [Mem.DT]
       rcases hb' with hb' | hb'
       ·exact Nat.lt_succ_of_lt (hs.ok.fr b (.inl hb'))
       ·rw [List.map_cons,List.mem_cons] at hb'
        rcases hb' with rfl | hb'
        ·exact Nat.lt_succ_self _
        ·exact Nat.lt_succ_of_lt (hs.ok.fr b (.inr hb'))
     ·refine ⟨fun z hz=>?_,?_,fun z hz=>?_⟩
      ·rcases List.mem_cons.1 hz with rfl | hz
       ·refine ⟨⟨o,t,T,t,ho,hop,hg,hT,by assumption,Mem.Df M _ _,fun d hd hlt'=>?_⟩,Mem.HZ M _ _,by rw [Mem.DT]; exact Nat.lt_succ_self _⟩
        rw [hd] at hlt' ⊢;simp only [Act.put] at hlt' ⊢;have:d < a.tmps.size:=by simpa using hlt'
        simp [Array.getD_eq_getD_getElem?,this]
       ·refine (hp.each z hz).ae4 hA.size (hA.old _ (hb1 z hz)) fun d hd=>?_
        refine MW rfl ?_ _;have hzm:z.1 ∈ Bb.map (·.1):=List.mem_map.2 ⟨z,hz,rfl⟩;have hzl:=(hL.plisted _ hzm).2;obtain ⟨oz,tz,Tz,hoz,_⟩:=Fv (hL.late _ hzl);have hdz:oz.dst = some d:=by simpa [BU,hoz] using hd
        obtain ⟨x,hx,hxz⟩:=List.mem_map.1 ((hL.mem z.1).2 ⟨(Array.getElem?_eq_some_iff.1 hoz).1,.inr hzm⟩)
        rcases List.mem_append.1 hx with hx | hx
        ·have h1:=hap x hx
         simp only [H5] at h1;rw [hxz,hoz,ho] at h1;exact (Oper.apart_spec h1).2.1 d hdz
        ·rcases List.mem_cons.1 hx with rfl | hx
         ·exact absurd (show i' ∈ Bb.map (·.1) by rw [show i' = z.1 from hxz]; exact hzm) hnp
         ·have h1:=hqx x hx
          have hxl:lates.contains x.1 = true:=by rw [hxz]; exact hzl
          simp only [DU,hxl,if_true,H5] at h1;rw [hxz,hoz,ho] at h1;intro he;exact (Oper.apart_spec h1).2.1 d he hdz
      ·rw [List.map_cons]
       refine List.nodup_cons.2 ⟨fun h=>?_,hp.nodup⟩;obtain ⟨z,hz,hze⟩:=List.mem_map.1 h;have:=hb1 z hz;rw [hze] at this;exact Nat.lt_irrefl _ this
      ·rcases List.mem_cons.1 hz with rfl | hz
       ·intro hf
        exact Nat.lt_irrefl _ (hs.ok.fr _ (.inl hf))
       ·exact hp.apart z hz
    | false =>
     have hpc:∀ x ∈ p,compat ops x (i',c) = true:=fun x hx=>by
      have h1:=hpx x hx
      simpa only [DU,hlt,Bool.false_eq_true,if_false,E8,hno x hx,Bool.false_or] using h1
     have hrun:=AO.pull hK p hpc hk;have hL':D7 P ops lates (listed.setIfInBounds i' true) (p ++ q) Bb:=by
      have hnd2:=hnd;rw [List.map_append,List.map_cons] at hnd2;have hnd3:=List.nodup_append.1 hnd2;have hnotin:i' ∉ (p ++ q).map (·.1):=by
       rw [List.map_append,List.mem_append];rintro (h | h)
       ·exact hnd3.2.2 _ h _ List.mem_cons_self rfl
       ·exact (List.nodup_cons.1 hnd3.2.1).1 h
      refine ⟨by simp [hL.size],hclosed,((CI p (i',c) q).map _).nodup hnd,hL.pnodup,fun j=>?_,fun j hj=>?_,hL.pairs.sublist (CI p _ q),fun y x j hsl=>hL.tri y x j (hsl.trans (CI p _ q)),hL.back,hL.late,fun x hx=>hL.cls x ?_⟩
      ·have hmj:=hL.mem j
       rw [List.map_append,List.map_cons,List.mem_append,List.mem_cons] at hmj;rw [Ee hL.size hilt,List.map_append,List.mem_append]
       by_cases hij:i' = j
       ·subst hij
        rw [if_pos rfl];constructor
        ·intro h
         rw [<- List.mem_append,<- List.map_append] at h;exact absurd h hnotin
        ·rintro ⟨_,h | h⟩
         ·cases h
         ·exact absurd h hnp
       ·rw [if_neg hij,<- hmj]
        constructor
        ·rintro (h | h)
         ·exact .inl h
         ·exact .inr (.inr h)
        ·rintro (h | h | h)
         ·exact .inl h
         ·exact absurd h.symm hij
         ·exact .inr h
      ·have:=hL.plisted j hj
       refine ⟨?_,this.2⟩;rw [Ee hL.size hilt]
       split
       ·rfl
       ·exact this.1
      ·rcases List.mem_append.1 hx with h | h
       ·exact List.mem_append_left _ h
       ·exact List.mem_append_right _ (List.mem_cons_of_mem _ h)
     have hnext:∀ (s':St) (M':Mem) (hb':List HB) (a':Act),AO P ops (p ++ q) s' (Φ .normal) -> BR (FF F Bb) M' hb' s' a' -> Gu (FF F Bb) M M' -> Bf hb hb' -> (∃ v a0,a0.tmps = a.tmps /\ a' = Act.put a0 o.dst v) -> wpAnyIn (AY ro) 0 P .any ops (Dx F M0 hb0 Φ) k (listed.setIfInBounds i' true) a' M'.w:=by
      rintro s' M' hb' a' k1 k2 k3 k4 ⟨v,a0,ha0,rfl⟩;refine ih (p ++ q) Bb _ M' hb' s' _ hc1 hL' (hG.trans (k3.less fun b hb=>.inl hb)) (hH.trans k4) k2 ⟨fun z hz=>?_,hp.nodup,hp.apart⟩ k1;exact (hp.each z hz).ae4 k3.size (k3.fr _ (.inr (List.mem_map.2 ⟨z,hz,rfl⟩))) fun d hd=>MW ha0 (hslot hlt z hz d hd) v
     have hdst:BU ops i' = o.dst:=by simp [BU,ho]
     simp only [AO,hdst] at hrun;unfold CD at hrun;simp only [ho] at hrun;unfold wpOpIn;simp only [ho];have hop:AU P o c s (fun v h=>AO P ops (p ++ q) ⟨s.t.BZ o.dst v,h,s.d⟩ (Φ .normal)) -> o.wpIn (AY ro) 0 P a M.w (wpAnyIn (AY ro) 0 P .any ops (Dx F M0 hb0 Φ) k (listed.setIfInBounds i' true)) (Dx F M0 hb0 Φ):=fun h =>
      Oper.XG (DM (Φ:=fun _ _=>False) ro hs (I5 (K:=fun s'=>AO P ops (p ++ q) s' (Φ .normal)) h) hnext (fun x v s' M' hb' k1=>k1.elim))
     split at hrun
     ·rename_i hg
      simp only [Region.wanted,hg,if_true];exact hop hrun
     ·rename_i j want hg
      split at hrun
      ·rename_i d hd
       split at hrun
       ·rename_i b hbv
        rw [Ei hs.tm hg hd hbv]
        by_cases hbw:b = want
        ·simp only [hbw,beq_self_eq_true,if_true]
         exact hop (hrun.1 hbw)
        ·have:(b == want) = false:=by simpa using hbw
         simp only [this,Bool.false_eq_true,if_false];refine ⟨fun _ _=>trivial,hnext _ M hb _ (hrun.2 ?_) (hs.put o.dst CX) (.refl _ _) (.refl _) ⟨undef,a,rfl,rfl⟩⟩
         cases b <;> cases want <;> simp_all
       ·rename_i hbv
        rw [Eg hs.tm hg hd hbv];simp only [Bool.false_eq_true,if_false];exact ⟨fun _ _=>trivial,hnext _ M hb _ hrun (hs.put o.dst CX) (.refl _ _) (.refl _) ⟨undef,a,rfl,rfl⟩⟩
       ·exact hrun.elim
      ·exact hrun.elim
  exact inner Bb.length l Bb s hb rfl hcount hL hH hs hp hk
theorem Aa.agA {P:Program} {rd:Option Nat} {s:St} {Φ:AX -> St -> Prop} {id:Nat} {ops:Array Oper} (lates:List Nat) (π:List (Nat × Cj)) (hm:P.follows .mixedOrders = true) (hok:Sz P ops lates π = true) (h:AO P ops π s (Φ .normal))
  (hK:∀ s s',Dl s s' -> Φ .normal s -> Φ .normal s'):Aa P rd (.region id ops true) s Φ:=by
 intro F M hb a ro hs hr;refine wpIn_region_any hm ?_;simp only [Sz,Bool.and_eq_true,decide_eq_true_eq] at hok;obtain ⟨⟨⟨⟨⟨⟨⟨h1,h2⟩,h3⟩,h4⟩,h5⟩,h6⟩,h7⟩,h8⟩:=hok;have hget:∀ i,i < ops.size -> (Array.replicate ops.size false).getD i true = false:=fun i hi=>by simp [Array.getD_eq_getD_getElem?,hi]
 have hmem:∀ i,i ∈ π.map (·.1) ↔ i < ops.size:=by
  intro i;constructor
  ·intro hi
   obtain ⟨p,hp,rfl⟩:=List.mem_map.1 hi;have:=List.all_eq_true.1 h3 p hp
   simpa using this
  ·intro hi
   have:=List.all_eq_true.1 h2 i (List.mem_range.2 hi)
   simpa using this
 have hL:D7 P ops lates (Array.replicate ops.size false) π []:=by
  refine ⟨by simp,fun i o ho hl=>?_,h1,by simp,fun i=>?_,fun i hi=>by simp at hi,h4,XI h6,fun i o ho e he hb=>?_,fun i hi=>?_,fun p hp hl=>?_⟩
  ·have:i < ops.size:=(Array.getElem?_eq_some_iff.1 ho).1
   rw [hget i this] at hl; cases hl
  ·rw [hmem i]
   constructor
   ·exact fun hi=>⟨hi,.inl (hget i hi)⟩
   ·exact fun hi=>hi.1
  ·have hlt:i < ops.size:=(Array.getElem?_eq_some_iff.1 ho).1
   have:=List.all_eq_true.1 h5 i (List.mem_range.2 hlt);rw [ho] at this;simp only [Array.all_eq_true'] at this;have h6:=this e he
   simpa [hb] using h6
  ·exact List.all_eq_true.1 h7 i (List.contains_iff_mem.1 hi)
  ·have:=List.all_eq_true.1 h8 p hp
   rw [hl] at this
   simpa using this
 have hlen:π.countP (un (Array.replicate ops.size false)) = ops.size:=by
  have hp:(π.map (·.1)).Perm (List.range ops.size):=by
   rw [List.perm_ext_iff_of_nodup h1 List.nodup_range];intro i;rw [hmem i,List.mem_range]
  have:=hp.length_eq;rw [List.countP_eq_length.2 (fun x hx=>by
   have:=(hmem x.1).1 (List.mem_map.2 ⟨x,hx,rfl⟩);simp [un,hget x.1 this])]
  simpa using this
 have hA:Ch M M.drew:=Ch.drew M;have hG:=hA.gu hs.ok;refine RP (M0:=M) (hb0:=hb) (F:=F) (P:=P) (ops:=ops) hK ro ops.size π [] (Array.replicate ops.size false) M.drew hb s a hlen hL hG (.refl _) ?_ ⟨fun p hp=>by simp at hp,by simp,fun p hp=>by simp at hp⟩ h;rw [Xi];exact ⟨hs.tm.mono hG.le (.refl _),hs.df.mono hG.le (.refl _),hs.hp.Lw hA hs.ok,hs.ok.drew⟩
theorem Aa.late {P:Program} {rd:Option Nat} {s:St} {Φ:AX -> St -> Prop} {id:Nat} {ops:Array Oper} (lates:List Nat) (π:List (Nat × Cj)) (hm:P.follows .mixedOrders = true) (hok:Sz P ops lates π = true) (h:AO P ops π s (Φ .normal)) :
  Aa P rd (.region id ops true) s Φ:=by
 have h1:Aa P rd (.region id ops true) s (fun x s'=>∃ s0,Dl s0 s' /\ Φ x s0):=by
  refine Aa.agA lates π hm hok ?_ (fun s s' hs ⟨s0,h0,hk⟩=>⟨s0,h0.trans hs,hk⟩);exact Aa.drawn.runK_mono π (fun s hk=>⟨s,.refl s,hk⟩) h
 intro F M hb a ro hs hr;refine wpIn_mono (h1 F M hb a ro hs hr) ?_;rintro e a' w' ⟨x,s',M',hb',⟨s0,h0,hk⟩,r1,r2,r3,r4,r5⟩;exact ⟨x,s0,M',hb',hk,r1,r2,r3.same h0.symm,r4,r5⟩
end Go.PM

namespace Go.PM
variable [AA]
mutual
def AV.shift (n:Nat):AV -> AV
 | .hsl id a b c=>.hsl (n + id) a b c
 | .ptr id o=>.ptr (n + id) o
 | .eptr id a b c=>.eptr (n + id) a b c
 | .yld id=>.yld (n + id)
 | .mp id=>.mp (n + id)
 | .bnd f first=>.bnd f (CS n first)
 | .fn f caps=>.fn f (CS n caps)
 | .iface t x=>.iface t (x.shift n)
 | .agg cs=>.agg (CS n cs)
 | .tup vs=>.tup (CS n vs)
 | x=>x
def CS (n:Nat):List AV -> List AV
 | []=>[]
 | x :: xs=>x.shift n :: CS n xs
end
def Ah.shift (n:Nat):Ah -> Ah
 | .cells cs=>.cells (CS n cs)
 | .row a b c d=>.row a b c d
 | .defer=>.defer
 | .map kvs bs c=>.map (kvs.map fun p=>(p.1,p.2.shift n)) bs c
 | .iter Jb since seen step=>.iter (n + Jb) since seen step
 | .siter s pos=>.siter s pos
 | _=>.dead
def AE.shift (n:Nat):AE -> AE
 | .ret x=>.ret (x.shift n)
 | .panic x=>.panic (x.shift n)
theorem DL (n:Nat) (l:List AV):CS n l = l.map (AV.shift n):=by
 induction l with
 | nil=>rfl
 | cons x l ih=>simp [CS,ih]
theorem EN (n:Nat) (x:AV):(x.shift n).single = x.single:=by cases x <;> simp [AV.shift,AV.single]
theorem EV {n:Nat} {l:List AV} {i:Nat} {y:AV} (h:(CS n l)[i]? = some y):∃ x,l[i]? = some x /\ y = x.shift n:=by
 rw [DL,List.getElem?_map,Option.map_eq_some_iff] at h;obtain ⟨x,h1,h2⟩:=h;exact ⟨x,h1,h2.symm⟩
theorem Al.shift {M:Mem} {hb2:List HB} {x:AV} {v:Value} (h:Al M hb2 x v):∀ hb1:List HB,Al M (hb1 ++ hb2) (x.shift hb1.length) v:=by
 have hget:∀ (hb1 hb2:List HB) (id:Nat) (e:HB),hb2[id]? = some e -> (hb1 ++ hb2)[hb1.length + id]? = some e:=by
  intro hb1 hb2 id e h;rw [List.getElem?_append_right (by omega),Nat.add_sub_cancel_left]; exact h
 induction h with
 | dead=>exact fun _=>.dead
 | val h=>exact fun _=>.val h
 | nil=>exact fun _=>.nil
 | sl sz h1 h2 h3 h4 h5 h6 _=>exact fun _=>.sl sz h1 h2 h3 h4 h5 h6
 | hsl e h1 h2 h3 h4 h5=>exact fun hb1=>.hsl e (hget hb1 _ _ _ h1) h2 h3 h4 h5
 | ptr e h1 h2=>exact fun hb1=>.ptr e (hget hb1 _ _ _ h1) h2
 | eptr e h1 h2 h3 h4 h5=>exact fun hb1=>.eptr e (hget hb1 _ _ _ h1) h2 h3 h4 h5
 | cptr h1 h2 h3 _=>exact fun _=>.cptr h1 h2 h3
 | fn h1 h2 ih =>
  intro hb1;refine .fn (by rw [DL]; simpa using h1) (fun i c hc=>?_);obtain ⟨x,hx,rfl⟩:=EV hc;exact ih i x hx hb1
 | yld e h1 h2=>exact fun hb1=>.yld e (hget hb1 _ _ _ h1) h2
 | iface h ih=>exact fun hb1=>.iface (ih hb1)
 | agg h1 h2 h3 ih =>
  intro hb1;refine .agg (by rw [DL]; simpa using h1) (fun i c hc=>?_) (fun i c hc=>?_)
  ·obtain ⟨x,hx,rfl⟩:=EV hc
   rw [EN]; exact h2 i x hx
  ·obtain ⟨x,hx,rfl⟩:=EV hc
   exact ih i x hx hb1
 | tup h1 h2 ih =>
  intro hb1;refine .tup (by rw [DL]; simpa using h1) (fun i c hc=>?_);obtain ⟨x,hx,rfl⟩:=EV hc;exact ih i x hx hb1
 | mp e h1 h2=>exact fun hb1=>.mp e (hget hb1 _ _ _ h1) h2
 | bnd h1 h2 ih =>
  intro hb1;refine .bnd (by rw [DL]; simpa using h1) (fun i c hc=>?_);obtain ⟨x,hx,rfl⟩:=EV hc;exact ih i x hx hb1
 | cmp h1 h2 h3 h4 h5 h6 _ _=>exact fun _=>.cmp h1 h2 h3 h4 h5 h6
theorem Cr.shift {M:Mem} {hb1 hb2:List HB} {b:Ah} {e:HB} (h:Cr M hb2 b e):Cr M (hb1 ++ hb2) (b.shift hb1.length) e:=by
 cases b with
 | dead=>trivial
 | cells cs =>
  obtain ⟨h1,h2,c,h3,h4⟩:=h;refine ⟨h1,h2,c,h3,by rw [DL]; simpa using h4.1,fun j x hx=>?_⟩;obtain ⟨y,hy,rfl⟩:=EV hx;exact ⟨by rw [EN]; exact (h4.2 j y hy).1,(h4.2 j y hy).2.shift hb1⟩
 | row mt ver sz es=>exact h
 | loop=>trivial
 | defer=>exact h
 | iter Jb since seen step =>
  obtain ⟨h1,em,h2,h3,h4⟩:=h;exact ⟨h1,em,by rw [List.getElem?_append_right (by omega),Nat.add_sub_cancel_left]; exact h2,h3,h4⟩
 | siter s pos=>exact h
 | map kvs bs clock =>
  obtain ⟨h1,h0,es,h2,h2',h3,hb1',hb2',hb3',h4⟩:=h;refine ⟨h1,h0,es,h2,h2',by simpa using h3,hb1',hb2',hb3',fun i k x hx=>?_⟩;rw [List.getElem?_map,Option.map_eq_some_iff] at hx;obtain ⟨⟨k',x'⟩,h5,h6⟩:=hx;simp only [Prod.mk.injEq] at h6;obtain ⟨rfl,rfl⟩:=h6;obtain ⟨m,g1,g2,g3⟩:=h4 i k' x' h5;exact ⟨m,g1,g2,g3.shift hb1⟩
theorem Fj (n:Nat) (b:Ah) (e:HB) (h:(b.shift n).owns e = true):b.owns e = true:=by
 cases b <;> first | exact h | (simp [Ah.shift,Ah.owns] at h)
theorem AR.beside {F:Nat -> Prop} {M M':Mem} {hb hb2:List HB} {h h2:List Ah} (H:AR F M hb h) (hg:Gu (fun b=>F b \/ Ii hb h b) M M') (H2:AR (fun b=>F b \/ Ii hb h b) M' hb2 h2) :
  AR F M' (hb ++ hb2) (h ++ h2.map (Ah.shift h.length)):=by
 have H1:=H.frame hg;have hlen:=H.len;have hget:∀ {i:Nat} {b:Ah} {e:HB},(h ++ h2.map (Ah.shift h.length))[i]? = some b -> (hb ++ hb2)[i]? = some e ->
   (h[i]? = some b /\ hb[i]? = some e) \/ (∃ j b0,i = h.length + j /\ h2[j]? = some b0 /\ hb2[j]? = some e /\ b = b0.shift h.length):=by
  intro i b e g1 g2
  by_cases hi:i < h.length
  ·rw [List.getElem?_append_left hi] at g1
   rw [List.getElem?_append_left (by rw [hlen]; exact hi)] at g2;exact .inl ⟨g1,g2⟩
  ·rw [List.getElem?_append_right (by omega),List.getElem?_map,Option.map_eq_some_iff] at g1
   rw [List.getElem?_append_right (by omega),hlen] at g2;obtain ⟨b0,k1,k2⟩:=g1;exact .inr ⟨i - h.length,b0,by omega,k1,g2,k2.symm⟩
 refine ⟨by simp [hlen,H2.len],H2.gl,fun i b e g1 g2=>?_,fun i b e g1 g2 g3=>?_,fun i j b b' e e' g1 g2 g3 g4 g5 g6 g7=>?_⟩
 ·rcases hget g1 g2 with ⟨k1,k2⟩ | ⟨j,b0,_,k1,k2,rfl⟩
  ·exact (H1.box i b e k1 k2).mono (.refl M') (.append hb hb2) (fun _=>⟨rfl,rfl⟩)
  ·rw [<- hlen]
   exact (H2.box j b0 e k1 k2).shift
 ·rcases hget g1 g2 with ⟨k1,k2⟩ | ⟨j,b0,_,k1,k2,rfl⟩
  ·exact H1.own i b e k1 k2 g3
  ·have:=H2.own j b0 e k1 k2 (Fj _ _ _ g3)
   exact ⟨this.1,fun hf=>this.2 (.inl hf)⟩
 ·rcases hget g1 g2 with ⟨k1,k2⟩ | ⟨m,b0,k0,k1,k2,rfl⟩ <;> rcases hget g3 g4 with ⟨q1,q2⟩ | ⟨m',b0',q0,q1,q2,rfl⟩
  ·exact H1.dis i j b b' e e' k1 k2 q1 q2 g5 g6 g7
  ·exact absurd (.inr ⟨i,b,e,k1,k2,g5,g7⟩) (H2.own m' b0' e' q1 q2 (Fj _ _ _ g6)).2
  ·exact absurd (.inr ⟨j,b',e',q1,q2,g6,g7.symm⟩) (H2.own m b0 e k1 k2 (Fj _ _ _ g5)).2
  ·rw [k0,q0,H2.dis m m' b0 b0' e e' k1 k2 q1 q2 (Fj _ _ _ g5) (Fj _ _ _ g6) g7]
theorem Ag.lift {P:Program} {f:FuncId} {args:List AV} {h:List Ah} {R:AE -> List Ah -> Prop} (hp:args.all AV.pure = true) (hc:Ag P f args [] R) :
  Ag P f args h (fun r h'=>∃ r0 h0,R r0 h0 /\ r = r0.shift h.length /\ h' = h ++ h0.map (Ah.shift h.length)):=by
 refine ⟨hc.1,fun F M hb vs H ok hv=>?_⟩;have hF:Cz (fun b=>F b \/ Ii hb h b) M:=⟨ok.top,fun b hb'=>hb'.elim (ok.fr b) (fun hh=>(H.OC hh).1)⟩
 have H0:AR (fun b=>F b \/ Ii hb h b) M [] []:=⟨rfl,H.gl,fun i b e h1=>by simp at h1,fun i b e h1=>by simp at h1,fun i j b b' e e' h1=>by simp at h1⟩
 have hl:AW M [] args vs:=⟨hv.1,fun i x hx=>(hv.2 i x hx).toPure (List.all_eq_true.1 hp x (List.mem_of_getElem? hx))⟩
 refine Calls.mono (hc.2 _ M [] vs H0 hF hl) ?_;rintro e w' ⟨r,h',M',hb',hR,k2,rfl,k4,k5,k6,k7⟩;refine ⟨r.shift h.length,h ++ h'.map (Ah.shift h.length),M',hb ++ hb',⟨r,h',hR,rfl,rfl⟩,?_,rfl,H.beside k6 k4,⟨k5.top,fun b hb''=>k5.fr b (.inl hb'')⟩,k6.less (fun b hb''=>.inl hb''),.append hb hb'⟩;rw [<- H.len]
 cases r <;> cases e <;> try exact k2.elim
 ·exact Al.shift k2 hb
 ·obtain ⟨v,h1,h2⟩:=k2
  exact ⟨v,h1,h2.shift hb⟩
theorem Ag.EZ {P:Program} {f:FuncId} {args:List AV} {h h0:List Ah} {v:AV} (hc:Ag P f args [] (fun r h'=>r = .ret v /\ h' = h0)) (hp:args.all AV.pure = true):Ag P f args h (fun r h'=>r = .ret (v.shift h.length) /\ h' = h ++ h0.map (Ah.shift h.length)) :=
 (Ag.lift hp hc).mono fun r h' ⟨r0,h1,⟨e1,e2⟩,e3,e4⟩=>by subst e1 e2 e3 e4; exact ⟨rfl,rfl⟩
theorem Uf (n:Nat) (v:Value):(AV.val v).shift n = .val v:=rfl
theorem Xe (n:Nat) (f:Bool) (es:List AV):(AV.sl f es).shift n = .sl f es:=rfl
theorem TJ (n a b c d:Nat):(AV.hsl a b c d).shift n = .hsl (n + a) b c d:=rfl
theorem U6 (n a b:Nat):(AV.ptr a b).shift n = .ptr (n + a) b:=rfl
theorem Yl (n a:Nat):(AV.mp a).shift n = .mp (n + a):=rfl
theorem M9 (n:Nat) (cs:List AV):(AV.agg cs).shift n = .agg (CS n cs):=rfl
theorem Vw (n:Nat) (cs:List AV):(AV.tup cs).shift n = .tup (CS n cs):=rfl
theorem KY (n:Nat):CS n [] = []:=rfl
theorem QL (n:Nat) (x:AV) (l:List AV):CS n (x :: l) = x.shift n :: CS n l:=rfl
theorem OJ (n:Nat) (cs:List AV):(Ah.cells cs).shift n = .cells (CS n cs):=rfl
theorem Sc (n:Nat) (a:Bool) (b c:Nat) (d:List AV):(Ah.row a b c d).shift n = .row a b c d:=rfl
theorem P7 (n:Nat):Ah.dead.shift n = .dead:=rfl
theorem Lo (n:Nat) (kvs:List (AV × AV)) (bs:List Nat) (c:Nat):(Ah.map kvs bs c).shift n = .map (kvs.map fun p=>(p.1,p.2.shift n)) bs c:=rfl
end Go.PM

namespace Go.PM
variable [AA]
end Go.PM

namespace Go.PM
variable [AA]
theorem Ap {b:Bool} {A B:Prop} {k:Kept A B} (h1:b = true -> A) (h2:b = false -> B):CH b A B k:=by
 cases b
 ·rw [YF]; exact h2 rfl
 ·rw [XY]; exact h1 rfl
section
variable {P:Program} {rd:Option Nat} {s:St} {Φ:AX -> St -> Prop} {y:Code}
theorem Aa.Ad {id:Nat} {ops:Array Oper} (h:BM P ops (AX.GG (fun s1=>Aa P rd y s1 Φ) Φ) ops.toList s):Aa P rd (.seq (.region id ops false) y) s Φ:=Aa.seq (Aa.region h)
theorem Aa.BQ {id:Nat} {ops:Array Oper} (π:List (Nat × Cj)) (hm:P.follows .mixedOrders = true) (hok:EO ops π = true) (h:Az P ops π s (fun s1=>Aa P rd y s1 Φ)):Aa P rd (.seq (.region id ops true) y) s Φ:=Aa.seq (Aa.BS π hm hok h)
theorem Aa.Ar {c:Operand} {x y:Code} (hc:s.ev c = .val (.bool true)) (h1:Aa P rd x s Φ):Aa P rd (.cond c x y) s Φ:=Aa.cond hc (fun _=>h1) (fun h=>by cases h)
theorem Aa.Ax {c:Operand} {x y:Code} (hc:s.ev c = .val (.bool false)) (h1:Aa P rd y s Φ):Aa P rd (.cond c x y) s Φ:=Aa.cond hc (fun h=>by cases h) (fun _=>h1)
end
theorem Aa.E7 {P:Program} {rd:Option Nat} {c:Code} {s:St} {Φ:AX -> St -> Prop} (i sz ver:Nat) (hi:s.t.get i = .sl true []) (h:Aa P rd c ⟨s.t.put i (.hsl s.h.length ver 0 0),s.h ++ [.row true ver sz []],s.d⟩ Φ):Aa P rd c s Φ:=by
 intro F M hb a ro hs hr;have hv:=hs.tm.2 i;rw [hi] at hv;obtain ⟨hb1,p1,p2,p3⟩:=Go.PM.E7 hs.hp hs.ok hv sz ver;refine wpIn_mono (h F M hb1 a ro ⟨(hs.tm.mono (.refl _) p2).aaz i p3,hs.df.mono (.refl _) p2,p1,hs.ok⟩ (hr.mono p2)) fun _ _ _ hq=>hq.trans (.refl _ _) p2
attribute [go_sem] Uf Xe TJ U6 Yl M9 Vw KY QL OJ Sc P7 Lo
theorem Nx:CB [] = true:=rfl
theorem UH (v:Value):(AV.val v).BK = true:=rfl
attribute [go_sem] Nx UH
def kept (ks:List Nat) (l:List (Nat × AV)):List (Nat × AV):=ks.map fun k=>(k,look l k)
theorem X1 (l:List (Nat × AV)):kept [] l = []:=rfl
theorem VC (k:Nat) (ks:List Nat) (l:List (Nat × AV)):kept (k :: ks) l = (k,look l k) :: kept ks l:=rfl
attribute [go_sem] X1 VC List.cons_append List.nil_append
theorem Aa.A0 {P:Program} {rd:Option Nat} {c:Code} {t:Tm} {h:List Ah} {d:List AD} {Φ:AX -> St -> Prop} {σ:Type} (V:σ -> List (Nat × AV)) (ks:List Nat) (H:σ -> List Ah) (I:σ -> Prop) (m:σ -> Nat) (x0:σ)
  (h0:I x0) (hl:(H x0).length = h.length) (hw:DZ ⟨t,h,d⟩ ⟨⟨t.n,V x0 ++ kept ks t.l⟩,H x0,d⟩)
  (round:∀ x,I x -> Aa P rd c ⟨⟨t.n,V x ++ kept ks t.l⟩,H x,d⟩ (AX.GG (fun s'=>∃ y,I y /\ m y < m x /\ (H x).length <= (H y).length /\ DZ s' ⟨⟨t.n,V y ++ kept ks t.l⟩,H y,d⟩) Φ)):Aa P rd (.loop c) ⟨t,h,d⟩ Φ:=by
 refine Aa.Jr hw hl ?_;refine Aa.loop (fun n s=>∃ x,I x /\ n = m x /\ s = ⟨⟨t.n,V x ++ kept ks t.l⟩,H x,d⟩) (n:=m x0) ⟨x0,h0,rfl,rfl⟩ ?_;rintro n s ⟨x,hx,rfl,rfl⟩;refine Aa.MV (Aa.mono (round x hx) ?_);intro x' s' hx'
 cases x' <;> try exact hx'
 obtain ⟨y,h1,h2,h3,h4⟩:=hx';exact ⟨_,h4,h3,m y,h2,y,h1,rfl,rfl⟩
theorem Af.eq {P:Program} {f:FuncId} {args:List AV} {v:AV} {t:Tm} {h:List Ah} {d:List AD} {dst:Option Tmp} {K:St -> Prop} {Φ:AX -> St -> Prop} (hc:Af P f args (· = v)) (hp:args.all AV.pure = true) (hk:K ⟨t.BZ dst v,h,d⟩) :
  Ag P f args h (Eu ⟨t,h,d⟩ dst K Φ):=Af.go hc hp fun x hx=>by subst hx; exact hk
theorem Ja.go {P:Program} {f:FuncId} {args:List AV} {h h':List Ah} {v:AV} {K:AV -> List Ah -> Prop} (hc:Ag P f args h (fun r h''=>r = .ret v /\ h'' = h')) (hk:K v h'):Ja P f args h K:=⟨v,h',hc,hk⟩
theorem Ag.eq {P:Program} {f:FuncId} {args:List AV} {h h':List Ah} {v:AV} {t:Tm} {d:List AD} {dst:Option Tmp} {K:St -> Prop} {Φ:AX -> St -> Prop} (hc:Ag P f args h (fun r h''=>r = .ret v /\ h'' = h')) (hk:K ⟨t.BZ dst v,h',d⟩):Ag P f args h (Eu ⟨t,h,d⟩ dst K Φ):=hc.mono fun r h'' ⟨e1,e2⟩=>by subst e1 e2; exact hk
theorem Ae {x y:AV} (hp:x.pure = true) (h:x = y):(AE.ret x).val.pure = true /\ ∃ z,AE.ret x = .ret z /\ z = y:=⟨hp,x,rfl,h⟩
theorem An {p:Prop} [Decidable p] (h:decide p = true):p:=of_decide_eq_true h
theorem Aj {p:Prop} [Decidable p] (h:decide p = false):¬ p:=of_decide_eq_false h
theorem AB {a b:Int} (h:(a == b) = true):a = b:=by simpa using h
theorem Aq {a b:Int} (h:(a == b) = false):a ≠ b:=by simpa using h
theorem BT {a b:Int} (h:(a != b) = true):a ≠ b:=by simpa using h
theorem Bt {a b:Int} (h:(a != b) = false):a = b:=by simpa using h
end Go.PM
namespace Go.PM
variable [AA]
theorem Ai.cons {b b':Ah} {h h':List Ah} (hb:∀ cs,b = .cells cs -> b' = .cells cs) (hs:Ai h h'):Ai (b :: h) (b' :: h'):=fun i cs hi=>by
 cases i with
 | zero=>simp at hi ⊢; exact hb cs hi
 | succ i=>simp at hi ⊢; exact hs i cs hi
theorem Ai.row {a a':Bool} {b b' c c':Nat} {d d':List AV} {h h':List Ah} (hs:Ai h h'):Ai (.row a b c d :: h) (.row a' b' c' d' :: h'):=Ai.cons (fun _ h=>by cases h) hs
theorem Ai.same {b:Ah} {h h':List Ah} (hs:Ai h h'):Ai (b :: h) (b :: h'):=Ai.cons (fun _ h=>h) hs
theorem Ai.nil (h:List Ah):Ai [] h:=fun i cs hi=>by simp at hi
end Go.PM

namespace Go.PM
section
variable {α β:Type} [DecidableEq α]
def Ey:List (α × β) -> α -> Option β
 | [],_=>none
 | p :: l,a=>if p.1 = a then some p.2 else Ey l a
def Kw:List (α × β) -> α -> β -> List (α × β)
 | [],a,b=>[(a,b)]
 | p :: l,a,b=>if p.1 = a then (a,b) :: l else p :: Kw l a b
theorem Yt (l:List (α × β)) (a:α) (b:β) (c:α):Ey (Kw l a b) c = if a = c then some b else Ey l c:=by
 induction l with
 | nil=>simp [Kw,Ey]
 | cons p l ih =>
  simp only [Kw]
  by_cases hp:p.1 = a
  ·rw [if_pos hp]
   simp only [Ey]
   by_cases hac:a = c
   ·simp [hac]
   ·rw [if_neg hac,if_neg hac,if_neg (fun h=>hac (hp ▸ h))]
  ·rw [if_neg hp]
   simp only [Ey,ih]
   by_cases hpc:p.1 = c
   ·have hac:¬ a = c:=fun h=>hp (hpc.trans h.symm)
    simp [hpc,hac]
   ·simp [hpc]
theorem QJ (l:List (α × β)) (a:α) (b:β):(Kw l a b).length = if (Ey l a).isSome = true then l.length else l.length + 1:=by
 induction l with
 | nil=>rfl
 | cons p l ih =>
  simp only [Kw,Ey]
  by_cases hp:p.1 = a
  ·simp [hp]
  ·simp only [if_neg hp,List.length_cons,ih]
   split <;> rfl
def Gt (k:α -> AV) (v:β -> AV) (l:List (α × β)):Ah:=.map (l.map fun p=>(k p.1,v p.2)) (List.range l.length) l.length
variable {k:α -> AV} {v:β -> AV} {l:List (α × β)} {a:α} {b:β}
theorem Hl (hk:∀ x y,k x = k y -> x = y) (bs:List Nat) (c:Nat):getM (.map (l.map fun p=>(k p.1,v p.2)) bs c) (k a) = (Ey l a).map v:=by
 simp only [getM]
 induction l with
 | nil=>rfl
 | cons p l ih =>
  simp only [List.map_cons,GL,Ey]
  by_cases hp:p.1 = a
  ·simp [hp]
  ·have hne:¬ k p.1 = k a:=fun h=>hp (hk _ _ h)
   rw [if_neg hne,if_neg hp];simp only [Option.bind_map];rw [<- ih]
   congr 1
theorem Uk (hk:∀ x y,k x = k y -> x = y) (b:β):(match GL (l.map fun p=>(k p.1,v p.2)) (k a) with
  | some i=>(l.map fun p=>(k p.1,v p.2)).set i (k a,v b)
  | none=>(l.map fun p=>(k p.1,v p.2)) ++ [(k a,v b)]) = (Kw l a b).map fun p=>(k p.1,v p.2):=by
 induction l with
 | nil=>rfl
 | cons p l ih =>
  simp only [List.map_cons,GL,Kw]
  by_cases hp:p.1 = a
  ·simp [hp]
  ·have hne:¬ k p.1 = k a:=fun h=>hp (hk _ _ h)
   rw [if_neg hne,if_neg hp];simp only [List.map_cons];rw [<- ih]
   cases GL (l.map fun p=>(k p.1,v p.2)) (k a) <;> rfl
theorem QO (hk:∀ x y,k x = k y -> x = y):(GL (l.map fun p=>(k p.1,v p.2)) (k a)).isSome = (Ey l a).isSome:=by
 induction l with
 | nil=>rfl
 | cons p l ih =>
  simp only [List.map_cons,GL,Ey]
  by_cases hp:p.1 = a
  ·simp [hp]
  ·have hne:¬ k p.1 = k a:=fun h=>hp (hk _ _ h)
   rw [if_neg hne,if_neg hp,Option.isSome_map,ih]
theorem Nh (hk:∀ x y,k x = k y -> x = y):LV (Gt k v l) (k a) (v b) = Gt k v (Kw l a b):=by
 have h1:=Uk (v:=v) (l:=l) (a:=a) hk b;have h2:=QO (v:=v) (l:=l) (a:=a) hk;have h3:=QJ l a b;unfold Gt LV
 cases hi:GL (l.map fun p=>(k p.1,v p.2)) (k a) with
 | none =>
  rw [hi] at h1 h2;simp only [Option.isSome_none] at h2;rw [<- h2] at h3;simp only [Bool.false_eq_true,if_false] at h3;simp only at h1;simp only [hi];rw [h1,h3,List.range_succ]
 | some i =>
  rw [hi] at h1 h2;simp only [Option.isSome_some] at h2;rw [<- h2] at h3;simp only [if_true] at h3;simp only at h1;simp only [hi];rw [h1,h3]
theorem Mh:isMap (Gt k v l):=⟨_,_,_,rfl⟩
theorem Lf {P:Program} {kt:TypeId} {d:TypeDesc} (hd:P.underlying kt = some d) (hp:∀ x,plainKey d (k x)) (bs:List Nat) (c:Nat):GA P kt (.map (l.map fun p=>(k p.1,v p.2)) bs c) (k a):=by
 refine ⟨_,_,_,rfl,.inl ⟨d,hd,fun x hx=>?_⟩⟩
 rcases List.mem_cons.1 hx with rfl | hx
 ·exact hp a
 ·rw [List.map_map] at hx
  obtain ⟨p,_,rfl⟩:=List.mem_map.1 hx;exact hp p.1
theorem SI (hv:∀ x,(v x).BK = true):Na (Gt k v l) = true:=by
 simp [Na,V7,Gt,List.all_map,hv]
theorem Mc (n:Nat) (hv:∀ x,(v x).under n = true):(Gt k v l).under n = true:=by
 simp [Gt,Ah.under,List.all_map,hv]
end
end Go.PM

namespace Go.PM
variable [AA]
def FK (P:Program) (t:TypeId):Bool:=match P.underlying t with
 | some (.interface _)=>false
 | some _=>true
 | none=>false
def Ci (P:Program) (o:Oper) (s:St) (K:St -> Prop) (Φ:AX -> St -> Prop):Prop :=
 match o.op with
 | .defer c=>match c.callee with
  | .value f=>match s.ev f with
   | .fn g caps=>K ⟨s.t.BZ o.dst (.tup []),s.h,.call g (c.args.toList.map s.ev) caps :: s.d⟩
   | _=>False
  | _=>False
 | .typeAssert x _ asserted ok=>match s.ev x with
  | .iface t y=>t = asserted /\ ok = true /\ FK P asserted = true /\ K (s.put o.dst (.tup [y,.val (.bool true)]))
  | _=>False
 | _=>BP P o s K Φ
def Bq (P:Program) (Φ:AX -> St -> Prop):List Oper -> St -> Prop
 | [],s=>Φ .normal s
 | o :: rest,s=>o.guard = none /\ Ci P o s (Bq P Φ rest) Φ
theorem SG {P:Program} {F:Nat -> Prop} {M:Mem} {hb:List HB} {s:St} {a:Act} (hs:BR F M hb s a) {o:Oper} {K:St -> Prop} {Φ:AX -> St -> Prop} (hk:Ci P o s K Φ)
  {next:Act -> World -> Prop} {Q:Exit -> Act -> World -> Prop}
  (hnext:∀ (s':St) (M':Mem) (hb':List HB) (a':Act),K s' -> BR F M' hb' s' a' -> Gu F M M' -> Bf hb hb' -> next a' M'.w)
  (hQ:∀ (x:AV) (v:Value) (s':St) (M':Mem) (hb':List HB),Φ (.panic x) s' -> Al M' hb' x v -> BR F M' hb' s' a -> Gu F M M' -> Bf hb hb' -> Q (.panic [{ v,recovered:=false }]) a M'.w) :
  o.wpIn (AY none) 0 P a M.w next Q:=by
 unfold Ci at hk
 split at hk
 ·rename_i c hop
  refine ⟨fun _ _=>trivial,?_⟩
  split at hk
  ·rename_i f hcal
   split at hk
   ·rename_i g caps hff
    have hf:=hs.ev f;rw [hff] at hf;generalize hv:a.eval f = v at hf
    cases hf with
    | @fn _ _ _ us h1 h2 =>
     have hargs:=AW.evs hs c.args
     show o.uponIn _ _ _ _ _ _ ((execOp a.eval o).run P M.w)
     simp only [execOp,hop,resolve,hcal,hv,Deferred.ofValue,Sem.run_bind,Sem.run_pure,Result.andThen_ok];rw [Oper.uponIn_defer];have hdr:V4 M hb (.call g (c.args.toList.map s.ev) caps) { target:=.fn (.func g) us,args:=#[] ++ c.args.map a.eval } :=
      ⟨_,us,rfl,by rw [Array.empty_append]; exact hargs,h1,h2⟩
     have hs1:BR F M hb ⟨s.t,s.h,.call g (c.args.toList.map s.ev) caps :: s.d⟩ { a with defers:={ target:=.fn (.func g) us,args:=#[] ++ c.args.map a.eval } :: a.defers } :=
      ⟨hs.tm,⟨hdr,hs.df⟩,hs.hp,hs.ok⟩
     exact hnext _ M hb _ hk (hs1.put o.dst CX) (.refl _ _) (.refl _)
   ·exact hk.elim
  ·exact hk.elim
 ·rename_i x xt asserted ok hop
  refine ⟨fun _ _=>trivial,?_⟩
  split at hk
  ·rename_i t y hxx
   obtain ⟨rfl,rfl,hn,hk⟩:=hk;have hx:=hs.ev x;rw [hxx] at hx;generalize hv:a.eval x = v at hx
   cases hx with
   | iface hx =>
    rename_i v
    rw [Oper.semAt_eq _ _ _ (fun c=>by rw [hop]; intro h; cases h)];have hrun:(Instr.typeAssert (.iface t v) xt t true).run P M.w = .ok (.tuple #[v,.bool true]) M.w:=by
     unfold FK at hn;unfold Instr.typeAssert
     cases hu:P.underlying t with
     | none=>rw [hu] at hn; cases hn
     | some d=>cases d <;> rw [hu] at hn <;> first | (cases hn; done) | simp [underlying,hu]
    simp only [execOp,hop,hv,Sem.run_bind,hrun,Result.andThen_ok,Sem.run_pure];rw [Oper.uponIn_value];refine hnext _ M hb _ hk (hs.put o.dst (.tup rfl fun i c hc=>?_)) (.refl _ _) (.refl _)
    match i,hc with
    | 0,hc=>simp at hc; subst hc; exact hx
    | 1,hc=>simp at hc; subst hc; exact .val rfl
    | i + 2,hc=>simp at hc
  ·exact hk.elim
 ·exact DM none hs hk hnext hQ
theorem QR {P:Program} {F:Nat -> Prop} {ops:Array Oper} {Φ:AX -> St -> Prop}:∀ (k i:Nat),i + k = ops.size -> ∀ (M0:Mem) (hb0:List HB) (M:Mem) (hb:List HB) (s:St) (a:Act),Gu F M0 M -> Bf hb0 hb -> BR F M hb s a -> Bq P Φ (ops.toList.drop i) s ->
  wpOpsIn (AY none) 0 P ops (Dx F M0 hb0 Φ) (List.range' i k) a M.w:=by
 intro k
 induction k with
 | zero =>
  intro i hi M0 hb0 M hb s a hG hH hs hk;rw [List.drop_eq_nil_of_le (by simp; omega)] at hk;exact ⟨.normal,s,M,hb,hk,trivial,rfl,hs,hG,hH⟩
 | succ k ih =>
  intro i hi M0 hb0 M hb s a hG hH hs hk;have hlt:i < ops.size:=by omega
  have hdrop:ops.toList.drop i = ops[i] :: ops.toList.drop (i + 1):=by
   rw [List.drop_eq_getElem_cons (by simpa using hlt)];simp
  rw [hdrop] at hk;obtain ⟨hg,hk⟩:=hk;rw [List.range'_succ];simp only [wpOpsIn,Array.getElem?_eq_getElem hlt,Region.wanted,hg,if_true];exact SG hs hk (fun s' M' hb' a' k1 k2 k3 k4=>ih (i + 1) (by omega) M0 hb0 M' hb' s' a' (hG.trans k3) (hH.trans k4) k2 k1)
   (fun x v s' M' hb' k1 k2 k3 k4 k5=>⟨.panic x,s',M',hb',k1,⟨v,rfl,k2⟩,rfl,k3,hG.trans k4,hH.trans k5⟩)
theorem Aa.WJ {P:Program} {s:St} {Φ:AX -> St -> Prop} {id:Nat} {ops:Array Oper} (h:Bq P Φ ops.toList s):Aa P none (.region id ops false) s Φ:=by
 intro F M hb a ro hs hr
 cases ro with
 | some r=>exact hr.elim
 | none =>
  refine wpIn_region ?_;have:=QR (P:=P) (F:=F) (ops:=ops) (Φ:=Φ) ops.size 0 (by omega) M hb M hb s a (.refl _ _) (.refl _) hs (by simpa using h)
  rwa [List.range_eq_range']
theorem Aa.Qa {P:Program} {s:St} {Φ:AX -> St -> Prop} {id:Nat} {ops:Array Oper} {y:Code} (h:Bq P (AX.GG (fun s1=>Aa P none y s1 Φ) Φ) ops.toList s):Aa P none (.seq (.region id ops false) y) s Φ:=Aa.seq (Aa.WJ h)
def Tn (K:Option AV -> List Ah -> Prop):AX -> St -> Prop
 | .normal,s | .ret,s=>s.d = [] /\ K none s.h
 | _,_=>False
def recovered:Option AV -> AV
 | none=>.val .nilIface
 | some x=>x
theorem Kt.recover {P:Program} {f:FuncId} {fn:Func} {id:Nat} {d:Option Tmp} {ts:Array TypeId} {ty:TypeId} {pos:String} {after:Array Edge} {rest:Code} {args:List AV} {pan:Option AV} {h:List Ah} {K:Option AV -> List Ah -> Prop}
  (hf:P.funcs[f]? = some fn) (hn:fn.name ≠ "runtime.NumGoroutine") (hres:fn.results = #[])
  (hb:fn.body = some (.seq (.region id #[⟨d,.call ⟨.builtin .recover,#[],ts⟩,ty,pos,after,none⟩] false) rest))
  (hc:Aa P none rest ⟨(Dm fn.ntmps args).BZ d (recovered pan),h,[]⟩ (Tn K)):Kt P f args pan h K:=by
 intro F M hb0 vs pv H ok hv hp;refine ⟨⟨fn,hf,hn,by rw [hb]; rfl⟩,callsDIn_of_wpSIn hf hb trivial fun c₀ cs hm=>?_⟩
 let a0:Act:={ tmps:=vs ++ Array.replicate (fn.ntmps - vs.size) undef,defers:=[] }
 have hs0:BR F M hb0 ⟨Dm fn.ntmps args,h,[]⟩ a0:=⟨JT hv _,trivial,H,ok⟩
 have hex:∀ o:Oper,o.op = .call ⟨.builtin .recover,#[],ts⟩ -> (execOp a0.eval o).run P M.w = .ok .recover M.w:=by
  intro o ho;simp only [execOp,ho,resolve,Sem.run_bind,Sem.run_pure,Result.andThen_ok];rfl
 have key:∀ (v:Value) (cs':List Frame) (u':FrameMode),Al M hb0 (recovered pan) v -> cs' = { c₀ with mode:=u' } :: cs -> settle u' = .returning ->
   rest.wpSIn Fence.wide 0 P (bodyPostS P fn c₀ cs (fun e u' w'=>∃ v,e = .returned v /\ ∃ (pan':Option AV) (pv':Option Value) (h':List Ah) (M':Mem) (hb':List HB),
    K pan' h' /\ Io M' hb' pan' pv' /\ settle u' = GP pv' /\ M'.w = w' /\ AR F M' hb' h' /\ Cz F M' /\ Gu F M M' /\ Bf hb0 hb')) (a0.put d v) cs' M.w:=by
  intro v cs' u' hvr hcs hu;refine wpSIn_of_wpIn rfl ?_;have:=hc F M hb0 (a0.put d v) none (hs0.put d hvr) trivial;refine wpIn_mono this ?_;rintro e a w ⟨x,s',M',hb',k1,k2,rfl,k4,k5,k6⟩;have hres':∀ w,(results fn a.tmps).run P w = .ok (.tuple #[]) w:=by
   intro w;unfold results;rw [hres];simp
  cases x <;> cases e <;> try (first | exact k2.elim | exact k1.elim)
  ·obtain ⟨q1,q2⟩:=k1
   have hd:=k4.df;rw [q1] at hd;have hd0:a.defers = []:=by
    cases ha:a.defers with
    | nil=>rfl
    | cons x l=>rw [ha] at hd; exact hd.elim
   exact ⟨hd0,u',hcs,_,hres' _,_,rfl,none,none,s'.h,M',hb',q2,trivial,hu,rfl,k4.hp,k4.ok,k5,k6⟩
  ·obtain ⟨q1,q2⟩:=k1
   have hd:=k4.df;rw [q1] at hd;have hd0:a.defers = []:=by
    cases ha:a.defers with
    | nil=>rfl
    | cons x l=>rw [ha] at hd; exact hd.elim
   exact ⟨hd0,u',hcs,_,hres' _,_,rfl,none,none,s'.h,M',hb',q2,trivial,hu,rfl,k4.hp,k4.ok,k5,k6⟩
 refine wpSIn_seq (wpSIn_region ?_)
 show wpOpsSIn _ _ _ _ _ [0] _ _ _
 simp only [wpOpsSIn];refine ⟨fun _ _=>trivial,?_⟩;simp only [Region.wanted,if_true];rw [hex _ rfl]
 cases hpan:pan with
 | none =>
  rw [hpan] at hp key
  cases pv with
  | some v=>exact hp.elim
  | none =>
   have hrec:recoverD (c₀ :: cs) = none:=by
    simp only [recoverD,hm,GP]
   simp only [hrec];exact key .nilIface (c₀ :: cs) .returning (.val rfl) (by rw [show ({ c₀ with mode:=.returning }:Frame) = c₀ by rw [show FrameMode.returning = c₀.mode from hm.symm]]) rfl
 | some x =>
  rw [hpan] at hp key
  cases pv with
  | none=>exact hp.elim
  | some v =>
   have hrec:recoverD (c₀ :: cs) = some (v,{ c₀ with mode:=.panicking [{ v,recovered:=true }] } :: cs):=by
    simp only [recoverD,hm,GP]
   simp only [hrec];exact key v _ (.panicking [{ v,recovered:=true }]) hp rfl rfl
section
variable (P:Program) (Φ:AX -> St -> Prop) (dst:Option Tmp) (ty:TypeId) (pos:String) (after:Array Edge) (rest:List Oper) (s:St) (K:St -> Prop) (g:Option (Nat × Bool))
theorem Vq:Bq P Φ [] s = Φ .normal s:=rfl
theorem Rr (op:Op):Bq P Φ (⟨dst,op,ty,pos,after,none⟩ :: rest) s = Ci P ⟨dst,op,ty,pos,after,none⟩ s (Bq P Φ rest) Φ:=by simp [Bq]
theorem Si (x:Operand) (args:Array Operand) (ts:Array TypeId):Ci P ⟨dst,.defer ⟨.value x,args,ts⟩,ty,pos,after,g⟩ s K Φ = match s.ev x with
 | .fn g caps=>K ⟨s.t.BZ dst (.tup []),s.h,.call g (args.toList.map s.ev) caps :: s.d⟩
 | _=>False:=rfl
theorem Qv (x:Operand) (xt t1:TypeId) (ok:Bool):Ci P ⟨dst,.typeAssert x xt t1 ok,ty,pos,after,g⟩ s K Φ = match s.ev x with
 | .iface t y=>t = t1 /\ ok = true /\ FK P t1 = true /\ K (s.put dst (.tup [y,.val (.bool true)]))
 | _=>False:=rfl
theorem MP (f:Fn) (a b:Array Operand):Ci P ⟨dst,.makeFunc f a b,ty,pos,after,g⟩ s K Φ = BP P ⟨dst,.makeFunc f a b,ty,pos,after,g⟩ s K Φ:=rfl
theorem OX (x:Operand) (i:Nat):Ci P ⟨dst,.extract x i,ty,pos,after,g⟩ s K Φ = BP P ⟨dst,.extract x i,ty,pos,after,g⟩ s K Φ:=rfl
end
theorem H6 (P:Program) (Φ:AX -> St -> Prop) (dst:Option Tmp) (ty:TypeId) (pos:String) (after:Array Edge) (s:St) (K:St -> Prop) (g:Option (Nat × Bool)) (t:TypeId) (x:Operand):BP P ⟨dst,.makeInterface t x,ty,pos,after,g⟩ s K Φ = (FK P t = true /\ K (s.put dst (.iface t (s.ev x)))):=by
 have e:BP P ⟨dst,.makeInterface t x,ty,pos,after,g⟩ s K Φ = FB P s (.makeInterface t x) (fun v=>K (s.put dst v)):=rfl;rw [e];unfold FB FK;simp only
 cases hu:P.underlying t with
 | none=>simp
 | some d=>cases d <;> simp
theorem Qr (P:Program) (rs:List ResultVar) (t:Tm) (R:AE -> List Ah -> Prop) (pan:Option AV) (f:FuncId) (args caps:List AV) (ds:List AD) (h:List Ah):DK P rs t R pan (.call f args caps :: ds) h = Kt P f (args ++ caps) pan h (fun pan' h'=>DK P rs t R pan' ds h'):=rfl
theorem TX (id:Nat) (Φ:AX -> St -> Prop) (x:AV) (s:St):AX.Hk id Φ (.panic x) s = Φ (.panic x) s:=rfl
theorem LD (K:Option AV -> List Ah -> Prop) (s:St):Tn K .normal s = (s.d = [] /\ K none s.h):=rfl
theorem LH:recovered none = .val .nilIface:=rfl
theorem K1 (x:AV):recovered (some x) = x:=rfl
@[congr] theorem acW {P:Program} {f:FuncId} {args args':List AV} {pan pan':Option AV} {h h':List Ah} {K:Option AV -> List Ah -> Prop} (h1:args = args') (h2:pan = pan') (h3:h = h'):Kt P f args pan h K = Kt P f args' pan' h' K:=by rw [h1,h2,h3]
attribute [go_sem ↓] H6 Vq Rr Si Qv MP OX Qr TX LD
attribute [go_sem] LH K1 FK
def Bc (P:Program) (f:FuncId) (args:List AV) (h:List Ah) (c:Bool) (v:AV) (h1:List Ah) (x:AV) (h2:List Ah):Prop :=
 (c = true -> Ag P f args h (fun r h'=>r = .ret v /\ h' = h1)) /\ (c = false -> Ag P f args h (fun r h'=>r = .panic x /\ h' = h2))
theorem Bc.go {P:Program} {f:FuncId} {args:List AV} {h:List Ah} {c:Bool} {v:AV} {h1:List Ah} {x:AV} {h2:List Ah} {t:Tm} {d:List AD} {dst:Option Tmp} {K:St -> Prop} {Φ:AX -> St -> Prop}
  (hc:Bc P f args h c v h1 x h2) (k1:c = true -> K ⟨t.BZ dst v,h1,d⟩) (k2:c = false -> Φ (.panic x) ⟨t,h2,d⟩):Ag P f args h (Eu ⟨t,h,d⟩ dst K Φ):=by
 cases hcc:c with
 | true=>exact (hc.1 hcc).mono fun r h' ⟨e1,e2⟩=>by subst e1 e2; exact k1 hcc
 | false=>exact (hc.2 hcc).mono fun r h' ⟨e1,e2⟩=>by subst e1 e2; exact k2 hcc
theorem Bc.mk {P:Program} {f:FuncId} {args:List AV} {h:List Ah} {c:Bool} {v:AV} {h1:List Ah} {x:AV} {h2:List Ah}
  (hc:Ag P f args h (fun r h'=>(c = true /\ r = .ret v /\ h' = h1) \/ (c = false /\ r = .panic x /\ h' = h2))):Bc P f args h c v h1 x h2:=by
 refine ⟨fun e=>hc.mono ?_,fun e=>hc.mono ?_⟩
 ·rintro r h' (hh | hh)
  ·exact hh.2
  ·rw [e] at hh; cases hh.1
 ·rintro r h' (hh | hh)
  ·rw [e] at hh; cases hh.1
  ·exact hh.2
theorem Bc.pre {P:Program} {f:FuncId} {args:List AV} {h:List Ah} {c:Bool} {v:AV} {h1:List Ah} {x:AV} {h2:List Ah} (hc:Bc P f args h c v h1 x h2) (ext:List Ah) (hu:Aw h) (ha:AZ h.length args = true) (e1:h1.length = h.length) (e2:h2.length = h.length):Bc P f args (h ++ ext) c v (h1 ++ ext) x (h2 ++ ext) :=
 ⟨fun e=>(Ag.pre ext hu ha (fun r h' hh=>by rw [hh.2]; exact e1) (hc.1 e)).mono fun r h' ⟨h0,⟨q1,q2⟩,q3⟩=>⟨q1,by rw [q3,q2]⟩,
  fun e=>(Ag.pre ext hu ha (fun r h' hh=>by rw [hh.2]; exact e2) (hc.2 e)).mono fun r h' ⟨h0,⟨q1,q2⟩,q3⟩=>⟨q1,by rw [q3,q2]⟩⟩
end Go.PM

namespace Go.PM
variable [AA]
inductive Sch where
 | done
 | fail
 | alt (i:Nat) (next other:Sch)
def Sch.XH:Sch -> List Nat
 | .alt i _ o=>i :: o.XH
 | _=>[]
def Sch.ok (ops:Array Oper):Sch -> Bool -> Array Bool -> Bool
 | .done,_,listed=>Region.ready .any ops listed == []
 | .fail,top,_=>!top
 | .alt i n o,top,listed=>(!top || Region.ready .any ops listed == i :: o.XH) && n.ok ops true (listed.setIfInBounds i true) && o.ok ops false listed
section
variable (P:Program) (ops:Array Oper) (Φ:AX -> St -> Prop)
end
end Go.PM

namespace Go.PM
variable [AA]
theorem Left.step {ops:Array Oper} {listed:Array Bool} {p q:List (Nat × Cj)} {i':Nat} {c:Cj} {o:Oper} (hL:Left ops listed (p ++ (i',c) :: q)) (ho:ops[i']? = some o) (hilt:i' < ops.size)
  (hall:∀ e ∈ o.after,Region.binds .any e = true -> listed.getD e.on false = true):Left ops (listed.setIfInBounds i' true) (p ++ q):=by
 have Cf:∀ j,(listed.setIfInBounds i' true).getD j true = if i' = j then true else listed.getD j true:=by
  intro j;rw [Array.getD_eq_getD_getElem?,Array.getElem?_setIfInBounds]
  by_cases hij:i' = j
  ·subst hij; simp [hL.size,hilt]
  ·simp [hij,Array.getD_eq_getD_getElem?]
 have hset':∀ j,listed.getD j false = true -> (listed.setIfInBounds i' true).getD j false = true:=by
  intro j hj;rw [Array.getD_eq_getD_getElem?,Array.getElem?_setIfInBounds]
  by_cases hij:i' = j
  ·subst hij; simp [hL.size,hilt]
  ·simpa [hij,Array.getD_eq_getD_getElem?] using hj
 have hnd:=hL.nodup;have hperm:(p ++ (i',c) :: q).map (·.1) = p.map (·.1) ++ i' :: q.map (·.1):=by simp
 rw [hperm] at hnd;have hnotin:i' ∉ (p ++ q).map (·.1):=by
  have:=List.nodup_append.1 hnd;rw [List.map_append,List.mem_append];rintro (h | h)
  ·exact this.2.2 _ h _ List.mem_cons_self rfl
  ·exact (List.nodup_cons.1 this.2.1).1 h
 refine ⟨by simp [hL.size],fun j oj hj hlj e he hb=>?_,?_,fun j=>?_,?_,hL.back⟩
 ·rw [Cf] at hlj
  by_cases hij:i' = j
  ·subst hij; rw [ho] at hj; cases hj
   exact hset' _ (hall e he hb)
  ·rw [if_neg hij] at hlj
   exact hset' _ (hL.closed j oj hj hlj e he hb)
 ·rw [List.map_append]
  exact (List.Sublist.append (List.Sublist.refl _) (List.sublist_cons_self _ _)).nodup hnd
 ·rw [Cf]
  have h1:=hL.mem j;rw [hperm] at h1
  by_cases hij:i' = j
  ·subst hij
   simp only [if_true];exact ⟨fun h=>absurd h hnotin,fun h=>by cases h.2⟩
  ·rw [if_neg hij,<- h1,List.map_append]
   simp only [List.mem_append,List.mem_cons];constructor
   ·rintro (h | h)
    ·exact .inl h
    ·exact .inr (.inr h)
   ·rintro (h | h | h)
    ·exact .inl h
    ·exact absurd h.symm hij
    ·exact .inr h
 ·exact hL.pairs.sublist (List.Sublist.append (List.Sublist.refl _) (List.sublist_cons_self _ _))
theorem L6 {P:Program} {F:Nat -> Prop} {M0:Mem} {hb0:List HB} {ops:Array Oper} {Φ:AX -> St -> Prop} {K:St -> Prop} {m:Nat} {c0:Cj} (hK:∀ s s',Dl s s' -> K s -> K s')
  (hend:∀ s M hb a,K s -> BR F M hb s a -> ∃ s0 M1,M1.w = M.w /\ Gu F M M1 /\ BR F M1 hb s0 a /\ Ew ops m (fun o=>o.guard = none /\ BP P o s0 (Φ .normal) Φ)) (hreach:∀ i,i < ops.size -> i ≠ m -> reachB ops ops.size i m = true) (ro:Option Nat) :
  ∀ (k:Nat) (l:List (Nat × Cj)) (listed:Array Bool) (M:Mem) (hb:List HB) (s:St) (a:Act),l.length = k -> Left ops listed (l ++ [(m,c0)]) -> Gu F M0 M -> Bf hb0 hb -> BR F M hb s a -> AO P ops l s K ->
  wpAnyIn (AY ro) 0 P .any ops (Dx F M0 hb0 Φ) (k + 1) listed a M.w:=by
 intro k
 induction k with
 | zero =>
  intro l listed M hb s a hlen hL hG hH hs hk;obtain rfl:=List.eq_nil_of_length_eq_zero hlen;refine ⟨fun h=>absurd h (hL.ready (by simp)),fun i hi=>?_⟩;obtain ⟨hun,o,ho,hall⟩:=(mem_ready).1 hi;have hilt:i < ops.size:=(Array.getElem?_eq_some_iff.1 ho).1;have him:i = m:=by
   have:=(hL.mem i).2 ⟨hilt,hun⟩
   simpa using this
  subst him;have hL':Left ops (listed.setIfInBounds i true) []:=Left.step (p:=[]) (q:=[]) hL ho hilt hall;obtain ⟨s0,M1,hw,hG1,hs0,hat⟩:=hend s M hb a hk hs;unfold Ew at hat;simp only [ho] at hat;obtain ⟨hg,hop⟩:=hat;have hG:=hG.trans hG1;rw [<- hw];unfold wpOpIn;simp only [ho,Region.wanted,hg,if_true];refine DM (Φ:=Φ) ro hs0 hop (fun s' M' hb' a' k1 k2 k3 k4=>?_) (fun x v s' M' hb' k1 k2 k3 k4 k5=>?_)
  ·refine ⟨?_,.normal,s',M',hb',k1,trivial,rfl,k2,hG.trans k3,hH.trans k4⟩
   rw [List.eq_nil_iff_forall_not_mem];intro j hj;obtain ⟨h1,o',ho',_⟩:=(mem_ready).1 hj;have:j < ops.size:=(Array.getElem?_eq_some_iff.1 ho').1;have:=(hL'.mem j).2 ⟨this,h1⟩;simp at this
  ·exact ⟨.panic x,s',M',hb',k1,⟨v,rfl,k2⟩,rfl,k3,hG.trans k4,hH.trans k5⟩
 | succ k ih =>
  intro l listed M hb s a hlen hL hG hH hs hk;refine ⟨fun h=>absurd h (hL.ready (by simp)),fun i hi=>?_⟩;obtain ⟨hun,o,ho,hall⟩:=(mem_ready).1 hi;have hilt:i < ops.size:=(Array.getElem?_eq_some_iff.1 ho).1;have hnm:i ≠ m:=by
   rintro rfl
   cases l with
   | nil=>cases hlen
   | cons x l =>
    have hx:=(hL.mem x.1).1 (by simp);have hxm:x.1 ≠ i:=by
     have:=hL.nodup;simp only [List.cons_append,List.map_cons,List.map_append,List.nodup_cons,List.mem_append] at this;intro he;exact this.1 (.inr (by simp [he]))
    have h1:=Co hL.size hL.closed _ _ _ o ho hall (hreach x.1 hx.1 hxm);have h2:=hx.2;rw [CC (by rw [hL.size]; exact hx.1),h1] at h2;cases h2
  have hil:i ∈ l.map (·.1):=by
   have:=(hL.mem i).2 ⟨hilt,hun⟩;rw [List.map_append,List.mem_append] at this
   rcases this with h | h
   ·exact h
   ·simp at h; exact absurd h hnm
  obtain ⟨⟨i',c⟩,hmem,rfl⟩:=List.mem_map.1 hil;obtain ⟨p,q,rfl⟩:=List.append_of_mem hmem;simp only at ho hall hun hilt hi hnm ⊢;have hL2:Left ops listed (p ++ (i',c) :: (q ++ [(m,c0)])):=by simpa using hL
  have hpc:∀ x ∈ p,compat ops x (i',c) = true:=by
   intro x hx;have hpair:E8 ops x (i',c) = true:=by
    have:=List.pairwise_append.1 hL2.pairs;exact this.2.2 x hx _ List.mem_cons_self
   simp only [E8,Bool.or_eq_true] at hpair
   rcases hpair with h | h
   ·have h1:=Co hL.size hL.closed _ _ _ o ho hall h
    have h2:=(hL2.mem x.1).1 (List.mem_map.2 ⟨x,List.mem_append_left _ hx,rfl⟩);rw [CC (by rw [hL.size]; exact h2.1)] at h2;rw [h2.2] at h1;cases h1
   ·exact h
  have hrun:=AO.pull hK p hpc hk;have hL':Left ops (listed.setIfInBounds i' true) ((p ++ q) ++ [(m,c0)]):=by
   have:=Left.step hL2 ho hilt hall
   simpa using this
  have hlen':(p ++ q).length = k:=by simp at hlen ⊢; omega
  have hnext:∀ (s':St) (M':Mem) (hb':List HB) (a':Act),AO P ops (p ++ q) s' K -> BR F M' hb' s' a' -> Gu F M M' -> Bf hb hb' -> wpAnyIn (AY ro) 0 P .any ops (Dx F M0 hb0 Φ) (k + 1) (listed.setIfInBounds i' true) a' M'.w :=
   fun s' M' hb' a' k1 k2 k3 k4=>ih (p ++ q) _ M' hb' s' a' hlen' hL' (hG.trans k3) (hH.trans k4) k2 k1
  have hdst:BU ops i' = o.dst:=by simp [BU,ho]
  simp only [AO,hdst] at hrun;unfold CD at hrun;simp only [ho] at hrun;unfold wpOpIn;simp only [ho];have hop:AU P o c s (fun v h=>AO P ops (p ++ q) ⟨s.t.BZ o.dst v,h,s.d⟩ K) -> o.wpIn (AY ro) 0 P a M.w (wpAnyIn (AY ro) 0 P .any ops (Dx F M0 hb0 Φ) (k + 1) (listed.setIfInBounds i' true)) (Dx F M0 hb0 Φ):=fun h =>
   DM (Φ:=fun _ _=>False) ro hs (I5 (K:=fun s'=>AO P ops (p ++ q) s' K) h) hnext (fun x v s' M' hb' k1=>k1.elim)
  split at hrun
  ·rename_i hg
   simp only [Region.wanted,hg,if_true];exact hop hrun
  ·rename_i j want hg
   split at hrun
   ·rename_i d hd
    split at hrun
    ·rename_i b hbv
     rw [Ei hs.tm hg hd hbv]
     by_cases hbw:b = want
     ·simp only [hbw,beq_self_eq_true,if_true]
      exact hop (hrun.1 hbw)
     ·have:(b == want) = false:=by simpa using hbw
      simp only [this,Bool.false_eq_true,if_false];refine ⟨fun _ _=>trivial,hnext _ M hb _ (hrun.2 ?_) (hs.put o.dst CX) (.refl _ _) (.refl _)⟩
      cases b <;> cases want <;> simp_all
    ·rename_i hbv
     rw [Eg hs.tm hg hd hbv];simp only [Bool.false_eq_true,if_false];exact ⟨fun _ _=>trivial,hnext _ M hb _ hrun (hs.put o.dst CX) (.refl _ _) (.refl _)⟩
    ·exact hrun.elim
   ·exact hrun.elim
def Qi (ops:Array Oper) (π:List (Nat × Cj)) (m:Nat):Bool:=EO ops (π ++ [(m,.set)]) && (List.range ops.size).all (fun i=>i == m || reachB ops ops.size i m)
theorem Aa.VT {P:Program} {rd:Option Nat} {s:St} {Φ:AX -> St -> Prop} {id:Nat} {ops:Array Oper} (π:List (Nat × Cj)) (m:Nat) (E:St -> Prop) (hE:∀ F s M hb a,E s -> BR F M hb s a -> ∃ s0 M1,M1.w = M.w /\ Gu F M M1 /\ BR F M1 hb s0 a /\ Ew ops m (fun o=>o.guard = none /\ BP P o s0 (Φ .normal) Φ)) (hm:P.follows .mixedOrders = true) (hok:Qi ops π m = true)
  (h:AO P ops π s E):Aa P rd (.region id ops true) s Φ:=by
 intro F M hb a ro hs hr;refine wpIn_region_any hm ?_;simp only [Qi,EO,Bool.and_eq_true,decide_eq_true_eq] at hok;obtain ⟨⟨⟨⟨⟨h1,h2⟩,h3⟩,h4⟩,h5⟩,h6⟩:=hok;have hL:Left ops (Array.replicate ops.size false) (π ++ [(m,.set)]):=by
  refine ⟨by simp,fun i o ho hl=>?_,h1,fun i=>?_,h4,fun i o ho e he hb=>?_⟩
  ·have:i < ops.size:=(Array.getElem?_eq_some_iff.1 ho).1
   simp [Array.getD_eq_getD_getElem?,this] at hl
  ·constructor
   ·intro hi
    obtain ⟨p,hp,rfl⟩:=List.mem_map.1 hi;have:=List.all_eq_true.1 h3 p hp;simp only [decide_eq_true_eq] at this;exact ⟨this,by simp [Array.getD_eq_getD_getElem?,this]⟩
   ·rintro ⟨hi,_⟩
    have:=List.all_eq_true.1 h2 i (List.mem_range.2 hi)
    simpa using this
  ·have hlt:i < ops.size:=(Array.getElem?_eq_some_iff.1 ho).1
   have:=List.all_eq_true.1 h5 i (List.mem_range.2 hlt);rw [ho] at this;simp only [Array.all_eq_true'] at this;have h6:=this e he
   simpa [hb] using h6
 have hlen:(π ++ [(m,Cj.set)]).length = ops.size:=by
  have hp:((π ++ [(m,Cj.set)]).map (·.1)).Perm (List.range ops.size):=by
   rw [List.perm_ext_iff_of_nodup h1 List.nodup_range];intro i;rw [hL.mem i,List.mem_range];exact ⟨fun h=>h.1,fun h=>⟨h,by simp [Array.getD_eq_getD_getElem?,h]⟩⟩
  have:=hp.length_eq
  simpa using this
 have hlen1:π.length + 1 = ops.size:=by simpa using hlen
 have hA:Ch M M.drew:=Ch.drew M;have hG:=hA.gu hs.ok;have hgo:=L6 (M0:=M) (hb0:=hb) (F:=F) (P:=P) (ops:=ops) (K:=fun s'=>∃ s0,Dl s0 s' /\ E s0) (m:=m) (c0:=.set)
  (fun s s' hs ⟨s0,h0,hk⟩=>⟨s0,h0.trans hs,hk⟩) (fun s M hb a ⟨s0,h0,hk⟩ hs=>hE F s0 M hb a hk (hs.same h0.symm)) (fun i hi hne=>by
   have:=List.all_eq_true.1 h6 i (List.mem_range.2 hi)
   simpa [hne] using this) ro π.length π (Array.replicate ops.size false) M.drew hb s a rfl hL hG (.refl _)
  ⟨hs.tm.mono hG.le (.refl _),hs.df.mono hG.le (.refl _),hs.hp.Lw hA hs.ok,hs.ok.drew⟩ (Aa.drawn.runK_mono π (fun s hk=>⟨s,.refl s,hk⟩) h)
 rw [hlen1] at hgo;exact hgo
theorem Aa.Ws {P:Program} {rd:Option Nat} {s:St} {Φ:AX -> St -> Prop} {id:Nat} {ops:Array Oper} (π:List (Nat × Cj)) (m:Nat) (hm:P.follows .mixedOrders = true) (hok:Qi ops π m = true)
  (h:AO P ops π s (fun s1=>Ew ops m (fun o=>o.guard = none /\ BP P o s1 (Φ .normal) Φ))):Aa P rd (.region id ops true) s Φ :=
 Aa.VT π m _ (fun _ s M _ _ h hs=>⟨s,M,rfl,.refl _ _,hs,h⟩) hm hok h
theorem Aa.ac9 {P:Program} {rd:Option Nat} {s:St} {Φ:AX -> St -> Prop} {id:Nat} {ops:Array Oper} {y:Code} (π:List (Nat × Cj)) (m:Nat) (hm:P.follows .mixedOrders = true) (hok:Qi ops π m = true)
  (h:AO P ops π s (fun s1=>Ew ops m (fun o=>o.guard = none /\ BP P o s1 (fun s2=>Aa P rd y s2 Φ) (AX.GG (fun s2=>Aa P rd y s2 Φ) Φ)))):Aa P rd (.seq (.region id ops true) y) s Φ :=
 Aa.seq (Aa.Ws π m hm hok h)
theorem Aa.ZY {P:Program} {rd:Option Nat} {s:St} {Φ:AX -> St -> Prop} {id:Nat} {ops:Array Oper} {y:Code} (π:List (Nat × Cj)) (m:Nat) (hm:P.follows .mixedOrders = true) (hok:Qi ops π m = true)
  (h:Az P ops π s (fun s1=>Ew ops m (fun o=>o.guard = none /\ BP P o s1 (fun s2=>Aa P rd y s2 Φ) (AX.GG (fun s2=>Aa P rd y s2 Φ) Φ)))):Aa P rd (.seq (.region id ops true) y) s Φ :=
 Aa.ac9 π m hm hok (Az.run π s h)
theorem He.one {P:Program} {f:FuncId} {args cs:List AV} {v:AV} {h:List Ah} {K:AV -> Prop} (hc:Ag P f args [.cells cs] (fun r h'=>r = .ret v /\ h' = [.cells cs])) (hh:h[0]? = some (.cells cs)) (h1:AZ 1 cs = true) (h2:AZ 1 args = true) (hk:K v):He P f args h K:=by
 refine ⟨v,fun h' hs=>?_,hk⟩;have h0:=hs 0 cs hh;obtain ⟨b,ext,rfl⟩:∃ b ext,h' = b :: ext:=by
  cases h' with
  | nil=>simp at h0
  | cons b ext=>exact ⟨b,ext,rfl⟩
 obtain rfl:b = .cells cs:=by simpa using h0
 have hu:Aw [Ah.cells cs]:=fun b hb=>by
  simp only [List.mem_singleton] at hb;subst hb;exact h1
 refine (Ag.pre ext hu h2 (fun r h' ⟨_,e⟩=>by rw [e]) hc).mono ?_;rintro r h'' ⟨h1,⟨rfl,rfl⟩,rfl⟩;exact ⟨rfl,rfl⟩
def AX.scp (Φ:AX -> St -> Prop):AX -> St -> Prop
 | .goto _,_=>False
 | x,s=>Φ x s
theorem Aa.scp {P:Program} {c:Code} {s:St} {Φ:AX -> St -> Prop} (h:Aa P none c s (AX.scp Φ)):Aa P none (.scope c) s Φ :=
 Aa.scope (Aa.mono h fun x s' hx=>by cases x <;> exact hx)
theorem RF (Φ:AX -> St -> Prop) (s:St):AX.scp Φ .normal s = Φ .normal s:=rfl
theorem TU (Φ:AX -> St -> Prop) (x:AV) (s:St):AX.scp Φ (.panic x) s = Φ (.panic x) s:=rfl
attribute [go_sem ↓] RF TU
end Go.PM

namespace Go.PM
variable [AA]
def SX (o:Oper):Bool:=match o.op with
 | .call c=>(match c.callee with
  | .value _=>true
  | _=>false)
 | _=>false
theorem Ih {s:St} {dst:Option Tmp} {K K':St -> Prop} {Φ Φ':AX -> St -> Prop} (h1:∀ s,K s -> K' s) (h2:∀ x s,Φ x s -> Φ' x s) (r:AE) (h:List Ah) (hk:Eu s dst K Φ r h):Eu s dst K' Φ' r h:=by
 cases r
 ·exact h1 _ hk
 ·exact h2 _ _ hk
theorem Pn {P:Program} {o:Oper} (hc:SX o = true) {s:St} {K K':St -> Prop} {Φ Φ':AX -> St -> Prop} (hk:BP P o s K Φ) (h1:∀ s,K s -> K' s) (h2:∀ x s,Φ x s -> Φ' x s):BP P o s K' Φ':=by
 unfold SX at hc
 split at hc
 ·rename_i c hop
  split at hc
  ·rename_i f hcal
   unfold BP at hk ⊢;simp only [hop,hcal] at hk ⊢
   split at hk
   ·exact hk.mono (Ih h1 h2)
   ·exact hk.mono (Ih h1 h2)
   ·exact hk.mono (Ih h1 h2)
   ·exact hk
  ·cases hc
 ·cases hc
def N3 (P:Program) (ops:Array Oper) (o:Oper) (s:St) (K:St -> Prop) (Φ:AX -> St -> Prop):Prop :=
 match o.guard with
 | none=>BP P o s K Φ
 | some (j,want)=>Ds (EB ops s.t j) want (BP P o s K Φ) (K ⟨s.t.BZ o.dst (.tup []),s.h,s.d⟩)
section
variable {P:Program} {ops:Array Oper} {dst:Option Tmp} {ty:TypeId} {pos:String} {after:Array Edge} {s:St} {K:St -> Prop} {Φ:AX -> St -> Prop}
theorem Vs (op:Op):N3 P ops ⟨dst,op,ty,pos,after,none⟩ s K Φ = BP P ⟨dst,op,ty,pos,after,none⟩ s K Φ:=rfl
end
attribute [go_sem ↓] Vs
theorem Qx {v:AV} {want:Bool} {A B A' B':Prop} (h:Ds v want A B) (ha:A -> A') (hb:B -> B'):Ds v want A' B':=by
 unfold Ds at h ⊢
 split
 ·split
  ·rename_i e; simp only [e,if_true] at h; exact ha h
  ·rename_i e; simp only [e] at h; exact hb (by simpa using h)
 ·exact hb h
 ·rename_i h1 h2
  split at h
  ·exact absurd rfl (h1 _)
  ·exact absurd rfl h2
  ·exact h
theorem MY {P:Program} {ops:Array Oper} {o:Oper} (hc:SX o = true) {s:St} {K K':St -> Prop} {Φ Φ':AX -> St -> Prop} (hk:N3 P ops o s K Φ) (h1:∀ s,K s -> K' s) (h2:∀ x s,Φ x s -> Φ' x s):N3 P ops o s K' Φ':=by
 unfold N3 at hk ⊢
 split
 ·rename_i hg
  simp only [hg] at hk;exact Pn hc hk h1 h2
 ·rename_i j want hg
  simp only [hg] at hk;exact Qx hk (fun h=>Pn hc h h1 h2) (h1 _)
theorem LR {P:Program} {F:Nat -> Prop} {M0:Mem} {hb0:List HB} {ops:Array Oper} {Φ:AX -> St -> Prop} {K:St -> Prop} {m:Nat} {c0:Cj} {q0:List (Nat × Cj)} (hKΦ:∀ s s',Dl s s' -> Φ .normal s -> Φ .normal s') (hK:∀ s s',Dl s s' -> K s -> K s')
  (hend:∀ s,K s -> ∃ s0,Dl s0 s /\ Ew ops m (fun o=>N3 P ops o s0 (fun s2=>AO P ops q0 s2 (Φ .normal)) Φ)) (hreach2:∀ x ∈ q0,reachB ops ops.size m x.1 = true) (ro:Option Nat) :
  ∀ (k:Nat) (l:List (Nat × Cj)) (listed:Array Bool) (M:Mem) (hb:List HB) (s:St) (a:Act),l.length = k -> (∀ x ∈ l,reachB ops ops.size x.1 m = true) -> Left ops listed (l ++ (m,c0) :: q0) -> Gu F M0 M -> Bf hb0 hb -> BR F M hb s a -> AO P ops l s K ->
  wpAnyIn (AY ro) 0 P .any ops (Dx F M0 hb0 Φ) (k + 1 + q0.length) listed a M.w:=by
 intro k
 induction k with
 | zero =>
  intro l listed M hb s a hlen hre hL hG hH hs hk;obtain rfl:=List.eq_nil_of_length_eq_zero hlen;rw [show 0 + 1 + q0.length = (0 + q0.length) + 1 by omega];refine ⟨fun h=>absurd h (hL.ready (by simp)),fun i hi=>?_⟩;obtain ⟨hun,o,ho,hall⟩:=(mem_ready).1 hi;have hilt:i < ops.size:=(Array.getElem?_eq_some_iff.1 ho).1;have hml:m < ops.size /\ listed.getD m true = false:=(hL.mem m).1 (by simp);have hnq:∀ x ∈ q0,x.1 ≠ i:=fun x hx he=>by
   have h1:=Co hL.size hL.closed _ _ _ o ho hall (he ▸ hreach2 x hx);have h2:=hml.2;rw [CC (by rw [hL.size]; exact hml.1),h1] at h2;cases h2
  have him:i = m:=by
   have:=(hL.mem i).2 ⟨hilt,hun⟩;simp only [List.nil_append,List.map_cons,List.mem_cons] at this
   rcases this with h | h
   ·exact h
   ·obtain ⟨x,hx,he⟩:=List.mem_map.1 h
    exact absurd he (hnq x hx)
  subst him;have hL':Left ops (listed.setIfInBounds i true) q0:=Left.step (p:=[]) (q:=q0) hL ho hilt hall;obtain ⟨s0,h0,hat⟩:=hend s hk;have hs0:=hs.same h0.symm;unfold Ew at hat;simp only [ho] at hat;have hnx:∀ (s':St) (M':Mem) (hb':List HB) (a':Act),AO P ops q0 s' (Φ .normal) -> BR F M' hb' s' a' -> Gu F M M' -> Bf hb hb' -> wpAnyIn (AY ro) 0 P .any ops (Dx F M0 hb0 Φ) (0 + q0.length) (listed.setIfInBounds i true) a' M'.w:=fun s' M' hb' a' k1 k2 k3 k4=>by
   rw [Nat.zero_add];exact J7 hKΦ ro q0.length q0 _ M' hb' s' a' rfl hL' (hG.trans k3) (hH.trans k4) k2 k1
  have hgo:BP P o s0 (fun s2=>AO P ops q0 s2 (Φ .normal)) Φ -> o.wpIn (AY ro) 0 P a M.w (wpAnyIn (AY ro) 0 P .any ops (Dx F M0 hb0 Φ) (0 + q0.length) (listed.setIfInBounds i true)) (Dx F M0 hb0 Φ):=fun hop =>
   DM (Φ:=Φ) ro hs0 hop hnx (fun x v s' M' hb' k1 k2 k3 k4 k5=>⟨.panic x,s',M',hb',k1,⟨v,rfl,k2⟩,rfl,k3,hG.trans k4,hH.trans k5⟩)
  unfold wpOpIn;simp only [ho];unfold N3 at hat
  split at hat
  ·rename_i hg
   simp only [Region.wanted,hg,if_true];exact hgo hat
  ·rename_i j want hg
   have hskip:AO P ops q0 ⟨s0.t.BZ o.dst (.tup []),s0.h,s0.d⟩ (Φ .normal) -> _:=fun h=>hnx _ M hb _ h (hs0.put o.dst CX) (.refl _ _) (.refl _);unfold Ds EB at hat
   cases hd:DW ops j with
   | none=>rw [hd] at hat; exact hat.elim
   | some d =>
    rw [hd] at hat;simp only at hat
    split at hat
    ·rename_i b hbv
     rw [Ei hs0.tm hg hd hbv]
     split at hat
     ·rename_i e
      simp only [e,beq_self_eq_true,if_true];exact hgo hat
     ·rename_i e
      have:(b == want) = false:=by simpa using e
      simp only [this,Bool.false_eq_true,if_false];exact ⟨fun _ _=>trivial,hskip hat⟩
    ·rename_i hbv
     rw [Eg hs0.tm hg hd hbv];simp only [Bool.false_eq_true,if_false];exact ⟨fun _ _=>trivial,hskip hat⟩
    ·exact hat.elim
 | succ k ih =>
  intro l listed M hb s a hlen hre hL hG hH hs hk;rw [show k + 1 + 1 + q0.length = (k + 1 + q0.length) + 1 by omega];refine ⟨fun h=>absurd h (hL.ready (by simp)),fun i hi=>?_⟩;obtain ⟨hun,o,ho,hall⟩:=(mem_ready).1 hi;have hilt:i < ops.size:=(Array.getElem?_eq_some_iff.1 ho).1;have hnm:i ≠ m:=by
   rintro rfl
   cases l with
   | nil=>cases hlen
   | cons x l =>
    have hx:=(hL.mem x.1).1 (by simp);have h1:=Co hL.size hL.closed _ _ _ o ho hall (hre x List.mem_cons_self);have h2:=hx.2;rw [CC (by rw [hL.size]; exact hx.1),h1] at h2;cases h2
  have hml:m < ops.size /\ listed.getD m true = false:=(hL.mem m).1 (by simp);have hnq:∀ x ∈ q0,x.1 ≠ i:=fun x hx he=>by
   have h1:=Co hL.size hL.closed _ _ _ o ho hall (he ▸ hreach2 x hx);have h2:=hml.2;rw [CC (by rw [hL.size]; exact hml.1),h1] at h2;cases h2
  have hil:i ∈ l.map (·.1):=by
   have:=(hL.mem i).2 ⟨hilt,hun⟩;rw [List.map_append,List.mem_append,List.map_cons,List.mem_cons] at this
   rcases this with h | h | h
   ·exact h
   ·exact absurd h hnm
   ·obtain ⟨x,hx,he⟩:=List.mem_map.1 h
    exact absurd he (hnq x hx)
  obtain ⟨⟨i',c⟩,hmem,rfl⟩:=List.mem_map.1 hil;obtain ⟨p,q,rfl⟩:=List.append_of_mem hmem;simp only at ho hall hun hilt hi hnm ⊢;have hL2:Left ops listed (p ++ (i',c) :: (q ++ (m,c0) :: q0)):=by simpa using hL
  have hpc:∀ x ∈ p,compat ops x (i',c) = true:=by
   intro x hx;have hpair:E8 ops x (i',c) = true:=by
    have:=List.pairwise_append.1 hL2.pairs;exact this.2.2 x hx _ List.mem_cons_self
   simp only [E8,Bool.or_eq_true] at hpair
   rcases hpair with h | h
   ·have h1:=Co hL.size hL.closed _ _ _ o ho hall h
    have h2:=(hL2.mem x.1).1 (List.mem_map.2 ⟨x,List.mem_append_left _ hx,rfl⟩);rw [CC (by rw [hL.size]; exact h2.1)] at h2;rw [h2.2] at h1;cases h1
   ·exact h
  have hrun:=AO.pull hK p hpc hk;have hL':Left ops (listed.setIfInBounds i' true) ((p ++ q) ++ (m,c0) :: q0):=by
   have:=Left.step hL2 ho hilt hall
   simpa using this
  have hlen':(p ++ q).length = k:=by simp at hlen ⊢; omega
  have hnext:∀ (s':St) (M':Mem) (hb':List HB) (a':Act),AO P ops (p ++ q) s' K -> BR F M' hb' s' a' -> Gu F M M' -> Bf hb hb' -> wpAnyIn (AY ro) 0 P .any ops (Dx F M0 hb0 Φ) (k + 1 + q0.length) (listed.setIfInBounds i' true) a' M'.w :=
   fun s' M' hb' a' k1 k2 k3 k4=>ih (p ++ q) _ M' hb' s' a' hlen' (fun x hx=>hre x (by simp at hx ⊢; rcases hx with h | h <;> simp [h])) hL' (hG.trans k3) (hH.trans k4) k2 k1
  have hdst:BU ops i' = o.dst:=by simp [BU,ho]
  simp only [AO,hdst] at hrun;unfold CD at hrun;simp only [ho] at hrun;unfold wpOpIn;simp only [ho];have hop:AU P o c s (fun v h=>AO P ops (p ++ q) ⟨s.t.BZ o.dst v,h,s.d⟩ K) -> o.wpIn (AY ro) 0 P a M.w (wpAnyIn (AY ro) 0 P .any ops (Dx F M0 hb0 Φ) (k + 1 + q0.length) (listed.setIfInBounds i' true)) (Dx F M0 hb0 Φ):=fun h =>
   DM (Φ:=fun _ _=>False) ro hs (I5 (K:=fun s'=>AO P ops (p ++ q) s' K) h) hnext (fun x v s' M' hb' k1=>k1.elim)
  split at hrun
  ·rename_i hg
   simp only [Region.wanted,hg,if_true];exact hop hrun
  ·rename_i j want hg
   split at hrun
   ·rename_i d hd
    split at hrun
    ·rename_i b hbv
     rw [Ei hs.tm hg hd hbv]
     by_cases hbw:b = want
     ·simp only [hbw,beq_self_eq_true,if_true]
      exact hop (hrun.1 hbw)
     ·have:(b == want) = false:=by simpa using hbw
      simp only [this,Bool.false_eq_true,if_false];refine ⟨fun _ _=>trivial,hnext _ M hb _ (hrun.2 ?_) (hs.put o.dst CX) (.refl _ _) (.refl _)⟩
      cases b <;> cases want <;> simp_all
    ·rename_i hbv
     rw [Eg hs.tm hg hd hbv];simp only [Bool.false_eq_true,if_false];exact ⟨fun _ _=>trivial,hnext _ M hb _ hrun (hs.put o.dst CX) (.refl _ _) (.refl _)⟩
    ·exact hrun.elim
   ·exact hrun.elim
def SV (ops:Array Oper) (π1:List (Nat × Cj)) (m:Nat) (π2:List (Nat × Cj)):Bool:=EO ops (π1 ++ (m,.set) :: π2) && π1.all (fun x=>reachB ops ops.size x.1 m) && π2.all (fun x=>reachB ops ops.size m x.1) && (match ops[m]? with
 | some o=>SX o
 | none=>false)
theorem Aa.Yq {P:Program} {rd:Option Nat} {s:St} {Φ:AX -> St -> Prop} {id:Nat} {ops:Array Oper} (π1:List (Nat × Cj)) (m:Nat) (π2:List (Nat × Cj)) (hm:P.follows .mixedOrders = true) (hok:SV ops π1 m π2 = true)
  (h:AO P ops π1 s (fun s1=>Ew ops m (fun o=>N3 P ops o s1 (fun s2=>AO P ops π2 s2 (Φ .normal)) Φ))):Aa P rd (.region id ops true) s Φ:=by
 have main:Aa P rd (.region id ops true) s (fun x s'=>∃ s0,Dl s0 s' /\ Φ x s0):=by
  intro F M hb a ro hs hr;refine wpIn_region_any hm ?_;simp only [SV,EO,Bool.and_eq_true,decide_eq_true_eq] at hok;obtain ⟨⟨⟨⟨⟨⟨⟨h1,h2⟩,h3⟩,h4⟩,h5⟩,h6⟩,h7⟩,h8⟩:=hok;have hL:Left ops (Array.replicate ops.size false) (π1 ++ (m,.set) :: π2):=by
   refine ⟨by simp,fun i o ho hl=>?_,h1,fun i=>?_,h4,fun i o ho e he hb=>?_⟩
   ·have:i < ops.size:=(Array.getElem?_eq_some_iff.1 ho).1
    simp [Array.getD_eq_getD_getElem?,this] at hl
   ·constructor
    ·intro hi
     obtain ⟨p,hp,rfl⟩:=List.mem_map.1 hi;have:=List.all_eq_true.1 h3 p hp;simp only [decide_eq_true_eq] at this;exact ⟨this,by simp [Array.getD_eq_getD_getElem?,this]⟩
    ·rintro ⟨hi,_⟩
     have:=List.all_eq_true.1 h2 i (List.mem_range.2 hi)
     simpa using this
   ·have hlt:i < ops.size:=(Array.getElem?_eq_some_iff.1 ho).1
    have:=List.all_eq_true.1 h5 i (List.mem_range.2 hlt);rw [ho] at this;simp only [Array.all_eq_true'] at this;have h6:=this e he
    simpa [hb] using h6
  have hlen:(π1 ++ (m,Cj.set) :: π2).length = ops.size:=by
   have hp:((π1 ++ (m,Cj.set) :: π2).map (·.1)).Perm (List.range ops.size):=by
    rw [List.perm_ext_iff_of_nodup h1 List.nodup_range];intro i;rw [hL.mem i,List.mem_range];exact ⟨fun h=>h.1,fun h=>⟨h,by simp [Array.getD_eq_getD_getElem?,h]⟩⟩
   have:=hp.length_eq
   simpa using this
  have hlen1:π1.length + 1 + π2.length = ops.size:=by simp at hlen; omega
  have hA:Ch M M.drew:=Ch.drew M;have hG:=hA.gu hs.ok;have hgo:=LR (M0:=M) (hb0:=hb) (F:=F) (P:=P) (ops:=ops) (Φ:=fun x s'=>∃ s0,Dl s0 s' /\ Φ x s0)
   (K:=fun s'=>∃ s0,Dl s0 s' /\ Ew ops m (fun o=>N3 P ops o s0 (fun s2=>AO P ops π2 s2 (Φ .normal)) Φ)) (m:=m) (c0:=.set) (q0:=π2)
   (fun s s' hs ⟨s0,h0,hk⟩=>⟨s0,h0.trans hs,hk⟩) (fun s s' hs ⟨s0,h0,hk⟩=>⟨s0,h0.trans hs,hk⟩)
   (fun s ⟨s0,h0,hk⟩=>⟨s0,h0,by
    unfold Ew at hk ⊢
    split at hk
    ·rename_i o ho
     rw [ho] at h8;exact MY h8 hk (fun s2 h2=>Aa.drawn.runK_mono π2 (fun s hk=>⟨s,.refl s,hk⟩) h2) (fun x s2 h2=>⟨s2,.refl s2,h2⟩)
    ·exact hk.elim⟩) (fun x hx=>List.all_eq_true.1 h7 x hx) ro π1.length π1 (Array.replicate ops.size false) M.drew hb s a rfl (fun x hx=>List.all_eq_true.1 h6 x hx) hL hG (.refl _)
   ⟨hs.tm.mono hG.le (.refl _),hs.df.mono hG.le (.refl _),hs.hp.Lw hA hs.ok,hs.ok.drew⟩ (Aa.drawn.runK_mono π1 (fun s hk=>⟨s,.refl s,hk⟩) h)
  rw [hlen1] at hgo;exact hgo
 intro F M hb a ro hs hr;refine wpIn_mono (main F M hb a ro hs hr) ?_;rintro e a' w' ⟨x,s',M',hb',⟨s0,h0,hk⟩,r1,r2,r3,r4,r5⟩;exact ⟨x,s0,M',hb',hk,r1,r2,r3.same h0.symm,r4,r5⟩
theorem Aa.agf {P:Program} {rd:Option Nat} {s:St} {Φ:AX -> St -> Prop} {id:Nat} {ops:Array Oper} {y:Code} (π1:List (Nat × Cj)) (m:Nat) (π2:List (Nat × Cj)) (hm:P.follows .mixedOrders = true) (hok:SV ops π1 m π2 = true)
  (h:Az P ops π1 s (fun s1=>Ew ops m (fun o=>N3 P ops o s1 (fun s2=>Az P ops π2 s2 (fun s3=>Aa P rd y s3 Φ)) (AX.GG (fun s2=>Aa P rd y s2 Φ) Φ)))):Aa P rd (.seq (.region id ops true) y) s Φ:=by
 refine Aa.seq (Aa.Yq π1 m π2 hm hok ?_);refine Aa.drawn.runK_mono π1 (fun s1 h1=>?_) (Az.run π1 s h);simp only [SV,Bool.and_eq_true] at hok;have h8:=hok.2;unfold Ew at h1 ⊢
 split at h1
 ·rename_i o ho
  rw [ho] at h8;exact MY h8 h1 (fun s2 h2=>Az.run π2 s2 h2) (fun x s2 h2=>h2)
 ·exact h1.elim
end Go.PM

namespace Go.PM
variable [AA]
def Pr {α:Type} (X:(α -> Prop) -> Prop) (K:α -> Prop):Prop:=∃ a,K a /\ ∀ Ψ:α -> Prop,Ψ a -> X Ψ
structure Xf {α:Type} (Y:α -> Prop) (Ψ:α):Prop where
 out:Y Ψ
theorem Pr.run {α:Type} {X Y:(α -> Prop) -> Prop} {K:α -> Prop} (h:∀ Ψ,Xf Y Ψ -> X Ψ) (h2:Pr Y K):Pr X K :=
 let ⟨a,k,hy⟩:=h2; ⟨a,k,fun Ψ hp=>h Ψ ⟨hy Ψ hp⟩⟩
theorem Pr.done {α:Type} {a:α} {K:α -> Prop} (h:K a):Pr (fun Ψ=>Ψ a) K:=⟨a,h,fun _ h=>h⟩
theorem Pr.CH {α:Type} {b:Bool} {A B:(α -> Prop) -> Prop} {k:∀ Ψ,Kept (A Ψ) (B Ψ)} {K:α -> Prop} (h1:b = true -> Pr A K) (h2:b = false -> Pr B K):Pr (fun Ψ=>Go.PM.CH b (A Ψ) (B Ψ) (k Ψ)) K:=by
 cases b
 ·obtain ⟨a,k,h⟩:=h2 rfl
  exact ⟨a,k,fun Ψ hp=>by show Go.PM.CH false _ _ _; rw [YF]; exact h Ψ hp⟩
 ·obtain ⟨a,k,h⟩:=h1 rfl
  exact ⟨a,k,fun Ψ hp=>by show Go.PM.CH true _ _ _; rw [XY]; exact h Ψ hp⟩
theorem Pr.both {α:Type} {a b:Nat} {A B:(α -> Prop) -> Prop} {K:α -> Prop} (h1:a < b -> Pr A K) (h2:b <= a -> Pr B K):Pr (fun Ψ=>Zx (a < b -> A Ψ) (b <= a -> B Ψ)) K:=by
 by_cases hab:a < b
 ·obtain ⟨x,k,h⟩:=h1 hab
  exact ⟨x,k,fun Ψ hp=>⟨fun _=>h Ψ hp,fun hh=>absurd hab (Nat.not_lt.2 hh)⟩⟩
 ·obtain ⟨x,k,h⟩:=h2 (Nat.not_lt.1 hab)
  exact ⟨x,k,fun Ψ hp=>⟨fun hh=>absurd hh hab,fun _=>h Ψ hp⟩⟩
def Ab (P:Program) (rd:Option Nat) (c:Code) (s:St) (Φ:AX -> St -> Prop):Prop :=
 ∃ x s',Φ x s' /\ Aa P rd c s (fun x1 s1=>x1 = x /\ s1 = s')
def DX (P:Program) (f:FuncId) (args:List AV) (h:List Ah) (R:AE -> List Ah -> Prop):Prop :=
 ∃ r h',R r h' /\ Ag P f args h (fun r1 h1=>r1 = r /\ h1 = h')
def B9 (P:Program) (f:FuncId) (args:List AV) (Q:AV -> Prop):Prop:=∃ v,Q v /\ Af P f args (· = v)
section
variable {P:Program} {rd:Option Nat} {s:St} {Φ:AX -> St -> Prop}
@[congr] theorem ab0 {rd:Option Nat} {c:Code} {s s':St} (h:s = s'):Ab P rd c s Φ = Ab P rd c s' Φ:=by rw [h]
theorem Ab.mono {c:Code} {Ψ:AX -> St -> Prop} (hc:Ab P rd c s Φ) (h:∀ x s,Φ x s -> Ψ x s):Ab P rd c s Ψ :=
 let ⟨x,s',k,hc⟩:=hc; ⟨x,s',h _ _ k,hc⟩
theorem Ab.skip (h:Φ .normal s):Ab P rd .skip s Φ:=⟨_,_,h,Aa.skip ⟨rfl,rfl⟩⟩
theorem Ab.label {l:Nat} (h:Φ .normal s):Ab P rd (.label l) s Φ:=⟨_,_,h,Aa.label ⟨rfl,rfl⟩⟩
theorem Ab.exit {id:Nat} (h:Φ (.exit id) s):Ab P rd (.exit id) s Φ:=⟨_,_,h,Aa.exit ⟨rfl,rfl⟩⟩
theorem Ab.goto {l:Nat} (h:Φ (.goto l) s):Ab P rd (.goto l) s Φ:=⟨_,_,h,Aa.goto ⟨rfl,rfl⟩⟩
theorem Ab.ret (h:Φ .ret s):Ab P rd .ret s Φ:=⟨_,_,h,Aa.ret ⟨rfl,rfl⟩⟩
theorem Ab.seq {x y:Code} (h:Ab P rd x s (AX.GG (fun s1=>Ab P rd y s1 Φ) Φ)):Ab P rd (.seq x y) s Φ:=by
 obtain ⟨e,s1,hk,hx⟩:=h
 cases e with
 | normal =>
  obtain ⟨e2,s2,hk2,hy⟩:=hk;refine ⟨e2,s2,hk2,Aa.seq (hx.mono ?_)⟩;rintro e' s' ⟨rfl,rfl⟩;exact hy
 | exit i=>exact ⟨_,_,hk,Aa.seq (hx.mono (by rintro e' s' ⟨rfl,rfl⟩; exact ⟨rfl,rfl⟩))⟩
 | goto i=>exact ⟨_,_,hk,Aa.seq (hx.mono (by rintro e' s' ⟨rfl,rfl⟩; exact ⟨rfl,rfl⟩))⟩
 | ret=>exact ⟨_,_,hk,Aa.seq (hx.mono (by rintro e' s' ⟨rfl,rfl⟩; exact ⟨rfl,rfl⟩))⟩
 | panic i=>exact ⟨_,_,hk,Aa.seq (hx.mono (by rintro e' s' ⟨rfl,rfl⟩; exact ⟨rfl,rfl⟩))⟩
theorem Ab.cond {c:Operand} {x y:Code} {t:Bool} (hc:s.ev c = .val (.bool t)) (h1:t = true -> Ab P rd x s Φ) (h2:t = false -> Ab P rd y s Φ):Ab P rd (.cond c x y) s Φ:=by
 cases t with
 | true =>
  obtain ⟨e,s1,hk,hx⟩:=h1 rfl;exact ⟨e,s1,hk,Aa.cond hc (fun _=>hx) (fun h=>by cases h)⟩
 | false =>
  obtain ⟨e,s1,hk,hx⟩:=h2 rfl;exact ⟨e,s1,hk,Aa.cond hc (fun h=>by cases h) (fun _=>hx)⟩
theorem Ab.Ar {c:Operand} {x y:Code} (hc:s.ev c = .val (.bool true)) (h1:Ab P rd x s Φ):Ab P rd (.cond c x y) s Φ:=Ab.cond hc (fun _=>h1) (fun h=>by cases h)
theorem Ab.Ax {c:Operand} {x y:Code} (hc:s.ev c = .val (.bool false)) (h1:Ab P rd y s Φ):Ab P rd (.cond c x y) s Φ:=Ab.cond hc (fun h=>by cases h) (fun _=>h1)
theorem Ab.block {id:Nat} {c:Code} (h:Ab P rd c s (AX.Hk id Φ)):Ab P rd (.block id c) s Φ:=by
 obtain ⟨e,s1,hk,hx⟩:=h
 cases e with
 | exit i =>
  by_cases hi:i = id
  ·refine ⟨.normal,s1,by simpa [AX.Hk,hi] using hk,Aa.block (hx.mono ?_)⟩
   rintro e' s' ⟨rfl,rfl⟩;simp [AX.Hk,hi]
  ·refine ⟨.exit i,s1,by simpa [AX.Hk,hi] using hk,Aa.block (hx.mono ?_)⟩
   rintro e' s' ⟨rfl,rfl⟩;simp [AX.Hk,hi]
 | normal=>exact ⟨_,_,hk,Aa.block (hx.mono (by rintro e' s' ⟨rfl,rfl⟩; exact ⟨rfl,rfl⟩))⟩
 | goto i=>exact ⟨_,_,hk,Aa.block (hx.mono (by rintro e' s' ⟨rfl,rfl⟩; exact ⟨rfl,rfl⟩))⟩
 | ret=>exact ⟨_,_,hk,Aa.block (hx.mono (by rintro e' s' ⟨rfl,rfl⟩; exact ⟨rfl,rfl⟩))⟩
 | panic i=>exact ⟨_,_,hk,Aa.block (hx.mono (by rintro e' s' ⟨rfl,rfl⟩; exact ⟨rfl,rfl⟩))⟩
inductive W9 (P:Program) (rd:Option Nat) (c:Code) (x:AX) (s':St):Nat -> St -> Prop
 | last {n:Nat} {s:St}:x ≠ .normal -> Aa P rd c s (fun x1 s1=>x1 = x /\ s1 = s') -> W9 P rd c x s' n s
 | more {n m:Nat} {s s1:St}:m < n -> Aa P rd c s (fun x2 s2=>x2 = .normal /\ s2 = s1) -> W9 P rd c x s' m s1 -> W9 P rd c x s' n s
theorem Ab.loop {c:Code} (I:Nat -> St -> Prop) {n:Nat} (h0:I n s) (round:∀ n s,I n s -> Ab P rd c s (AX.GG (fun s'=>∃ m,m < n /\ I m s') Φ)):Ab P rd (.loop c) s Φ:=by
 have hr:∀ n s,I n s -> ∃ x s',x ≠ .normal /\ Φ x s' /\ W9 P rd c x s' n s:=by
  intro n
  induction n using Nat.strongRecOn with
  | _ n ih =>
   intro s hI;obtain ⟨e,s1,hk,hc⟩:=round n s hI
   cases e with
   | normal =>
    obtain ⟨m,hm,hI1⟩:=hk;obtain ⟨x,s',h1,h2,h3⟩:=ih m hm s1 hI1;exact ⟨x,s',h1,h2,.more hm hc h3⟩
   | exit i=>exact ⟨_,_,by simp,hk,.last (by simp) hc⟩
   | goto i=>exact ⟨_,_,by simp,hk,.last (by simp) hc⟩
   | ret=>exact ⟨_,_,by simp,hk,.last (by simp) hc⟩
   | panic i=>exact ⟨_,_,by simp,hk,.last (by simp) hc⟩
 obtain ⟨x,s',hx,hk,hruns⟩:=hr n s h0;refine ⟨x,s',hk,Aa.loop (fun n s=>W9 P rd c x s' n s) hruns ?_⟩;intro n s hru
 cases hru with
 | last h1 h2 =>
  refine h2.mono ?_;rintro e' s2 ⟨rfl,rfl⟩
  cases e' <;> first | exact absurd rfl h1 | exact ⟨rfl,rfl⟩
 | more h1 h2 h3 =>
  refine h2.mono ?_;rintro e' s2 ⟨rfl,rfl⟩;exact ⟨_,h1,h3⟩
theorem Ab.Jr {c:Code} {s':St} (hw:DZ s s') (hl:s'.h.length = s.h.length) (h:Ab P rd c s' Φ):Ab P rd c s Φ :=
 let ⟨x,s1,k,hc⟩:=h; ⟨x,s1,k,Aa.Jr hw hl hc⟩
theorem Ab.MV {c:Code} {K:St -> Prop} (h:Ab P rd c s (AX.GG (fun s'=>∃ s'',DZ s' s'' /\ s.h.length <= s''.h.length /\ K s'') Φ)):Ab P rd c s (AX.GG K Φ):=by
 obtain ⟨e,s1,hk,hc⟩:=h
 cases e with
 | normal =>
  obtain ⟨s2,hw,hl,hk⟩:=hk;refine ⟨.normal,s2,hk,Aa.mono (Aa.MV (K:=fun s=>s = s2) (Φ:=fun _ _=>False) (hc.mono ?_)) ?_⟩
  ·rintro e' s' ⟨rfl,rfl⟩
   exact ⟨s2,hw,hl,rfl⟩
  ·intro e' s' h'
   cases e' <;> first | exact h'.elim | exact ⟨rfl,h'⟩
 | exit i=>exact ⟨.exit i,s1,hk,hc⟩
 | goto i=>exact ⟨.goto i,s1,hk,hc⟩
 | ret=>exact ⟨.ret,s1,hk,hc⟩
 | panic i=>exact ⟨.panic i,s1,hk,hc⟩
theorem Ab.Di {r:Code} (h:Pr (fun Ψ=>Aa P rd r s (AX.GG Ψ (fun _ _=>False))) (Φ .normal)):Ab P rd r s Φ:=by
 obtain ⟨s1,hk,h⟩:=h;refine ⟨.normal,s1,hk,(h (fun s=>s = s1) rfl).mono ?_⟩;intro e' s' h'
 cases e' <;> first | exact h'.elim | exact ⟨rfl,h'⟩
theorem Ab.Am {r y:Code} (h:Pr (fun Ψ=>Aa P rd r s (AX.GG Ψ (fun _ _=>False))) (fun s1=>Ab P rd y s1 Φ)):Ab P rd (.seq r y) s Φ:=Ab.seq (Ab.Di h)
end
section
variable {P:Program} {rd:Option Nat} {t:Tm} {h:List Ah} {d:List AD} {Φ:AX -> St -> Prop}
theorem Ab.A0 {c:Code} {σ:Type} (V:σ -> List (Nat × AV)) (ks:List Nat) (H:σ -> List Ah) (I:σ -> Prop) (m:σ -> Nat) (x0:σ)
  (h0:I x0) (hl:(H x0).length = h.length) (hw:DZ ⟨t,h,d⟩ ⟨⟨t.n,V x0 ++ kept ks t.l⟩,H x0,d⟩)
  (round:∀ x,I x -> Ab P rd c ⟨⟨t.n,V x ++ kept ks t.l⟩,H x,d⟩ (AX.GG (fun s'=>∃ y,I y /\ m y < m x /\ (H x).length <= (H y).length /\ DZ s' ⟨⟨t.n,V y ++ kept ks t.l⟩,H y,d⟩) Φ)):Ab P rd (.loop c) ⟨t,h,d⟩ Φ:=by
 refine Ab.Jr hw hl ?_;refine Ab.loop (fun n s=>∃ x,I x /\ n = m x /\ s = ⟨⟨t.n,V x ++ kept ks t.l⟩,H x,d⟩) (n:=m x0) ⟨x0,h0,rfl,rfl⟩ ?_;rintro n s ⟨x,hx,rfl,rfl⟩;refine Ab.MV (Ab.mono (round x hx) ?_);intro x' s' hx'
 cases x' <;> try exact hx'
 obtain ⟨y,h1,h2,h3,h4⟩:=hx';exact ⟨_,h4,h3,m y,h2,y,h1,rfl,rfl⟩
theorem Ab.XT {x y:Code} (ks:List Nat) (h1:Ab P rd x ⟨t,h,d⟩ (AX.GG (fun s'=>DZ s' ⟨⟨t.n,kept ks t.l⟩,h,d⟩) Φ)) (h2:Ab P rd y ⟨⟨t.n,kept ks t.l⟩,h,d⟩ Φ):Ab P rd (.seq x y) ⟨t,h,d⟩ Φ:=by
 refine Ab.seq (Ab.MV (h1.mono ?_));intro e s' h'
 cases e <;> try exact h'
 exact ⟨_,h',Nat.le_refl _,h2⟩
end
def AP (P:Program) (fn:Func) (T:(AE -> List Ah -> Prop) -> AE -> List Ah -> Prop) (R:AE -> List Ah -> Prop) (x:AX) (s:St):Prop :=
 ∃ r h',R r h' /\ ∀ R':AE -> List Ah -> Prop,R' r h' -> ND P fn (T R') x s
theorem AP.i {P:Program} {fn:Func} {T:(AE -> List Ah -> Prop) -> AE -> List Ah -> Prop} {R:AE -> List Ah -> Prop} {x:AX} {s:St} {r:AE} {h':List Ah} (h:∀ R':AE -> List Ah -> Prop,Xf (fun R:AE -> List Ah -> Prop=>R r h') R' -> ND P fn (T R') x s) (hk:R r h'):AP P fn T R x s:=⟨r,h',hk,fun R' hR=>h R' ⟨hR⟩⟩
theorem DX.intro {P:Program} {f:FuncId} {fn:Func} {c:Code} {args:List AV} {h:List Ah} {R:AE -> List Ah -> Prop} (T:(AE -> List Ah -> Prop) -> AE -> List Ah -> Prop) (hT:∀ R',Ag P f args h (T R') -> Ag P f args h R')
  (hf:P.funcs[f]? = some fn) (hn:fn.name ≠ "runtime.NumGoroutine") (hb:fn.body = some c) (hc:Ab P none c ⟨Dm fn.ntmps args,h,[]⟩ (AP P fn T R)):DX P f args h R:=by
 obtain ⟨x,s',⟨r,h',hR,hk⟩,hc⟩:=hc;refine ⟨r,h',hR,hT _ (Ag.intro hf hn hb (hc.mono ?_))⟩;rintro x1 s1 ⟨rfl,rfl⟩;exact hk _ ⟨rfl,rfl⟩
theorem B9.of {P:Program} {f:FuncId} {args:List AV} {Q:AV -> Prop} (h:DX P f args [] (fun r _=>∃ v,r = .ret v /\ v.pure = true /\ Q v)):B9 P f args Q:=by
 obtain ⟨_,h',⟨v,rfl,hp,hQ⟩,hc⟩:=h;refine ⟨v,hQ,hc.mono ?_⟩;rintro r h1 ⟨rfl,rfl⟩;exact ⟨hp,v,rfl,rfl⟩
theorem B9.mono {P:Program} {f:FuncId} {args:List AV} {Q Q':AV -> Prop} (h:B9 P f args Q) (hq:∀ v,Q v -> Q' v):B9 P f args Q':=let ⟨v,h1,h2⟩:=h; ⟨v,hq v h1,h2⟩
theorem HP {α β:Type} [Inhabited β] {D:α -> Prop} {Q:α -> β -> Prop} (h:∀ a,D a -> ∃ b,Q a b):∃ F:α -> β,∀ a,D a -> Q a (F a):=by
 classical
 refine ⟨fun a=>if hd:D a then (h a hd).choose else default,fun a hd=>?_⟩;simp only [dif_pos hd];exact (h a hd).choose_spec
end Go.PM

namespace Go.PM
variable [AA]
structure Au (P:Program) (ops:Array Oper) (l:List (Nat × Cj)) (s:St) (K:St -> Prop):Prop where
 out:Az P ops l s K
theorem Az.ah6 {P:Program} {ops:Array Oper} {K:St -> Prop} (π2:List (Nat × Cj)):∀ (π1:List (Nat × Cj)) (s:St),Az P ops π1 s (fun s1=>Au P ops π2 s1 K) -> Az P ops (π1 ++ π2) s K:=by
 intro π1
 induction π1 with
 | nil=>intro s h; exact h.out
 | cons p π1 ih =>
  intro s h;obtain ⟨i,c⟩:=p;simp only [Az,List.cons_append,Ew] at h ⊢
  split at h
  ·rename_i o ho
   exact L0 ho h fun v h' hk=>ih _ hk
  ·exact h.elim
theorem Az.cut {P:Program} {ops:Array Oper} {l:List (Nat × Cj)} {s:St} {K:St -> Prop} (π1 π2:List (Nat × Cj)) (hl:l = π1 ++ π2) (h:Az P ops π1 s (fun s1=>Au P ops π2 s1 K)):Az P ops l s K:=by
 rw [hl];exact Az.ah6 π2 π1 s h
end Go.PM

namespace Go.PM
theorem Z0 {P Q:Prop} (k:Q) (h:P = Q:=by try simp -implicitDefEqProofs (dsimp:=false) only [go_sem,simprocAttr]; try exact rfl):P:=(h).mpr k
theorem Z1 {A1 P Q:Prop} (a1:A1) (k:Q) (h:A1 -> P = Q:=by intro a1; try simp -implicitDefEqProofs (dsimp:=false) only [go_sem,simprocAttr,a1]; try exact rfl):P:=(h a1).mpr k
theorem Z2 {A1 A2 P Q:Prop} (a1:A1) (a2:A2) (k:Q) (h:A1 -> A2 -> P = Q:=by intro a1 a2; try simp -implicitDefEqProofs (dsimp:=false) only [go_sem,simprocAttr,a1,a2]; try exact rfl):P:=(h a1 a2).mpr k
theorem Z3 {A1 A2 A3 P Q:Prop} (a1:A1) (a2:A2) (a3:A3) (k:Q) (h:A1 -> A2 -> A3 -> P = Q:=by intro a1 a2 a3; try simp -implicitDefEqProofs (dsimp:=false) only [go_sem,simprocAttr,a1,a2,a3]; try exact rfl):P:=(h a1 a2 a3).mpr k
theorem Z4 {A1 A2 A3 A4 P Q:Prop} (a1:A1) (a2:A2) (a3:A3) (a4:A4) (k:Q) (h:A1 -> A2 -> A3 -> A4 -> P = Q:=by intro a1 a2 a3 a4; try simp -implicitDefEqProofs (dsimp:=false) only [go_sem,simprocAttr,a1,a2,a3,a4]; try exact rfl):P:=(h a1 a2 a3 a4).mpr k
theorem Z5 {A1 A2 A3 A4 A5 P Q:Prop} (a1:A1) (a2:A2) (a3:A3) (a4:A4) (a5:A5) (k:Q) (h:A1 -> A2 -> A3 -> A4 -> A5 -> P = Q:=by intro a1 a2 a3 a4 a5; try simp -implicitDefEqProofs (dsimp:=false) only [go_sem,simprocAttr,a1,a2,a3,a4,a5]; try exact rfl):P:=(h a1 a2 a3 a4 a5).mpr k
theorem Z6 {A1 A2 A3 A4 A5 A6 P Q:Prop} (a1:A1) (a2:A2) (a3:A3) (a4:A4) (a5:A5) (a6:A6) (k:Q) (h:A1 -> A2 -> A3 -> A4 -> A5 -> A6 -> P = Q:=by intro a1 a2 a3 a4 a5 a6; try simp -implicitDefEqProofs (dsimp:=false) only [go_sem,simprocAttr,a1,a2,a3,a4,a5,a6]; try exact rfl):P:=(h a1 a2 a3 a4 a5 a6).mpr k
theorem Z7 {A1 A2 A3 A4 A5 A6 A7 P Q:Prop} (a1:A1) (a2:A2) (a3:A3) (a4:A4) (a5:A5) (a6:A6) (a7:A7) (k:Q) (h:A1 -> A2 -> A3 -> A4 -> A5 -> A6 -> A7 -> P = Q:=by intro a1 a2 a3 a4 a5 a6 a7; try simp -implicitDefEqProofs (dsimp:=false) only [go_sem,simprocAttr,a1,a2,a3,a4,a5,a6,a7]; try exact rfl):P:=(h a1 a2 a3 a4 a5 a6 a7).mpr k
theorem Z8 {A1 A2 A3 A4 A5 A6 A7 A8 P Q:Prop} (a1:A1) (a2:A2) (a3:A3) (a4:A4) (a5:A5) (a6:A6) (a7:A7) (a8:A8) (k:Q) (h:A1 -> A2 -> A3 -> A4 -> A5 -> A6 -> A7 -> A8 -> P = Q:=by intro a1 a2 a3 a4 a5 a6 a7 a8; try simp -implicitDefEqProofs (dsimp:=false) only [go_sem,simprocAttr,a1,a2,a3,a4,a5,a6,a7,a8]; try exact rfl):P:=(h a1 a2 a3 a4 a5 a6 a7 a8).mpr k
theorem Z9 {A1 A2 A3 A4 A5 A6 A7 A8 A9 P Q:Prop} (a1:A1) (a2:A2) (a3:A3) (a4:A4) (a5:A5) (a6:A6) (a7:A7) (a8:A8) (a9:A9) (k:Q) (h:A1 -> A2 -> A3 -> A4 -> A5 -> A6 -> A7 -> A8 -> A9 -> P = Q:=by intro a1 a2 a3 a4 a5 a6 a7 a8 a9; try simp -implicitDefEqProofs (dsimp:=false) only [go_sem,simprocAttr,a1,a2,a3,a4,a5,a6,a7,a8,a9]; try exact rfl):P:=(h a1 a2 a3 a4 a5 a6 a7 a8 a9).mpr k
theorem F5 {A1 A2 A3 A4 A5 A6 A7 A8 A9 A10 P Q:Prop} (a1:A1) (a2:A2) (a3:A3) (a4:A4) (a5:A5) (a6:A6) (a7:A7) (a8:A8) (a9:A9) (a10:A10) (k:Q) (h:A1 -> A2 -> A3 -> A4 -> A5 -> A6 -> A7 -> A8 -> A9 -> A10 -> P = Q:=by intro a1 a2 a3 a4 a5 a6 a7 a8 a9 a10; try simp -implicitDefEqProofs (dsimp:=false) only [go_sem,simprocAttr,a1,a2,a3,a4,a5,a6,a7,a8,a9,a10]; try exact rfl):P:=(h a1 a2 a3 a4 a5 a6 a7 a8 a9 a10).mpr k
theorem OY {A1 A2 A3 A4 A5 A6 A7 A8 A9 A10 A11 P Q:Prop} (a1:A1) (a2:A2) (a3:A3) (a4:A4) (a5:A5) (a6:A6) (a7:A7) (a8:A8) (a9:A9) (a10:A10) (a11:A11) (k:Q) (h:A1 -> A2 -> A3 -> A4 -> A5 -> A6 -> A7 -> A8 -> A9 -> A10 -> A11 -> P = Q:=by intro a1 a2 a3 a4 a5 a6 a7 a8 a9 a10 a11; try simp -implicitDefEqProofs (dsimp:=false) only [go_sem,simprocAttr,a1,a2,a3,a4,a5,a6,a7,a8,a9,a10,a11]; try exact rfl):P:=(h a1 a2 a3 a4 a5 a6 a7 a8 a9 a10 a11).mpr k
theorem EI {A1 A2 A3 A4 A5 A6 A7 A8 A9 A10 A11 A12 P Q:Prop} (a1:A1) (a2:A2) (a3:A3) (a4:A4) (a5:A5) (a6:A6) (a7:A7) (a8:A8) (a9:A9) (a10:A10) (a11:A11) (a12:A12) (k:Q) (h:A1 -> A2 -> A3 -> A4 -> A5 -> A6 -> A7 -> A8 -> A9 -> A10 -> A11 -> A12 -> P = Q:=by intro a1 a2 a3 a4 a5 a6 a7 a8 a9 a10 a11 a12; try simp -implicitDefEqProofs (dsimp:=false) only [go_sem,simprocAttr,a1,a2,a3,a4,a5,a6,a7,a8,a9,a10,a11,a12]; try exact rfl):P:=(h a1 a2 a3 a4 a5 a6 a7 a8 a9 a10 a11 a12).mpr k
theorem HO {A1 A2 A3 A4 A5 A6 A7 A8 A9 A10 A11 A12 A13 P Q:Prop} (a1:A1) (a2:A2) (a3:A3) (a4:A4) (a5:A5) (a6:A6) (a7:A7) (a8:A8) (a9:A9) (a10:A10) (a11:A11) (a12:A12) (a13:A13) (k:Q) (h:A1 -> A2 -> A3 -> A4 -> A5 -> A6 -> A7 -> A8 -> A9 -> A10 -> A11 -> A12 -> A13 -> P = Q:=by intro a1 a2 a3 a4 a5 a6 a7 a8 a9 a10 a11 a12 a13; try simp -implicitDefEqProofs (dsimp:=false) only [go_sem,simprocAttr,a1,a2,a3,a4,a5,a6,a7,a8,a9,a10,a11,a12,a13]; try exact rfl):P:=(h a1 a2 a3 a4 a5 a6 a7 a8 a9 a10 a11 a12 a13).mpr k
theorem CZ {A1 A2 A3 A4 A5 A6 A7 A8 A9 A10 A11 A12 A13 A14 P Q:Prop} (a1:A1) (a2:A2) (a3:A3) (a4:A4) (a5:A5) (a6:A6) (a7:A7) (a8:A8) (a9:A9) (a10:A10) (a11:A11) (a12:A12) (a13:A13) (a14:A14) (k:Q) (h:A1 -> A2 -> A3 -> A4 -> A5 -> A6 -> A7 -> A8 -> A9 -> A10 -> A11 -> A12 -> A13 -> A14 -> P = Q:=by intro a1 a2 a3 a4 a5 a6 a7 a8 a9 a10 a11 a12 a13 a14; try simp -implicitDefEqProofs (dsimp:=false) only [go_sem,simprocAttr,a1,a2,a3,a4,a5,a6,a7,a8,a9,a10,a11,a12,a13,a14]; try exact rfl):P:=(h a1 a2 a3 a4 a5 a6 a7 a8 a9 a10 a11 a12 a13 a14).mpr k
theorem Z15 {A1 A2 A3 A4 A5 A6 A7 A8 A9 A10 A11 A12 A13 A14 A15 P Q:Prop} (a1:A1) (a2:A2) (a3:A3) (a4:A4) (a5:A5) (a6:A6) (a7:A7) (a8:A8) (a9:A9) (a10:A10) (a11:A11) (a12:A12) (a13:A13) (a14:A14) (a15:A15) (k:Q) (h:A1 -> A2 -> A3 -> A4 -> A5 -> A6 -> A7 -> A8 -> A9 -> A10 -> A11 -> A12 -> A13 -> A14 -> A15 -> P = Q:=by intro a1 a2 a3 a4 a5 a6 a7 a8 a9 a10 a11 a12 a13 a14 a15; try simp -implicitDefEqProofs (dsimp:=false) only [go_sem,simprocAttr,a1,a2,a3,a4,a5,a6,a7,a8,a9,a10,a11,a12,a13,a14,a15]; try exact rfl):P:=(h a1 a2 a3 a4 a5 a6 a7 a8 a9 a10 a11 a12 a13 a14 a15).mpr k
theorem Bj {P Q:Prop} (k:Q) (h:P = Q:=by try simp -implicitDefEqProofs (dsimp:=false) only [go_sem,simprocAttr,Dm,List.range'_succ,List.range'_zero,List.zip_cons_cons,List.zip_nil_left]; try exact rfl):P:=(h).mpr k
theorem D5 {A1 P Q:Prop} (a1:A1) (k:Q) (h:A1 -> P = Q:=by intro a1; try simp -implicitDefEqProofs (dsimp:=false) only [go_sem,simprocAttr,Dm,List.range'_succ,List.range'_zero,List.zip_cons_cons,List.zip_nil_left,a1]; try exact rfl):P:=(h a1).mpr k
theorem VY {A1 A2 P Q:Prop} (a1:A1) (a2:A2) (k:Q) (h:A1 -> A2 -> P = Q:=by intro a1 a2; try simp -implicitDefEqProofs (dsimp:=false) only [go_sem,simprocAttr,Dm,List.range'_succ,List.range'_zero,List.zip_cons_cons,List.zip_nil_left,a1,a2]; try exact rfl):P:=(h a1 a2).mpr k
theorem Ze3 {A1 A2 A3 P Q:Prop} (a1:A1) (a2:A2) (a3:A3) (k:Q) (h:A1 -> A2 -> A3 -> P = Q:=by intro a1 a2 a3; try simp -implicitDefEqProofs (dsimp:=false) only [go_sem,simprocAttr,Dm,List.range'_succ,List.range'_zero,List.zip_cons_cons,List.zip_nil_left,a1,a2,a3]; try exact rfl):P:=(h a1 a2 a3).mpr k
theorem Zs {A1 A2 A3 A4 P Q:Prop} (a1:A1) (a2:A2) (a3:A3) (a4:A4) (k:Q) (h:A1 -> A2 -> A3 -> A4 -> P = Q:=by intro a1 a2 a3 a4; try simp -implicitDefEqProofs (dsimp:=false) only [go_sem,simprocAttr,Dm,List.range'_succ,List.range'_zero,List.zip_cons_cons,List.zip_nil_left,a1,a2,a3,a4]; try exact rfl):P:=(h a1 a2 a3 a4).mpr k
theorem Ze5 {A1 A2 A3 A4 A5 P Q:Prop} (a1:A1) (a2:A2) (a3:A3) (a4:A4) (a5:A5) (k:Q) (h:A1 -> A2 -> A3 -> A4 -> A5 -> P = Q:=by intro a1 a2 a3 a4 a5; try simp -implicitDefEqProofs (dsimp:=false) only [go_sem,simprocAttr,Dm,List.range'_succ,List.range'_zero,List.zip_cons_cons,List.zip_nil_left,a1,a2,a3,a4,a5]; try exact rfl):P:=(h a1 a2 a3 a4 a5).mpr k
theorem C1 {P Q:Prop} (k:Q) (h:P = Q:=by try simp -implicitDefEqProofs (dsimp:=false) only [go_sem,simprocAttr,or_true,true_or,false_or,or_false,implies_true,Int.natCast_add,Int.cast_ofNat_Int,B7]; try exact rfl):P:=(h).mpr k
theorem Mr {A1 P Q:Prop} (a1:A1) (k:Q) (h:A1 -> P = Q:=by intro a1; try simp -implicitDefEqProofs (dsimp:=false) only [go_sem,simprocAttr,or_true,true_or,false_or,or_false,implies_true,Int.natCast_add,Int.cast_ofNat_Int,B7,a1]; try exact rfl):P:=(h a1).mpr k
theorem Cv {A1 A2 P Q:Prop} (a1:A1) (a2:A2) (k:Q) (h:A1 -> A2 -> P = Q:=by intro a1 a2; try simp -implicitDefEqProofs (dsimp:=false) only [go_sem,simprocAttr,or_true,true_or,false_or,or_false,implies_true,Int.natCast_add,Int.cast_ofNat_Int,B7,a1,a2]; try exact rfl):P:=(h a1 a2).mpr k
theorem ME {A1 A2 A3 P Q:Prop} (a1:A1) (a2:A2) (a3:A3) (k:Q) (h:A1 -> A2 -> A3 -> P = Q:=by intro a1 a2 a3; try simp -implicitDefEqProofs (dsimp:=false) only [go_sem,simprocAttr,or_true,true_or,false_or,or_false,implies_true,Int.natCast_add,Int.cast_ofNat_Int,B7,a1,a2,a3]; try exact rfl):P:=(h a1 a2 a3).mpr k
theorem Mv {A1 A2 A3 A4 P Q:Prop} (a1:A1) (a2:A2) (a3:A3) (a4:A4) (k:Q) (h:A1 -> A2 -> A3 -> A4 -> P = Q:=by intro a1 a2 a3 a4; try simp -implicitDefEqProofs (dsimp:=false) only [go_sem,simprocAttr,or_true,true_or,false_or,or_false,implies_true,Int.natCast_add,Int.cast_ofNat_Int,B7,a1,a2,a3,a4]; try exact rfl):P:=(h a1 a2 a3 a4).mpr k
theorem GO {A1 A2 A3 A4 A5 P Q:Prop} (a1:A1) (a2:A2) (a3:A3) (a4:A4) (a5:A5) (k:Q) (h:A1 -> A2 -> A3 -> A4 -> A5 -> P = Q:=by intro a1 a2 a3 a4 a5; try simp -implicitDefEqProofs (dsimp:=false) only [go_sem,simprocAttr,or_true,true_or,false_or,or_false,implies_true,Int.natCast_add,Int.cast_ofNat_Int,B7,a1,a2,a3,a4,a5]; try exact rfl):P:=(h a1 a2 a3 a4 a5).mpr k
theorem JB {A1 A2 A3 A4 A5 A6 P Q:Prop} (a1:A1) (a2:A2) (a3:A3) (a4:A4) (a5:A5) (a6:A6) (k:Q) (h:A1 -> A2 -> A3 -> A4 -> A5 -> A6 -> P = Q:=by intro a1 a2 a3 a4 a5 a6; try simp -implicitDefEqProofs (dsimp:=false) only [go_sem,simprocAttr,or_true,true_or,false_or,or_false,implies_true,Int.natCast_add,Int.cast_ofNat_Int,B7,a1,a2,a3,a4,a5,a6]; try exact rfl):P:=(h a1 a2 a3 a4 a5 a6).mpr k
theorem Mu {A1 A2 A3 A4 A5 A6 A7 P Q:Prop} (a1:A1) (a2:A2) (a3:A3) (a4:A4) (a5:A5) (a6:A6) (a7:A7) (k:Q) (h:A1 -> A2 -> A3 -> A4 -> A5 -> A6 -> A7 -> P = Q:=by intro a1 a2 a3 a4 a5 a6 a7; try simp -implicitDefEqProofs (dsimp:=false) only [go_sem,simprocAttr,or_true,true_or,false_or,or_false,implies_true,Int.natCast_add,Int.cast_ofNat_Int,B7,a1,a2,a3,a4,a5,a6,a7]; try exact rfl):P:=(h a1 a2 a3 a4 a5 a6 a7).mpr k
theorem VZ {A1 A2 A3 A4 A5 A6 A7 A8 P Q:Prop} (a1:A1) (a2:A2) (a3:A3) (a4:A4) (a5:A5) (a6:A6) (a7:A7) (a8:A8) (k:Q) (h:A1 -> A2 -> A3 -> A4 -> A5 -> A6 -> A7 -> A8 -> P = Q:=by intro a1 a2 a3 a4 a5 a6 a7 a8; try simp -implicitDefEqProofs (dsimp:=false) only [go_sem,simprocAttr,or_true,true_or,false_or,or_false,implies_true,Int.natCast_add,Int.cast_ofNat_Int,B7,a1,a2,a3,a4,a5,a6,a7,a8]; try exact rfl):P:=(h a1 a2 a3 a4 a5 a6 a7 a8).mpr k
theorem Zl9 {A1 A2 A3 A4 A5 A6 A7 A8 A9 P Q:Prop} (a1:A1) (a2:A2) (a3:A3) (a4:A4) (a5:A5) (a6:A6) (a7:A7) (a8:A8) (a9:A9) (k:Q) (h:A1 -> A2 -> A3 -> A4 -> A5 -> A6 -> A7 -> A8 -> A9 -> P = Q:=by intro a1 a2 a3 a4 a5 a6 a7 a8 a9; try simp -implicitDefEqProofs (dsimp:=false) only [go_sem,simprocAttr,or_true,true_or,false_or,or_false,implies_true,Int.natCast_add,Int.cast_ofNat_Int,B7,a1,a2,a3,a4,a5,a6,a7,a8,a9]; try exact rfl):P:=(h a1 a2 a3 a4 a5 a6 a7 a8 a9).mpr k
theorem GN {A1 A2 A3 A4 A5 A6 A7 A8 A9 A10 A11 A12 A13 A14 P Q:Prop} (a1:A1) (a2:A2) (a3:A3) (a4:A4) (a5:A5) (a6:A6) (a7:A7) (a8:A8) (a9:A9) (a10:A10) (a11:A11) (a12:A12) (a13:A13) (a14:A14) (k:Q) (h:A1 -> A2 -> A3 -> A4 -> A5 -> A6 -> A7 -> A8 -> A9 -> A10 -> A11 -> A12 -> A13 -> A14 -> P = Q:=by intro a1 a2 a3 a4 a5 a6 a7 a8 a9 a10 a11 a12 a13 a14; try simp -implicitDefEqProofs (dsimp:=false) only [go_sem,simprocAttr,or_true,true_or,false_or,or_false,implies_true,Int.natCast_add,Int.cast_ofNat_Int,B7,a1,a2,a3,a4,a5,a6,a7,a8,a9,a10,a11,a12,a13,a14]; try exact rfl):P:=(h a1 a2 a3 a4 a5 a6 a7 a8 a9 a10 a11 a12 a13 a14).mpr k
theorem Vn {A1 A2 A3 A4 A5 A6 A7 A8 A9 A10 A11 A12 A13 A14 A15 P Q:Prop} (a1:A1) (a2:A2) (a3:A3) (a4:A4) (a5:A5) (a6:A6) (a7:A7) (a8:A8) (a9:A9) (a10:A10) (a11:A11) (a12:A12) (a13:A13) (a14:A14) (a15:A15) (k:Q) (h:A1 -> A2 -> A3 -> A4 -> A5 -> A6 -> A7 -> A8 -> A9 -> A10 -> A11 -> A12 -> A13 -> A14 -> A15 -> P = Q:=by intro a1 a2 a3 a4 a5 a6 a7 a8 a9 a10 a11 a12 a13 a14 a15; try simp -implicitDefEqProofs (dsimp:=false) only [go_sem,simprocAttr,or_true,true_or,false_or,or_false,implies_true,Int.natCast_add,Int.cast_ofNat_Int,B7,a1,a2,a3,a4,a5,a6,a7,a8,a9,a10,a11,a12,a13,a14,a15]; try exact rfl):P:=(h a1 a2 a3 a4 a5 a6 a7 a8 a9 a10 a11 a12 a13 a14 a15).mpr k
end Go.PM

namespace Go.PM
variable [AA]
theorem Ek {n:Nat} {l:List AV} {i:Nat} {x:AV} (h:l[i]? = some x):(CS n l)[i]? = some (x.shift n):=by
 rw [DL,List.getElem?_map,h]; rfl
theorem Dw (n:Nat) (l:List AV):(CS n l).length = l.length:=by rw [DL]; simp
theorem Al.I0 {M:Mem} {hb hb2:List HB} {y:AV} {v:Value} (h:Al M hb y v):∀ (hb1:List HB) (x:AV),hb = hb1 ++ hb2 -> y = x.shift hb1.length -> Al M hb2 x v:=by
 have hget:∀ (hb1:List HB) (id:Nat) (e:HB),(hb1 ++ hb2)[hb1.length + id]? = some e -> hb2[id]? = some e:=by
  intro hb1 id e h
  rwa [List.getElem?_append_right (by omega),Nat.add_sub_cancel_left] at h
 induction h with
 | dead=>intro hb1 x hb he; cases x <;> simp [AV.shift] at he; exact .dead
 | val h=>intro hb1 x hb he; cases x <;> simp [AV.shift] at he; subst he; exact .val h
 | nil=>intro hb1 x hb he; cases x <;> simp [AV.shift] at he; obtain ⟨rfl,rfl⟩:=he; exact .nil
 | sl sz h1 h2 h3 h4 h5 h6 _=>intro hb1 x hb he; cases x <;> simp [AV.shift] at he; obtain ⟨rfl,rfl⟩:=he; exact .sl sz h1 h2 h3 h4 h5 h6
 | hsl e h1 h2 h3 h4 h5=>intro hb1 x hb he; cases x <;> simp [AV.shift] at he; obtain ⟨rfl,rfl,rfl,rfl⟩:=he; subst hb; exact .hsl e (hget hb1 _ _ h1) h2 h3 h4 h5
 | ptr e h1 h2=>intro hb1 x hb he; cases x <;> simp [AV.shift] at he; obtain ⟨rfl,rfl⟩:=he; subst hb; exact .ptr e (hget hb1 _ _ h1) h2
 | eptr e h1 h2 h3 h4 h5=>intro hb1 x hb he; cases x <;> simp [AV.shift] at he; obtain ⟨rfl,rfl,rfl,rfl⟩:=he; subst hb; exact .eptr e (hget hb1 _ _ h1) h2 h3 h4 h5
 | cptr h1 h2 h3 _=>intro hb1 x hb he; cases x <;> simp [AV.shift] at he; subst he; exact .cptr h1 h2 h3
 | fn h1 h2 ih =>
  intro hb1 x hb he
  cases x <;> simp [AV.shift] at he
  obtain ⟨rfl,rfl⟩:=he;exact .fn (by rw [Dw] at h1; exact h1) (fun i c hc=>ih i _ (Ek hc) hb1 c hb rfl)
 | yld e h1 h2=>intro hb1 x hb he; cases x <;> simp [AV.shift] at he; subst he; subst hb; exact .yld e (hget hb1 _ _ h1) h2
 | iface h ih =>
  intro hb1 x hb he
  cases x <;> simp [AV.shift] at he
  obtain ⟨rfl,rfl⟩:=he;exact .iface (ih hb1 _ hb rfl)
 | agg h1 h2 h3 ih =>
  intro hb1 x hb he
  cases x <;> simp [AV.shift] at he
  subst he;exact .agg (by rw [Dw] at h1; exact h1) (fun i c hc=>by have:=h2 i _ (Ek hc); rwa [EN] at this) (fun i c hc=>ih i _ (Ek hc) hb1 c hb rfl)
 | tup h1 h2 ih =>
  intro hb1 x hb he
  cases x <;> simp [AV.shift] at he
  subst he;exact .tup (by rw [Dw] at h1; exact h1) (fun i c hc=>ih i _ (Ek hc) hb1 c hb rfl)
 | mp e h1 h2=>intro hb1 x hb he; cases x <;> simp [AV.shift] at he; subst he; subst hb; exact .mp e (hget hb1 _ _ h1) h2
 | bnd h1 h2 ih =>
  intro hb1 x hb he
  cases x <;> simp [AV.shift] at he
  obtain ⟨rfl,rfl⟩:=he;exact .bnd (by rw [Dw] at h1; exact h1) (fun i c hc=>ih i _ (Ek hc) hb1 c hb rfl)
 | cmp h1 h2 h3 h4 h5 h6 _ _=>intro hb1 x hb he; cases x <;> simp [AV.shift] at he; subst he; exact .cmp h1 h2 h3 h4 h5 h6
def Ah.Of:Ah -> Bool
 | .loop ..=>false
 | _=>true
theorem Cr.I0 {M:Mem} {hb1 hb2:List HB} {b:Ah} {e:HB} (hf:b.Of = true) (h:Cr M (hb1 ++ hb2) (b.shift hb1.length) e):Cr M hb2 b e:=by
 cases b with
 | dead=>trivial
 | cells cs =>
  obtain ⟨h1,h2,c,h3,h4⟩:=h;refine ⟨h1,h2,c,h3,h4.1.trans (Dw _ _),fun j x hx=>?_⟩;have:=h4.2 j _ (Ek hx);exact ⟨by rw [EN] at this; exact this.1,this.2.I0 hb1 x rfl rfl⟩
 | row mt ver sz es=>exact h
 | loop=>cases hf
 | defer=>exact h
 | iter Jb since seen step =>
  obtain ⟨h1,em,h2,h3,h4⟩:=h;exact ⟨h1,em,by rwa [List.getElem?_append_right (by omega),Nat.add_sub_cancel_left] at h2,h3,h4⟩
 | siter s pos=>exact h
 | map kvs bs clock =>
  obtain ⟨h1,h0,es,h2,h2',h3,hb1',hb2',hb3',h4⟩:=h;refine ⟨h1,h0,es,h2,h2',by simpa using h3,hb1',hb2',hb3',fun i k x hx=>?_⟩;obtain ⟨m,g1,g2,g3⟩:=h4 i k (x.shift hb1.length) (by rw [List.getElem?_map,hx]; rfl);exact ⟨m,g1,g2,g3.I0 hb1 x rfl rfl⟩
theorem F7 (n:Nat) (b:Ah) (e:HB) (hf:b.Of = true):(b.shift n).owns e = b.owns e:=by
 cases b <;> first | rfl | cases hf
theorem Ag.up {P:Program} {f:FuncId} {args:List AV} {pre h:List Ah} {R:AE -> List Ah -> Prop} (hu:Aw pre) (hf:∀ b ∈ h,b.Of = true) (hc:Ag P f args h R) :
  Ag P f (args.map (AV.shift pre.length)) (pre ++ h.map (Ah.shift pre.length)) (fun r h'=>∃ r0 h0,R r0 h0 /\ r = r0.shift pre.length /\ h' = pre ++ h0.map (Ah.shift pre.length)):=by
 refine ⟨hc.1,fun F M hb vs H ok hv=>?_⟩;obtain ⟨H1,ok1⟩:=H.split ok hu;have hlen:=H.len;simp only [List.length_append,List.length_map] at hlen;have htl:(hb.take pre.length).length = pre.length:=by rw [List.length_take]; omega
 have hsplit:hb = hb.take pre.length ++ hb.drop pre.length:=(List.take_append_drop _ _).symm;have hdrop:∀ {i:Nat} {e:HB},(hb.drop pre.length)[i]? = some e -> hb[pre.length + i]? = some e:=fun he=>by rw [List.getElem?_drop] at he; exact he
 have hbox:∀ {i:Nat} {b:Ah},h[i]? = some b -> (pre ++ h.map (Ah.shift pre.length))[pre.length + i]? = some (b.shift pre.length):=fun hi=>by
  rw [List.getElem?_append_right (by omega),Nat.add_sub_cancel_left,List.getElem?_map,hi]; rfl
 have Hp:AR F M (hb.take pre.length) pre:=⟨H1.len,H1.gl,H1.box,fun i b e g1 g2 g3=>⟨(H1.own i b e g1 g2 g3).1,fun hF=>(H1.own i b e g1 g2 g3).2 (.inl hF)⟩,H1.dis⟩
 have H2:AR (fun b=>F b \/ Ii (hb.take pre.length) pre b) M (hb.drop pre.length) h:=by
  refine ⟨by rw [List.length_drop]; omega,H.gl,fun i b e g1 g2=>?_,fun i b e g1 g2 g3=>?_,fun i j b b' e e' g1 g2 g3 g4 g5 g6 g7=>?_⟩
  ·have:=H.box _ _ e (hbox g1) (hdrop g2)
   rw [hsplit] at this;have hn:pre.length = (hb.take pre.length).length:=htl.symm;refine Cr.I0 (hb1:=hb.take pre.length) (hf b (List.mem_of_getElem? g1)) ?_;rw [htl];exact this
  ·have hfb:=hf b (List.mem_of_getElem? g1)
   have:=H.own _ _ e (hbox g1) (hdrop g2) (by rw [F7 _ _ _ hfb]; exact g3);refine ⟨this.1,fun hh=>?_⟩
   rcases hh with hh | ⟨j,x,e',k1,k2,k3,k4⟩
   ·exact this.2 hh
   ·have hj:j < pre.length:=(List.getElem?_eq_some_iff.1 k1).1
    have k1':(pre ++ h.map (Ah.shift pre.length))[j]? = some x:=by rw [List.getElem?_append_left hj]; exact k1
    have k2':hb[j]? = some e':=by rw [List.getElem?_take,if_pos hj] at k2; exact k2
    have:=H.dis j _ x _ e' e k1' k2' (hbox g1) (hdrop g2) k3 (by rw [F7 _ _ _ hfb]; exact g3) k4;omega
  ·have:=H.dis _ _ _ _ e e' (hbox g1) (hdrop g2) (hbox g3) (hdrop g4) (by rw [F7 _ _ _ (hf b (List.mem_of_getElem? g1))]; exact g5) (by rw [F7 _ _ _ (hf b' (List.mem_of_getElem? g3))]; exact g6) g7
   omega
 have ok2:Cz (fun b=>F b \/ Ii (hb.take pre.length) pre b) M:=⟨ok.top,fun b hb'=>hb'.elim (ok.fr b) (fun hh=>(Hp.OC hh).1)⟩
 have hv2:AW M (hb.drop pre.length) args vs:=⟨by simpa using hv.1,fun i x hx=>by
  have:=hv.2 i (x.shift pre.length) (by rw [List.getElem?_map,hx]; rfl);exact this.I0 (hb.take pre.length) x hsplit (by rw [htl])⟩
 refine Calls.mono (hc.2 _ M _ vs H2 ok2 hv2) ?_;rintro e w' ⟨r,h',M',hb',hR,k2,rfl,k4,k5,k6,k7⟩;refine ⟨r.shift pre.length,pre ++ h'.map (Ah.shift pre.length),M',hb.take pre.length ++ hb',⟨r,h',hR,rfl,rfl⟩,?_,rfl,?_,⟨k5.top,fun b hb''=>k5.fr b (.inl hb'')⟩,k6.less (fun b hb''=>.inl hb''),?_⟩
 ·cases r <;> cases e <;> try exact k2.elim
  ·have:=Al.shift k2 (hb.take pre.length)
   rw [htl] at this;exact this
  ·obtain ⟨v,h1,h2⟩:=k2
   have:=h2.shift (hb.take pre.length);rw [htl] at this;exact ⟨v,h1,this⟩
 ·exact Hp.beside k6 k4
 ·intro i e he
  by_cases hi:i < pre.length
  ·refine ⟨e,?_,Nat.le_refl _,rfl,fun _=>rfl,fun _=>rfl⟩
   rw [List.getElem?_append_left (by omega),List.getElem?_take,if_pos hi]; exact he
  ·obtain ⟨e',q1,q2⟩:=k7 (i - pre.length) e (by rw [List.getElem?_drop,show pre.length + (i - pre.length) = i by omega]; exact he)
   exact ⟨e',by rw [List.getElem?_append_right (by omega),htl]; exact q1,q2⟩
theorem Ag.Jb {P:Program} {f:FuncId} {args:List AV} {pre h:List Ah} (ext:List Ah) {R:AE -> List Ah -> Prop} (hu:Aw pre) (hf:∀ b ∈ h,b.Of = true) (hb:Aw (pre ++ h.map (Ah.shift pre.length))) (ha:AZ (pre ++ h.map (Ah.shift pre.length)).length (args.map (AV.shift pre.length)) = true)
  (hR:∀ r h',R r h' -> h'.length = h.length) (hc:Ag P f args h R) :
  Ag P f (args.map (AV.shift pre.length)) (pre ++ h.map (Ah.shift pre.length) ++ ext) (fun r h'=>∃ r0 h0,R r0 h0 /\ r = r0.shift pre.length /\ h' = pre ++ h0.map (Ah.shift pre.length) ++ ext):=by
 refine (Ag.pre ext hb ha ?_ (Ag.up hu hf hc)).mono ?_
 ·rintro r h' ⟨r0,h0,k1,k2,rfl⟩
  simp [hR r0 h0 k1]
 ·rintro r h' ⟨h1,⟨r0,h0,k1,k2,rfl⟩,rfl⟩
  exact ⟨r0,h0,k1,k2,rfl⟩
theorem Ag.Tq {P:Program} {f:FuncId} {args:List AV} (pre:List Ah) {h h0:List Ah} (ext:List Ah) {v:AV} (hc:Ag P f args h (fun r h'=>r = .ret v /\ h' = h0)) (hl:h0.length = h.length) (hu:Aw pre) (hf:∀ b ∈ h,b.Of = true)
  (hb:Aw (pre ++ h.map (Ah.shift pre.length))) (ha:AZ (pre ++ h.map (Ah.shift pre.length)).length (args.map (AV.shift pre.length)) = true) :
  Ag P f (args.map (AV.shift pre.length)) (pre ++ h.map (Ah.shift pre.length) ++ ext) (fun r h'=>r = .ret (v.shift pre.length) /\ h' = pre ++ h0.map (Ah.shift pre.length) ++ ext) :=
 (Ag.Jb ext hu hf hb ha (fun r h' ⟨_,e⟩=>by rw [e]; exact hl) hc).mono fun r h' ⟨r0,h1,⟨e1,e2⟩,e3,e4⟩=>by subst e1 e2 e3 e4; exact ⟨rfl,rfl⟩
theorem Ag.aeF {P:Program} {f:FuncId} {args:List AV} (pre:List Ah) {h h0:List Ah} (ext:List Ah) {x:AE} (hc:Ag P f args h (fun r h'=>r = x /\ h' = h0)) (hl:h0.length = h.length) (hu:Aw pre) (hf:∀ b ∈ h,b.Of = true)
  (hb:Aw (pre ++ h.map (Ah.shift pre.length))) (ha:AZ (pre ++ h.map (Ah.shift pre.length)).length (args.map (AV.shift pre.length)) = true) :
  Ag P f (args.map (AV.shift pre.length)) (pre ++ h.map (Ah.shift pre.length) ++ ext) (fun r h'=>r = x.shift pre.length /\ h' = pre ++ h0.map (Ah.shift pre.length) ++ ext) :=
 (Ag.Jb ext hu hf hb ha (fun r h' ⟨_,e⟩=>by rw [e]; exact hl) hc).mono fun r h' ⟨r0,h1,⟨e1,e2⟩,e3,e4⟩=>by subst e1 e2 e3 e4; exact ⟨rfl,rfl⟩
theorem HR {pre l:List Ah} (hu:Aw pre) (hl:∀ b ∈ l,b.under (pre.length + l.length) = true) (hm:∀ (b:Ah) (n k:Nat),b.under n = true -> n <= k -> b.under k = true):Aw (pre ++ l):=by
 intro b hb;rw [List.length_append]
 rcases List.mem_append.1 hb with h | h
 ·exact hm b _ _ (hu b h) (Nat.le_add_right _ _)
 ·exact hl b h
mutual
theorem AV.CG {n k:Nat} (hk:n <= k):∀ x:AV,x.under n = true -> x.under k = true
 | .hsl id _ _ _,h | .ptr id _,h | .eptr id _ _ _,h | .yld id,h | .mp id,h=>by
  simp only [AV.under,decide_eq_true_eq] at h ⊢;omega
 | .fn _ caps,h=>EU hk caps h
 | .bnd _ first,h=>EU hk first h
 | .iface _ x,h=>AV.CG hk x h
 | .agg cs,h=>EU hk cs h
 | .tup vs,h=>EU hk vs h
 | .dead,_ | .val _,_ | .sl _ _,_ | .cptr _,_ | .cmp _,_=>rfl
theorem EU {n k:Nat} (hk:n <= k):∀ l:List AV,AZ n l = true -> AZ k l = true
 | [],_=>rfl
 | x :: xs,h=>by
  simp only [AZ,Bool.and_eq_true] at h ⊢;exact ⟨AV.CG hk x h.1,EU hk xs h.2⟩
end
theorem Ah.CG {n k:Nat} (hk:n <= k) (b:Ah) (h:b.under n = true):b.under k = true:=by
 cases b with
 | cells cs=>exact EU hk cs h
 | loop fn t ps asg bd st Bb =>
  simp only [Ah.under,Ji,List.all_eq_true] at h ⊢;exact fun p hp=>AV.CG hk _ (h p hp)
 | map kvs bs c =>
  simp only [Ah.under,List.all_eq_true] at h ⊢;exact fun p hp=>AV.CG hk _ (h p hp)
 | iter Jb since seen step =>
  simp only [Ah.under,decide_eq_true_eq] at h ⊢;omega
 | dead=>rfl
 | row=>rfl
 | defer=>rfl
 | siter=>rfl
theorem Fu {n:Nat}:∀ {l:List Ah},(∀ b ∈ l,b.under n = true) -> BI n l l
 | [],_=>trivial
 | b :: l,h=>⟨.inr ⟨rfl,h b List.mem_cons_self⟩,Fu fun x hx=>h x (List.mem_cons_of_mem _ hx)⟩
theorem Cc {n:Nat}:∀ {l:List Ah} (m:List Ah),(∀ b ∈ l,b.under n = true) -> BI n (l ++ m) l
 | [],_,_=>by simp [BI]
 | b :: l,m,h=>⟨.inr ⟨rfl,h b List.mem_cons_self⟩,Cc m fun x hx=>h x (List.mem_cons_of_mem _ hx)⟩
def D4 (n:Nat) (l:List Ah):List Ah:=(l ++ List.replicate n Ah.dead).take n
theorem De (n:Nat) (l:List Ah):(D4 n l).length = n:=by
 unfold D4;rw [List.length_take,List.length_append,List.length_replicate];omega
theorem DD {n:Nat} {l:List Ah} (h:l.length = n):D4 n l = l:=by
 unfold D4;rw [<- h,List.take_left]
theorem N4 (n:Nat) (l t:List Ah) (i:Nat):(D4 n l ++ t)[n + i]? = t[i]?:=by
 have h:=De n l;rw [List.getElem?_append_right (by omega),h,Nat.add_sub_cancel_left]
theorem PH (n:Nat) (l t:List Ah):(D4 n l ++ t)[n]? = t[0]?:=N4 n l t 0
theorem N8 (n:Nat) (l t:List Ah) (i:Nat) (b:Ah):(D4 n l ++ t).set (n + i) b = D4 n l ++ t.set i b:=by
 have h:=De n l;rw [List.set_append_right _ _ (by omega),h,Nat.add_sub_cancel_left]
theorem P8 (n:Nat) (l t:List Ah) (b:Ah):(D4 n l ++ t).set n b = D4 n l ++ t.set 0 b:=N8 n l t 0 b
end Go.PM

namespace Go.PM
variable [AA]
theorem Ag.trim {P:Program} {f:FuncId} {args:List AV} {h h0:List Ah} {x:AE} (hl:h.length <= h0.length) (hx:x.under h0.length = true) (hu:∀ b ∈ h0,b.under h0.length = true)
  (hc:Ag P f args h (fun r h'=>r = x /\ ∃ g,h' = h0 ++ g)):Ag P f args h (fun r h'=>r = x /\ h' = h0) :=
 Ag.less (Ag.mono hc fun r h' ⟨h1,g,h2⟩=>⟨h0,by rw [h2]; exact Cc g hu,hl,by rw [h1]; exact hx,h1,rfl⟩)
end Go.PM

namespace Go.PM
open Go.RowKit (Below)
variable [AA]
def GB (M:Mem):Prop:=∀ (g:Nat) (cs:List AV),AA.get g = some cs -> HS M g cs
theorem Ch.below {M:Mem} {w:World} (h:Below M.w.heap.size M.w w):Ch M ⟨w,M.lo⟩ :=
 ⟨h.size,h.os,h.tape,h.output,fun b hb=>⟨h.block b hb,rfl⟩⟩
theorem Cz.below {F:Nat -> Prop} {M:Mem} {w:World} (ok:Cz F M) (h:Below M.w.heap.size M.w w):Cz F ⟨w,M.lo⟩ :=
 ⟨fun b hb=>ok.top b (Nat.le_trans h.size hb),fun b hb=>Nat.lt_of_lt_of_le (ok.fr b hb) h.size⟩
theorem I3 {M:Mem} {hb:List HB} {l:List Value} {c:Array Value} (h:AW M hb (l.map .val) c):c = l.toArray:=by
 obtain ⟨h1,h2⟩:=h;apply Array.ext
 ·simpa using h1.symm
 ·intro i h3 h4
  have h5:(l.map AV.val)[i]? = some (.val l[i]):=by
   have:i < l.length:=by simpa using h4
   simp [List.getElem?_eq_getElem this]
  have h6:=h2 i _ h5;rw [Array.getD_eq_getD_getElem?,Array.getElem?_eq_getElem h3,Option.getD_some] at h6;generalize hx:c[i] = x at h6 ⊢;generalize hy:l[i]'(by simpa using h4) = y at h6 ⊢;cases h6
  simpa using hy.symm
theorem Af.kit {P:Program} {f:FuncId} {vals:List Value} {R:AV -> Prop} (ok:Ks P f)
  (hc:∀ M:Mem,GB M -> Calls P f vals.toArray M.w fun e w'=>∃ x xv,e = .returned xv /\ R x /\ x.pure = true /\ (∀ M':Mem,Al M' [] x xv) /\ Below M.w.heap.size M.w w') :
  Af P f (vals.map .val) R:=by
 refine ⟨ok,fun F M hb vs H mok hv=>?_⟩;rw [I3 hv];refine Calls.mono (hc M H.gl) fun e w' ⟨x,xv,he,hR,hp,hx,hB⟩=>?_;subst he;refine ⟨.ret x,[],⟨w',M.lo⟩,hb,⟨hp,x,rfl,hR⟩,?_,rfl,H.Lw (Ch.below hB) mok,mok.below hB,(Ch.below hB).gu mok,Bf.refl hb⟩;have hl:=H.len
 cases hb with
 | nil=>exact hx _
 | cons a l=>simp at hl
theorem Af.YT {P:Program} {f:FuncId} {vals:List Value} {xv:Value} (ok:Ks P f) (hx:plain xv = true)
  (hc:∀ M:Mem,GB M -> Calls P f vals.toArray M.w fun e w'=>e = .returned xv /\ Below M.w.heap.size M.w w') :
  Af P f (vals.map .val) (· = .val xv) :=
 Af.kit ok fun M hM=>Calls.mono (hc M hM) fun _ _ ⟨h1,h2⟩=>⟨.val xv,xv,h1,rfl,rfl,fun _=>.val hx,h2⟩
theorem GB.cell {M:Mem} {g:Nat} {cs:List AV} (h:GB M) (hg:AA.get g = some cs) {j:Nat} {v:Value} (hj:cs[j]? = some (.val v)):M.w.cell? ⟨g,j,none⟩ = some v:=by
 have h1:=(h g cs hg).1
 cases h1 with
 | cptr h2 h3 h4 =>
  have h5:=(h3 j _ hj).1;have h6:=h4 j _ hj;have h7:=Mem.cell h5;simp only [Nat.zero_add] at h6 h7;cases h6;exact h7
theorem Af.afY {P:Program} {f:FuncId} {vals:List Value} {R:AV -> Prop} (ok:Ks P f)
  (hc:∀ M:Mem,GB M -> (∀ b:Nat,M.w.heap.size <= b -> M.lo b = 0) -> Calls P f vals.toArray M.w fun e w'=>∃ x xv lo,e = .returned xv /\ R x /\ x.pure = true /\ Below M.w.heap.size M.w w' /\
   (∀ b:Nat,b < M.w.heap.size -> lo b = M.lo b) /\ (∀ b:Nat,w'.heap.size <= b -> lo b = 0) /\ Al ⟨w',lo⟩ [] x xv) :
  Af P f (vals.map .val) R:=by
 refine ⟨ok,fun F M hb vs H mok hv=>?_⟩;rw [I3 hv];refine Calls.mono (hc M H.gl mok.top) fun e w' ⟨x,xv,lo,he,hR,hp,hB,h1,h2,hx⟩=>?_;subst he;have hA:Ch M ⟨w',lo⟩:=⟨hB.size,hB.os,hB.tape,hB.output,fun b hb=>⟨hB.block b hb,h1 b hb⟩⟩
 refine ⟨.ret x,[],⟨w',lo⟩,hb,⟨hp,x,rfl,hR⟩,?_,rfl,H.Lw hA mok,⟨h2,fun b hb=>Nat.lt_of_lt_of_le (mok.fr b hb) hB.size⟩,hA.gu mok,Bf.refl hb⟩;have hl:=H.len
 cases hb with
 | nil=>exact hx
 | cons a l=>simp at hl
theorem GB.ack {M:Mem} {g:Nat} {cs:List AV} (h:GB M) (hg:AA.get g = some cs) {j:Nat} {c:AV} (hj:cs[j]? = some c):∃ v,M.w.cell? ⟨g,j,none⟩ = some v /\ Al M [] c v:=by
 have h1:=(h g cs hg).1
 cases h1 with
 | cptr h2 h3 h4 =>
  have h5:=(h3 j _ hj).1;have h6:=h4 j _ hj;have h7:=Mem.cell h5;simp only [Nat.zero_add] at h6 h7;exact ⟨_,h7,h6⟩
end Go.PM

namespace Go.PM
open Go.RowKit
variable [AA]
theorem Af.ahT {P:Program} {f:FuncId} {args:List AV} {xv:Value} (ok:Ks P f) (hx:plain xv = true)
  (hc:∀ (M:Mem) (vs:Array Value),GB M -> AW M [] args vs -> Calls P f vs M.w fun e w'=>e = .returned xv /\ Below M.w.heap.size M.w w') :
  Af P f args (· = .val xv):=by
 refine ⟨ok,fun F M hb vs H mok hv=>?_⟩;have hb0:hb = []:=by
  have hl:=H.len
  cases hb with
  | nil=>rfl
  | cons a l=>simp at hl
 subst hb0;refine Calls.mono (hc M vs H.gl hv) fun e w' ⟨he,hB⟩=>?_;subst he;exact ⟨.ret (.val xv),[],⟨w',M.lo⟩,[],⟨rfl,.val xv,rfl,rfl⟩,.val hx,rfl,H.Lw (Ch.below hB) mok,mok.below hB,(Ch.below hB).gu mok,Bf.refl _⟩
end Go.PM

namespace Go.PM
variable [AA]
def ag3 (P:Program) (f:FuncId) (caps:List AV) (items:List (List AV)) (fin:Option AV):Prop :=
 ∀ (l:Nat) (J:Nat -> List Ah -> Prop) (hc0:List Ah),(∀ k hc,J k hc -> hc.length = hc0.length /\ Aw hc) -> l < hc0.length ->
  (∀ k hc args,J k hc -> items[k]? = some args -> Bl P l args hc (fun r h'=>r = .ret (.val (.bool true)) /\ J (k + 1) h')) -> J 0 hc0 ->
  Ag P f (.yld l :: caps) hc0 (fun r h'=>(match fin with
   | none=>∃ x,r = .ret x
   | some x=>r = .panic x) /\ J items.length h')
theorem Bl.less {P:Program} {id:Nat} {args:List AV} {h:List Ah} {R:AE -> List Ah -> Prop} (hc:Bl P id args h (fun r h'=>∃ h'',BI h''.length h' h'' /\ h.length <= h''.length /\ r.under h''.length = true /\ R r h'')):Bl P id args h R:=by
 intro F M hb vs H ok hv;obtain ⟨e,h1,h2,fn,tmps,asg,bd,h3,h4⟩:=hc F M hb vs H ok hv;refine ⟨e,h1,h2,fn,tmps,asg,bd,h3,RoundIn.mono h4 ?_⟩;rintro e w' ⟨r,h',M',hb',⟨h'',k1,k2,k3,k4⟩,j2,j3,j4,j5,j6,j7⟩;refine ⟨r,h'',M',hb'.take h''.length,k4,?_,j3,j4.Jr k1,j5,j6,j7.take (by rw [H.len]; exact k2)⟩
 cases r <;> cases e <;> try exact j2
 ·exact Al.take j2 k3
 ·obtain ⟨v,h1,h2⟩:=j2
  exact ⟨v,h1,h2.take k3⟩
theorem YE (l e:List Ah) (a b c:Ah):(l ++ a :: b :: e).set (l.length + 1) c = l ++ a :: c :: e:=by
 rw [List.set_append_right _ _ (by omega),show l.length + 1 - l.length = 1 by omega];rfl
theorem Wi (l e:List Ah) (a b:Ah):(l ++ a :: b :: e)[l.length + 1]? = some b:=by
 rw [List.getElem?_append_right (by omega),show l.length + 1 - l.length = 1 by omega];rfl
theorem Lb {n:Nat}:∀ {l:List Ah} (m:List Ah),(∀ b ∈ l,b.under n = true) -> BI n (l ++ m) l
 | [],m,_=>by simp [BI]
 | b :: l,m,h=>⟨.inr ⟨rfl,h b List.mem_cons_self⟩,Lb m fun x hx=>h x (List.mem_cons_of_mem _ hx)⟩
theorem Aa.adY {P:Program} {s:St} {Φ:AX -> St -> Prop} {g:Operand} {ps:Array Tmp} {asg bd:Code} {f:FuncId} {caps:List AV} (hg:s.ev g = .fn f caps) {items:List (List AV)} {fin:Option AV} (hseq:ag3 P f caps items fin)
  (B:Nat -> List Ah) (h0:s.h = B 0) (hlen:∀ k,(B k).length = s.h.length) (hu:∀ k,∀ x ∈ B k,x.under (s.h.length + 2) = true) (ht:Ji (s.h.length + 2) s.t = true)
  (hargs:∀ args ∈ items,args.length = ps.toList.length)
  (round:∀ k args fn,items[k]? = some args -> Aa P (some (s.h.length + 1)) asg ⟨CN s.t ps.toList args,B k ++ [.defer,.loop fn s.t ps.toList asg bd .ready none],[]⟩
   (AX.GG (fun s1=>∃ e1,s1.h = B k ++ .defer :: .loop fn s.t ps.toList asg bd .ready none :: e1 /\ Aa P (some (s.h.length + 1)) bd ⟨s1.t,B k ++ .defer :: .loop fn s.t ps.toList asg bd .busy none :: e1,s1.d⟩
    (fun x s2=>x = .normal /\ ∃ e2,s2.h = B (k + 1) ++ .defer :: .loop fn s.t ps.toList asg bd .busy none :: e2)) (fun _ _=>False)))
  (hafter:fin = none -> ∀ fn,Φ .normal ⟨s.t,B items.length ++ [.defer,.loop fn s.t ps.toList asg bd .exhausted none],.mark s.h.length :: s.d⟩)
  (hpanic:∀ x,fin = some x -> ∀ fn,Φ (.panic x) ⟨s.t,B items.length ++ [.defer,.loop fn s.t ps.toList asg bd .ready none],.mark s.h.length :: s.d⟩):Aa P none (.rangeFunc g ps asg bd) s Φ:=by
 refine Aa.rangeFunc hg fun fn=>?_;have hB:∀ k st e,(B k ++ Ah.defer :: .loop fn s.t ps.toList asg bd st none :: e)[s.h.length + 1]? = some (.loop fn s.t ps.toList asg bd st none):=fun k st e=>by
  rw [<- hlen k]; exact Wi _ _ _ _
 have hS:∀ k st st' e,(B k ++ Ah.defer :: .loop fn s.t ps.toList asg bd st none :: e).set (s.h.length + 1) (.loop fn s.t ps.toList asg bd st' none) = B k ++ Ah.defer :: .loop fn s.t ps.toList asg bd st' none :: e:=fun k st st' e=>by
  rw [<- hlen k]; exact YE _ _ _ _ _
 have hh:s.h ++ [Ah.defer] ++ [.loop fn s.t ps.toList asg bd .ready none] = B 0 ++ [Ah.defer,.loop fn s.t ps.toList asg bd .ready none]:=by rw [h0]; simp
 have hall:∀ k,∀ x ∈ B k ++ [Ah.defer,.loop fn s.t ps.toList asg bd .ready none],x.under (s.h.length + 2) = true:=by
  intro k x hx
  rcases List.mem_append.1 hx with hx | hx
  ·exact hu k x hx
  ·simp only [List.mem_cons,List.not_mem_nil,or_false] at hx
   rcases hx with rfl | rfl
   ·rfl
   ·exact ht
 have hl2:∀ k,(B k ++ [Ah.defer,.loop fn s.t ps.toList asg bd .ready none]).length = s.h.length + 2:=fun k=>by simp [hlen]
 rw [hh];refine (hseq (s.h.length + 1) (fun k hc=>hc = B k ++ [Ah.defer,.loop fn s.t ps.toList asg bd .ready none]) _ ?_ (by simp [hlen]) ?_ rfl).mono ?_
 ·rintro k hc rfl
  exact ⟨by simp [hlen],fun x hx=>by rw [hl2]; exact hall k x hx⟩
 ·rintro k hc args rfl hk
  refine Bl.less (Bl.intro (hB k .ready []) (hargs args (List.mem_of_getElem? hk)) ?_);refine Aa.mono (round k args fn hk) ?_;intro x s1 hx
  cases x <;> try exact hx
  obtain ⟨e1,h1,h2⟩:=hx;simp only [AX.GG];rw [h1,hB k .ready e1];simp only;rw [hS k .ready .busy e1];refine Aa.mono h2 ?_;rintro x s2 ⟨rfl,e2,h3⟩;simp only [KZ,DR];rw [h3,hB (k + 1) .busy e2];simp only [Option.isNone_none,if_true];rw [hS (k + 1) .busy .ready e2];refine ⟨B (k + 1) ++ [Ah.defer,.loop fn s.t ps.toList asg bd .ready none],?_,by rw [hl2,hl2]; exact Nat.le_refl _,rfl,trivial,rfl⟩;have:=Lb (l:=B (k + 1) ++ [Ah.defer,.loop fn s.t ps.toList asg bd .ready none]) e2 (fun x hx=>hall (k + 1) x hx);rw [hl2]
  simpa using this
 ·rintro r h' ⟨hr,rfl⟩
  cases fin with
  | none =>
   obtain ⟨x,rfl⟩:=hr;simp only [HX];rw [hB items.length .ready []];simp only;rw [hS items.length .ready .exhausted []];exact ⟨by simp,hafter rfl fn⟩
  | some x =>
   obtain rfl:=hr;exact hpanic x rfl fn
end Go.PM

namespace Go.PM
variable [AA]
def U8 (P:Program) (f:FuncId) (caps:List AV) (items:List (List AV)):Prop :=
 ∀ (l m:Nat) (J:Nat -> List Ah -> Prop) (JF:List Ah -> Prop) (hc0:List Ah),l < hc0.length ->
  (∀ k hc args,k < m -> J k hc -> items[k]? = some args -> Bl P l args hc (fun r h'=>r = .ret (.val (.bool true)) /\ J (k + 1) h')) ->
  (∀ hc args,J m hc -> items[m]? = some args -> Bl P l args hc (fun r h'=>r = .ret (.val (.bool false)) /\ JF h')) -> J 0 hc0 ->
  Ag P f (.yld l :: caps) hc0 (fun r h'=>(∃ x,r = .ret x) /\ ((m < items.length -> JF h') /\ (items.length <= m -> J items.length h')))
def afl (P:Program) (f:FuncId) (caps:List AV) (items:List (List AV)) (m:Nat):Prop :=
 ∀ (l:Nat) (J:Nat -> List Ah -> Prop) (JF:List Ah -> Prop) (hc0:List Ah),l < hc0.length ->
  (∀ k hc args,k < m -> J k hc -> items[k]? = some args -> Bl P l args hc (fun r h'=>r = .ret (.val (.bool true)) /\ J (k + 1) h')) ->
  (∀ hc args,J m hc -> items[m]? = some args -> Bl P l args hc (fun r h'=>r = .ret (.val (.bool false)) /\ JF h')) -> J 0 hc0 ->
  Ag P f (.yld l :: caps) hc0 (fun r h'=>(∃ x,r = .ret x) /\ ((m < items.length -> JF h') /\ (items.length <= m -> J items.length h')))
theorem U8.at {P:Program} {f:FuncId} {caps:List AV} {items:List (List AV)} (h:U8 P f caps items) (m:Nat):afl P f caps items m:=fun l J JF hc0=>h l m J JF hc0
theorem Aa.Fa {P:Program} {s:St} {Φ:AX -> St -> Prop} {g:Operand} {ps:Array Tmp} {asg bd:Code} {f:FuncId} {caps:List AV} (hg:s.ev g = .fn f caps) {items:List (List AV)} (m:Nat) (hseq:afl P f caps items m)
  (B:Nat -> List Ah) (BF:List Ah) (h0:s.h = B 0) (hlen:∀ k,(B k).length = s.h.length) (hlenF:BF.length = s.h.length)
  (hargs:∀ args ∈ items,args.length = ps.toList.length)
  (round:∀ k args fn,k < m -> items[k]? = some args -> Aa P (some (s.h.length + 1)) asg ⟨CN s.t ps.toList args,B k ++ [.defer,.loop fn s.t ps.toList asg bd .ready none],[]⟩
   (AX.GG (fun s1=>s1.h = B k ++ [.defer,.loop fn s.t ps.toList asg bd .ready none] /\ Aa P (some (s.h.length + 1)) bd ⟨s1.t,B k ++ [.defer,.loop fn s.t ps.toList asg bd .busy none],s1.d⟩
    (fun x s2=>x = .normal /\ s2.h = B (k + 1) ++ [.defer,.loop fn s.t ps.toList asg bd .busy none])) (fun _ _=>False)))
  (stop:∀ args fn,items[m]? = some args -> Aa P (some (s.h.length + 1)) asg ⟨CN s.t ps.toList args,B m ++ [.defer,.loop fn s.t ps.toList asg bd .ready none],[]⟩
   (AX.GG (fun s1=>s1.h = B m ++ [.defer,.loop fn s.t ps.toList asg bd .ready none] /\ Aa P (some (s.h.length + 1)) bd ⟨s1.t,B m ++ [.defer,.loop fn s.t ps.toList asg bd .busy none],s1.d⟩
    (fun x s2=>x = .ret /\ s2.h = BF ++ [.defer,.loop fn s.t ps.toList asg bd .busy none])) (fun _ _=>False)))
  (hafter:items.length <= m -> ∀ fn,Φ .normal ⟨s.t,B items.length ++ [.defer,.loop fn s.t ps.toList asg bd .exhausted none],.mark s.h.length :: s.d⟩)
  (hstop:m < items.length -> ∀ fn,Φ .ret ⟨s.t,BF ++ [.defer,.loop fn s.t ps.toList asg bd .exhausted (some .ret)],.mark s.h.length :: s.d⟩):Aa P none (.rangeFunc g ps asg bd) s Φ:=by
 refine Aa.rangeFunc hg fun fn=>?_;have hB:∀ (b:List Ah) st Bb,b.length = s.h.length -> (b ++ [Ah.defer,.loop fn s.t ps.toList asg bd st Bb])[s.h.length + 1]? = some (.loop fn s.t ps.toList asg bd st Bb):=fun b st Bb hb=>by
  rw [<- hb]; exact MT _ _ _
 have hS:∀ (b:List Ah) st st' Bb pend',b.length = s.h.length -> (b ++ [Ah.defer,.loop fn s.t ps.toList asg bd st Bb]).set (s.h.length + 1) (.loop fn s.t ps.toList asg bd st' pend') = b ++ [Ah.defer,.loop fn s.t ps.toList asg bd st' pend']:=fun b st st' Bb pend' hb=>by
  rw [<- hb]; exact Nf _ _ _ _
 have hh:s.h ++ [Ah.defer] ++ [.loop fn s.t ps.toList asg bd .ready none] = B 0 ++ [Ah.defer,.loop fn s.t ps.toList asg bd .ready none]:=by rw [h0]; simp
 rw [hh];refine (hseq (s.h.length + 1) (fun k hc=>hc = B k ++ [Ah.defer,.loop fn s.t ps.toList asg bd .ready none]) (fun hc=>hc = BF ++ [Ah.defer,.loop fn s.t ps.toList asg bd .done (some .ret)]) _ (by simp [hlen]) ?_ ?_ rfl).mono ?_
 ·rintro k hc args hkm rfl hk
  refine Bl.intro (hB _ .ready none (hlen k)) (hargs args (List.mem_of_getElem? hk)) ?_;refine Aa.mono (round k args fn hkm hk) ?_;intro x s1 hx
  cases x <;> try exact hx
  obtain ⟨h1,h2⟩:=hx;simp only [AX.GG];rw [h1,hB _ .ready none (hlen k)];simp only;rw [hS _ .ready .busy none none (hlen k)];refine Aa.mono h2 ?_;rintro x s2 ⟨rfl,h3⟩;simp only [KZ,DR];rw [h3,hB _ .busy none (hlen (k + 1))];simp only [Option.isNone_none,if_true];rw [hS _ .busy .ready none none (hlen (k + 1))];exact ⟨by simp,rfl⟩
 ·rintro hc args rfl hk
  refine Bl.intro (hB _ .ready none (hlen m)) (hargs args (List.mem_of_getElem? hk)) ?_;refine Aa.mono (stop args fn hk) ?_;intro x s1 hx
  cases x <;> try exact hx
  obtain ⟨h1,h2⟩:=hx;simp only [AX.GG];rw [h1,hB _ .ready none (hlen m)];simp only;rw [hS _ .ready .busy none none (hlen m)];refine Aa.mono h2 ?_;rintro x s2 ⟨rfl,h3⟩;simp only [KZ,DR];rw [h3,hB _ .busy none hlenF];simp only [Option.isNone_some,Bool.false_eq_true,if_false];rw [hS _ .busy .done none (some .ret) hlenF];exact ⟨by simp,rfl⟩
 ·rintro r h' ⟨⟨x,rfl⟩,hF,hN⟩
  rcases Nat.lt_or_ge m items.length with hm | hm
  ·have:=hF hm
   subst this;simp only [HX];rw [hB _ .done (some .ret) hlenF];simp only;rw [hS _ .done .exhausted (some .ret) (some .ret) hlenF];exact ⟨by simp,Aa.ret (hstop hm fn)⟩
  ·have:=hN hm
   subst this;simp only [HX];rw [hB _ .ready none (hlen items.length)];simp only;rw [hS _ .ready .exhausted none none (hlen items.length)];exact ⟨by simp,hafter hm fn⟩
theorem Aa.XL {P:Program} {s:St} {Φ:AX -> St -> Prop} {g:Operand} {ps:Array Tmp} {asg bd:Code} {f:FuncId} {caps:List AV} (hg:s.ev g = .fn f caps) {items:List (List AV)} (hseq:U8 P f caps items) (m:Nat)
  (B:Nat -> List Ah) (BF:List Ah) (h0:s.h = B 0) (hlen:∀ k,(B k).length = s.h.length) (hlenF:BF.length = s.h.length)
  (hargs:∀ args ∈ items,args.length = ps.toList.length)
  (round:∀ k args fn,k < m -> items[k]? = some args -> Aa P (some (s.h.length + 1)) asg ⟨CN s.t ps.toList args,B k ++ [.defer,.loop fn s.t ps.toList asg bd .ready none],[]⟩
   (AX.GG (fun s1=>s1.h = B k ++ [.defer,.loop fn s.t ps.toList asg bd .ready none] /\ Aa P (some (s.h.length + 1)) bd ⟨s1.t,B k ++ [.defer,.loop fn s.t ps.toList asg bd .busy none],s1.d⟩
    (fun x s2=>x = .normal /\ s2.h = B (k + 1) ++ [.defer,.loop fn s.t ps.toList asg bd .busy none])) (fun _ _=>False)))
  (stop:∀ args fn,items[m]? = some args -> Aa P (some (s.h.length + 1)) asg ⟨CN s.t ps.toList args,B m ++ [.defer,.loop fn s.t ps.toList asg bd .ready none],[]⟩
   (AX.GG (fun s1=>s1.h = B m ++ [.defer,.loop fn s.t ps.toList asg bd .ready none] /\ Aa P (some (s.h.length + 1)) bd ⟨s1.t,B m ++ [.defer,.loop fn s.t ps.toList asg bd .busy none],s1.d⟩
    (fun x s2=>x = .ret /\ s2.h = BF ++ [.defer,.loop fn s.t ps.toList asg bd .busy none])) (fun _ _=>False)))
  (hafter:items.length <= m -> ∀ fn,Φ .normal ⟨s.t,B items.length ++ [.defer,.loop fn s.t ps.toList asg bd .exhausted none],.mark s.h.length :: s.d⟩)
  (hstop:m < items.length -> ∀ fn,Φ .ret ⟨s.t,BF ++ [.defer,.loop fn s.t ps.toList asg bd .exhausted (some .ret)],.mark s.h.length :: s.d⟩):Aa P none (.rangeFunc g ps asg bd) s Φ :=
 Aa.Fa hg m (hseq.at m) B BF h0 hlen hlenF hargs round stop hafter hstop
theorem IZ {n:Nat} {x:Ah}:∀ {l:List Ah},(∀ b ∈ l,b.under n = true) -> BI n (l ++ [.defer,x]) (l ++ [.defer,.dead])
 | [],_=>⟨.inr ⟨rfl,rfl⟩,.inl rfl,trivial⟩
 | b :: l,h=>⟨.inr ⟨rfl,h b List.mem_cons_self⟩,IZ fun x hx=>h x (List.mem_cons_of_mem _ hx)⟩
theorem Md {s:St} {b:List Ah} {x:Ah} {l:List (Nat × AV)} (hl:b.length = s.h.length) (hu:∀ y ∈ b,y.under (s.h.length + 2) = true) (ht:keeps s.t (s.h.length + 2) l) (hd:Gj (s.h.length + 2) s.d) :
  DZ ⟨s.t,b ++ [.defer,x],.mark s.h.length :: s.d⟩ ⟨⟨s.t.n,l⟩,b ++ [.defer,.dead],.mark s.h.length :: s.d⟩:=by
 have hn:(b ++ [Ah.defer,.dead]).length = s.h.length + 2:=by simp [hl]
 refine ⟨rfl,?_,?_,rfl,?_⟩
 ·show keeps s.t (b ++ [Ah.defer,.dead]).length l
  rw [hn]; exact ht
 ·show BI (b ++ [Ah.defer,.dead]).length _ _
  rw [hn]; exact IZ hu
 ·show Gj (b ++ [Ah.defer,.dead]).length _
  rw [hn];intro a ha
  rcases List.mem_cons.1 ha with rfl | ha
  ·exact decide_eq_true (by omega)
  ·exact hd a ha
section
variable {P:Program} {s:St} {Φ:AX -> St -> Prop} {g:Operand} {ps:Array Tmp} {asg bd:Code} {f:FuncId} {caps:List AV}
theorem Ab.Xx (ks:List Nat) (hg:s.ev g = .fn f caps) {items:List (List AV)} (hseq:U8 P f caps items)
  (B:Nat -> List Ah) (h0:s.h = B 0) (hlen:∀ k,(B k).length = s.h.length)
  (hargs:∀ args ∈ items,args.length = ps.toList.length)
  (round:∀ k args fn,items[k]? = some args -> Aa P (some (s.h.length + 1)) asg ⟨CN s.t ps.toList args,B k ++ [.defer,.loop fn s.t ps.toList asg bd .ready none],[]⟩
   (AX.GG (fun s1=>s1.h = B k ++ [.defer,.loop fn s.t ps.toList asg bd .ready none] /\ Aa P (some (s.h.length + 1)) bd ⟨s1.t,B k ++ [.defer,.loop fn s.t ps.toList asg bd .busy none],s1.d⟩
    (fun x s2=>x = .normal /\ s2.h = B (k + 1) ++ [.defer,.loop fn s.t ps.toList asg bd .busy none])) (fun _ _=>False)))
  (hu:∀ y ∈ B items.length,y.under (s.h.length + 2) = true) (ht:keeps s.t (s.h.length + 2) (kept ks s.t.l)) (hd:Gj (s.h.length + 2) s.d)
  (hΦ:Φ .normal ⟨⟨s.t.n,kept ks s.t.l⟩,B items.length ++ [.defer,.dead],.mark s.h.length :: s.d⟩):Ab P none (.rangeFunc g ps asg bd) s Φ:=by
 refine ⟨.normal,_,hΦ,Aa.less (Aa.XL hg hseq items.length B s.h h0 hlen rfl hargs (fun k args fn _ hk=>round k args fn hk) (fun args fn hk=>?_) (fun _ fn=>?_) (fun h=>absurd h (Nat.lt_irrefl _)))⟩
 ·simp at hk
 ·exact ⟨_,Md (hlen _) hu ht hd,by simp [hlen],rfl,rfl,rfl⟩
theorem Ab.Ww (ks:List Nat) (hg:s.ev g = .fn f caps) {items:List (List AV)} (hseq:U8 P f caps items) (m:Nat) (hm:m < items.length)
  (B:Nat -> List Ah) (BF:List Ah) (h0:s.h = B 0) (hlen:∀ k,(B k).length = s.h.length) (hlenF:BF.length = s.h.length)
  (hargs:∀ args ∈ items,args.length = ps.toList.length)
  (round:∀ k args fn,k < m -> items[k]? = some args -> Aa P (some (s.h.length + 1)) asg ⟨CN s.t ps.toList args,B k ++ [.defer,.loop fn s.t ps.toList asg bd .ready none],[]⟩
   (AX.GG (fun s1=>s1.h = B k ++ [.defer,.loop fn s.t ps.toList asg bd .ready none] /\ Aa P (some (s.h.length + 1)) bd ⟨s1.t,B k ++ [.defer,.loop fn s.t ps.toList asg bd .busy none],s1.d⟩
    (fun x s2=>x = .normal /\ s2.h = B (k + 1) ++ [.defer,.loop fn s.t ps.toList asg bd .busy none])) (fun _ _=>False)))
  (stop:∀ args fn,items[m]? = some args -> Aa P (some (s.h.length + 1)) asg ⟨CN s.t ps.toList args,B m ++ [.defer,.loop fn s.t ps.toList asg bd .ready none],[]⟩
   (AX.GG (fun s1=>s1.h = B m ++ [.defer,.loop fn s.t ps.toList asg bd .ready none] /\ Aa P (some (s.h.length + 1)) bd ⟨s1.t,B m ++ [.defer,.loop fn s.t ps.toList asg bd .busy none],s1.d⟩
    (fun x s2=>x = .ret /\ s2.h = BF ++ [.defer,.loop fn s.t ps.toList asg bd .busy none])) (fun _ _=>False)))
  (hu:∀ y ∈ BF,y.under (s.h.length + 2) = true) (ht:keeps s.t (s.h.length + 2) (kept ks s.t.l)) (hd:Gj (s.h.length + 2) s.d)
  (hΦ:Φ .ret ⟨⟨s.t.n,kept ks s.t.l⟩,BF ++ [.defer,.dead],.mark s.h.length :: s.d⟩):Ab P none (.rangeFunc g ps asg bd) s Φ:=by
 refine ⟨.ret,_,hΦ,Aa.less (Aa.XL hg hseq m B BF h0 hlen hlenF hargs round stop (fun h=>absurd hm (Nat.not_lt.2 h)) (fun _ fn=>?_))⟩;exact ⟨_,Md hlenF hu ht hd,by simp [hlenF],rfl,rfl,rfl⟩
end
theorem Ab.ade {P:Program} {rd:Option Nat} {t:Tm} {h:List Ah} {d:List AD} {Φ:AX -> St -> Prop} {c:Code} {σ:Type} (V:σ -> List (Nat × AV)) (ks:List Nat) (H:σ -> List Ah) (D:σ -> List AD) (I:σ -> Prop) (m:σ -> Nat) (x0:σ)
  (h0:I x0) (hl:(H x0).length = h.length) (hw:DZ ⟨t,h,d⟩ ⟨⟨t.n,V x0 ++ kept ks t.l⟩,H x0,D x0⟩)
  (round:∀ x,I x -> Ab P rd c ⟨⟨t.n,V x ++ kept ks t.l⟩,H x,D x⟩ (AX.GG (fun s'=>∃ y,I y /\ m y < m x /\ (H x).length <= (H y).length /\ DZ s' ⟨⟨t.n,V y ++ kept ks t.l⟩,H y,D y⟩) Φ)):Ab P rd (.loop c) ⟨t,h,d⟩ Φ:=by
 refine Ab.Jr hw hl ?_;refine Ab.loop (fun n s=>∃ x,I x /\ n = m x /\ s = ⟨⟨t.n,V x ++ kept ks t.l⟩,H x,D x⟩) (n:=m x0) ⟨x0,h0,rfl,rfl⟩ ?_;rintro n s ⟨x,hx,rfl,rfl⟩;refine Ab.MV (Ab.mono (round x hx) ?_);intro x' s' hx'
 cases x' <;> try exact hx'
 obtain ⟨y,h1,h2,h3,h4⟩:=hx';exact ⟨_,h4,h3,m y,h2,y,h1,rfl,rfl⟩
end Go.PM

namespace Go.PM
variable [AA]
def ag7 (P:Program) (f:FuncId) (caps:List AV) (it:Option (List AV)):Prop :=
 ∀ (l:Nat) (hcF hc0:List Ah),Aw hc0 -> Aw hcF -> hcF.length = hc0.length -> l < hc0.length ->
  (∀ args,it = some args -> Bl P l args hc0 (fun r h'=>r = .ret (.val (.bool false)) /\ h' = hcF)) ->
  Ag P f (.yld l :: caps) hc0 (fun r h'=>(∃ x,r = .ret x) /\ h' = if it.isSome = true then hcF else hc0)
theorem OL {P:Program} {l n:Nat} {args:List AV} {hc hcF:List Ah} (ext:List Ah) (hn:hc.length = n) (hF:hcF.length = n) (hu:Aw hc) (ha:AZ n args = true)
  (hy:Bl P l args hc (fun r h'=>r = .ret (.val (.bool false)) /\ h' = hcF)) :
  Bl P l args (D4 n hc ++ ext) (fun r h'=>r = .ret (.val (.bool false)) /\ h' = D4 n hcF ++ ext):=by
 rw [DD hn];refine Bl.mono (Bl.pre ext hu (by rw [hn]; exact ha) (fun r h' h=>by rw [h.2,hF,hn]) hy) ?_;rintro r h' ⟨h1,⟨h2,h3⟩,rfl⟩;exact ⟨h2,by rw [h3,DD hF]⟩
theorem Aa.YD {P:Program} {s:St} {Φ:AX -> St -> Prop} {g:Operand} {ps:Array Tmp} {asg bd:Code} {f:FuncId} {caps:List AV} (hg:s.ev g = .fn f caps) {it:Option (List AV)} (hseq:ag7 P f caps it)
  (BF:List Ah) (hlenF:BF.length = s.h.length) (hu:∀ x ∈ s.h,x.under (s.h.length + 2) = true) (huF:∀ x ∈ BF,x.under (s.h.length + 2) = true) (ht:Ji (s.h.length + 2) s.t = true)
  (hargs:∀ args,it = some args -> args.length = ps.toList.length)
  (stop:∀ args fn,it = some args -> Aa P (some (s.h.length + 1)) asg ⟨CN s.t ps.toList args,s.h ++ [.defer,.loop fn s.t ps.toList asg bd .ready none],[]⟩
   (AX.GG (fun s1=>s1.h = s.h ++ [.defer,.loop fn s.t ps.toList asg bd .ready none] /\ Aa P (some (s.h.length + 1)) bd ⟨s1.t,s.h ++ [.defer,.loop fn s.t ps.toList asg bd .busy none],s1.d⟩
    (fun x s2=>x = .ret /\ s2.h = BF ++ [.defer,.loop fn s.t ps.toList asg bd .busy none])) (fun _ _=>False)))
  (hafter:it = none -> ∀ fn,Φ .normal ⟨s.t,s.h ++ [.defer,.loop fn s.t ps.toList asg bd .exhausted none],.mark s.h.length :: s.d⟩)
  (hstop:∀ args,it = some args -> ∀ fn,Φ .ret ⟨s.t,BF ++ [.defer,.loop fn s.t ps.toList asg bd .exhausted (some .ret)],.mark s.h.length :: s.d⟩):Aa P none (.rangeFunc g ps asg bd) s Φ:=by
 refine Aa.rangeFunc hg fun fn=>?_;have hB:∀ (b:List Ah) st Bb,b.length = s.h.length -> (b ++ [Ah.defer,.loop fn s.t ps.toList asg bd st Bb])[s.h.length + 1]? = some (.loop fn s.t ps.toList asg bd st Bb):=fun b st Bb hb=>by
  rw [<- hb]; exact MT _ _ _
 have hS:∀ (b:List Ah) st st' Bb pend',b.length = s.h.length -> (b ++ [Ah.defer,.loop fn s.t ps.toList asg bd st Bb]).set (s.h.length + 1) (.loop fn s.t ps.toList asg bd st' pend') = b ++ [Ah.defer,.loop fn s.t ps.toList asg bd st' pend']:=fun b st st' Bb pend' hb=>by
  rw [<- hb]; exact Nf _ _ _ _
 have hU:∀ (b:List Ah) st Bb,b.length = s.h.length -> (∀ x ∈ b,x.under (s.h.length + 2) = true) -> Aw (b ++ [Ah.defer,.loop fn s.t ps.toList asg bd st Bb]):=fun b st Bb hb hb2 x hx=>by
  have hl2:(b ++ [Ah.defer,.loop fn s.t ps.toList asg bd st Bb]).length = s.h.length + 2:=by simp [hb]
  rw [hl2]
  rcases List.mem_append.1 hx with hx | hx
  ·exact hb2 x hx
  ·simp only [List.mem_cons,List.not_mem_nil,or_false] at hx
   rcases hx with rfl | rfl
   ·rfl
   ·exact ht
 have hh:s.h ++ [Ah.defer] ++ [.loop fn s.t ps.toList asg bd .ready none] = s.h ++ [Ah.defer,.loop fn s.t ps.toList asg bd .ready none]:=by simp
 rw [hh];refine (hseq (s.h.length + 1) (BF ++ [Ah.defer,.loop fn s.t ps.toList asg bd .done (some .ret)]) _ (hU _ _ _ rfl hu) (hU _ _ _ hlenF huF) (by simp [hlenF]) (by simp) ?_).mono ?_
 ·intro args hk
  refine Bl.intro (hB _ .ready none rfl) (hargs args hk) ?_;refine Aa.mono (stop args fn hk) ?_;intro x s1 hx
  cases x <;> try exact hx
  obtain ⟨h1,h2⟩:=hx;simp only [AX.GG];rw [h1,hB _ .ready none rfl];simp only;rw [hS _ .ready .busy none none rfl];refine Aa.mono h2 ?_;rintro x s2 ⟨rfl,h3⟩;simp only [KZ,DR];rw [h3,hB _ .busy none hlenF];simp only [Option.isNone_some,Bool.false_eq_true,if_false];rw [hS _ .busy .done none (some .ret) hlenF];exact ⟨by simp,rfl⟩
 ·rintro r h' ⟨⟨x,rfl⟩,hF⟩
  cases hi:it with
  | some args =>
   rw [hi] at hF;simp only [Option.isSome_some,if_true] at hF;subst hF;simp only [HX];rw [hB _ .done (some .ret) hlenF];simp only;rw [hS _ .done .exhausted (some .ret) (some .ret) hlenF];exact ⟨by simp,Aa.ret (hstop args hi fn)⟩
  | none =>
   rw [hi] at hF;simp only [Option.isSome_none,Bool.false_eq_true,if_false] at hF;subst hF;simp only [HX];rw [hB _ .ready none rfl];simp only;rw [hS _ .ready .exhausted none none rfl];exact ⟨by simp,hafter hi fn⟩
end Go.PM

namespace Go.PM
variable [AA]
theorem Ag.agl {P:Program} {f:FuncId} (pre post:List AV) {x:AV} {h:List Ah} {R:AE -> List Ah -> Prop} (hf:Ks P f) (hc:Ef h x (fun x' h'=>Ag P f (pre ++ x' :: post) h' R)):Ag P f (pre ++ x :: post) h R:=by
 refine ⟨hf,fun F M hb vs H ok hv=>?_⟩;have hx:=hv.2 pre.length x (by simp);obtain ⟨x',h',M',k1,k2,k3,k4,k5,k6,_⟩:=Gd H ok hx hc;have h2:AW M' hb (pre ++ x' :: post) vs:=by
  refine ⟨by have:=hv.1; simp at this ⊢; omega,fun i y hy=>?_⟩
  rcases Nat.lt_trichotomy i pre.length with hi | hi | hi
  ·rw [List.getElem?_append_left hi] at hy
   exact (hv.2 i y (by rw [List.getElem?_append_left hi]; exact hy)).mem k6.le
  ·subst hi
   rw [List.getElem?_append_right (Nat.le_refl _),Nat.sub_self] at hy;cases hy;exact Al.pure k3
  ·obtain ⟨j,rfl⟩:∃ j,i = pre.length + (j + 1):=⟨i - pre.length - 1,by omega⟩
   rw [List.getElem?_append_right (by omega),Nat.add_sub_cancel_left,List.getElem?_cons_succ] at hy;exact (hv.2 _ y (by rw [List.getElem?_append_right (by omega),Nat.add_sub_cancel_left,List.getElem?_cons_succ]; exact hy)).mem k6.le
 have:=k1.2 F M' hb vs k4 k5 h2;rw [k2] at this;exact Calls.mono this fun e w' ⟨r,h'',M'',hb'',j1,j2,j3,j4,j5,j6,j7⟩=>⟨r,h'',M'',hb'',j1,j2,j3,j4,j5,k6.trans j6,j7⟩
end Go.PM
