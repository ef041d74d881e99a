/- A part of the proof: see the last text. -/
import Derived.Test.YtgbaedjegdcloaaGreatDoorD6
set_option linter.unusedVariables false
set_option linter.unusedSimpArgs false
set_option linter.unusedSectionVars false
set_option linter.defProp false
set_option maxRecDepth 100000
set_option maxHeartbeats 4000000
namespace Go.PM
variable [AA]
def stopA (P:Program) (ops:Array Oper) (o:Oper) (s:St) (Ψ:AV -> List Ah -> Prop):Prop :=
 (match o.guard with
  | none=>True
  | some (j,want)=>EB ops s.t j = .val (.bool want)) /\
 match o.op with
 | .call c=>match c.callee with
  | .value f=>match s.ev f with
   | .fn f caps=>Ag P f (c.args.toList.map s.ev ++ caps) s.h (fun r h=>∃ x,r = .panic x /\ Ψ x h)
   | _=>False
  | _=>False
 | _=>False
theorem skipK {P:Program} {ops:Array Oper} {K:St -> Prop}:∀ (l:List (Nat × Cj)) (s:St),AO P ops l s K -> (∀ x ∈ l,x.2 = .free \/ x.2 = .read) -> ∃ s1,K s1 /\ s1.h = s.h /\ s1.d = s.d /\ ∀ j,(∀ x ∈ l,BU ops x.1 ≠ some j) -> s1.t.get j = s.t.get j
 | [],s,h,_=>⟨s,h,rfl,rfl,fun _ _=>rfl⟩
 | (i,c) :: l,⟨t,h,d⟩,hk,hc=>by
  obtain ⟨v,h',k1,_,k3,k4,_⟩:=Em (show CD P ops (i,c) ⟨t,h,d⟩ _ from hk);have hh:h' = h:=by
   rcases hc (i,c) List.mem_cons_self with e | e
   ·exact (k3 e).1
   ·exact (k4 e).1
  subst hh;obtain ⟨s1,g1,g2,g3,g4⟩:=skipK l _ k1 (fun x hx=>hc x (List.mem_cons_of_mem _ hx));refine ⟨s1,g1,g2,g3,fun j hj=>?_⟩;rw [g4 j (fun x hx=>hj x (List.mem_cons_of_mem _ hx))];exact Mn (fun k hk e=>hj (i,c) List.mem_cons_self (e ▸ hk))
theorem guardV_congr {ops:Array Oper} {o:Oper} {t t1:Tm} {j:Nat} {want:Bool} (hg:o.guard = some (j,want)) (he:∀ i ∈ o.looksAt ops,t.get i = t1.get i):EB ops t j = EB ops t1 j:=by
 unfold EB
 cases hd:DW ops j with
 | none=>rfl
 | some d =>
  exact he d (List.mem_append_right _ (by simp only [hg]; unfold DW at hd; rw [hd]; simp))
theorem stopA_congr {P:Program} {ops:Array Oper} {o:Oper} {t t1:Tm} {h:List Ah} {d d1:List AD} {Ψ:AV -> List Ah -> Prop} (he:∀ j ∈ o.looksAt ops,t.get j = t1.get j) (hk:stopA P ops o ⟨t,h,d⟩ Ψ):stopA P ops o ⟨t1,h,d1⟩ Ψ:=by
 have hev:=WD (h:=h) (d:=d) (d1:=d1) he;obtain ⟨h1,h2⟩:=hk;refine ⟨?_,?_⟩
 ·split
  ·trivial
  ·rename_i j want hg
   rw [hg] at h1;simp only at h1;rw [<- guardV_congr hg he];exact h1
 ·split at h2
  ·rename_i c hop
   rw [hop] at hev;have ha:∀ x ∈ c.args,(⟨t,h,d⟩:St).ev x = (⟨t1,h,d1⟩:St).ev x:=fun x hx=>hev x (by simp only [Op.operands,Call.operands]; exact Array.mem_append.2 (.inr hx))
   split at h2
   ·rename_i f hc
    simp only [hc];rw [<- EW ha,<- hev f (by simp [Op.operands,Call.operands,hc])];exact h2
   ·exact h2.elim
  ·exact h2.elim
theorem stopA_opA {P:Program} {ops:Array Oper} {o:Oper} {s:St} {Ψ:AV -> List Ah -> Prop} (hk:stopA P ops o s Ψ):BP P o s (fun _=>False) (fun x s'=>∃ v h,x = .panic v /\ s' = ⟨s.t,h,s.d⟩ /\ Ψ v h):=by
 obtain ⟨_,h2⟩:=hk;unfold BP
 split at h2
 ·rename_i c hop
  split at h2
  ·rename_i f hc
   simp only [hop,hc]
   split at h2
   ·rename_i f caps hf
    simp only [hf];exact h2.mono fun r h' ⟨x,e,hx⟩=>by subst e; exact ⟨x,h',rfl,rfl,hx⟩
   ·exact h2.elim
  ·exact h2.elim
 ·exact h2.elim
def okStop (ops:Array Oper) (π:List (Nat × Cj)) (m:Nat) (q0:List (Nat × Cj)):Bool :=
 EO ops (π ++ (m,.free) :: q0) && π.all (fun x=>x.2 == .free || x.2 == .read || reachB ops ops.size x.1 m) && q0.all (fun x=>reachB ops ops.size m x.1)
theorem drawnStop_sound {P:Program} {F:Nat -> Prop} {M0:Mem} {hb0:List HB} {ops:Array Oper} {Φ:AX -> St -> Prop} {Ψ:AV -> List Ah -> Prop} {K:St -> Prop} {m:Nat} {q0:List (Nat × Cj)} {d0:List AD} (hΨ:∀ v h t,Ψ v h -> Φ (.panic v) ⟨t,h,d0⟩) (hK:∀ s s',Dl s s' -> K s -> K s')
  (hend:∀ s,K s -> Ew ops m (fun o=>stopA P ops o s Ψ)) (hreach2:∀ x ∈ q0,reachB ops ops.size m x.1 = true) (ro:Option Nat) :
  ∀ (k:Nat) (l:List (Nat × Cj)) (listed:Array Bool) (M:Mem) (hb:List HB) (s:St) (a:Act),l.length = k -> (∀ x ∈ l,x.2 = .free \/ x.2 = .read \/ reachB ops ops.size x.1 m = true) -> Left ops listed (l ++ (m,.free) :: q0) -> Gu F M0 M -> Bf hb0 hb -> BR F M hb s a -> s.d = d0 -> AO P ops l s K ->
  wpAnyIn (AY ro) 0 P .any ops (Dx F M0 hb0 Φ) (k + 1 + q0.length) listed a M.w:=by
 have hstop:∀ (Kn:Act -> World -> Prop) (l:List (Nat × Cj)) (M:Mem) (hb:List HB) (s:St) (a:Act) (o:Oper),ops[m]? = some o -> (∀ x ∈ l,(x.2 = .free \/ x.2 = .read) /\ compat ops x (m,.free) = true) -> Gu F M0 M -> Bf hb0 hb -> BR F M hb s a -> s.d = d0 -> AO P ops l s K ->
   wpOpIn (AY ro) 0 P ops (Dx F M0 hb0 Φ) m Kn a M.w:=by
  intro Kn l M hb s a o ho hside hG hH hs hd hk;obtain ⟨s1,g1,g2,g3,g4⟩:=skipK l s hk (fun x hx=>(hside x hx).1);have hat:=hend s1 g1;unfold Ew at hat;simp only [ho] at hat;have hst:stopA P ops o s Ψ:=by
   obtain ⟨t1,h1,d1⟩:=s1;obtain ⟨t,h,d⟩:=s;simp only at g2;subst g2;refine stopA_congr (fun j hj=>g4 j fun x hx e=>?_) hat;have hc:=(hside x hx).2;unfold compat at hc;unfold BU at e
   cases hx1:ops[x.1]? with
   | none=>rw [hx1] at e; cases e
   | some ox =>
    rw [hx1] at e;simp only [hx1,ho,Bool.and_eq_true] at hc;exact (Oper.apart_spec hc.1).1 j e hj
  have hgo:o.wpIn (AY ro) 0 P a M.w Kn (Dx F M0 hb0 Φ) :=
   DM ro hs (stopA_opA hst) (fun _ _ _ _ k1=>k1.elim) (fun x v s' M' hb' ⟨v',h',e1,e2,k1⟩ k2 k3 k4 k5=>by
    cases e1
    subst e2;exact ⟨.panic x,_,M',hb',(by have:=hΨ x h' s.t k1; rw [<- hd] at this; exact this),⟨v,rfl,k2⟩,rfl,k3,hG.trans k4,hH.trans k5⟩)
  unfold wpOpIn;simp only [ho];obtain ⟨hgd,_⟩:=hst
  split at hgd
  ·rename_i hg
   simp only [Region.wanted,hg,if_true];exact hgo
  ·rename_i j want hg
   unfold EB at hgd
   cases hd':DW ops j with
   | none=>rw [hd'] at hgd; cases hgd
   | some d =>
    rw [hd'] at hgd;rw [Ei hs.tm hg hd' hgd];simp only [beq_self_eq_true,if_true];exact hgo
 intro k
 induction k with
 | zero =>
  intro l listed M hb s a hlen hre hL hG hH hs hd hk;obtain rfl:=List.eq_nil_of_length_eq_zero hlen;rw [show 0 + 1 + q0.length = (0 + q0.length) + 1 by omega];refine ⟨fun h=>absurd h (hL.ready (by simp)),fun i hi=>?_⟩;obtain ⟨hun,o,ho,hall⟩:=(mem_ready).1 hi;have hilt:i < ops.size:=(Array.getElem?_eq_some_iff.1 ho).1;have hml:m < ops.size /\ listed.getD m true = false:=(hL.mem m).1 (by simp);have hnq:∀ x ∈ q0,x.1 ≠ i:=fun x hx he=>by
   have h1:=Co hL.size hL.closed _ _ _ o ho hall (he ▸ hreach2 x hx);have h2:=hml.2;rw [CC (by rw [hL.size]; exact hml.1),h1] at h2;cases h2
  have him:i = m:=by
   have:=(hL.mem i).2 ⟨hilt,hun⟩;simp only [List.nil_append,List.map_cons,List.mem_cons] at this
   rcases this with h | h
   ·exact h
   ·obtain ⟨x,hx,he⟩:=List.mem_map.1 h
    exact absurd he (hnq x hx)
  subst him;exact hstop _ [] M hb s a o ho (fun x hx=>by cases hx) hG hH hs hd hk
 | succ k ih =>
  intro l listed M hb s a hlen hre hL hG hH hs hd hk;rw [show k + 1 + 1 + q0.length = (k + 1 + q0.length) + 1 by omega];refine ⟨fun h=>absurd h (hL.ready (by simp)),fun i hi=>?_⟩;obtain ⟨hun,o,ho,hall⟩:=(mem_ready).1 hi;have hilt:i < ops.size:=(Array.getElem?_eq_some_iff.1 ho).1;have hml:m < ops.size /\ listed.getD m true = false:=(hL.mem m).1 (by simp);have hlx:∀ x ∈ l,reachB ops ops.size x.1 i = true -> False:=fun x hx hr=>by
   have hx:=(hL.mem x.1).1 (List.mem_map.2 ⟨x,List.mem_append_left _ hx,rfl⟩);have h1:=Co hL.size hL.closed _ _ _ o ho hall hr;have h2:=hx.2;rw [CC (by rw [hL.size]; exact hx.1),h1] at h2;cases h2
  by_cases hnm:i = m
  ·subst hnm
   refine hstop _ l M hb s a o ho (fun x hx=>⟨?_,?_⟩) hG hH hs hd hk
   ·rcases hre x hx with h | h | h
    ·exact .inl h
    ·exact .inr h
    ·exact (hlx x hx h).elim
   ·have hpair:E8 ops x (i,.free) = true:=by
     have:=List.pairwise_append.1 hL.pairs;exact this.2.2 x hx _ List.mem_cons_self
    simp only [E8,Bool.or_eq_true] at hpair
    rcases hpair with h | h
    ·exact (hlx x hx h).elim
    ·exact h
  have hnq:∀ x ∈ q0,x.1 ≠ i:=fun x hx he=>by
   have h1:=Co hL.size hL.closed _ _ _ o ho hall (he ▸ hreach2 x hx);have h2:=hml.2;rw [CC (by rw [hL.size]; exact hml.1),h1] at h2;cases h2
  have hil:i ∈ l.map (·.1):=by
   have:=(hL.mem i).2 ⟨hilt,hun⟩;rw [List.map_append,List.mem_append,List.map_cons,List.mem_cons] at this
   rcases this with h | h | h
   ·exact h
   ·exact absurd h hnm
   ·obtain ⟨x,hx,he⟩:=List.mem_map.1 h
    exact absurd he (hnq x hx)
  obtain ⟨⟨i',c⟩,hmem,rfl⟩:=List.mem_map.1 hil;obtain ⟨p,q,rfl⟩:=List.append_of_mem hmem;simp only at ho hall hun hilt hi hnm ⊢;have hL2:Left ops listed (p ++ (i',c) :: (q ++ (m,.free) :: q0)):=by simpa using hL
  have hpc:∀ x ∈ p,compat ops x (i',c) = true:=by
   intro x hx;have hpair:E8 ops x (i',c) = true:=by
    have:=List.pairwise_append.1 hL2.pairs;exact this.2.2 x hx _ List.mem_cons_self
   simp only [E8,Bool.or_eq_true] at hpair
   rcases hpair with h | h
   ·exact (hlx x (List.mem_append_left _ hx) h).elim
   ·exact h
  have hrun:=AO.pull hK p hpc hk;have hL':Left ops (listed.setIfInBounds i' true) ((p ++ q) ++ (m,.free) :: q0):=by
   have:=Left.step hL2 ho hilt hall
   simpa using this
  have hlen':(p ++ q).length = k:=by simp at hlen ⊢; omega
  have hnext:∀ (s':St) (M':Mem) (hb':List HB) (a':Act),(AO P ops (p ++ q) s' K /\ s'.d = d0) -> BR F M' hb' s' a' -> Gu F M M' -> Bf hb hb' -> wpAnyIn (AY ro) 0 P .any ops (Dx F M0 hb0 Φ) (k + 1 + q0.length) (listed.setIfInBounds i' true) a' M'.w :=
   fun s' M' hb' a' k1 k2 k3 k4=>ih (p ++ q) _ M' hb' s' a' hlen' (fun x hx=>hre x (by simp at hx ⊢; rcases hx with h | h <;> simp [h])) hL' (hG.trans k3) (hH.trans k4) k2 k1.2 k1.1
  have hdst:BU ops i' = o.dst:=by simp [BU,ho]
  simp only [AO,hdst] at hrun;unfold CD at hrun;simp only [ho] at hrun;unfold wpOpIn;simp only [ho];have hop:AU P o c s (fun v h=>AO P ops (p ++ q) ⟨s.t.BZ o.dst v,h,s.d⟩ K) -> o.wpIn (AY ro) 0 P a M.w (wpAnyIn (AY ro) 0 P .any ops (Dx F M0 hb0 Φ) (k + 1 + q0.length) (listed.setIfInBounds i' true)) (Dx F M0 hb0 Φ):=fun h =>
   DM (Φ:=fun _ _=>False) ro hs (I5 (K:=fun s'=>AO P ops (p ++ q) s' K /\ s'.d = d0) (by
    obtain ⟨t1,h1,d1⟩:=s;obtain ⟨v,h',k1,k2,_⟩:=PU h;exact k2 _ ⟨k1,hd⟩)) hnext (fun x v s' M' hb' k1=>k1.elim)
  split at hrun
  ·rename_i hg
   simp only [Region.wanted,hg,if_true];exact hop hrun
  ·rename_i j want hg
   split at hrun
   ·rename_i d hd'
    split at hrun
    ·rename_i b hbv
     rw [Ei hs.tm hg hd' hbv]
     by_cases hbw:b = want
     ·simp only [hbw,beq_self_eq_true,if_true]
      exact hop (hrun.1 hbw)
     ·have:(b == want) = false:=by simpa using hbw
      simp only [this,Bool.false_eq_true,if_false];refine ⟨fun _ _=>trivial,hnext _ M hb _ ⟨hrun.2 ?_,hd⟩ (hs.put o.dst CX) (.refl _ _) (.refl _)⟩
      cases b <;> cases want <;> simp_all
    ·rename_i hbv
     rw [Eg hs.tm hg hd' hbv];simp only [Bool.false_eq_true,if_false];exact ⟨fun _ _=>trivial,hnext _ M hb _ ⟨hrun,hd⟩ (hs.put o.dst CX) (.refl _ _) (.refl _)⟩
    ·exact hrun.elim
   ·exact hrun.elim
theorem Aa.drawnStop {P:Program} {rd:Option Nat} {s:St} {Φ:AX -> St -> Prop} {id:Nat} {ops:Array Oper} (π:List (Nat × Cj)) (m:Nat) (q0:List (Nat × Cj)) (hm:P.follows .mixedOrders = true) (hok:okStop ops π m q0 = true) (Ψ:AV -> List Ah -> Prop) (hΨ:∀ v h t,Ψ v h -> Φ (.panic v) ⟨t,h,s.d⟩)
  (h:AO P ops π s (fun s1=>Ew ops m (fun o=>stopA P ops o s1 Ψ))):Aa P rd (.region id ops true) s Φ:=by
 intro F M hb a ro hs hr;refine wpIn_region_any hm ?_;simp only [okStop,EO,Bool.and_eq_true,decide_eq_true_eq] at hok;obtain ⟨⟨⟨⟨⟨⟨h1,h2⟩,h3⟩,h4⟩,h5⟩,h6⟩,h7⟩:=hok;have hL:Left ops (Array.replicate ops.size false) (π ++ (m,.free) :: q0):=by
  refine ⟨by simp,fun i o ho hl=>?_,h1,fun i=>?_,h4,fun i o ho e he hb=>?_⟩
  ·have:i < ops.size:=(Array.getElem?_eq_some_iff.1 ho).1
   simp [Array.getD_eq_getD_getElem?,this] at hl
  ·constructor
   ·intro hi
    obtain ⟨p,hp,rfl⟩:=List.mem_map.1 hi;have:=List.all_eq_true.1 h3 p hp;simp only [decide_eq_true_eq] at this;exact ⟨this,by simp [Array.getD_eq_getD_getElem?,this]⟩
   ·rintro ⟨hi,_⟩
    have:=List.all_eq_true.1 h2 i (List.mem_range.2 hi)
    simpa using this
  ·have hlt:i < ops.size:=(Array.getElem?_eq_some_iff.1 ho).1
   have:=List.all_eq_true.1 h5 i (List.mem_range.2 hlt);rw [ho] at this;simp only [Array.all_eq_true'] at this;have h6:=this e he
   simpa [hb] using h6
 have hlen:(π ++ (m,Cj.free) :: q0).length = ops.size:=by
  have hp:((π ++ (m,Cj.free) :: q0).map (·.1)).Perm (List.range ops.size):=by
   rw [List.perm_ext_iff_of_nodup h1 List.nodup_range];intro i;rw [hL.mem i,List.mem_range];exact ⟨fun h=>h.1,fun h=>⟨h,by simp [Array.getD_eq_getD_getElem?,h]⟩⟩
  have:=hp.length_eq
  simpa using this
 have hlen1:π.length + 1 + q0.length = ops.size:=by
  rw [<- hlen];simp;omega
 have hA:Ch M M.drew:=Ch.drew M;have hG:=hA.gu hs.ok;have hgo:=drawnStop_sound (M0:=M) (hb0:=hb) (F:=F) (P:=P) (ops:=ops) (Φ:=Φ) (Ψ:=Ψ) (K:=fun s'=>∃ s0,Dl s0 s' /\ Ew ops m (fun o=>stopA P ops o s0 Ψ)) (m:=m) (q0:=q0) (d0:=s.d) hΨ
  (fun s s' hs ⟨s0,h0,hk⟩=>⟨s0,h0.trans hs,hk⟩) (fun s1 ⟨s0,h0,hk⟩=>by
   obtain ⟨t0,h00,d00⟩:=s0;obtain ⟨t1,h11,d11⟩:=s1;have e:h00 = h11:=h0.h;subst e;unfold Ew at hk ⊢
   cases ho:ops[m]? with
   | none=>rw [ho] at hk; exact hk
   | some o =>
    rw [ho] at hk;exact stopA_congr (fun j _=>h0.get j) hk)
  (fun x hx=>List.all_eq_true.1 h7 x hx) ro π.length π (Array.replicate ops.size false) M.drew hb s a rfl (fun x hx=>by
   have:=List.all_eq_true.1 h6 x hx;simp only [Bool.or_eq_true,beq_iff_eq] at this
   rcases this with (h | h) | h
   ·exact .inl h
   ·exact .inr (.inl h)
   ·exact .inr (.inr h)) hL hG (.refl _)
  ⟨hs.tm.mono hG.le (.refl _),hs.df.mono hG.le (.refl _),hs.hp.Lw hA hs.ok,hs.ok.drew⟩ rfl (Aa.drawn.runK_mono π (fun s hk=>⟨s,.refl s,hk⟩) h)
 rw [hlen1] at hgo;exact hgo
theorem Aa.seqStop {P:Program} {rd:Option Nat} {s:St} {Φ:AX -> St -> Prop} {id:Nat} {ops:Array Oper} {y:Code} (π:List (Nat × Cj)) (m:Nat) (q0:List (Nat × Cj)) (hm:P.follows .mixedOrders = true) (hok:okStop ops π m q0 = true) (Ψ:AV -> List Ah -> Prop) (hΨ:∀ v h t,Ψ v h -> Φ (.panic v) ⟨t,h,s.d⟩)
  (h:Az P ops π s (fun s1=>Ew ops m (fun o=>stopA P ops o s1 Ψ))):Aa P rd (.seq (.region id ops true) y) s Φ :=
 Aa.seq (Aa.drawnStop π m q0 hm hok Ψ (fun v h t hh=>hΨ v h t hh) (Az.run π s h))
end Go.PM
