/- A part of the proof: see the last text. -/
import Derived.Test.YtgbaedjegdcloaaGreatDoorD6
set_option linter.unusedVariables false
set_option linter.unusedSimpArgs false
set_option linter.unusedSectionVars false
set_option linter.defProp false
set_option maxRecDepth 100000
set_option maxHeartbeats 4000000
namespace Go.PM
theorem rch_or {G:Jw} {S:Int -> Prop} {x:Int} (h:Kb G S x):∃ y,S y /\ Kb G (· = y) x:=by
 induction h with
 | base h1=>exact ⟨_,h1,.base rfl⟩
 | step _ h2 h3 ih =>
  obtain ⟨z,h4,h5⟩:=ih;exact ⟨z,h4,.step h5 h2 h3⟩
theorem rch_of {G:Jw} {S:Int -> Prop} {x y:Int} (hy:S y) (h:Kb G (· = y) x):Kb G S x:=h.mono fun z hz=>by rw [hz]; exact .base hy
theorem pars_pre {vis:Int -> List Int -> Gx -> Gx} {q:List Int} (hv:∀ oid path s,q <+: path -> ∀ h ∈ (vis oid path s).2,h ∈ s.2 \/ q <+: h.path) {p:List Int} (hp:q <+: p) :
  ∀ (ps:List (Nat × Int)) s,∀ h ∈ (E5 vis p ps s).2,h ∈ s.2 \/ q <+: h.path
 | [],_,_,h=>.inl h
 | r :: ps,s,h,hh=>by
  rcases pars_pre hv hp ps (vis r.2 (p ++ [(r.1:Int)]) s) h hh with h1 | h1
  ·exact hv r.2 (p ++ [(r.1:Int)]) s (hp.trans (List.prefix_append _ _)) h h1
  ·exact .inr h1
theorem vis_pre {G:Jw} {q:List Int}:∀ n oid path s,q <+: path -> ∀ h ∈ (D6 G n oid path s).2,h ∈ s.2 \/ q <+: h.path
 | 0,_,_,_,_,_,h=>.inl h
 | n + 1,oid,path,s,hq,h,hh=>by
  unfold D6 at hh
  split at hh
  ·exact .inl hh
  ·split at hh
   ·rcases List.mem_append.1 hh with hh | hh
    ·exact .inl hh
    ·rw [List.mem_singleton.1 hh]
     exact .inr hq
   ·exact pars_pre (vis_pre n) hq _ (s.1 ++ [oid],s.2) h hh
end Go.PM

namespace Go.Proofs.Tryz
open Go.PM
section
variable {w:Wd} {i:Nat} {s:HA}
end
def EachU (w:Wd) (sel:List UInt8) (o:Ob) (n:Nat) (x:Int):Prop:=∃ q ∈ Fs w o.slots n,Kb (Gk w sel) (· = q.2) x /\ ((Gk w sel).mt x).isSome = true
structure EachI (w:Wd) (sel:List UInt8) (o:Ob) (n:Nat) (one:GS) (many:Bool):Prop where
 two:many = true -> ∃ x y,x ≠ y /\ EachU w sel o n x /\ EachU w sel o n y
 lone:many = false -> (one.kind = 0 /\ ∀ x,¬ EachU w sel o n x) \/ (one.kind = 1 /\ (∀ x,EachU w sel o n x ↔ x = one.holder) /\ ∃ p,(Gk w sel).mt one.holder = some p /\ one.slot = (p.1:Nat) /\ one.set = p.2)
theorem each_zero (w:Wd) (sel:List UInt8) (o:Ob):EachI w sel o 0 default false :=
 ⟨fun h=>(nomatch h),fun _=>.inl ⟨rfl,fun x ⟨q,hq,_⟩=>by simp [Fs] at hq⟩⟩
theorem eachU_skip {w:Wd} {sel:List UInt8} {o:Ob} {n:Nat} (h:BX (o.slots.getD n default) = false) (x:Int):EachU w sel o (n + 1) x ↔ EachU w sel o n x:=by
 unfold EachU;rw [Fs,h];simp
theorem each_skip {w:Wd} {sel:List UInt8} {o:Ob} {n:Nat} {one:GS} {many:Bool} (h:BX (o.slots.getD n default) = false) (hI:EachI w sel o n one many):EachI w sel o (n + 1) one many:=by
 refine ⟨fun hm=>?_,fun hm=>?_⟩
 ·obtain ⟨x,y,h1,h2,h3⟩:=hI.two hm
  exact ⟨x,y,h1,(eachU_skip h x).2 h2,(eachU_skip h y).2 h3⟩
 ·rcases hI.lone hm with ⟨h1,h2⟩ | ⟨h1,h2,h3⟩
  ·exact .inl ⟨h1,fun x hx=>h2 x ((eachU_skip h x).1 hx)⟩
  ·exact .inr ⟨h1,fun x=>(eachU_skip h x).trans (h2 x),h3⟩
theorem eachU_next {w:Wd} {sel:List UInt8} {o:Ob} {n:Nat} (h:BX (o.slots.getD n default) = true) (x:Int):EachU w sel o (n + 1) x ↔ EachU w sel o n x \/ x ∈ (OI w sel (Ay w (o.slots.getD n default).v).1 n).2.map (·.oid):=by
 unfold EachU;rw [(XJ w sel _ n).hit,Fs,if_pos h];constructor
 ·rintro ⟨q,hq,h2⟩
  rcases List.mem_append.1 hq with hq | hq
  ·exact .inl ⟨q,hq,h2⟩
  ·rw [List.mem_singleton.1 hq] at h2
   exact .inr h2
 ·rintro (⟨q,hq,h2⟩ | h2)
  ·exact ⟨q,List.mem_append_left _ hq,h2⟩
  ·exact ⟨_,List.mem_append_right _ (List.mem_singleton.2 rfl),h2⟩
theorem each_next {w:Wd} {sel:List UInt8} {o:Ob} {n:Nat} {one b:GS} {many:Bool} (h:BX (o.slots.getD n default) = true) (hb:b = Bo (OI w sel (Ay w (o.slots.getD n default).v).1 n).2) (hI:EachI w sel o n one many) :
  EachI w sel o (n + 1) (if b.kind = 1 then b else one) (many || (b.kind == 2 || (b.kind == 1 && (one.kind == 1 && b.holder != one.holder)))):=by
 have hn:=(XJ w sel (Ay w (o.slots.getD n default).v).1 n).Zb;have ho:=(XJ w sel (Ay w (o.slots.getD n default).v).1 n).vis.ok;have hu:=eachU_next (w:=w) (sel:=sel) h;generalize (OI w sel (Ay w (o.slots.getD n default).v).1 n).2 = hs at *;subst hb;refine ⟨fun hm=>?_,fun hm=>?_⟩
 ·simp only [Bool.or_eq_true,Bool.and_eq_true,beq_iff_eq,bne_iff_ne] at hm
  rcases hm with hm | hm | ⟨hm,h1,h2⟩
  ·obtain ⟨x,y,h1,h2,h3⟩:=hI.two hm
   exact ⟨x,y,h1,(hu x).2 (.inl h2),(hu y).2 (.inl h3)⟩
  ·rcases hs with _ | ⟨a,_ | ⟨a',t⟩⟩
   ·cases hm
   ·simp [Bo] at hm
   ·simp only [List.map_cons,List.nodup_cons,List.mem_cons] at hn
    exact ⟨a.oid,a'.oid,fun e=>hn.1 (.inl e),(hu _).2 (.inr (by simp)),(hu _).2 (.inr (by simp))⟩
  ·cases hmany:many with
   | true =>
    obtain ⟨x,y,h1,h2,h3⟩:=hI.two hmany;exact ⟨x,y,h1,(hu x).2 (.inl h2),(hu y).2 (.inl h3)⟩
   | false =>
    rcases hI.lone hmany with ⟨h3,_⟩ | ⟨_,h4,_⟩
    ·rw [h3] at h1; cases h1
    ·rcases hs with _ | ⟨a,_ | ⟨a',t⟩⟩
     ·cases hm
     ·exact ⟨a.oid,one.holder,h2,(hu _).2 (.inr (by simp)),(hu _).2 (.inl ((h4 _).2 rfl))⟩
     ·simp [Bo] at hm
 ·simp only [Bool.or_eq_false_iff,Bool.and_eq_false_iff,beq_eq_false_iff_ne,bne_eq_false_iff_eq] at hm
  obtain ⟨hm0,hm1,hm2⟩:=hm
  rcases hs with _ | ⟨a,_ | ⟨a',t⟩⟩
  ·rw [if_neg (by simp [Bo]; decide)]
   have hu':∀ x,EachU w sel o (n + 1) x ↔ EachU w sel o n x:=fun x=>by rw [hu]; simp
   rcases hI.lone hm0 with ⟨h1,h2⟩ | ⟨h1,h2,h3⟩
   ·exact .inl ⟨h1,fun x hx=>h2 x ((hu' x).1 hx)⟩
   ·exact .inr ⟨h1,fun x=>(hu' x).trans (h2 x),h3⟩
  ·rw [if_pos (show (Bo [a]).kind = 1 from rfl)]
   obtain ⟨p,p1,p2,p3⟩:=ho a (by simp);refine .inr ⟨rfl,fun x=>?_,p,p1,p2,p3⟩;rw [hu]
   show _ \/ x ∈ [a.oid] ↔ x = a.oid
   rw [List.mem_singleton];constructor
   ·rintro (hx | hx)
    ·rcases hI.lone hm0 with ⟨h1,h2⟩ | ⟨h1,h2,h3⟩
     ·exact absurd hx (h2 x)
     ·have h4:=(h2 x).1 hx
      rcases hm2 with hm2 | hm2 | hm2
      ·exact absurd rfl hm2
      ·exact absurd h1 hm2
      ·exact h4.trans hm2.symm
    ·exact hx
   ·exact .inr
  ·exact absurd rfl hm1
theorem each_end {w:Wd} {sel:List UInt8} {x:Int} {one:GS} {many:Bool} (hI:EachI w sel (AJ w x) (AJ w x).slots.length one many):(many = true -> (Bo (IH w sel x).2).kind = 2) /\ (many = false -> ED (Bo (IH w sel x).2) one = true):=by
 have D:=Qj w sel x;have hu:∀ y,EachU w sel (AJ w x) (AJ w x).slots.length y ↔ y ∈ (IH w sel x).2.map (·.oid):=fun y=>by
  rw [D.hit];constructor
  ·rintro ⟨q,hq,h1,h2⟩
   exact ⟨rch_of ⟨q,hq,rfl⟩ h1,h2⟩
  ·rintro ⟨h1,h2⟩
   obtain ⟨z,⟨q,hq,rfl⟩,h3⟩:=rch_or h1;exact ⟨q,hq,h3,h2⟩
 have hn:=D.Zb;have ho:=D.vis.ok;generalize (IH w sel x).2 = hs at *;refine ⟨fun hm=>?_,fun hm=>?_⟩
 ·obtain ⟨a,b,h1,h2,h3⟩:=hI.two hm
  rw [hu] at h2 h3
  rcases hs with _ | ⟨c,_ | ⟨c',t⟩⟩
  ·cases h2
  ·have e1:a = c.oid:=by simpa using h2
   have e2:b = c.oid:=by simpa using h3
   exact absurd (e1.trans e2.symm) h1
  ·rfl
 ·rcases hI.lone hm with ⟨h1,h2⟩ | ⟨h1,h2,p,p1,p2,p3⟩
  ·rcases hs with _ | ⟨c,t⟩
   ·simp only [Bo,ED,h1]; rfl
   ·exact absurd ((hu c.oid).2 (by simp)) (h2 _)
  ·rcases hs with _ | ⟨c,_ | ⟨c',t⟩⟩
   ·exact absurd ((hu _).1 ((h2 _).2 rfl)) (by simp)
   ·have e:c.oid = one.holder:=(h2 _).1 ((hu _).2 (by simp))
    obtain ⟨q,q1,q2,q3⟩:=ho c (by simp);rw [e,p1] at q1
    cases q1
    simp [Bo,ED,h1,e,p2,p3,q2,q3]
   ·have e1:c.oid = one.holder:=(h2 _).1 ((hu _).2 (by simp))
    have e2:c'.oid = one.holder:=(h2 _).1 ((hu _).2 (by simp));simp only [List.map_cons,List.nodup_cons,List.mem_cons] at hn;exact absurd (e1.trans e2.symm) fun e=>hn.1 (.inl e)
theorem dir_path {w:Wd} {sel:List UInt8} {tg:Int} {k:Nat} (h:(Bo (OI w sel tg k).2).kind ≠ 0):∃ t,(Bo (OI w sel tg k).2).path = (k:Int) :: t:=by
 have hp:∀ h ∈ (OI w sel tg k).2,[(k:Int)] <+: h.path:=fun h hh=>by
  rcases vis_pre (q:=[(k:Int)]) _ tg [(k:Int)] ([],[]) (List.prefix_refl _) h hh with h1 | h1
  ·cases h1
  ·exact h1
 generalize (OI w sel tg k).2 = hs at *
 rcases hs with _ | ⟨c,_ | ⟨c',t⟩⟩
 ·exact absurd rfl h
 ·obtain ⟨t,ht⟩:=hp c (by simp)
  exact ⟨t,ht.symm⟩
 ·obtain ⟨t,ht⟩:=hp c (by simp)
  exact ⟨t,ht.symm⟩
end Go.Proofs.Tryz

namespace Go.Proofs.Tryz
open Go.PM
end Go.Proofs.Tryz

namespace Go.Proofs.Tryz
open Go.PM
attribute [local irreducible] BM BP Bq Ci AU AO Az
end Go.Proofs.Tryz
