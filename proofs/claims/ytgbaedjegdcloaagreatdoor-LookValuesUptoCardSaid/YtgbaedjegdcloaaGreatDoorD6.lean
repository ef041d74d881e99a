/- A part of the proof: see the last text. -/
import Derived.Test.YtgbaedjegdcloaaGreatDoorD5
set_option linter.unusedVariables false
set_option linter.unusedSimpArgs false
set_option linter.unusedSectionVars false
set_option linter.defProp false
set_option maxRecDepth 100000
set_option maxHeartbeats 4000000
namespace Go.Proofs.Tryz
open Go.PM
theorem Lh {w:Wd} {v:Vl} (h:(Ay w v).2 = true):(v.k = 4 /\ (Ay w v).1 = v.n /\ 1 <= v.n /\ v.n <= 1099511627776) \/ (v.k = 3 /\ (Ay w v).1 = 6) \/ ((v.k = 1 \/ v.k = 2) /\ (Ay w v).1 = 5):=by
 unfold Ay at h ⊢
 by_cases hb:CA v = true
 ·rw [if_pos hb]
  by_cases h4:v.k = 4
  ·left
   rw [if_pos h4];unfold CA at hb;rw [h4] at hb;simp at hb;exact ⟨h4,rfl,hb.1,hb.2.1⟩
  ·right
   rw [if_neg h4]
   by_cases h3:v.k = 3
   ·rw [if_pos h3]
    exact .inl ⟨h3,rfl⟩
   ·rw [if_neg h3]
    refine .inr ⟨?_,rfl⟩;unfold CA at hb
    by_cases h1:v.k = 1
    ·exact .inl h1
    ·by_cases h2:v.k = 2
     ·exact .inr h2
     ·simp [h1,h2,h3,h4] at hb
 ·rw [if_neg hb] at h
  cases h
theorem QF {w:Wd} {v:Vl} (h:(Ay w v).2 = true):1 <= (Ay w v).1 /\ (Ay w v).1 <= 1099511627776:=by
 rcases Lh h with ⟨_,h1,h2,h3⟩ | ⟨_,h1⟩ | ⟨_,h1⟩
 ·rw [h1]; exact ⟨h2,h3⟩
 ·rw [h1]; exact ⟨by decide,by decide⟩
 ·rw [h1]; exact ⟨by decide,by decide⟩
theorem J4 {w:Wd} (hv:B6 w) {v:Vl} (h:(Ay w v).2 = true):Ay w ⟨4,(Ay w v).1,[]⟩ = ((Ay w v).1,true):=by
 have h1:=QF h;have h2:=Gl hv h;generalize (Ay w v).1 = n at *;have hb:CA ⟨4,n,[]⟩ = true:=H7 h1.1 h1.2;unfold Ay;rw [if_pos hb,if_pos rfl];exact Prod.ext rfl h2
theorem QK {w:Wd} {v:Vl} {sel:List UInt8} (he:Bg w v sel = 0):Bg w ⟨4,(Ay w v).1,[]⟩ sel = 0:=by
 obtain ⟨h1,h2,h3⟩:=Fk he;unfold Bg;rw [if_pos h1,J4 (Ck.1 h1) h2,if_pos rfl,h3];rfl
end Go.Proofs.Tryz

namespace Go.Proofs.Tryz
open Go.PM
attribute [local irreducible] BM BP Bq Ci AU AO Az
noncomputable def Ga (w:Wd) (v:Vl):Int × Int:=if CP w = true then (if (Ay w v).2 = true then ((Ay w v).1,0) else (0,1)) else (0,50)
section
attribute [local go_sem] C2 JV Cy ntmps30
theorem c30 (w:Wd) (v:Vl) (hw:Cw w) (hv:Cm v):Af prog 30 [C2 w,Cy v] (· = .tup [.val (.int .i64 (Ga w v).1),.val (.int .i64 (Ga w v).2)]):=by
 have h56:=c56 w v hv
 by_cases hvw:CP w = true
 ·have h57:=Rt w hw hvw
  have e:Ga w v = if (Ay w v).2 = true then ((Ay w v).1,0) else (0,1):=if_pos hvw
  rw [e];generalize Ay w v = p at *;obtain ⟨n,b⟩:=p;clear e hvw
  cases b
  ·simp only [Bool.false_eq_true,if_false]
   refine Ag.intro func30 (by decide) rfl (Bj ?_);refine Aa.Ad (Z0 ?_);refine Aa.Ad (Z0 ?_);refine Af.eq (h57) rfl (Z0 ?_);refine Aa.seq ?_;refine Aa.Ad (Z0 ?_);refine Aa.Ax rfl ?_;refine Aa.skip (Z0 ?_);refine Aa.Ad (Z0 ?_);refine Af.eq (h56) rfl (Z0 ?_);refine Aa.seq ?_;refine Aa.Ad (Z0 ?_);refine Aa.Ar rfl ?_;refine Aa.Ad (Z0 ?_);refine Aa.ret (Z0 ?_);exact Ae rfl (Z0 trivial)
  ·simp only [if_true]
   refine Ag.intro func30 (by decide) rfl (Bj ?_);refine Aa.Ad (Z0 ?_);refine Aa.Ad (Z0 ?_);refine Af.eq (h57) rfl (Z0 ?_);refine Aa.seq ?_;refine Aa.Ad (Z0 ?_);refine Aa.Ax rfl ?_;refine Aa.skip (Z0 ?_);refine Aa.Ad (Z0 ?_);refine Af.eq (h56) rfl (Z0 ?_);refine Aa.seq ?_;refine Aa.Ad (Z0 ?_);refine Aa.Ax rfl ?_;refine Aa.skip (Z0 ?_);refine Aa.Ad (Z0 ?_);refine Aa.ret (Z0 ?_);exact Ae rfl (Z0 trivial)
 ·have h57:=adv w hw (by simpa using hvw)
  rw [show Ga w v = (0,50) from if_neg hvw];refine Ag.intro func30 (by decide) rfl (Bj ?_);refine Aa.Ad (Z0 ?_);refine Aa.Ad (Z0 ?_);refine Af.eq (h57) rfl (Z0 ?_);refine Aa.seq ?_;refine Aa.Ad (Z0 ?_);refine Aa.Ar rfl ?_;refine Aa.Ad (Z0 ?_);refine Aa.ret (Z0 ?_);exact Ae rfl (Z0 trivial)
end
theorem WH {w:Wd} {v:Vl} (h:CP w = true) (h2:(Ay w v).2 = true):Ga w v = ((Ay w v).1,0):=(if_pos h).trans (if_pos h2)
theorem Q7 {w:Wd} {v:Vl} {sel:List UInt8} (he:Bg w v sel = 0):DY w ⟨4,(Ay w v).1,[]⟩ sel = DY w v sel:=by
 obtain ⟨h1,h2,h3⟩:=Fk he;unfold DY;rw [if_pos he,if_pos (QK he),J4 (Ck.1 h1) h2]
theorem RL (f:GS):E4 f f = true:=by simp [E4,GD]
section
attribute [local go_sem] C2 JV Cy HG ntmps9
theorem c9n (w:Wd) (v:Vl) (sel:List UInt8) (hw:Cw w) (hvl:Cm v) (hs:sel.length <= 1048576) (he:Bg w v sel ≠ 0):Af prog 9 [C2 w,Cy v,.val (.string (Ak sel))] (· = .val (.bool true)):=by
 have h16:=c16 w v sel hw hvl (by omega);rw [show DY w v sel = (default,Bg w v sel) from if_neg he] at h16;have h30:=c30 w v hw hvl;have hq:((Ga w v).2 == Bg w v sel) = true \/ ((Ga w v).2 = 0 /\ Bg w v sel = 1):=by
  unfold Ga Bg
  by_cases h1:CP w = true
  ·rw [if_pos h1,if_pos h1]
   by_cases h2:(Ay w v).2 = true
   ·rw [if_pos h2,if_pos h2]
    right;refine ⟨rfl,?_⟩;unfold Bg at he;rw [if_pos h1,if_pos h2] at he
    split
    ·rfl
    ·rename_i h3; rw [if_neg h3] at he; exact absurd rfl he
   ·rw [if_neg h2,if_neg h2]; exact .inl rfl
  ·rw [if_neg h1,if_neg h1]; exact .inl rfl
 have hb:(Bg w v sel != 0) = true:=by simpa using he
 generalize Bg w v sel = e at *;generalize Ga w v = p at *;obtain ⟨n,f⟩:=p
 rcases hq with hq | ⟨hq,rfl⟩
 ·simp only at hq
  refine Ag.intro func9 (by decide) rfl (VY hb hq ?_);refine Aa.Ad (Z2 hb hq ?_);refine Aa.Ad (Z2 hb hq ?_);refine Af.eq (c14) rfl (Z2 hb hq ?_);refine Aa.seq ?_;refine Aa.Ad (Z2 hb hq ?_);refine Af.eq (c15 w hw) rfl (Z2 hb hq ?_);refine Aa.cond rfl (fun g33=>?_) (fun g33=>?_);refine Aa.Ad (Z3 hb hq g33 ?_);refine Aa.ret (Z3 hb hq g33 ?_);exact Ae rfl (Z3 hb hq g33 trivial);refine Aa.skip (Z3 hb hq g33 ?_);refine Aa.Ad (Z3 hb hq g33 ?_);refine Af.eq (h16) rfl (Z3 hb hq g33 ?_);refine Aa.Ad (Z3 hb hq g33 ?_);refine Af.eq (h30) rfl (Z3 hb hq g33 ?_);refine Aa.seq ?_;refine Aa.Ad (Z3 hb hq g33 ?_);refine Aa.Ar rfl ?_;refine Aa.Ad (Z3 hb hq g33 ?_);refine Aa.ret (Z3 hb hq g33 ?_);exact Ae rfl (Z3 hb hq g33 trivial)
 ·simp only at hq
  subst hq;refine Ag.intro func9 (by decide) rfl (Bj ?_);refine Aa.Ad (Z0 ?_);refine Aa.Ad (Z0 ?_);refine Af.eq (c14) rfl (Z0 ?_);refine Aa.seq ?_;refine Aa.Ad (Z0 ?_);refine Af.eq (c15 w hw) rfl (Z0 ?_);refine Aa.cond rfl (fun g33=>?_) (fun g33=>?_);refine Aa.Ad (Z1 g33 ?_);refine Aa.ret (Z1 g33 ?_);exact Ae rfl (Z1 g33 trivial);refine Aa.skip (Z1 g33 ?_);refine Aa.Ad (Z1 g33 ?_);refine Af.eq (h16) rfl (Z1 g33 ?_);refine Aa.Ad (Z1 g33 ?_);refine Af.eq (h30) rfl (Z1 g33 ?_);refine Aa.seq ?_;refine Aa.Ad (Z1 g33 ?_);refine Aa.Ar rfl ?_;refine Aa.Ad (Z1 g33 ?_);refine Aa.ret (Z1 g33 ?_);exact Ae rfl (Z1 g33 trivial)
end
section
attribute [local go_sem] C2 JV Cy HG ntmps9
theorem c9y (w:Wd) (v:Vl) (sel:List UInt8) (hw:Cw w) (hvl:Cm v) (hs:sel.length <= 1048576) (he:Bg w v sel = 0):Af prog 9 [C2 w,Cy v,.val (.string (Ak sel))] (· = .val (.bool true)):=by
 obtain ⟨hvw,hst,har⟩:=Fk he;have hv:=Ck.1 hvw;have h16:=c16 w v sel hw hvl (by omega);have hin:=QF hst;have h16':=c16 w ⟨4,(Ay w v).1,[]⟩ sel hw ⟨by simp,by unfold Cn; simp only; omega,by unfold Cn; simp only; omega⟩ (by omega);rw [Q7 he] at h16';rw [show DY w v sel = (Bo (seen w sel (Ay w v).1).2,0) from if_pos he] at h16 h16';have h30:=c30 w v hw hvl;rw [WH hvw hst] at h30;have hol:=MR hw hv (sel:=sel) (Gl hv hst);have h22:=c22 (Bo (seen w sel (Ay w v).1).2) (Bo (seen w sel (Ay w v).1).2) hol.1 hol.2 hol.1 hol.2;rw [RL] at h22;have hk:=Lh hst;generalize Bo (seen w sel (Ay w v).1).2 = A at *;generalize Ay w v = p at *;obtain ⟨n,b⟩:=p;simp only at *;obtain ⟨k,m,t⟩:=v;simp only at hk;clear he hst hvw hv har hin hol
 rcases hk with ⟨rfl,rfl,_,_⟩ | ⟨rfl,rfl⟩ | ⟨rfl | rfl,rfl⟩
 ·refine Ag.intro func9 (by decide) rfl (Bj ?_)
  refine Aa.Ad (Z0 ?_);refine Aa.Ad (Z0 ?_);refine Af.eq (c14) rfl (Z0 ?_);refine Aa.seq ?_;refine Aa.Ad (Z0 ?_);refine Af.eq (c15 w hw) rfl (Z0 ?_);refine Aa.cond rfl (fun g33=>?_) (fun g33=>?_);refine Aa.Ad (Z1 g33 ?_);refine Aa.ret (Z1 g33 ?_);exact Ae rfl (Z1 g33 trivial);refine Aa.skip (Z1 g33 ?_);refine Aa.Ad (Z1 g33 ?_);refine Af.eq (h16) rfl (Z1 g33 ?_);refine Aa.Ad (Z1 g33 ?_);refine Af.eq (h30) rfl (Z1 g33 ?_);refine Aa.seq ?_;refine Aa.Ad (Z1 g33 ?_);refine Aa.Ax rfl ?_;refine Aa.skip (Z1 g33 ?_);refine Aa.Ad (Z1 g33 ?_);refine Ao ?_;refine Aa.seq ?_;refine Aa.Ad (Z1 g33 ?_);refine Ao ?_;refine Aa.block ?_;refine Aa.seq ?_;refine Aa.Ad (Z1 g33 ?_);refine Aa.Ax rfl ?_;refine Aa.region (Z1 g33 ?_);refine Aa.Ax rfl ?_;refine Aa.Ad (Z1 g33 ?_);refine Aa.Ax rfl ?_;refine Aa.skip (Z1 g33 ?_);refine Aa.BQ [(1,.free),(2,.free),(3,.free),(0,.read),(4,.free),(5,.free),(6,.free),(7,.free),(8,.upd),(9,.set),(10,.free)] mixed (by kernel_rfl) (Z1 g33 ?_);refine AI.go (c20 _) rfl (Z1 g33 ?_);refine AI.go (h16') rfl (Z1 g33 ?_);refine And.intro (by (repeat first | exact Ai.refl _ | exact Ai.nil _ | refine Ai.same ?_ | refine Ai.row ?_ | refine Ai.ON ?_ | refine Ai.F8 ?_ | refine Ai.F9 ?_)) ?_;refine Aa.Ad (Z1 g33 ?_);refine Af.eq (h22) rfl (Z1 g33 ?_);refine Aa.ret (Z1 g33 ?_);exact Ae rfl (Z1 g33 trivial)
 ·refine Ag.intro func9 (by decide) rfl (Bj ?_)
  refine Aa.Ad (Z0 ?_);refine Aa.Ad (Z0 ?_);refine Af.eq (c14) rfl (Z0 ?_);refine Aa.seq ?_;refine Aa.Ad (Z0 ?_);refine Af.eq (c15 w hw) rfl (Z0 ?_);refine Aa.cond rfl (fun g33=>?_) (fun g33=>?_);refine Aa.Ad (Z1 g33 ?_);refine Aa.ret (Z1 g33 ?_);exact Ae rfl (Z1 g33 trivial);refine Aa.skip (Z1 g33 ?_);refine Aa.Ad (Z1 g33 ?_);refine Af.eq (h16) rfl (Z1 g33 ?_);refine Aa.Ad (Z1 g33 ?_);refine Af.eq (h30) rfl (Z1 g33 ?_);refine Aa.seq ?_;refine Aa.Ad (Z1 g33 ?_);refine Aa.Ax rfl ?_;refine Aa.skip (Z1 g33 ?_);refine Aa.Ad (Z1 g33 ?_);refine Ao ?_;refine Aa.seq ?_;refine Aa.Ad (Z1 g33 ?_);refine Ao ?_;refine Aa.block ?_;refine Aa.seq ?_;refine Aa.Ad (Z1 g33 ?_);refine Aa.Ax rfl ?_;refine Aa.region (Z1 g33 ?_);refine Aa.Ax rfl ?_;refine Aa.Ad (Z1 g33 ?_);refine Aa.Ar rfl ?_;refine Aa.region (Z1 g33 ?_);refine Aa.BQ [(1,.free),(2,.free),(3,.free),(0,.read),(4,.free),(5,.free),(6,.free),(7,.free),(8,.upd),(9,.set),(10,.free)] mixed (by kernel_rfl) (Z1 g33 ?_);refine AI.go (c20 _) rfl (Z1 g33 ?_);refine AI.go (h16') rfl (Z1 g33 ?_);refine And.intro (by (repeat first | exact Ai.refl _ | exact Ai.nil _ | refine Ai.same ?_ | refine Ai.row ?_ | refine Ai.ON ?_ | refine Ai.F8 ?_ | refine Ai.F9 ?_)) ?_;refine Aa.Ad (Z1 g33 ?_);refine Af.eq (h22) rfl (Z1 g33 ?_);refine Aa.ret (Z1 g33 ?_);exact Ae rfl (Z1 g33 trivial)
 ·refine Ag.intro func9 (by decide) rfl (Bj ?_)
  refine Aa.Ad (Z0 ?_);refine Aa.Ad (Z0 ?_);refine Af.eq (c14) rfl (Z0 ?_);refine Aa.seq ?_;refine Aa.Ad (Z0 ?_);refine Af.eq (c15 w hw) rfl (Z0 ?_);refine Aa.cond rfl (fun g33=>?_) (fun g33=>?_);refine Aa.Ad (Z1 g33 ?_);refine Aa.ret (Z1 g33 ?_);exact Ae rfl (Z1 g33 trivial);refine Aa.skip (Z1 g33 ?_);refine Aa.Ad (Z1 g33 ?_);refine Af.eq (h16) rfl (Z1 g33 ?_);refine Aa.Ad (Z1 g33 ?_);refine Af.eq (h30) rfl (Z1 g33 ?_);refine Aa.seq ?_;refine Aa.Ad (Z1 g33 ?_);refine Aa.Ax rfl ?_;refine Aa.skip (Z1 g33 ?_);refine Aa.Ad (Z1 g33 ?_);refine Ao ?_;refine Aa.seq ?_;refine Aa.Ad (Z1 g33 ?_);refine Ao ?_;refine Aa.block ?_;refine Aa.seq ?_;refine Aa.Ad (Z1 g33 ?_);refine Aa.Ar rfl ?_;refine Aa.skip (Z1 g33 ?_);refine Aa.Ar rfl ?_;refine Aa.region (Z1 g33 ?_);refine Aa.BQ [(1,.free),(2,.free),(3,.free),(0,.read),(4,.free),(5,.free),(6,.free),(7,.free),(8,.upd),(9,.set),(10,.free)] mixed (by kernel_rfl) (Z1 g33 ?_);refine AI.go (c20 _) rfl (Z1 g33 ?_);refine AI.go (h16') rfl (Z1 g33 ?_);refine And.intro (by (repeat first | exact Ai.refl _ | exact Ai.nil _ | refine Ai.same ?_ | refine Ai.row ?_ | refine Ai.ON ?_ | refine Ai.F8 ?_ | refine Ai.F9 ?_)) ?_;refine Aa.Ad (Z1 g33 ?_);refine Af.eq (h22) rfl (Z1 g33 ?_);refine Aa.ret (Z1 g33 ?_);exact Ae rfl (Z1 g33 trivial)
 ·refine Ag.intro func9 (by decide) rfl (Bj ?_)
  refine Aa.Ad (Z0 ?_);refine Aa.Ad (Z0 ?_);refine Af.eq (c14) rfl (Z0 ?_);refine Aa.seq ?_;refine Aa.Ad (Z0 ?_);refine Af.eq (c15 w hw) rfl (Z0 ?_);refine Aa.cond rfl (fun g33=>?_) (fun g33=>?_);refine Aa.Ad (Z1 g33 ?_);refine Aa.ret (Z1 g33 ?_);exact Ae rfl (Z1 g33 trivial);refine Aa.skip (Z1 g33 ?_);refine Aa.Ad (Z1 g33 ?_);refine Af.eq (h16) rfl (Z1 g33 ?_);refine Aa.Ad (Z1 g33 ?_);refine Af.eq (h30) rfl (Z1 g33 ?_);refine Aa.seq ?_;refine Aa.Ad (Z1 g33 ?_);refine Aa.Ax rfl ?_;refine Aa.skip (Z1 g33 ?_);refine Aa.Ad (Z1 g33 ?_);refine Ao ?_;refine Aa.seq ?_;refine Aa.Ad (Z1 g33 ?_);refine Ao ?_;refine Aa.block ?_;refine Aa.seq ?_;refine Aa.Ad (Z1 g33 ?_);refine Aa.Ax rfl ?_;refine Aa.region (Z1 g33 ?_);refine Aa.Ar rfl ?_;refine Aa.region (Z1 g33 ?_);refine Aa.BQ [(1,.free),(2,.free),(3,.free),(0,.read),(4,.free),(5,.free),(6,.free),(7,.free),(8,.upd),(9,.set),(10,.free)] mixed (by kernel_rfl) (Z1 g33 ?_);refine AI.go (c20 _) rfl (Z1 g33 ?_);refine AI.go (h16') rfl (Z1 g33 ?_);refine And.intro (by (repeat first | exact Ai.refl _ | exact Ai.nil _ | refine Ai.same ?_ | refine Ai.row ?_ | refine Ai.ON ?_ | refine Ai.F8 ?_ | refine Ai.F9 ?_)) ?_;refine Aa.Ad (Z1 g33 ?_);refine Af.eq (h22) rfl (Z1 g33 ?_);refine Aa.ret (Z1 g33 ?_);exact Ae rfl (Z1 g33 trivial)
end
theorem c9 (w:Wd) (v:Vl) (sel:List UInt8) (hw:Cw w) (hvl:Cm v) (hs:sel.length <= 1048576):Af prog 9 [C2 w,Cy v,.val (.string (Ak sel))] (· = .val (.bool true)):=by
 by_cases he:Bg w v sel = 0
 ·exact c9y w v sel hw hvl hs he
 ·exact c9n w v sel hw hvl hs he
end Go.Proofs.Tryz
