/- A part of the proof: see the last text. -/
import Derived.Test.YtgbaedjegdcloaaGreatDoorD5
set_option linter.unusedVariables false
set_option linter.unusedSimpArgs false
set_option linter.unusedSectionVars false
set_option linter.defProp false
set_option maxRecDepth 100000
set_option maxHeartbeats 4000000
namespace Go.PM
section
variable {α:Type} {d:α} {p:α -> Bool} {l:List α} {i:Nat}
theorem any_here (hp:p (l.getD i d) = true) (hi:i < l.length):l.any p = true:=List.any_eq_true.2 ⟨_,Bs hi,hp⟩
theorem any_none (hn:∀ j,j < i -> p (l.getD j d) = false) (hi:l.length <= i):l.any p = false:=by
 rw [List.any_eq_false];intro x hx;obtain ⟨j,hj,rfl⟩:=List.mem_iff_getElem.1 hx;have:=hn j (by omega);rw [List.getD_eq_getElem?_getD,List.getElem?_eq_getElem hj] at this
 simpa using this
end
end Go.PM

namespace Go.Proofs.Tryz
open Go.PM
end Go.Proofs.Tryz

namespace Go.Proofs.Tryz
open Go.PM
attribute [local irreducible] BM BP Bq Ci AU AO Az
noncomputable def Ga (w:Wd) (v:Vl):Int × Int:=if CP w = true then (if (Ay w v).2 = true then ((Ay w v).1,0) else (0,1)) else (0,50)
section
attribute [local go_sem] C2 JV Cy ntmps30
theorem c30 (w:Wd) (v:Vl) (hw:Cw w) (hv:Cm v):Af prog 30 [C2 w,Cy v] (· = .tup [.val (.int .i64 (Ga w v).1),.val (.int .i64 (Ga w v).2)]):=by
 have h56:=c56 w v hv
 by_cases hvw:CP w = true
 ·have h57:=Rt w hw hvw
  have e:Ga w v = if (Ay w v).2 = true then ((Ay w v).1,0) else (0,1):=if_pos hvw
  rw [e];generalize Ay w v = p at *;obtain ⟨n,b⟩:=p;clear e hvw
  cases b
  ·simp only [Bool.false_eq_true,if_false]
   refine Ag.intro func30 (by decide) rfl (Bj ?_);refine Aa.Ad (Z0 ?_);refine Aa.Ad (Z0 ?_);refine Af.eq (h57) rfl (Z0 ?_);refine Aa.seq ?_;refine Aa.Ad (Z0 ?_);refine Aa.Ax rfl ?_;refine Aa.skip (Z0 ?_);refine Aa.Ad (Z0 ?_);refine Af.eq (h56) rfl (Z0 ?_);refine Aa.seq ?_;refine Aa.Ad (Z0 ?_);refine Aa.Ar rfl ?_;refine Aa.Ad (Z0 ?_);refine Aa.ret (Z0 ?_);exact Ae rfl (Z0 trivial)
  ·simp only [if_true]
   refine Ag.intro func30 (by decide) rfl (Bj ?_);refine Aa.Ad (Z0 ?_);refine Aa.Ad (Z0 ?_);refine Af.eq (h57) rfl (Z0 ?_);refine Aa.seq ?_;refine Aa.Ad (Z0 ?_);refine Aa.Ax rfl ?_;refine Aa.skip (Z0 ?_);refine Aa.Ad (Z0 ?_);refine Af.eq (h56) rfl (Z0 ?_);refine Aa.seq ?_;refine Aa.Ad (Z0 ?_);refine Aa.Ax rfl ?_;refine Aa.skip (Z0 ?_);refine Aa.Ad (Z0 ?_);refine Aa.ret (Z0 ?_);exact Ae rfl (Z0 trivial)
 ·have h57:=adv w hw (by simpa using hvw)
  rw [show Ga w v = (0,50) from if_neg hvw];refine Ag.intro func30 (by decide) rfl (Bj ?_);refine Aa.Ad (Z0 ?_);refine Aa.Ad (Z0 ?_);refine Af.eq (h57) rfl (Z0 ?_);refine Aa.seq ?_;refine Aa.Ad (Z0 ?_);refine Aa.Ar rfl ?_;refine Aa.Ad (Z0 ?_);refine Aa.ret (Z0 ?_);exact Ae rfl (Z0 trivial)
end
theorem inB_any (l:List Int) (n:Int):Hk n l = l.any (· == n):=by
 rw [Bool.eq_iff_iff,List.any_eq_true];simp [Hk]
theorem WH {w:Wd} {v:Vl} (h:CP w = true) (h2:(Ay w v).2 = true):Ga w v = ((Ay w v).1,0):=(if_pos h).trans (if_pos h2)
end Go.Proofs.Tryz

namespace Go.Proofs.Tryz
open Go.PM
attribute [local irreducible] BM BP Bq Ci AU AO Az
section
attribute [local go_sem] BO ntmps24
theorem c24r (B:List AV) (l:List Int) (n:Int) (hB:AZ 2 B = true) (hl:l.length <= 1000000000):Ag prog 24 [.hsl 1 l.length 0 l.length,.val (.int .i64 n)] [.cells B,.row true l.length 1 (is l)] (fun r h=>r = .ret (.val (.bool (Hk n l))) /\ h = [.cells B,.row true l.length 1 (is l)]):=by
 rw [inB_any];refine Ag.intro func24 (by decide) rfl (Bj ?_);refine Aa.Ad (Z0 ?_);refine Aa.seq ?_;refine Aa.Ad (Z0 ?_);refine Aa.block ?_;refine Aa.A0 (fun i:Nat=>[(5,.val (.int .i64 (i:Nat)))]) [0,1] (fun i:Nat=>[.cells B,.row true l.length 1 (is l)]) (fun i:Nat=>i <= l.length /\ ∀ j,j < i -> (fun m:Int=>m == n) (l.getD j 0) = false) (fun i:Nat=>l.length - i) (0) ?_ rfl ?_ ?_;refine ⟨?_,?_⟩ <;> omega
 refine ⟨rfl,?_,?_,rfl,?_⟩;refine C1 ?_;trivial;refine C1 ?_
 assumption
 exact C1 trivial;rintro i hj;obtain ⟨hi,hn⟩:=hj;refine Z0 ?_;refine Aa.seq ?_;refine Aa.Ad (Z0 ?_);refine Aa.cond rfl (fun g1=>?_) (fun g1=>?_);have d1:=An g1;refine Aa.skip (Z1 g1 ?_);refine Aa.seq (Aa.block ?_);refine Aa.Ad (Z1 g1 ?_);refine Ao ?_;refine And.intro (by assumption) ?_;refine Ao (Ao ?_);simp -implicitDefEqProofs (dsimp:=false) (disch:=omega) only [i64_in,gd];refine Z1 g1 ?_;refine Aa.cond rfl (fun g2=>?_) (fun g2=>?_);have d2:=AB g2;refine Aa.Ad (Z2 g1 g2 ?_);refine Aa.ret (Z2 g1 g2 ?_);rotate_left;have d2:=Aq g2;refine Aa.skip (Z2 g1 g2 ?_);refine Aa.region (Z2 g1 g2 ?_);refine Bd ?_;refine ⟨i + 1,?_⟩;constructor;constructor;omega;rotate_left;constructor;omega;refine ⟨rfl,?_,?_,rfl,?_⟩;refine Cv g1 g2 ?_;trivial;refine Cv g1 g2 ?_
 assumption
 exact Cv g1 g2 trivial;have d1:=Aj g1;refine Aa.exit (Z1 g1 ?_);refine Aa.Ad (Z1 g1 ?_);refine Aa.ret (Z1 g1 ?_);rotate_left
 all_goals first | exact hB | (rw [any_here (p:=fun m:Int=>m == n) g2 (by omega)]) | exact Ed (p:=fun m:Int=>m == n) hn g2 | (rw [any_none (p:=fun m:Int=>m == n) hn (by omega)])
end
end Go.Proofs.Tryz

namespace Go.Proofs.Tryz
open Go.PM
attribute [local irreducible] BM BP Bq Ci AU AO Az
theorem follow_here {w:Wd} {z y:Int} {p:List Int} {i:Nat} (hi:i < p.length) (h:Er w z (p.drop i) = some y):(0 <= p.getD i 0 /\ p.getD i 0 < ((AJ w z).slots.length:Int)) /\ BX ((AJ w z).slots.getD (p.getD i 0).toNat default) = true /\ Er w (Ay w ((AJ w z).slots.getD (p.getD i 0).toNat default).v).1 (p.drop (i + 1)) = some y:=by
 have e:p.drop i = p.getD i 0 :: p.drop (i + 1):=by
  rw [List.drop_eq_getElem_cons hi];simp [List.getD_eq_getElem?_getD,hi]
 rw [e,Er] at h
 split at h
 ·rename_i hc
  exact ⟨hc.1,hc.2,h⟩
 ·cases h
section
attribute [local go_sem] C2 JV BO Du H9 Cu ntmps36
theorem c36y (w:Wd) (hw:Cw w) (hvw:CP w = true) (x y:Int) (p:List Int) (hx:(Bi w x).isSome = true) (hp:p.length <= 1000000000) (hf:Er w x p = some y):Af prog 36 [C2 w,.val (.int .i64 x),.sl false (is p)] (· = .tup [.val (.int .i64 y),.val (.int .i64 0)]):=by
 have hv:=Ck.1 hvw;have h57:=Rt w hw hvw;have hO:∀ z,(Bi w z).isSome = true -> (AJ w z).slots.length <= 1048576 /\ ∀ i:Nat,i < (AJ w z).slots.length -> Cm ((AJ w z).slots.getD i default).v:=fun z hz=>by
  have h0:=hw.OZ _ (BV hz).1;exact ⟨h0.slots,fun i hi=>h0.ss _ (Bs hi)⟩
 have hN:∀ z,(Bi w z).isSome = true -> ∀ i:Nat,i < (AJ w z).slots.length -> BX ((AJ w z).slots.getD i default) = true -> (Bi w (Ay w ((AJ w z).slots.getD i default).v).1).isSome = true:=fun z hz i hi hl =>
  KC hv hz (Eh.2 ⟨hi,hl,rfl⟩:(i,(Ay w ((AJ w z).slots.getD i default).v).1) ∈ Ca w (AJ w z))
 clear hv hvw;refine Ag.intro func36 (by decide) rfl (D5 hx ?_);refine Aa.Ad (Z1 hx ?_);refine Aa.Ad (Z1 hx ?_);refine Af.eq (h57) rfl (Z1 hx ?_);refine Aa.seq ?_;refine Aa.Ad (Z1 hx ?_);refine Aa.Ax rfl ?_;refine Aa.skip (Z1 hx ?_);refine Aa.seq ?_;refine Aa.Ad (Z1 hx ?_);refine Af.eq (RY w _) rfl (Z1 hx ?_);refine Aa.Ad (Z1 hx ?_);refine Aa.Ax rfl ?_;refine Aa.skip (Z1 hx ?_);refine Aa.seq ?_;refine Aa.Ad (Z1 hx ?_);refine Aa.block ?_;refine Aa.A0 (fun x:Nat × Int=>[(34,.val (.int .i64 (x.1:Nat))),(1,.val (.int .i64 x.2))]) [33,32,8] (fun _=>_) (fun x:Nat × Int=>x.1 <= p.length /\ (Bi w x.2).isSome = true /\ Er w x.2 (p.drop x.1) = some y) (fun x:Nat × Int=>p.length - x.1) ((0,x)) ?_ rfl ?_ ?_;refine Z1 hx ?_;rotate_left;refine ⟨rfl,?_,?_,rfl,?_⟩;refine Mr hx ?_;trivial;exact Mr hx trivial;exact Mr hx trivial;rintro ⟨i,z⟩ ⟨hi,hz,hfz⟩;simp only at hi hz hfz;have hoz:=hO z hz;have hnz:=hN z hz;refine Z1 hx ?_;refine Aa.Ad (Z1 hx ?_);refine Aa.seq (Aa.cond rfl (fun g60=>?_) (fun g60=>?_));have d60:=An g60;refine Aa.skip (Z2 hx g60 ?_);refine Aa.seq (Aa.block ?_);refine Aa.Ad (Z2 hx g60 ?_);refine Ao ?_;refine And.intro (by assumption) ?_;simp -implicitDefEqProofs (dsimp:=false) (disch:=omega) only [i64_in,gd];refine Z2 hx g60 ?_;refine Aa.Ad (Z2 hx g60 ?_);refine Af.eq (RY w _) rfl (Z2 hx g60 ?_);refine Aa.seq ?_;refine Aa.Ad (Z2 hx g60 ?_);refine Ap (fun g62=>?_) (fun g62=>?_);have d62:=An g62;refine Z3 hx g60 g62 ?_;refine Aa.Ar rfl ?_
 refine Aa.Ad (Z3 hx g60 g62 ?_);refine Aa.ret (Z3 hx g60 g62 ?_);refine Ae rfl ?_;rotate_left;have d62:=Aj g62;refine Z3 hx g60 g62 ?_;refine Ao ?_;refine Ap (fun g63=>?_) (fun g63=>?_);have d63:=An g63;refine Z4 hx g60 g62 g63 ?_;refine Aa.Ar rfl ?_;refine Aa.Ad (Z4 hx g60 g62 g63 ?_);refine Aa.ret (Z4 hx g60 g62 g63 ?_);refine Ae rfl ?_;rotate_left;have d63:=Aj g63;refine Z4 hx g60 g62 g63 ?_;refine Ao (Ao (Ao ?_));simp -implicitDefEqProofs (dsimp:=false) (disch:=omega) only [i64_in,gd];refine Z4 hx g60 g62 g63 ?_;refine Af.eq (c55 _) rfl (Z4 hx g60 g62 g63 ?_);refine Aa.cond rfl (fun g65=>?_) (fun g65=>?_);refine Aa.Ad (Z5 hx g60 g62 g63 g65 ?_);refine Aa.ret (Z5 hx g60 g62 g63 g65 ?_);refine Ae rfl ?_;rotate_left;refine Aa.skip (Z5 hx g60 g62 g63 g65 ?_);refine Aa.region (Z5 hx g60 g62 g63 g65 ?_);refine Ao (Ao (Ao ?_));simp -implicitDefEqProofs (dsimp:=false) (disch:=omega) only [i64_in,gd];refine Z5 hx g60 g62 g63 g65 ?_;refine Ao ?_;refine Af.eq (c56 w _ ?_) rfl ?_;rotate_left;refine Z5 hx g60 g62 g63 g65 ?_;refine Aa.region (Z5 hx g60 g62 g63 g65 ?_);refine Bd ?_;refine ⟨(i + 1,(Ay w ((AJ w z).slots.getD (p.getD i 0).toNat default).v).1),?_⟩;constructor;constructor;omega;constructor;simp -implicitDefEqProofs (dsimp:=false) only [go_sem,simprocAttr,hx,g60,g62,g63,g65,Nat.le_refl,List.length_cons,List.length_append,List.length_nil];rotate_left;simp -implicitDefEqProofs (dsimp:=false) only [go_sem,simprocAttr,hx,g60,g62,g63,g65,Nat.le_refl,List.length_cons,List.length_append,List.length_nil]
 rotate_left;constructor;omega;refine ⟨rfl,?_,?_,rfl,?_⟩;refine GO hx g60 g62 g63 g65 ?_;trivial;exact GO hx g60 g62 g63 g65 trivial;exact GO hx g60 g62 g63 g65 trivial;have d60:=Aj g60;refine Aa.exit (Z2 hx g60 ?_);refine Aa.Ad (Z2 hx g60 ?_);refine Aa.ret (Z2 hx g60 ?_);refine Ae rfl ?_;rotate_left
 ·exact ⟨Nat.zero_le _,hf⟩
 ·have hF:=follow_here (by omega) hfz
  have:=of_decide_eq_true g62;omega
 ·have hF:=follow_here (by omega) hfz
  have:=of_decide_eq_true g63;omega
 ·have hF:=(follow_here (by omega) hfz).2.1
  unfold BX at hF;rw [hF] at g65
  cases g65
 ·have hF:=follow_here (by omega) hfz
  exact hoz.2 _ (by omega)
 ·have hF:=follow_here (by omega) hfz
  exact hnz _ (by omega) hF.2.1
 ·exact (follow_here (by omega) hfz).2.2
 ·rw [List.drop_of_length_le (by omega),Er] at hfz
  rw [Option.some.inj hfz]
end
section
attribute [local go_sem] H9 ntmps111
theorem c111 (s:HA):Af prog 111 [H9 s] (· = .val (.bool (GM s))):=by
 refine Ag.intro func111 (by decide) rfl (Bj ?_);refine Aa.Ad (Z0 ?_);refine Aa.Ad (Z0 ?_);refine Ao ?_;refine Ap (fun g1=>?_) (fun g1=>?_);have d1:=AB g1;refine Z1 g1 ?_;refine Aa.ret (Z1 g1 ?_);refine Ae rfl ?_;simp only [GM,g1,bo,↓reduceIte];have d1:=Aq g1;refine Z1 g1 ?_;refine Ao ?_;refine Aa.ret (Z1 g1 ?_);refine Ae rfl ?_;simp only [GM,g1,bo,↓reduceIte]
end
noncomputable def matR (o:Ob) (sel:List UInt8):Int × Bool:=match AN o sel with
 | some p=>((p.1:Nat),p.2)
 | none=>(-1,false)
theorem sls_dec (l:List HA) (i:Nat):(Tl l).getD i .dead = if decide ((i:Int) < (l.length:Int)) = true then H9 (l.getD i default) else .dead:=by
 by_cases h:i < l.length
 ·rw [if_pos (by simpa using h)]
  exact Yg h
 ·rw [if_neg (by simpa using h),List.getD_eq_getElem?_getD,List.getElem?_eq_none (by rw [Cu]; omega)]
  rfl
section
attribute [local go_sem] Du H9 Cu sls_dec if_true ntmps72
theorem c72 (o:Ob) (sel:List UInt8) (ho:o.slots.length <= 1048576) (hn:∀ s ∈ o.slots,s.name.length <= 1048576) (hs:sel.length <= 1048576) (hd:∀ i j,j < i -> i < o.slots.length -> (o.slots.getD j default).name ≠ (o.slots.getD i default).name):Af prog 72 [Du o,.val (.string (Ak sel))] (· = .tup [.val (.int .i64 (matR o sel).1),.val (.bool (matR o sel).2)]):=by
 refine Ag.intro func72 (by decide) rfl (Bj ?_);refine Aa.Ad (Z0 ?_);refine Aa.seq ?_;refine Aa.Ad (Z0 ?_);refine Aa.block ?_;refine Aa.A0 (fun i:Nat=>[(6,.val (.int .i64 (i:Nat)))]) [2,1] (fun _=>_) (fun i:Nat=>i <= o.slots.length /\ ∀ j,j < i -> (o.slots.getD j default).name ≠ sel) (fun i:Nat=>o.slots.length - i) (0) ?_ rfl ?_ ?_;refine ⟨?_,?_⟩ <;> omega
 refine ⟨rfl,?_,?_,rfl,?_⟩;refine C1 ?_;trivial;exact C1 trivial;exact C1 trivial;rintro i ⟨hi,hN⟩;refine Z0 ?_;refine Aa.seq ?_;refine Aa.Ad (Z0 ?_);refine Ao ?_;refine Aa.cond rfl (fun g1=>?_) (fun g1=>?_);have d1:=An g1;refine Aa.skip (Z1 g1 ?_);refine Aa.seq (Aa.block ?_);refine Aa.Ad (Z1 g1 ?_);refine Ao (Ao ?_);refine And.intro (by assumption) ?_;refine Ao ?_;refine Aa.cond rfl (fun g2=>?_) (fun g2=>?_);refine Aa.Ad (Z2 g1 g2 ?_);refine Aa.ret (Z2 g1 g2 ?_);refine Ae rfl ?_;rotate_left;refine Aa.skip (Z2 g1 g2 ?_);refine Aa.region (Z2 g1 g2 ?_);refine Bd ?_;refine ⟨i + 1,?_⟩;constructor;constructor;omega;rotate_left;constructor;omega;refine ⟨rfl,?_,?_,rfl,?_⟩;refine Cv g1 g2 ?_;trivial;exact Cv g1 g2 trivial;exact Cv g1 g2 trivial;have d1:=Aj g1;refine Aa.exit (Z1 g1 ?_);refine Aa.seq ?_;refine Aa.Ad (Z1 g1 ?_);refine Aa.block ?_;refine Aa.A0 (fun i:Nat=>[(7,.val (.int .i64 (i:Nat)))]) [6,2,1] (fun _=>_) (fun i:Nat=>i <= o.slots.length /\ ∀ j,j < i -> CQ (o.slots.getD j default) sel = false) (fun i:Nat=>o.slots.length - i) (0) ?_ rfl ?_ ?_;refine ⟨?_,?_⟩ <;> omega
 refine ⟨rfl,?_,?_,rfl,?_⟩;refine Mr g1 ?_;trivial;exact Mr g1 trivial;exact Mr g1 trivial;rintro i ⟨hi2,hM⟩;refine Z1 g1 ?_;refine Aa.seq ?_;refine Aa.Ad (Z1 g1 ?_);refine Ao ?_;refine Aa.cond rfl (fun g3=>?_) (fun g3=>?_);have d3:=An g3;refine Aa.skip (Z2 g1 g3 ?_);refine Aa.seq (Aa.block ?_);refine Aa.Ad (Z2 g1 g3 ?_);refine Ao (Ao ?_);refine And.intro (by assumption) ?_;refine Af.eq (c111 (o.slots.getD i default)) rfl (Z2 g1 g3 ?_);refine Ap (fun g5=>?_) (fun g5=>?_);refine Z3 g1 g3 g5 ?_;refine Ao (Ao ?_);refine And.intro (by assumption) ?_;refine Ao ?_;constructor;rotate_left;refine Aa.cond rfl (fun g6=>?_) (fun g6=>?_);refine Aa.Ad (Z4 g1 g3 g5 g6 ?_);refine Aa.ret (Z4 g1 g3 g5 g6 ?_);refine Ae rfl ?_;rotate_left;refine Aa.skip (Z4 g1 g3 g5 g6 ?_);refine Aa.region (Z4 g1 g3 g5 g6 ?_);refine Bd ?_;refine ⟨i + 1,?_⟩;constructor;constructor;omega;rotate_left;constructor;omega;refine ⟨rfl,?_,?_,rfl,?_⟩;refine Mv g1 g3 g5 g6 ?_;trivial;exact Mv g1 g3 g5 g6 trivial;exact Mv g1 g3 g5 g6 trivial;refine Z3 g1 g3 g5 ?_;refine Aa.Ax rfl ?_;refine Aa.skip (Z3 g1 g3 g5 ?_);refine Aa.region (Z3 g1 g3 g5 ?_);refine Bd ?_;refine ⟨i + 1,?_⟩;constructor;constructor;omega;rotate_left;constructor;omega;refine ⟨rfl,?_,?_,rfl,?_⟩;refine ME g1 g3 g5 ?_;trivial;exact ME g1 g3 g5 trivial;exact ME g1 g3 g5 trivial;have d3:=Aj g3;refine Aa.exit (Z2 g1 g3 ?_);refine Aa.Ad (Z2 g1 g3 ?_);refine Aa.ret (Z2 g1 g3 ?_);refine Ae rfl ?_;rotate_left
 ·rw [show matR o sel = (((i:Nat):Int),false) by unfold matR; rw [Sd (k:=i) (by omega) hd (by assumption)]]
 ·intro j hj
  rcases Nat.lt_or_eq_of_le (Nat.le_of_lt_succ hj) with h | h
  ·exact hN j h
  ·rw [h]
   exact beq_eq_false_iff_ne.1 (by assumption)
 ·have:=hn (o.slots.getD i default) (Bs (by omega))
  omega
 ·rw [show matR o sel = (((i:Nat):Int),true) by unfold matR; rw [Q8 (m:=i) (by omega) (fun j hj=>hN j (by omega)) hd (by unfold CQ; rw [show GM (o.slots.getD i default) = true by assumption,show ((o.slots.getD i default).name ++ [58] == sel) = true by assumption]; rfl)]]
 ·intro j hj
  rcases Nat.lt_or_eq_of_le (Nat.le_of_lt_succ hj) with h | h
  ·exact hM j h
  ·rw [h]
   unfold CQ;rw [show GM (o.slots.getD i default) = true by assumption,show ((o.slots.getD i default).name ++ [58] == sel) = false by assumption];rfl
 ·intro j hj
  rcases Nat.lt_or_eq_of_le (Nat.le_of_lt_succ hj) with h | h
  ·exact hM j h
  ·rw [h]
   unfold CQ;rw [show GM (o.slots.getD i default) = false by assumption];rfl
 ·rw [show matR o sel = (-1,false) by unfold matR; rw [Um (fun j hj=>hN j (by omega)) (fun j hj=>hM j (by omega))]]
end
theorem matR_ge {o:Ob} {sel:List UInt8}:decide ((matR o sel).1 >= 0) = (AN o sel).isSome:=by
 unfold matR
 cases AN o sel with
 | none=>rfl
 | some p=>simp
structure CleanP (w:Wd) (sel:List UInt8) (x:Int) (p l:List Int) (y:Int):Prop where
 nd:afD w sel x p l y
 obj:∀ z ∈ l,(Bi w z).isSome = true
 mat:(AN (AJ w y) sel).isSome = true
theorem nodes_get {w:Wd} {sel:List UInt8} {x y:Int} {p l:List Int} (h:CleanP w sel x p l y) {i:Nat} (hi:i <= p.length):l.getD i 0 ∈ l:=Bs (by have:=h.nd.len; omega)
theorem nodup_at:∀ {l:List Int},l.Nodup -> ∀ {i j:Nat},j < i -> i < l.length -> l.getD j 0 ≠ l.getD i 0
 | [],_,i,j,_,h=>absurd h (Nat.not_lt_zero _)
 | a :: l,hd,i + 1,0,_,h=>fun e=>by
  have h1:l.getD i 0 ∈ l:=Bs (by simpa using h);simp only [List.getD_cons_zero,List.getD_cons_succ] at e;exact (List.nodup_cons.1 hd).1 (e ▸ h1)
 | a :: l,hd,i + 1,j + 1,hj,h=>by
  simp only [List.getD_cons_succ];exact nodup_at (List.nodup_cons.1 hd).2 (by omega) (by simpa using h)
theorem take_in {l:List Int} (hd:l.Nodup) {i:Nat} (hi:i < l.length):Hk (l.getD i 0) (l.take i) = false:=by
 unfold Hk;refine decide_eq_false fun h=>?_;obtain ⟨j,hj,e⟩:=List.getElem_of_mem h;rw [List.length_take] at hj;rw [List.getElem_take] at e;refine nodup_at hd (j:=j) (i:=i) (by omega) hi ?_;rw [<- e,List.getD_eq_getElem?_getD,List.getElem?_eq_getElem (by omega),Option.getD_some]
theorem take_next {l:List Int} {i:Nat} (hi:i < l.length):l.take (i + 1) = l.take i ++ [l.getD i 0]:=by
 rw [List.take_add_one,List.getD_eq_getElem?_getD,List.getElem?_eq_getElem hi];rfl
section
attribute [local go_sem] C2 JV BO D9 ntmps39
theorem c39 (w:Wd) (hw:Cw w) (hvw:CP w = true) (hnm:∀ o ∈ w.objs,∀ s ∈ o.slots,s.name.length <= 1048576) (x y:Int) (sel:List UInt8) (p l:List Int) (hs:sel.length <= 1048576) (hp:p.length <= 1048576) (hc:CleanP w sel x p l y):Af prog 39 [C2 w,.val (.int .i64 x),.val (.string (Ak sel)),.sl false (is p),.val (.int .i64 y)] (· = .val (.bool true)):=by
 have hv:=Ck.1 hvw;have hlo:=hw.lo;have hx:(Bi w x).isSome = true:=by
  have h0:=hc.nd.at' 0 (Nat.zero_le _);rw [List.take_zero,Er] at h0;rw [Option.some.inj h0];exact hc.obj _ (nodes_get hc (Nat.zero_le _))
 have h36:∀ i,i <= p.length -> Af prog 36 [C2 w,.val (.int .i64 x),.sl false ((is p).take i)] (· = .tup [.val (.int .i64 (l.getD i 0)),.val (.int .i64 0)]):=fun i hi=>by
  have h:=c36y w hw hvw x (l.getD i 0) (p.take i) hx (by rw [List.length_take]; omega) (hc.nd.at' i hi);rw [show is (p.take i) = (is p).take i by simp [is,List.map_take]] at h;exact h
 have hK:∀ i,i <= p.length -> ∃ k:Nat,FX (fun o=>o.oid == l.getD i 0) w.objs = (k:Int) /\ k < w.objs.length /\ w.objs.getD k default = AJ w (l.getD i 0):=fun i hi=>by
  obtain ⟨k,h1,h2,_,h4⟩:=acD hv (hc.obj _ (nodes_get hc hi));exact ⟨k,h1,h2,h4⟩
 obtain ⟨kF,hK⟩:∃ kF:Nat -> Nat,∀ i,i <= p.length -> FX (fun o=>o.oid == l.getD i 0) w.objs = (kF i:Int) /\ kF i < w.objs.length /\ w.objs.getD (kF i) default = AJ w (l.getD i 0) :=
  ⟨fun i=>if h:i <= p.length then (hK i h).choose else 0,fun i hi=>by simp only [dif_pos hi]; exact (hK i hi).choose_spec⟩
 have h21:∀ i,i <= p.length -> Af prog 21 [C2 w,.val (.int .i64 (l.getD i 0))] (· = .val (.int .i64 (kF i:Nat))):=fun i hi=>by
  have h:=c21 w (l.getD i 0) (by omega);rw [(hK i hi).1] at h;exact h
 have h72:∀ i,i <= p.length -> Af prog 72 [Du (w.objs.getD (kF i) default),.val (.string (Ak sel))] (· = .tup [.val (.int .i64 (matR (AJ w (l.getD i 0)) sel).1),.val (.bool (matR (AJ w (l.getD i 0)) sel).2)]):=fun i hi=>by
  rw [(hK i hi).2.2];have ho:=hc.obj _ (nodes_get hc hi);exact c72 _ sel (hw.OZ _ (BV ho).1).slots (hnm _ (BV ho).1) hs (I4 hv (BV ho).1).names
 have hR:∀ i,i <= p.length -> (matR (AJ w (l.getD i 0)) sel).1 < 0 /\ i ≠ p.length \/ (matR (AJ w (l.getD i 0)) sel).1 >= 0 /\ i = p.length /\ l.getD i 0 = y:=fun i hi=>by
  have hg:=matR_ge (o:=AJ w (l.getD i 0)) (sel:=sel)
  rcases Nat.lt_or_eq_of_le hi with h | h
  ·left
   rw [hc.nd.pass i h] at hg;have:=of_decide_eq_false hg;exact ⟨by omega,by omega⟩
  ·right
   subst h;rw [hc.nd.last];rw [hc.nd.last] at hg;rw [hc.mat] at hg;exact ⟨of_decide_eq_true hg,rfl,rfl⟩
 have hB:AZ 2 (JV w) = true:=rfl;have h24:∀ i,i <= p.length -> Ag prog 24 [.hsl 1 i 0 i,.val (.int .i64 (l.getD i 0))] [.cells (JV w),.row true i 1 (is (l.take i))] (fun r h=>r = .ret (.val (.bool false)) /\ h = [.cells (JV w),.row true i 1 (is (l.take i))]):=fun i hi=>by
  have hl:=hc.nd.len;have h:=c24r (JV w) (l.take i) (l.getD i 0) hB (by rw [List.length_take]; omega);rw [take_in hc.nd.nodup (by omega),show (l.take i).length = i by rw [List.length_take]; omega] at h;exact h
 have hnx:∀ i,i <= p.length -> is (l.take i) ++ [.val (.int .i64 (l.getD i 0))] = is (l.take (i + 1)):=fun i hi=>by
  rw [take_next (by have:=hc.nd.len; omega)];simp [is]
 have hlen:∀ i,i <= p.length -> (is (l.take i)).length = i:=fun i hi=>by
  rw [BO,List.length_take];have:=hc.nd.len;omega
 have hl3:∀ i,i <= p.length -> (l.take i).length = i:=fun i hi=>by
  rw [List.length_take];have:=hc.nd.len;omega
 have hkl:∀ i,i <= p.length -> kF i < w.objs.length:=fun i hi=>(hK i hi).2.1;generalize hmm:(fun i=>(matR (AJ w (l.getD i 0)) sel).1) = mF;generalize hss:(fun i=>(matR (AJ w (l.getD i 0)) sel).2) = sF;have h72':∀ i,i <= p.length -> Af prog 72 [Du (w.objs.getD (kF i) default),.val (.string (Ak sel))] (· = .tup [.val (.int .i64 (mF i)),.val (.bool (sF i))]):=fun i hi=>by rw [<- hmm,<- hss]; exact h72 i hi
 have hR':∀ i,i <= p.length -> mF i < 0 /\ i ≠ p.length \/ mF i >= 0 /\ i = p.length /\ l.getD i 0 = y:=fun i hi=>by rw [<- hmm]; exact hR i hi
 clear hmm hss h72 hR hK hc hx hv hvw hnm;refine Ag.intro func39 (by decide) rfl (Bj ?_);refine Aa.Ad (Z0 ?_);refine Aa.Ad (Z0 ?_);refine Aa.seq ?_;refine Aa.E7 11 1 0 rfl (Z0 ?_);refine Aa.Ad (Z0 ?_);refine Aa.block ?_;refine Aa.A0 (fun i:Nat=>[(12,.val (.int .i64 (i:Nat))),(11,.hsl 1 i 0 i)]) [5,1,2,3,4] (fun i:Nat=>[.cells (JV w),.row true i 1 (is (l.take i))]) (fun i:Nat=>i <= p.length + 1) (fun i:Nat=>p.length + 1 - i) (0) ?_ rfl ?_ ?_;omega;refine ⟨rfl,?_,?_,rfl,?_⟩;refine C1 ?_;constructor
 assumption
 assumption
 refine C1 ?_;trivial;exact C1 trivial;rintro i hi;refine Z0 ?_;refine Aa.seq ?_;refine Aa.Ad (Z0 ?_);refine Aa.cond rfl (fun g37=>?_) (fun g37=>?_);have d37:=An g37;refine Aa.skip (Z1 g37 ?_);refine Aa.seq (Aa.block ?_);refine Aa.BQ [(1,.free),(2,.free),(3,.free),(0,.read),(4,.read),(5,.free),(6,.free),(7,.free),(8,.free),(9,.free),(10,.free)] mixed (by kernel_rfl) (Z1 g37 ?_);refine And.intro (by assumption) ?_;refine And.intro (by exact JI _) ?_;refine Ao ?_;refine And.intro (by assumption) ?_;refine AI.go (h36 i ?_) rfl ?_;omega;refine Z1 g37 ?_;refine Aa.Ad (Z1 g37 ?_);refine Af.eq (h21 i ?_) rfl ?_;omega;refine Z1 g37 ?_;refine Aa.seq ?_;refine Aa.Ad (Z1 g37 ?_);refine Ap (fun g39=>?_) (fun g39=>?_);have d39:=An g39
 (exfalso; omega)
 have d39:=Aj g39;refine Z2 g37 g39 ?_;refine Ag.eq (h24 i ?_) ?_;omega;refine Z2 g37 g39 ?_;refine Aa.Ax rfl ?_;refine Aa.skip (Z2 g37 g39 ?_);have hl2:=hl3 i (by omega);refine Aa.Ad (Z2 g37 g39 ?_);refine And.intro (by trivial) ?_;constructor;rotate_left;refine Ao (Ao ?_);have hk2:=hkl i (by omega);refine Aa.Ad (Z2 g37 g39 ?_);refine Ao (Ao (Ao ?_));simp -implicitDefEqProofs (dsimp:=false) (disch:=omega) only [i64_in,gd];refine Z2 g37 g39 ?_;refine Af.eq (h72' i ?_) rfl ?_;omega;refine Z2 g37 g39 ?_;refine Aa.seq ?_;refine Aa.Ad (Z2 g37 g39 ?_);refine Aa.cond rfl (fun g42=>?_) (fun g42=>?_);refine Aa.Ad (Z3 g37 g39 g42 ?_);refine Aa.ret (Z3 g37 g39 g42 ?_);refine Ae rfl ?_;rotate_left;refine Aa.skip (Z3 g37 g39 g42 ?_);refine Aa.Ad (Z3 g37 g39 g42 ?_);refine Ap (fun g43=>?_) (fun g43=>?_);have d43:=AB g43;refine Z4 g37 g39 g42 g43 ?_;refine Aa.cond rfl (fun g44=>?_) (fun g44=>?_);have d44:=BT g44;refine Aa.Ad (Z5 g37 g39 g42 g43 g44 ?_);refine Aa.ret (Z5 g37 g39 g42 g43 g44 ?_);refine Ae rfl ?_;rotate_left;have d44:=Bt g44;refine Aa.skip (Z5 g37 g39 g42 g43 g44 ?_);refine Aa.region (Z5 g37 g39 g42 g43 g44 ?_);refine Bd ?_;refine ⟨i + 1,?_⟩;constructor;omega;constructor;omega;refine ⟨rfl,?_,?_,rfl,?_⟩;refine GO g37 g39 g42 g43 g44 ?_;constructor
 (congr 1 <;> omega)
 constructor
 assumption
 assumption
 refine GO g37 g39 g42 g43 g44 ?_;rotate_left;exact GO g37 g39 g42 g43 g44 trivial;have d43:=Aq g43;refine Z4 g37 g39 g42 g43 ?_;refine Aa.Ax rfl ?_;refine Aa.skip (Z4 g37 g39 g42 g43 ?_);refine Aa.region (Z4 g37 g39 g42 g43 ?_);refine Bd ?_;refine ⟨i + 1,?_⟩;constructor;omega;constructor;omega;refine ⟨rfl,?_,?_,rfl,?_⟩;refine Mv g37 g39 g42 g43 ?_;constructor
 (congr 1 <;> omega)
 constructor
 assumption
 assumption
 refine Mv g37 g39 g42 g43 ?_;rotate_left;exact Mv g37 g39 g42 g43 trivial;have d37:=Aj g37;refine Aa.exit (Z1 g37 ?_);refine Aa.Ad (Z1 g37 ?_);refine Aa.ret (Z1 g37 ?_);exact Ae rfl (Z1 g37 trivial)
 ·intro e he
  rw [List.mem_singleton.1 he];rfl
 ·have hQ:(decide (mF i >= 0) == ((i:Int) == (p.length:Int))) = true:=by
   rcases hR' i (by omega) with ⟨h1,h2⟩ | ⟨h1,h2,h3⟩
   ·rw [show decide (mF i >= 0) = false from decide_eq_false (by omega),show ((i:Int) == (p.length:Int)) = false from beq_eq_false_iff_ne.2 (by omega)]
    rfl
   ·rw [show decide (mF i >= 0) = true from decide_eq_true h1,show ((i:Int) == (p.length:Int)) = true by rw [h2]; exact beq_self_eq_true _]
    rfl
  rw [hQ] at g42
  cases g42
 ·rcases hR' i (by omega) with ⟨h1,h2⟩ | ⟨h1,h2,h3⟩
  ·omega
  ·exact absurd h3 d44
 ·rw [hnx i (by omega)]
 ·rw [hnx i (by omega)]
end
section
attribute [local go_sem] C2 JV Cy HG ntmps11
theorem c11n (w:Wd) (v:Vl) (sel:List UInt8) (hw:Cw w) (hvl:Cm v) (hs:sel.length <= 1048576) (he:Bg w v sel ≠ 0):Af prog 11 [C2 w,Cy v,.val (.string (Ak sel))] (· = .val (.bool true)):=by
 have h16:=c16 w v sel hw hvl (by omega);rw [show DY w v sel = (default,Bg w v sel) from if_neg he] at h16;have h30:=c30 w v hw hvl;have hb:(Bg w v sel != 0) = true:=by simpa using he
 generalize Bg w v sel = e at *;generalize Ga w v = r at *;refine Ag.intro func11 (by decide) rfl (D5 hb ?_);refine Aa.Ad (Z1 hb ?_);refine Aa.Ad (Z1 hb ?_);refine Af.eq (c14) rfl (Z1 hb ?_);refine Aa.seq ?_;refine Aa.Ad (Z1 hb ?_);refine Af.eq (c15 w hw) rfl (Z1 hb ?_);refine Aa.cond rfl (fun g33=>?_) (fun g33=>?_);refine Aa.Ad (Z2 hb g33 ?_);refine Aa.ret (Z2 hb g33 ?_);exact Ae rfl (Z2 hb g33 trivial);refine Aa.skip (Z2 hb g33 ?_);refine Aa.Ad (Z2 hb g33 ?_);refine Af.eq (h16) rfl (Z2 hb g33 ?_);refine Aa.Ad (Z2 hb g33 ?_);refine Af.eq (h30) rfl (Z2 hb g33 ?_);refine Aa.seq ?_;refine Aa.Ad (Z2 hb g33 ?_);refine Aa.Ar rfl ?_;refine Aa.Ad (Z2 hb g33 ?_);refine Aa.ret (Z2 hb g33 ?_);exact Ae rfl (Z2 hb g33 trivial)
end
theorem hit_clean {w:Wd} (hv:B6 w) {sel:List UInt8} {x:Int} (hx:(Bi w x).isSome = true) {h:VX} (hh:h ∈ (seen w sel x).2):∃ l,CleanP w sel x h.path l h.oid:=by
 obtain ⟨l,hl⟩:=PL hh;have hn:=T9 hl;refine ⟨l,hn,fun z hz=>Oi hv (S:=(· = x)) (fun y e=>by rw [e]; exact hx) (hn.rch z hz),?_⟩;have:=((Jo w sel x).hit h.oid).1 (List.mem_map.2 ⟨h,hh,rfl⟩);exact this.2
section
attribute [local go_sem] C2 JV Cy HG ntmps11
theorem c11y (w:Wd) (v:Vl) (sel:List UInt8) (hw:Cw w) (hnm:∀ o ∈ w.objs,∀ s ∈ o.slots,s.name.length <= 1048576) (hvl:Cm v) (hs:sel.length <= 1048576) (he:Bg w v sel = 0):Af prog 11 [C2 w,Cy v,.val (.string (Ak sel))] (· = .val (.bool true)):=by
 obtain ⟨hvw,hst,har⟩:=Fk he;have hv:=Ck.1 hvw;have h16:=c16 w v sel hw hvl (by omega);rw [show DY w v sel = (Bo (seen w sel (Ay w v).1).2,0) from if_pos he] at h16;have h30:=c30 w v hw hvl;rw [WH hvw hst] at h30;have hx:=Gl hv hst;have hle:∀ h ∈ (seen w sel (Ay w v).1).2,h.path.length <= 1048576:=fun h hh=>Nat.le_trans (abo hv hx hh) hw.lo;have hcl:∀ h ∈ (seen w sel (Ay w v).1).2,Af prog 39 [C2 w,.val (.int .i64 (Ay w v).1),.val (.string (Ak sel)),.sl false (is h.path),.val (.int .i64 h.oid)] (· = .val (.bool true)):=fun h hh=>by
  obtain ⟨l,hc⟩:=hit_clean hv hx hh;exact c39 w hw hvw hnm _ _ sel _ l hs (hle h hh) hc
 have hnd:=(Jo w sel (Ay w v).1).Zb;generalize hH:(seen w sel (Ay w v).1).2 = hits at *;generalize (Ay w v).1 = n at *;clear hH he hvw hst har hv hx
 match hits,h16,hcl,hnd with
 | [],h16,_,_ =>
  rw [show Bo [] = (⟨0,0,0,[],false,0,0,[]⟩:GS) from rfl] at h16;refine Ag.intro func11 (by decide) rfl (Bj ?_);refine Aa.Ad (Z0 ?_);refine Aa.Ad (Z0 ?_);refine Af.eq (c14) rfl (Z0 ?_);refine Aa.seq ?_;refine Aa.Ad (Z0 ?_);refine Af.eq (c15 w hw) rfl (Z0 ?_);refine Aa.cond rfl (fun g33=>?_) (fun g33=>?_);refine Aa.Ad (Z1 g33 ?_);refine Aa.ret (Z1 g33 ?_);exact Ae rfl (Z1 g33 trivial);refine Aa.skip (Z1 g33 ?_);refine Aa.Ad (Z1 g33 ?_);refine Af.eq (h16) rfl (Z1 g33 ?_);refine Aa.Ad (Z1 g33 ?_);refine Af.eq (h30) rfl (Z1 g33 ?_);refine Aa.seq ?_;refine Aa.Ad (Z1 g33 ?_);refine Ao ?_;refine Aa.Ar rfl ?_;refine Aa.Ad (Z1 g33 ?_);refine Aa.ret (Z1 g33 ?_);exact Ae rfl (Z1 g33 trivial)
 | [a],h16,hcl,_ =>
  rw [show Bo [a] = (⟨1,a.oid,a.slot,a.path,a.set,0,0,[]⟩:GS) from rfl] at h16;have h39:=hcl a (by simp);refine Ag.intro func11 (by decide) rfl (Bj ?_);refine Aa.Ad (Z0 ?_);refine Aa.Ad (Z0 ?_);refine Af.eq (c14) rfl (Z0 ?_);refine Aa.seq ?_;refine Aa.Ad (Z0 ?_);refine Af.eq (c15 w hw) rfl (Z0 ?_);refine Aa.cond rfl (fun g42=>?_) (fun g42=>?_);refine Aa.Ad (Z1 g42 ?_);refine Aa.ret (Z1 g42 ?_);exact Ae rfl (Z1 g42 trivial);refine Aa.skip (Z1 g42 ?_);refine Aa.Ad (Z1 g42 ?_);refine Af.eq (h16) rfl (Z1 g42 ?_);refine Aa.Ad (Z1 g42 ?_);refine Af.eq (h30) rfl (Z1 g42 ?_);refine Aa.seq ?_;refine Aa.Ad (Z1 g42 ?_);refine Ao ?_;refine Aa.Ax rfl ?_;refine Aa.skip (Z1 g42 ?_);refine Aa.Ad (Z1 g42 ?_);refine Ao (Ao ?_);refine Af.eq (h39) rfl (Z1 g42 ?_);refine Ao ?_;refine Aa.ret (Z1 g42 ?_);exact Ae rfl (Z1 g42 trivial)
 | a :: b :: t,h16,hcl,hnd =>
  rw [show Bo (a :: b :: t) = (⟨2,a.oid,a.slot,a.path,a.set,b.oid,b.slot,b.path⟩:GS) from rfl] at h16;have h39:=hcl a (by simp);have h39':=hcl b (by simp);have hne:(a.oid != b.oid) = true:=by
   simp at hnd
   simpa using hnd.1.1
  refine Ag.intro func11 (by decide) rfl (D5 hne ?_);refine Aa.Ad (Z1 hne ?_);refine Aa.Ad (Z1 hne ?_);refine Af.eq (c14) rfl (Z1 hne ?_);refine Aa.seq ?_;refine Aa.Ad (Z1 hne ?_);refine Af.eq (c15 w hw) rfl (Z1 hne ?_);refine Aa.cond rfl (fun g42=>?_) (fun g42=>?_);refine Aa.Ad (Z2 hne g42 ?_);refine Aa.ret (Z2 hne g42 ?_);exact Ae rfl (Z2 hne g42 trivial);refine Aa.skip (Z2 hne g42 ?_);refine Aa.Ad (Z2 hne g42 ?_);refine Af.eq (h16) rfl (Z2 hne g42 ?_);refine Aa.Ad (Z2 hne g42 ?_);refine Af.eq (h30) rfl (Z2 hne g42 ?_);refine Aa.seq ?_;refine Aa.Ad (Z2 hne g42 ?_);refine Ao ?_;refine Aa.Ax rfl ?_;refine Aa.skip (Z2 hne g42 ?_);refine Aa.Ad (Z2 hne g42 ?_);refine Ao (Ao ?_);refine Af.eq (h39) rfl (Z2 hne g42 ?_);refine Ao (Ao (Ao ?_));refine Af.eq (h39') rfl (Z2 hne g42 ?_);refine Ao (Ao ?_);refine Aa.ret (Z2 hne g42 ?_);exact Ae rfl (Z2 hne g42 trivial)
end
theorem c11 (w:Wd) (v:Vl) (sel:List UInt8) (hw:Cw w) (hnm:∀ o ∈ w.objs,∀ s ∈ o.slots,s.name.length <= 1048576) (hvl:Cm v) (hs:sel.length <= 1048576):Af prog 11 [C2 w,Cy v,.val (.string (Ak sel))] (· = .val (.bool true)):=by
 by_cases he:Bg w v sel = 0
 ·exact c11y w v sel hw hnm hvl hs he
 ·exact c11n w v sel hw hvl hs he
end Go.Proofs.Tryz
