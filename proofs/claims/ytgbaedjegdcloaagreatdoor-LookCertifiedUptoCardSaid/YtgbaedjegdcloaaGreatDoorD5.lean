/- A part of the proof: see the last text. -/
import Derived.Test.YtgbaedjegdcloaaGreatDoorD4
import Derived.Below
import Derived.Carry
import Derived.ChangeArms
import Derived.DataReads
import Derived.Deep.Slices
import Derived.SizedLaws
import Derived.WideShapes
import Derived.ChangeSame
import Derived.Lib.LaidTab
import Derived.Stop.LaidErr
import Derived.Test.YtgbaedjegdcloaaGreatDoorRows
import Derived.WalkKit
set_option linter.unusedVariables false
set_option linter.unusedSimpArgs false
set_option linter.unusedSectionVars false
set_option linter.defProp false
set_option maxRecDepth 100000
set_option maxHeartbeats 4000000
namespace Go.Proofs.Tryz
open Go.PM
attribute [local irreducible] BM BP Bq Ci AU AO Az
def FC:AV:=.iface 88 (.agg [])
def mIx (o:Ob) (sel:List UInt8):Int:=match AN o sel with
 | some p=>(p.1:Nat)
 | none=>0
def aai (o:Ob) (sel:List UInt8):Bool:=match AN o sel with
 | some p=>p.2
 | none=>false
def Tr (o:Ob) (sel:List UInt8):Bool:=(AN o sel).isSome
theorem ae7 (o:Ob) (sel:List UInt8) (hs:sel.length <= 1000000000) (ho:o.slots.length <= 1000000000):Af prog 87 [Du o,.val (.string (Ak sel))] (· = .tup [.val (.int .i64 (mIx o sel)),.val (.bool (aai o sel)),.val (.bool (Tr o sel))]):=by
 have h:=c87 o sel hs ho;unfold abu at h;unfold mIx aai Tr
 cases hm:AN o sel <;> rw [hm] at h <;> exact h
theorem KF {w:Wd} (hw:Cw w) (x:Int):KV (AJ w x) /\ (AJ w x).slots.length <= 1048576:=by
 cases hx:Bi w x with
 | none =>
  rw [NA hx];exact ⟨⟨Nat.zero_le _,Nat.zero_le _,fun v hv=>(nomatch hv),fun s hs=>(nomatch hs)⟩,Nat.zero_le _⟩
 | some k =>
  have:=hw.OZ _ (BV (w:=w) (n:=x) (by rw [hx]; rfl)).1;exact ⟨this,this.slots⟩
def Ki (l m:AV) (x:Int) (f:GS):List AV:=[.ptr 1 0,l,m,.val (.int .i64 x),.val (.int .i64 f.kind),.val (.int .i64 f.holder),.val (.int .i64 f.slot),.sl false (is f.path),.val (.bool f.set),.val (.int .i64 f.holder2),.val (.int .i64 f.slot2),.sl false (is f.path2)]
def MB (w:Wd) (sel:List UInt8):Ah:=.cells [DI w,.val (.string (Ak sel)),.mp 0,.sl true [],.sl true []]
def C4 (w:Wd) (sel:List UInt8) (l:List Int) (m x:Int) (f:GS):List Ah:=[.map [] [] 0,MB w sel,Bx BC (.agg []) l,.cells (Ki (.mp 2) (.val (.int .i64 m)) x f)]
theorem Rx (w:Wd) (sel:List UInt8) (x:Int) (p:List Int) (i y:Int) (h:C9 w sel x p = some y):C9 w sel x (p ++ [i]) = if (AN (AJ w y) sel = none /\ 0 <= i /\ i < (AJ w y).slots.length) /\ BX ((AJ w y).slots.getD i.toNat default) = true then some (Ay w ((AJ w y).slots.getD i.toNat default).v).1 else none:=by
 rw [EG,h]
 show C9 w sel y [i] = _
 rw [C9]
 split <;> rfl
theorem aaf (l:List Int) {k:Nat} (h:k < l.length):l = l.take k ++ l.getD k 0 :: l.drop (k + 1):=by
 have h1:l.drop k = l.getD k 0 :: l.drop (k + 1):=by
  rw [List.drop_eq_getElem_cons h,List.getD_eq_getElem?_getD,List.getElem?_eq_getElem h]; rfl
 rw [<- h1];exact (List.take_append_drop k l).symm
section
variable {w:Wd} {sel:List UInt8} {x0 y oid slot:Int} {path:List Int} {k:Nat}
theorem Gv (hk:k < path.length) (hy:C9 w sel x0 (path.take k) = some y) (hn:¬ ((AN (AJ w y) sel = none /\ 0 <= path.getD k 0 /\ path.getD k 0 < (AJ w y).slots.length) /\ BX ((AJ w y).slots.getD (path.getD k 0).toNat default) = true)):(G1 w sel x0 path oid slot).isSome = false:=by
 have:C9 w sel x0 path = none:=by
  rw [aaf path hk,EG,hy]
  show C9 w sel y _ = none
  rw [C9,if_neg hn]
 unfold G1;rw [this];rfl
theorem Yn (hk:k < path.length) (hy:C9 w sel x0 (path.take k) = some y) (hc:(AN (AJ w y) sel = none /\ 0 <= path.getD k 0 /\ path.getD k 0 < (AJ w y).slots.length) /\ BX ((AJ w y).slots.getD (path.getD k 0).toNat default) = true):C9 w sel x0 (path.take (k + 1)) = some (Ay w ((AJ w y).slots.getD (path.getD k 0).toNat default).v).1:=by
 have:path.take (k + 1) = path.take k ++ [path.getD k 0]:=by
  rw [List.take_add_one,List.getD_eq_getElem?_getD,List.getElem?_eq_getElem hk]; rfl
 rw [this,Rx w sel x0 _ _ y hy,if_pos hc]
theorem YC (h:(!Tr (AJ w y) sel) = true):AN (AJ w y) sel = none:=by
 unfold Tr at h
 cases hm:AN (AJ w y) sel <;> rw [hm] at h <;> simp at h <;> rfl
theorem Nd (hk:path.length <= k) (hy:C9 w sel x0 (path.take k) = some y):G1 w sel x0 path oid slot = if Tr (AJ w y) sel = true /\ y = oid /\ mIx (AJ w y) sel = slot then some (aai (AJ w y) sel) else none:=by
 rw [List.take_of_length_le hk] at hy;unfold G1;rw [hy];simp only;unfold Tr mIx aai
 cases hm:AN (AJ w y) sel with
 | none=>simp
 | some p=>simp
end
theorem Bb {H H' ext:List Ah} {c:Bool} (hu:Aw H) (h4:H.length = 4) (hc:c = false):∃ h'',BI h''.length (H ++ ext) h'' /\ 4 <= h''.length /\ AE.under h''.length (AE.panic FC) = true /\ ((c = true /\ False /\ h'' = H') \/ (c = false /\ AE.panic FC = AE.panic FC /\ h'' = H)) :=
 ⟨H,Cc ext hu,by omega,rfl,.inr ⟨hc,rfl,rfl⟩⟩
theorem aiz {H H' ext:List Ah} {c v v':Bool} (hu:Aw H) (h4:H.length = 4) (hc:c = true) (hv:v = v'):∃ h'',BI h''.length (H ++ ext) h'' /\ 4 <= h''.length /\ AE.under h''.length (AE.ret (.val (.bool v))) = true /\ ((c = true /\ AE.ret (.val (.bool v)) = AE.ret (.val (.bool v')) /\ h'' = H) \/ (c = false /\ False /\ h'' = H')) :=
 ⟨H,Cc ext hu,by omega,rfl,.inl ⟨hc,by rw [hv],rfl⟩⟩
theorem CY (w:Wd) (sel:List UInt8) (l:List Int) (m x:Int) (f:GS):Aw (C4 w sel l m x f):=by
 intro b hb;simp only [C4,List.mem_cons,List.not_mem_nil,or_false] at hb
 rcases hb with rfl | rfl | rfl | rfl
 ·rfl
 ·rfl
 ·exact Bz _ _
 ·rfl
section
attribute [local go_sem] C4 MB Ki Du H9 Cu BO ntmps90
theorem c90 (w:Wd) (sel:List UInt8) (hw:Cw w) (hs:sel.length <= 1000000000) (l:List Int) (m x0:Int) (f:GS) (path:List Int) (oid slot:Int) (hp:path.length <= 1000000000) :
  Bc prog 90 [.ptr 3 0,.sl false (is path),.val (.int .i64 oid),.val (.int .i64 slot)] (C4 w sel l m x0 f) (G1 w sel x0 path oid slot).isSome (.val (.bool ((G1 w sel x0 path oid slot).getD false))) (C4 w sel l m x0 f) FC (C4 w sel l m x0 f):=by
 refine Bc.mk ?_;refine Ag.less ?_;have hob:=fun y=>(KF hw y).2;have h87:=fun y=>ae7 (AJ w y) sel hs (by have:=hob y; omega);have h56:=fun y (k:Nat) (hk:k < (AJ w y).slots.length)=>c56 w ((AJ w y).slots.getD k default).v ((KF hw y).1.ss _ (Bs hk));refine Ag.intro func90 (by decide) rfl (Bj ?_);refine Aa.Ad (Z0 ?_);refine Aa.Ad (Z0 ?_);refine Ao ?_;refine Aa.seq ?_;refine Aa.Ad (Z0 ?_);refine Aa.block ?_;refine Aa.A0 (fun x:Nat × Int=>[(28,.val (.int .i64 (x.1:Nat))),(9,.val (.int .i64 x.2))]) [27,26,0,2,3] (fun x:Nat × Int=>[.map [] [] 0,MB w sel,Bx BC (.agg []) l,.cells (Ki (.mp 2) (.val (.int .i64 m)) x0 f)]) (fun x:Nat × Int=>x.1 <= path.length /\ C9 w sel x0 (path.take x.1) = some x.2) (fun x:Nat × Int=>path.length - x.1) ((0,x0)) ?_ rfl ?_ ?_;refine Z0 ?_;rotate_left;refine ⟨rfl,?_,?_,rfl,?_⟩;refine C1 ?_;trivial;refine C1 ?_;constructor;trivial;constructor;trivial;constructor;rotate_left;trivial;exact C1 trivial;rintro ⟨k,y⟩ ⟨hk,hy⟩;simp only at hk hy;refine Z0 ?_;refine Aa.Ad (Z0 ?_);refine Aa.seq (Aa.cond rfl (fun g88=>?_) (fun g88=>?_));have d88:=An g88;refine Aa.skip (Z1 g88 ?_);refine Aa.seq (Aa.block ?_);refine Aa.Ad (Z1 g88 ?_);refine Ao ?_;refine And.intro (by assumption) ?_;simp -implicitDefEqProofs (dsimp:=false) (disch:=omega) only [i64_in,gd];refine Z1 g88 ?_;refine Aa.Ad (Z1 g88 ?_);refine Ao (Ao ?_);refine Af.eq (RY w _) rfl (Z1 g88 ?_);refine Aa.BQ [(1,.free),(2,.free),(3,.free),(0,.read),(4,.read),(5,.free),(6,.free),(7,.read),(8,.free),(9,.free),(10,.free),(11,.free),(12,.free),(13,.free),(14,.free),(15,.free)] mixed (by kernel_rfl) (Z1 g88 ?_)
 refine Ao (Ao ?_);refine AI.go (h87 _) rfl (Z1 g88 ?_);refine Aa.Ad (Z1 g88 ?_);refine Ap (fun g90=>?_) (fun g90=>?_);refine Z2 g88 g90 ?_;refine Ap (fun g91=>?_) (fun g91=>?_);have d91:=An g91;refine Z3 g88 g90 g91 ?_;refine Ao ?_;refine Ap (fun g92=>?_) (fun g92=>?_);have d92:=An g92;refine Z4 g88 g90 g91 g92 ?_;refine Ao ?_;refine And.intro (by assumption) ?_;refine And.intro (by assumption) ?_;simp -implicitDefEqProofs (dsimp:=false) (disch:=omega) only [i64_in,gd];refine Z4 g88 g90 g91 g92 ?_;refine Af.eq (c55 _) rfl (Z4 g88 g90 g91 g92 ?_);refine Bc.go (Zr _ _) (fun g94=>?_) (fun g94=>?_);refine Z5 g88 g90 g91 g92 g94 ?_;refine Aa.BS [(0,.free),(1,.free),(2,.free),(7,.free),(9,.free),(3,.read),(4,.free),(5,.free),(6,.read),(8,.read),(10,.read),(11,.free),(12,.read),(13,.free),(14,.free),(15,.free),(16,.free),(17,.free)] mixed (by kernel_rfl) (Z5 g88 g90 g91 g92 g94 ?_);refine Ao (Ao (Ao ?_));refine And.intro (by assumption) ?_;refine And.intro (by assumption) ?_;simp -implicitDefEqProofs (dsimp:=false) (disch:=omega) only [i64_in,gd];refine Z5 g88 g90 g91 g92 g94 ?_;refine Ao ?_;refine AI.go (h56 _ _ ?_) rfl ?_;omega;refine Z5 g88 g90 g91 g92 g94 ?_;refine Aa.region (Z5 g88 g90 g91 g92 g94 ?_);refine Bd ?_;refine ⟨(k + 1,(Ay w ((AJ w y).slots.getD (path.getD k 0).toNat default).v).1),?_⟩;constructor;constructor;omega;simp -implicitDefEqProofs (dsimp:=false) only [go_sem,simprocAttr,g88,g90,g91,g92,g94,Nat.le_refl,List.length_cons,List.length_append,List.length_nil]
 rotate_left;constructor;omega;refine ⟨rfl,?_,?_,rfl,?_⟩;refine GO g88 g90 g91 g92 g94 ?_;trivial;refine GO g88 g90 g91 g92 g94 ?_;constructor;trivial;constructor;trivial;constructor;rotate_left;trivial;exact GO g88 g90 g91 g92 g94 trivial;refine Z5 g88 g90 g91 g92 g94 ?_;rotate_left;have d92:=Aj g92;refine Z4 g88 g90 g91 g92 ?_;refine Bc.go (Zr _ _) (fun g95=>?_) (fun g95=>?_)
 cases g95
 clear g95;refine Z4 g88 g90 g91 g92 ?_;rotate_left;have d91:=Aj g91;refine Z3 g88 g90 g91 ?_;refine Bc.go (Zr _ _) (fun g96=>?_) (fun g96=>?_)
 cases g96
 clear g96;refine Z3 g88 g90 g91 ?_;rotate_left;refine Z2 g88 g90 ?_;refine Bc.go (Zr _ _) (fun g97=>?_) (fun g97=>?_)
 cases g97
 clear g97;refine Z2 g88 g90 ?_;rotate_left;have d88:=Aj g88;refine Aa.exit (Z1 g88 ?_);refine Aa.Ad (Z1 g88 ?_);refine Ao (Ao ?_);refine Af.eq (RY w _) rfl (Z1 g88 ?_);refine Aa.BQ [(1,.free),(2,.free),(3,.free),(0,.read),(4,.read),(5,.free),(6,.free),(7,.read),(8,.free),(9,.free),(10,.free),(11,.free),(12,.free),(13,.free),(14,.free),(15,.free)] mixed (by kernel_rfl) (Z1 g88 ?_);refine Ao (Ao ?_);refine AI.go (h87 _) rfl (Z1 g88 ?_);refine Aa.Ad (Z1 g88 ?_);refine Ap (fun g99=>?_) (fun g99=>?_);refine Z2 g88 g99 ?_;refine Ap (fun g100=>?_) (fun g100=>?_);have d100:=AB g100;refine Z3 g88 g99 g100 ?_;refine Bc.go (Zr _ _) (fun g101=>?_) (fun g101=>?_);have d101:=AB g101;refine Z4 g88 g99 g100 g101 ?_;refine Aa.Ad (Z4 g88 g99 g100 g101 ?_);refine Aa.ret (Z4 g88 g99 g100 g101 ?_);rotate_left;have d101:=Aq g101;refine Z4 g88 g99 g100 g101 ?_;rotate_left;have d100:=Aq g100;refine Z3 g88 g99 g100 ?_;refine Bc.go (Zr _ _) (fun g102=>?_) (fun g102=>?_)
 cases g102
 clear g102;refine Z3 g88 g99 g100 ?_;rotate_left;refine Z2 g88 g99 ?_;refine Bc.go (Zr _ _) (fun g103=>?_) (fun g103=>?_)
 cases g103
 clear g103;refine Z2 g88 g99 ?_;rotate_left
 ·exact ⟨Nat.zero_le _,rfl⟩
 ·exact .inr (Bz _ _)
 ·exact Yn (by simpa using g88) hy ⟨⟨YC g90,of_decide_eq_true g91,of_decide_eq_true g92⟩,g94⟩
 ·exact .inr (Bz _ _)
 ·exact Bb (H:=C4 w sel l m x0 f) (ext:=[_]) (CY w sel l m x0 f) rfl (Gv (by simpa using g88) hy fun h=>by have:=h.2; unfold BX at this; rw [g94] at this; cases this)
 ·exact Bb (H:=C4 w sel l m x0 f) (ext:=[_]) (CY w sel l m x0 f) rfl (Gv (by simpa using g88) hy fun h=>by have:=of_decide_eq_false g92; exact this h.1.2.2)
 ·exact Bb (H:=C4 w sel l m x0 f) (ext:=[_]) (CY w sel l m x0 f) rfl (Gv (by simpa using g88) hy fun h=>by have:=of_decide_eq_false g91; exact this h.1.2.1)
 ·exact Bb (H:=C4 w sel l m x0 f) (ext:=[_]) (CY w sel l m x0 f) rfl (Gv (by simpa using g88) hy fun h=>by have:=h.1.1; unfold Tr at g90; rw [this] at g90; cases g90)
 ·have e:=Nd (oid:=oid) (slot:=slot) (by have:=of_decide_eq_false g88; omega) hy
  rw [if_pos ⟨g99,by simpa using g100,by simpa using g101⟩] at e;exact aiz (H:=C4 w sel l m x0 f) (ext:=[_]) (CY w sel l m x0 f) rfl (by rw [e]; rfl) (by rw [e]; rfl)
 all_goals have e:=Nd (oid:=oid) (slot:=slot) (by have:=of_decide_eq_false g88; omega) hy
 all_goals rw [if_neg (by rintro ⟨e1,e2,e3⟩; simp_all)] at e
 all_goals exact Bb (H:=C4 w sel l m x0 f) (ext:=[_]) (CY w sel l m x0 f) rfl (by rw [e]; rfl)
end
end Go.Proofs.Tryz

namespace Go.Proofs.Tryz
open Go.PM
attribute [local irreducible] BM BP Bq Ci AU AO Az
theorem ahu (l:List Int) (x:Int) (b0 b1:Ah) (ext:List Ah) (hu:Aw [b0,b1]):Ag prog 86 [.mp 2,.val (.int .i64 x)] ([b0,b1,Bx BC (.agg []) l] ++ ext) (fun r h=>r = .ret (.val (.bool (!Hk x l))) /\ h = [b0,b1,Bx BC (.agg []) (if x ∈ l then l else l ++ [x])] ++ ext):=by
 have h:=Ag.Tq [b0,b1] ext (c86 l x) rfl hu (fun b hb=>by rw [List.mem_singleton.1 hb]; rfl) (by
  intro b hb;simp only [List.map_cons,List.map_nil,CM,List.cons_append,List.nil_append,List.mem_cons,List.not_mem_nil,or_false] at hb
  rcases hb with e | e | e
  ·rw [e]; exact Ah.CG (by simp) _ (hu b0 (by simp))
  ·rw [e]; exact Ah.CG (by simp) _ (hu b1 (by simp))
  ·rw [e]; exact Bz _ _) rfl
 simp only [List.map_cons,List.map_nil,CM,List.length_cons,List.length_nil] at h;exact h
theorem ahg (l:List Int) (x:Int) (b0 b1:Ah) (ext:List Ah) (hu:Aw [b0,b1]):Ag prog 89 [.mp 2,.val (.int .i64 x)] ([b0,b1,Bx BC (.agg []) l] ++ ext) (fun r h=>r = .ret (.val (.bool (Hk x l))) /\ h = [b0,b1,Bx BC (.agg []) l] ++ ext):=by
 have h:=Ag.Tq [b0,b1] ext (c89 l x) rfl hu (fun b hb=>by rw [List.mem_singleton.1 hb]; rfl) (by
  intro b hb;simp only [List.map_cons,List.map_nil,CM,List.cons_append,List.nil_append,List.mem_cons,List.not_mem_nil,or_false] at hb
  rcases hb with e | e | e
  ·rw [e]; exact Ah.CG (by simp) _ (hu b0 (by simp))
  ·rw [e]; exact Ah.CG (by simp) _ (hu b1 (by simp))
  ·rw [e]; exact Bz _ _) rfl
 simp only [List.map_cons,List.map_nil,CM,List.length_cons,List.length_nil] at h;exact h
theorem Sg (l:List Int) (x:Int):AF (l ++ [x]) = if x ∈ AF l then AF l else AF l ++ [x]:=by
 unfold AF;rw [List.foldl_append];rfl
theorem YI (l:List Int):Jv (Bx BC (.agg []) l) = l.length:=by simp [Bx,Gt,Jv]
theorem Sw (l:List Int):H3 (Bx BC (.agg []) l) = l.length:=by simp [Bx,Gt,H3]
theorem Eo (l:List Int) (i:Nat) (h:i < l.length):HH (Bx BC (.agg []) l) i = i:=by simp [Bx,Gt,HH,List.getD_eq_getElem?_getD,h]
theorem WA (l:List Int) (i:Nat) (h:i < l.length):PY (Bx BC (.agg []) l) i = .val (.int .i64 (l.getD i 0)):=by simp [Bx,Gt,PY,List.getD_eq_getElem?_getD,h,BC]
theorem Wa (l:List Int) (i:Nat) (h:i < l.length):O8 (Bx BC (.agg []) l) i = .agg []:=by simp [Bx,Gt,O8,List.getD_eq_getElem?_getD,h]
def Kn (w:Wd) (sel:List UInt8) (D:List Int) (seen:List Nat):Nat:=(seen.filter fun i=>Tr (AJ w (D.getD i 0)) sel).length
theorem C6:∀ {a b:List Nat},a.Nodup -> (∀ x ∈ a,x ∈ b) -> a.length <= b.length
 | [],_,_,_=>Nat.zero_le _
 | x :: a,b,ha,h=>by
  obtain ⟨h1,h2⟩:=List.nodup_cons.1 ha;have hx:=h x List.mem_cons_self;have h3:=C6 (b:=b.erase x) h2 fun y hy=>(List.mem_erase_of_ne (fun e:y = x=>h1 (by rw [<- e]; exact hy))).2 (h y (List.mem_cons_of_mem _ hy));rw [List.length_erase_of_mem hx] at h3;have:0 < b.length:=List.length_pos_of_mem hx;simp only [List.length_cons];omega
theorem abh (w:Wd) (sel:List UInt8) (l:List Int) {seen:List Nat} (hn:seen.Nodup) (hlt:∀ i ∈ seen,i < (AF l).length) (hall:∀ i,i < (AF l).length -> i ∈ seen):Kn w sel (AF l) seen = Oc w sel l:=by
 have h1:((List.range (AF l).length).filter fun i=>Tr (AJ w ((AF l).getD i 0)) sel).length = Oc w sel l:=by
  unfold Oc;generalize AF l = D;have h2:D = (List.range D.length).map fun i=>D.getD i 0:=by
   apply List.ext_getElem
   ·simp
   ·intro i h3 h4
    simp [List.getD_eq_getElem?_getD,h3]
  conv=>rhs; rw [h2]
  rw [List.filter_map,List.length_map];rfl
 rw [<- h1];unfold Kn;refine Nat.le_antisymm (C6 (hn.filter _) fun i hi=>?_) (C6 (List.nodup_range.filter _) fun i hi=>?_)
 ·obtain ⟨h2,h3⟩:=List.mem_filter.1 hi
  exact List.mem_filter.2 ⟨List.mem_range.2 (hlt i h2),h3⟩
 ·obtain ⟨h2,h3⟩:=List.mem_filter.1 hi
  exact List.mem_filter.2 ⟨hall i (List.mem_range.1 h2),h3⟩
end Go.Proofs.Tryz

namespace Go.Proofs.Tryz
open Go.PM
attribute [local irreducible] BM BP Bq Ci AU AO Az
theorem F3 (k:Nat) (l:List Int):Bx BC (.agg []) l = .dead \/ (Bx BC (.agg []) l).under k = true:=.inr (Bz _ _)
theorem S0 (l:List Int) {k:Nat} (h:k < l.length):l.take (k + 1) = l.take k ++ [l.getD k 0]:=by
 rw [List.take_add_one,List.getD_eq_getElem?_getD,List.getElem?_eq_getElem h]; rfl
section
variable {w:Wd} {sel:List UInt8} {x0:Int} {f:GS} {l:List Int} {s:List Nat} {b:Nat}
theorem XO (hn:¬ DC w sel x0 l) (D:List Int) (m:Int) (ext:List Ah) (H':List Ah):∃ h'',BI h''.length (C4 w sel D m x0 f ++ ext) h'' /\ 4 <= h''.length /\ AE.under h''.length (AE.panic FC) = true /\ ((DC w sel x0 l /\ False /\ h'' = H') \/ (¬ DC w sel x0 l /\ AE.panic FC = AE.panic FC /\ ∃ D m,h'' = C4 w sel D m x0 f)) :=
 ⟨C4 w sel D m x0 f,Cc ext (CY w sel D m x0 f),Nat.le_refl 4,rfl,.inr ⟨hn,rfl,D,m,rfl⟩⟩
theorem afz (hc:DC w sel x0 l) {m:Int} (hm:m = Oc w sel l) (ext:List Ah):∃ h'',BI h''.length (C4 w sel (AF l) m x0 f ++ ext) h'' /\ 4 <= h''.length /\ AE.under h''.length (AE.ret (.tup [])) = true /\ ((DC w sel x0 l /\ h'' = C4 w sel (AF l) (Oc w sel l) x0 f) \/ (¬ DC w sel x0 l /\ False /\ ∃ D m,h'' = C4 w sel D m x0 f)):=by
 subst hm;exact ⟨C4 w sel (AF l) (Oc w sel l) x0 f,Cc ext (CY w sel _ _ x0 f),Nat.le_refl 4,rfl,.inl ⟨hc,rfl⟩⟩
theorem aau (hb:b < (AF l).length) (h:∀ i ∈ s,i < (AF l).length):∀ i ∈ b :: s,i < (AF l).length:=fun i hi=>by
 rcases List.mem_cons.1 hi with e | hi
 ·rw [e]; exact hb
 ·exact h i hi
theorem Zm (hn:(b :: s).Nodup) (h:∀ i ∈ b :: s,i < (AF l).length):(AF l).length - (s.length + 1) < (AF l).length - s.length:=by
 have:=C6 (b:=List.range (AF l).length) hn fun i hi=>List.mem_range.2 (h i hi);simp only [List.length_cons,List.length_range] at this;omega
theorem V3 (hb:AN (AJ w ((AF l).getD b 0)) sel = none -> ∀ p ∈ Ca w (AJ w ((AF l).getD b 0)),p.2 ∈ l) (h:∀ i ∈ s,AN (AJ w ((AF l).getD i 0)) sel = none -> ∀ p ∈ Ca w (AJ w ((AF l).getD i 0)),p.2 ∈ l) :
  ∀ i ∈ b :: s,AN (AJ w ((AF l).getD i 0)) sel = none -> ∀ p ∈ Ca w (AJ w ((AF l).getD i 0)),p.2 ∈ l:=fun i hi=>by
 rcases List.mem_cons.1 hi with e | hi
 ·rw [e]; exact hb
 ·exact h i hi
theorem ZK (h:Tr (AJ w ((AF l).getD b 0)) sel = true):Kn w sel (AF l) (b :: s) = Kn w sel (AF l) s + 1:=by
 unfold Kn;rw [List.filter_cons_of_pos (by simpa using h)];rfl
theorem adA (h:Tr (AJ w ((AF l).getD b 0)) sel = false):Kn w sel (AF l) (b :: s) = Kn w sel (AF l) s:=by
 unfold Kn;rw [List.filter_cons_of_neg];rw [h];exact Bool.false_ne_true
theorem adq (hn:s.Nodup) (h:∀ i ∈ s,i < (AF l).length):Kn w sel (AF l) s <= l.length:=by
 have h1:=C6 (b:=List.range (AF l).length) hn fun i hi=>List.mem_range.2 (h i hi);have h2:=C0 (Pv l) fun x hx=>(Ej (l:=l)).1 hx;have h3:=List.length_filter_le (fun i=>Tr (AJ w ((AF l).getD i 0)) sel) s;unfold Kn;simp only [List.length_range] at h1;omega
theorem Tb {D:List Int} {i:Nat} (h:i < D.length):D.getD i 0 ∈ D:=Bs h
end
section
attribute [local go_sem] C4 MB Ki Du H9 Cu BO Jm Sw YI ntmps47
theorem c47 (w:Wd) (sel:List UInt8) (hw:Cw w) (hs:sel.length <= 1000000000) (l:List Int) (x0:Int) (f:GS) (hl:l.length <= 1000000000) :
  Ag prog 47 [.ptr 3 0,.sl false (is l)] (C4 w sel [] 0 x0 f) (fun r h=>(DC w sel x0 l /\ r = .ret (.tup []) /\ h = C4 w sel (AF l) (Oc w sel l) x0 f) \/ (¬ DC w sel x0 l /\ r = .panic FC /\ ∃ D m,h = C4 w sel D m x0 f)):=by
 refine Ag.less ?_;have hob:=fun y=>(KF hw y).2;have h87:=fun y=>ae7 (AJ w y) sel hs (by have:=hob y; omega);have h56:=fun y (k:Nat) (hk:k < (AJ w y).slots.length)=>c56 w ((AJ w y).slots.getD k default).v ((KF hw y).1.ss _ (Bs hk));have h86:=fun D x B3 ext=>ahu D x (.map [] [] 0) (MB w sel) (B3 :: ext) (BJ rfl);have h89:=fun D x B3 ext=>ahg D x (.map [] [] 0) (MB w sel) (B3 :: ext) (BJ rfl);refine Ag.intro func47 (by decide) rfl (Bj ?_);refine Aa.seq ?_;refine Aa.Ad (Z0 ?_);refine Aa.block ?_;refine Aa.A0 (fun k:Nat=>[(20,.val (.int .i64 (k:Nat)))]) [19,18,0] (fun k:Nat=>[.map [] [] 0,MB w sel,Bx BC (.agg []) (AF (l.take k)),.cells (Ki (.mp 2) (.val (.int .i64 0)) x0 f)]) (fun k:Nat=>k <= l.length /\ ∀ y ∈ l.take k,(Bi w y).isSome = true) (fun k:Nat=>l.length - k) (0) ?_ rfl ?_ ?_;refine Z0 ?_;rotate_left;refine ⟨rfl,?_,?_,rfl,?_⟩;refine C1 ?_;trivial;refine C1 ?_;constructor;trivial;constructor;trivial;constructor;exact .inr ⟨rfl,rfl⟩;trivial;exact C1 trivial;rintro k ⟨hk,hko⟩;refine Z0 ?_;refine Aa.Ad (Z0 ?_);refine Aa.seq (Aa.cond rfl (fun g90=>?_) (fun g90=>?_));have d90:=An g90;refine Aa.skip (Z1 g90 ?_);refine Aa.seq (Aa.block ?_);refine Aa.Ad (Z1 g90 ?_);refine Ao ?_;refine And.intro (by assumption) ?_;simp -implicitDefEqProofs (dsimp:=false) (disch:=omega) only [i64_in,gd];refine Z1 g90 ?_;refine Aa.Ad (Z1 g90 ?_);refine Ao (Ao ?_);refine Af.eq (RY w _) rfl (Z1 g90 ?_);refine Aa.Ad (Z1 g90 ?_);refine Bc.go (Zr _ _) (fun g92=>?_) (fun g92=>?_)
 refine Z2 g90 g92 ?_;refine Aa.region (Z2 g90 g92 ?_);refine Ao ?_;refine Ag.eq (h86 _ _ _ _) (Z2 g90 g92 ?_);refine Aa.region (Z2 g90 g92 ?_);refine Bd ?_;refine ⟨k + 1,?_⟩;constructor;constructor;omega;rotate_left;constructor;omega;refine ⟨rfl,?_,?_,rfl,?_⟩;refine Cv g90 g92 ?_;trivial;refine Cv g90 g92 ?_;constructor;trivial;constructor;trivial;constructor;rotate_left;trivial;exact Cv g90 g92 trivial;refine Z2 g90 g92 ?_;rotate_left;have d90:=Aj g90;refine Aa.exit (Z1 g90 ?_);refine Aa.ZY [(0,.free),(1,.free),(2,.free),(4,.free),(5,.free),(6,.free),(3,.read),(7,.read),(8,.upd)] 9 mixed (by kernel_rfl) (Z1 g90 ?_);refine Ao (Ao ?_);refine ⟨⟨_,func89,by decide,rfl⟩,Or.inr ?_⟩;refine Ja.go (h89 _ _ _ _) (Z1 g90 ?_);refine And.intro (by (repeat first | exact Ai.refl _ | exact Ai.nil _ | refine Ai.same ?_ | refine Ai.row ?_ | refine Ai.ON ?_ | refine Ai.F8 ?_ | refine Ai.F9 ?_)) ?_;refine Bc.go (Zr _ _) (fun g94=>?_) (fun g94=>?_);refine Z2 g90 g94 ?_;obtain hkl:k = l.length:=by (have:=of_decide_eq_false g90; omega)
 subst hkl;rw [List.take_length] at g94 hko ⊢;refine Aa.Ad (Z2 g90 g94 ?_);refine Ao ?_;refine Aa.block ?_;refine Aa.A0 (fun s:List Nat=>[]) [59,20,19,18,0] (fun s:List Nat=>[.map [] [] 0,MB w sel,Bx BC (.agg []) (AF l),.cells (Ki (.mp 2) (.val (.int .i64 (Kn w sel (AF l) s:Nat))) x0 f),.iter 2 (AF l).length s (AF l).length]) (fun s:List Nat=>s.Nodup /\ (∀ i ∈ s,i < (AF l).length) /\ (∀ i ∈ s,AN (AJ w ((AF l).getD i 0)) sel = none -> ∀ p ∈ Ca w (AJ w ((AF l).getD i 0)),p.2 ∈ l)) (fun s:List Nat=>(AF l).length - s.length) ([]) ?_ rfl ?_ ?_;rotate_left;refine ⟨rfl,?_,?_,rfl,?_⟩;refine Cv g90 g94 ?_;constructor;trivial;trivial;refine Cv g90 g94 ?_;constructor;trivial;constructor;trivial;constructor;rotate_left;constructor;constructor;trivial;trivial;trivial;exact Cv g90 g94 trivial;rintro s ⟨hs1,hs2,hs3⟩;refine Z2 g90 g94 ?_;refine Aa.Ad (Z2 g90 g94 ?_);constructor;rotate_left;refine Ao ?_;refine adC ?_ ?_;intro b95;intro hb96;intro hb97;refine Aa.seq (Aa.Ar rfl ?_);refine Aa.skip (Z2 g90 g94 ?_);refine Aa.block ?_;refine Aa.Ad (Z2 g90 g94 ?_);refine ⟨_,rfl,?_⟩;refine And.intro (by assumption) ?_;simp -implicitDefEqProofs (dsimp:=false) (disch:=omega) only [WA,Eo,Wa];refine Aa.Ad (Z2 g90 g94 ?_);refine Ao (Ao ?_);refine Af.eq (RY w _) rfl (Z2 g90 g94 ?_);refine Aa.seq ?_;refine Aa.BQ [(1,.free),(2,.free),(3,.free),(0,.read),(4,.read),(5,.free),(6,.free),(7,.read),(8,.free),(9,.free),(10,.free),(11,.free),(12,.free),(13,.free),(14,.free),(15,.free)] mixed (by kernel_rfl) (Z2 g90 g94 ?_)
 refine Ao (Ao ?_);refine AI.go (h87 _) rfl (Z2 g90 g94 ?_);refine Aa.Ad (Z2 g90 g94 ?_);refine Aa.cond rfl (fun g99=>?_) (fun g99=>?_);refine Aa.Ad (Z3 g90 g94 g99 ?_);refine Ao (Ao ?_);refine Aa.exit (Z3 g90 g94 g99 ?_);refine ⟨(b95 :: s),?_⟩;constructor;constructor;rotate_left;constructor;rotate_left;rotate_left;constructor;simp -implicitDefEqProofs (dsimp:=false) only [go_sem,simprocAttr,g90,g94,g99,Nat.le_refl,List.length_cons,List.length_append,List.length_nil];rotate_left;refine ⟨rfl,?_,?_,rfl,?_⟩;refine ME g90 g94 g99 ?_;constructor;trivial;trivial;refine ME g90 g94 g99 ?_;constructor;trivial;constructor;trivial;constructor;rotate_left;constructor;constructor;rotate_left;trivial;trivial;exact ME g90 g94 g99 trivial;refine Aa.skip (Z3 g90 g94 g99 ?_);refine Aa.Ad (Z3 g90 g94 g99 ?_);refine Ao ?_;refine Aa.block ?_;refine Aa.A0 (fun j:Nat=>[(100,.val (.int .i64 (j:Nat)))]) [99,98,59,20,19,18,0] (fun j:Nat=>[.map [] [] 0,MB w sel,Bx BC (.agg []) (AF l),.cells (Ki (.mp 2) (.val (.int .i64 (Kn w sel (AF l) s:Nat))) x0 f),.iter 2 (AF l).length (b95 :: s) (AF l).length,.dead]) (fun j:Nat=>j <= (AJ w ((AF l).getD b95 0)).slots.length /\ ∀ i,i < j -> BX ((AJ w ((AF l).getD b95 0)).slots.getD i default) = true -> (Ay w ((AJ w ((AF l).getD b95 0)).slots.getD i default).v).1 ∈ l) (fun j:Nat=>(AJ w ((AF l).getD b95 0)).slots.length - j) (0) ?_ rfl ?_ ?_;refine ⟨?_,?_⟩ <;> omega
 refine ⟨rfl,?_,?_,rfl,?_⟩;refine ME g90 g94 g99 ?_;constructor;trivial;trivial;refine ME g90 g94 g99 ?_;constructor;trivial;constructor;trivial;constructor;rotate_left;constructor;trivial;trivial;exact ME g90 g94 g99 trivial;rintro j ⟨hj1,hj2⟩;refine Z3 g90 g94 g99 ?_;refine Aa.Ad (Z3 g90 g94 g99 ?_);refine Aa.seq (Aa.cond rfl (fun g100=>?_) (fun g100=>?_));have d100:=An g100;refine Aa.skip (Z4 g90 g94 g99 g100 ?_);refine Aa.seq (Aa.block ?_);refine Aa.Ad (Z4 g90 g94 g99 g100 ?_);refine Ao ?_;refine And.intro (by assumption) ?_;simp -implicitDefEqProofs (dsimp:=false) (disch:=omega) only [i64_in,gd];refine Z4 g90 g94 g99 g100 ?_;refine Aa.Ad (Z4 g90 g94 g99 g100 ?_);refine Af.eq (c55 _) rfl (Z4 g90 g94 g99 g100 ?_);refine Aa.cond rfl (fun g102=>?_) (fun g102=>?_);refine Aa.BQ [(0,.free),(1,.free),(2,.free),(7,.free),(3,.read),(4,.free),(5,.free),(6,.read),(8,.read),(9,.free),(10,.free),(11,.free),(12,.free),(13,.free),(14,.free)] mixed (by kernel_rfl) (Z5 g90 g94 g99 g100 g102 ?_);refine Ao (Ao (Ao ?_));refine AI.go (h56 _ _ ?_) rfl ?_;omega;refine Z5 g90 g94 g99 g100 g102 ?_;refine Aa.region (Z5 g90 g94 g99 g100 g102 ?_);refine Ao ?_;refine Ag.eq (h89 _ _ _ _) (Z5 g90 g94 g99 g100 g102 ?_);refine Bc.go (Zr _ _) (fun g104=>?_) (fun g104=>?_);refine Z6 g90 g94 g99 g100 g102 g104 ?_;refine Aa.region (Z6 g90 g94 g99 g100 g102 g104 ?_);refine ⟨j + 1,?_⟩;constructor;constructor;omega;rotate_left;constructor;omega;refine ⟨rfl,?_,?_,rfl,?_⟩
 refine JB g90 g94 g99 g100 g102 g104 ?_;constructor;rotate_left;constructor;trivial;trivial;refine JB g90 g94 g99 g100 g102 g104 ?_;constructor;trivial;constructor;trivial;constructor;rotate_left;constructor;trivial;trivial;exact JB g90 g94 g99 g100 g102 g104 trivial;refine Z6 g90 g94 g99 g100 g102 g104 ?_;rotate_left;refine Aa.skip (Z5 g90 g94 g99 g100 g102 ?_);refine Aa.region (Z5 g90 g94 g99 g100 g102 ?_);refine ⟨j + 1,?_⟩;constructor;constructor;omega;rotate_left;constructor;omega;refine ⟨rfl,?_,?_,rfl,?_⟩;refine GO g90 g94 g99 g100 g102 ?_;constructor;rotate_left;constructor;trivial;trivial;refine GO g90 g94 g99 g100 g102 ?_;constructor;trivial;constructor;trivial;constructor;rotate_left;constructor;trivial;trivial;exact GO g90 g94 g99 g100 g102 trivial;have d100:=Aj g100;refine Aa.exit (Z4 g90 g94 g99 g100 ?_);refine ⟨(b95 :: s),?_⟩;constructor;constructor;rotate_left;constructor;rotate_left;rotate_left;constructor;simp -implicitDefEqProofs (dsimp:=false) only [go_sem,simprocAttr,g90,g94,g99,g100,Nat.le_refl,List.length_cons,List.length_append,List.length_nil];rotate_left;refine ⟨rfl,?_,?_,rfl,?_⟩;refine Mv g90 g94 g99 g100 ?_;constructor;trivial;trivial;refine Mv g90 g94 g99 g100 ?_;constructor;trivial;constructor;trivial;constructor;rotate_left;constructor;constructor;rotate_left;trivial;trivial;exact Mv g90 g94 g99 g100 trivial;intro hb105;refine Aa.seq (Aa.Ax rfl ?_);refine Aa.exit (Z2 g90 g94 ?_);rotate_left;refine Z2 g90 g94 ?_;rotate_left
 ·exact ⟨Nat.zero_le _,fun y hy=>(nomatch hy)⟩
 ·intro y hy
  rw [S0 l (by simpa using g90)] at hy
  rcases List.mem_append.1 hy with hy | hy
  ·exact hko y hy
  ·rw [List.mem_singleton.1 hy]; exact g92
 ·rw [S0 l (by simpa using g90),Sg]
  exact .inr ⟨rfl,Bz _ _⟩
 ·refine XO (fun h=>?_) _ _ [_] _
  rw [h.objs _ (Tb (by simpa using g90))] at g92
  cases g92
 ·exact ⟨List.nodup_nil,fun i h=>(nomatch h),fun i h=>(nomatch h)⟩
 ·exact F3 _ _
 ·exact fun i hi=>by rw [Eo _ _ hi]; exact hi
 ·exact List.nodup_cons.2 ⟨by rw [Eo _ _ hb96] at hb97; exact hb97,hs1⟩
 ·exact aau hb96 hs2
 ·exact V3 (fun h=>by unfold Tr at g99; rw [h] at g99; cases g99) hs3
 ·exact Zm (List.nodup_cons.2 ⟨by rw [Eo _ _ hb96] at hb97; exact hb97,hs1⟩) (aau hb96 hs2)
 ·exact F3 _ _
 ·have hc:=adq (w:=w) (sel:=sel) hs1 hs2
  rw [ZK g99,i64_in (by omega) (by omega)];rfl
 ·exact F3 _ _
 ·intro i hi hli
  rcases Nat.lt_or_eq_of_le (Nat.le_of_lt_succ hi) with h | h
  ·exact hj2 i h hli
  ·rw [h]; exact Ej.1 (KJ.1 g104)
 ·have:=hob ((AF l).getD b95 0)
  rw [i64_in (by omega) (by have:=of_decide_eq_true g100; omega)]
 ·exact F3 _ _
 ·refine XO (fun h=>?_) _ _ [_,_,_] _
  have hm:AN (AJ w ((AF l).getD b95 0)) sel = none:=by
   unfold Tr at g99
   cases hq:AN (AJ w ((AF l).getD b95 0)) sel with
   | none=>rfl
   | some p=>rw [hq] at g99; cases g99
  have hp:(j,(Ay w ((AJ w ((AF l).getD b95 0)).slots.getD j default).v).1) ∈ Ca w (AJ w ((AF l).getD b95 0)):=Eh.2 ⟨by simpa using g100,g102,rfl⟩;have:=h.shut _ (Ej.1 (Tb hb96)) hm _ hp;have h2:=KJ.2 (Ej.2 this);rw [h2] at g104
  cases g104
 ·intro i hi hli
  rcases Nat.lt_or_eq_of_le (Nat.le_of_lt_succ hi) with h | h
  ·exact hj2 i h hli
  ·rw [h] at hli; unfold BX at hli; rw [g102] at hli; cases hli
 ·have:=hob ((AF l).getD b95 0)
  rw [i64_in (by omega) (by have:=of_decide_eq_true g100; omega)]
 ·exact F3 _ _
 ·exact List.nodup_cons.2 ⟨by rw [Eo _ _ hb96] at hb97; exact hb97,hs1⟩
 ·exact aau hb96 hs2
 ·refine V3 (fun _ p hp=>?_) hs3
  obtain ⟨h1,h2,h3⟩:=Eh.1 hp;rw [h3];exact hj2 p.1 (by have:=of_decide_eq_false g100; omega) h2
 ·exact Zm (List.nodup_cons.2 ⟨by rw [Eo _ _ hb96] at hb97; exact hb97,hs1⟩) (aau hb96 hs2)
 ·exact F3 _ _
 ·rw [adA g99]
 ·have hall:∀ i,i < (AF l).length -> i ∈ s:=fun i hi=>by
   have h:=hb105 i hi;rw [Eo _ _ hi] at h;exact h
  have hcc:=abh w sel l hs1 hs2 hall;refine afz (f:=f) ⟨fun y hy=>hko y hy,Ej.1 (KJ.1 g94),fun y hy hm p hp=>?_⟩ (congrArg Nat.cast hcc) [_];obtain ⟨i,hi,rfl⟩:=List.getElem_of_mem (Ej.2 hy);have e:(AF l).getD i 0 = (AF l)[i]:=by simp [List.getD_eq_getElem?_getD,hi]
  rw [<- e] at hm hp;exact hs3 i (hall i hi) hm p hp
 ·refine XO (fun h=>?_) _ _ [] _
  have h2:l.take k = l:=List.take_of_length_le (by have:=of_decide_eq_false g90; omega);rw [h2,KJ.2 (Ej.2 h.first)] at g94
  cases g94
end
end Go.Proofs.Tryz

namespace Go.Proofs.Tryz
open Go.PM
attribute [local irreducible] BM BP Bq Ci AU AO Az
section
attribute [local go_sem] ntmps88
theorem afO:Af prog 88 [.val (.bool true)] (· = .tup []):=by
 refine Ag.intro func88 (by decide) rfl (Bj ?_);refine Aa.Ad (Z0 ?_);refine Aa.Ax rfl ?_;refine Aa.skip (Z0 ?_);exact Ae rfl (Z0 trivial)
end
section
attribute [local go_sem] C4 MB Ki BO Option.getD_some ntmps48
theorem ahy (w:Wd) (sel:List UInt8) (hw:Cw w) (hs:sel.length <= 1000000000) (l:List Int) (x0:Int) (f:GS) (hp:f.path.length <= 1000000000) (hk:f.kind = 1) (hq:G1 w sel x0 f.path f.holder f.slot = some f.set) (h2:XK f) :
  Ag prog 48 [.ptr 3 0] (C4 w sel l 1 x0 f) (fun r h=>r = .ret (.tup []) /\ h = C4 w sel l 1 x0 f):=by
 refine Ag.trim (Nat.le_refl _) rfl (CY w sel l 1 x0 f) ?_;have h90:=fun B=>(Bc.pre (c90 w sel hw hs l 1 x0 f f.path f.holder f.slot hp) [B] (CY w sel l 1 x0 f) rfl rfl rfl).1 (by rw [hq]; rfl);rw [hq] at h90;obtain ⟨e1,e2,e3⟩:=h2;have k0:(f.kind == 0) = false:=by rw [hk]; rfl
 have k1:(f.kind == 1) = true:=by rw [hk]; rfl
 have k5:(f.holder2 == 0) = true:=by rw [e1]; rfl
 have k6:(f.slot2 == 0) = true:=by rw [e2]; rfl
 have k7:((f.path2.length:Int) == 0) = true:=by rw [e3]; rfl
 refine Ag.intro func48 (by decide) rfl (Ze5 k0 k1 k5 k6 k7 ?_);refine Aa.Ad (Z5 k0 k1 k5 k6 k7 ?_);refine Ao ?_;refine Aa.Ad (Z5 k0 k1 k5 k6 k7 ?_);refine Ao ?_;refine Aa.block ?_;refine Aa.Ad (Z5 k0 k1 k5 k6 k7 ?_);refine Aa.Ax rfl ?_;refine Aa.Ad (Z5 k0 k1 k5 k6 k7 ?_);refine Aa.Ar rfl ?_;refine Aa.BQ [(0,.free),(1,.free),(2,.free),(3,.read),(4,.free),(5,.free),(6,.free),(7,.free),(9,.free),(11,.free),(14,.free),(8,.read),(10,.read),(12,.read),(15,.read),(13,.upd),(16,.free),(17,.free),(18,.free)] mixed (by kernel_rfl) (Z5 k0 k1 k5 k6 k7 ?_);refine Ao (Ao (Ao (Ao (Ao ?_))));refine ⟨⟨_,func90,by decide,rfl⟩,Or.inr ?_⟩;refine Ja.go (h90 _) (Z5 k0 k1 k5 k6 k7 ?_);refine And.intro (by (repeat first | exact Ai.refl _ | exact Ai.nil _ | refine Ai.same ?_ | refine Ai.row ?_ | refine Ai.ON ?_ | refine Ai.F8 ?_ | refine Ai.F9 ?_)) ?_;refine AI.go (afO) rfl (Z5 k0 k1 k5 k6 k7 ?_);refine Aa.region (Z5 k0 k1 k5 k6 k7 ?_);refine Ao (Ao (Ao ?_));refine Af.eq (afO) rfl (Z5 k0 k1 k5 k6 k7 ?_);rotate_left;exact ⟨[_],rfl⟩
end
end Go.Proofs.Tryz

namespace Go.Proofs.Tryz
open Go.PM
attribute [local irreducible] BM BP Bq Ci AU AO Az
def GI (k:Nat) (w:Wd) (sel:List UInt8) (l:List Int) (m x:Int) (f:GS):List Ah:=[.map [] [] 0,.cells [DI w,.val (.string (Ak sel)),.mp k,.sl true [],.sl true []],Bx BC (.agg []) l,.cells (.ptr (k + 1) 0 :: (Ki (.mp (k + 2)) (.val (.int .i64 m)) x f).drop 1)]
theorem Dc (k:Nat) (w:Wd) (sel:List UInt8) (l:List Int) (m x:Int) (f:GS):(C4 w sel l m x f).map (Ah.shift k) = GI k w sel l m x f:=by
 simp only [C4,GI,List.map_cons,List.map_nil,CM];rfl
theorem LY {k:Nat} {pre:List Ah} (hk:pre.length = k) (hu:Aw pre) (w:Wd) (sel:List UInt8) (l:List Int) (m x:Int) (f:GS):Aw (pre ++ GI k w sel l m x f):=by
 intro b hb;have hl:(pre ++ GI k w sel l m x f).length = k + 4:=by simp [GI,hk]
 rw [hl]
 rcases List.mem_append.1 hb with hb | hb
 ·exact Ah.CG (by omega) b (hu b hb)
 ·simp only [GI,List.mem_cons,List.not_mem_nil,or_false] at hb
  rcases hb with rfl | rfl | rfl | rfl
  ·rfl
  ·simp [Ah.under,AZ,AV.under,DI]
  ·exact Bz _ _
  ·simp [Ah.under,AZ,AV.under,Ki]
theorem PW (w:Wd) (sel:List UInt8) (l:List Int) (m x:Int) (f:GS):∀ b ∈ C4 w sel l m x f,b.Of = true:=fun b hb=>by
 simp only [C4,List.mem_cons,List.not_mem_nil,or_false] at hb
 rcases hb with rfl | rfl | rfl | rfl <;> rfl
theorem acd {k:Nat} {pre:List Ah} (hk:pre.length = k) (hu:Aw pre) {w:Wd} {sel:List UInt8} {l l':List Int} {m m' x x':Int} {f f':GS} {fn:FuncId} {args:List AV} {v:AV} (ha:AZ (k + 4) (args.map (AV.shift k)) = true)
  (hc:Ag prog fn args (C4 w sel l m x f) (fun r h=>r = .ret v /\ h = C4 w sel l' m' x' f')) (ext:List Ah) :
  Ag prog fn (args.map (AV.shift k)) (pre ++ GI k w sel l m x f ++ ext) (fun r h=>r = .ret (v.shift k) /\ h = pre ++ GI k w sel l' m' x' f' ++ ext):=by
 subst hk;have h2:=Ag.Tq pre ext hc rfl hu (PW w sel l m x f) (by rw [Dc]; exact LY rfl hu w sel l m x f) (by rw [Dc]; simp only [List.length_append]; exact ha);rw [Dc,Dc] at h2;exact h2
theorem aeQ {k:Nat} {pre:List Ah} (hk:pre.length = k) (hu:Aw pre) {w:Wd} {sel:List UInt8} {l:List Int} {m x:Int} {f:GS} {fn:FuncId} {args:List AV} (ha:AZ (k + 4) (args.map (AV.shift k)) = true)
  (hc:Ag prog fn args (C4 w sel l m x f) (fun r h=>r = .panic FC /\ ∃ D m,h = C4 w sel D m x f)) (ext:List Ah) :
  Ag prog fn (args.map (AV.shift k)) (pre ++ GI k w sel l m x f ++ ext) (fun r h=>r = .panic FC /\ ∃ D m,h = pre ++ GI k w sel D m x f ++ ext):=by
 subst hk;have h2:=Ag.Jb ext hu (PW w sel l m x f) (by rw [Dc]; exact LY rfl hu w sel l m x f) (by rw [Dc]; simp only [List.length_append]; exact ha) (fun r h' ⟨_,D,m,e⟩=>by rw [e]; rfl) hc;rw [Dc] at h2;refine h2.mono ?_;rintro r h' ⟨r0,h1,⟨e1,D,m',e2⟩,e3,e4⟩;subst e1 e2 e3 e4;exact ⟨rfl,D,m',by rw [Dc]⟩
section
attribute [local go_sem] C2 JV Cy HG Dn GI Ki F1 underlying20 FC ntmps18 ntmps46
theorem ahO (w:Wd) (v:Vl) (sel:List UInt8) (l:List Int) (f:GS) (hw:Cw w) (hvl:Cm v) (hs:sel.length <= 1000000000) (hl:l.length <= 1000000000) (he:Bg w v sel = 0) (hn:¬ DC w sel (Ay w v).1 l) :
  Af prog 18 [C2 w,Cy v,.val (.string (Ak sel)),.sl false (is l),HG f] (· = .val (.int .i64 60)):=by
 have h0:=Ag.mono (R':=fun r h=>r = .panic FC /\ ∃ D m,h = C4 w sel D m (Ay w v).1 f) (c47 w sel hw hs l (Ay w v).1 f hl) (fun r h hh=>by
  rcases hh with ⟨h1,_⟩ | ⟨_,h2⟩
  ·exact absurd h1 hn
  ·exact h2)
 have h47n:=fun b0 b1 b2 b3 (hu:Aw [b0,b1,b2,b3,.dead,.dead])=>aeQ (k:=6) (pre:=[b0,b1,b2,b3,.dead,.dead]) rfl hu rfl h0 [];have h43:=abD w v sel hw hvl he;generalize (Ay w v).1 = x0 at *;clear h0 hn he;refine Ag.intro func18 (by decide) rfl (Bj ?_);refine Aa.Ad (Z0 ?_);refine Aa.Ad (Z0 ?_);refine Ag.eq (Ag.EZ (h43) rfl) (Z0 ?_);refine Aa.seq ?_;refine Aa.Ad (Z0 ?_);refine Aa.Ax rfl ?_;refine Aa.skip (Z0 ?_);refine Aa.Qa (Z0 ?_);refine Aa.Ad (Z0 ?_);refine Aa.Ad (Z0 ?_);refine (h47n _ _ _ _ ?_).mono ?_;exact BJ rfl;rintro r45 h45 ⟨rfl,D,m,rfl⟩;refine Z0 ?_;refine Kt.recover func46 (by decide) rfl rfl (Bj ?_);refine Aa.block ?_;refine Aa.Ad (Z0 ?_);refine Aa.Ax rfl ?_;refine Aa.Qa (Z0 ?_);refine Aa.Ar rfl ?_;refine Aa.Ad (Z0 ?_);refine Aa.region (Z0 ?_);exact Ae rfl (Z0 trivial)
end
section
attribute [local go_sem] C2 JV Cy HG Dn GI Ki F1 underlying20 FC ntmps18 ntmps46
theorem aiW (w:Wd) (v:Vl) (sel:List UInt8) (l:List Int) (f:GS) (hw:Cw w) (hvl:Cm v) (hs:sel.length <= 1000000000) (hl:l.length <= 1000000000) (hp:f.path.length <= 1000000000) (he:Bg w v sel = 0) (hc:DC w sel (Ay w v).1 l) (h1:Oc w sel l = 1) (hk:f.kind = 1) (hq:G1 w sel (Ay w v).1 f.path f.holder f.slot = some f.set) (h2:XK f) :
  Af prog 18 [C2 w,Cy v,.val (.string (Ak sel)),.sl false (is l),HG f] (· = .val (.int .i64 0)):=by
 have h0:=Ag.mono (R':=fun r h=>r = .ret (.tup []) /\ h = C4 w sel (AF l) 1 (Ay w v).1 f) (c47 w sel hw hs l (Ay w v).1 f hl) (fun r h hh=>by
  rcases hh with ⟨_,h3,h4⟩ | ⟨h3,_⟩
  ·rw [h1] at h4; exact ⟨h3,h4⟩
  ·exact absurd hc h3)
 have h47:=fun b0 b1 b2 b3 (hu:Aw [b0,b1,b2,b3,.dead,.dead])=>acd (k:=6) (pre:=[b0,b1,b2,b3,.dead,.dead]) rfl hu rfl h0 [];have h48:=fun b0 b1 b2 b3 (hu:Aw [b0,b1,b2,b3,.dead,.dead])=>acd (k:=6) (pre:=[b0,b1,b2,b3,.dead,.dead]) rfl hu rfl (ahy w sel hw hs (AF l) (Ay w v).1 f hp hk hq h2) [];have h43:=abD w v sel hw hvl he;generalize (Ay w v).1 = x0 at *;generalize AF l = D at *;clear h0 hc h1 hk hq h2 he;refine Ag.intro func18 (by decide) rfl (Bj ?_);refine Aa.Ad (Z0 ?_);refine Aa.Ad (Z0 ?_);refine Ag.eq (Ag.EZ (h43) rfl) (Z0 ?_);refine Aa.seq ?_;refine Aa.Ad (Z0 ?_);refine Aa.Ax rfl ?_;refine Aa.skip (Z0 ?_);refine Aa.Qa (Z0 ?_);refine Aa.Ad (Z0 ?_);refine Aa.Ad (Z0 ?_);refine Ag.eq (h47 _ _ _ _ ?_) ?_;exact BJ rfl;refine Z0 ?_;refine Aa.Ad (Z0 ?_);refine Ag.eq (h48 _ _ _ _ ?_) ?_;exact BJ rfl;refine Z0 ?_;refine Aa.Ad (Z0 ?_);refine Aa.ret (Z0 ?_);refine Kt.recover func46 (by decide) rfl rfl (Bj ?_);refine Aa.block ?_;refine Aa.Ad (Z0 ?_);refine Aa.Ar rfl ?_;refine Aa.region (Z0 ?_);exact Ae rfl (Z0 trivial)
end
end Go.Proofs.Tryz

namespace Go.Proofs.Tryz
open Go.PM
def HV (i:Nat):Ob:=⟨(i:Int) + 1,if i = 6 then 2 else 1,[],[],0,0⟩
def D8 (n:Int):Vl:=⟨4,n,[]⟩
def IX (n:Int):Vl:=⟨1,n,[]⟩
def NV:Ob:=⟨11,1,[⟨[120],1,IX 1⟩,⟨[112],3,D8 12⟩,⟨[113],3,D8 13⟩],[],0,0⟩
def Pm:Ob:=⟨12,1,[⟨[121],2,IX 2⟩,⟨[114],3,D8 14⟩],[],0,0⟩
def Qn:Ob:=⟨13,1,[⟨[121],1,IX 3⟩,⟨[114],3,D8 14⟩],[],0,0⟩
def Qp:Ob:=⟨14,1,[⟨[122],1,IX 4⟩,⟨[117,112],3,D8 11⟩],[],0,0⟩
def Bh:Wd:=⟨(List.range 10).map HV ++ [NV,Pm,Qn,Qp],[],[],15,1⟩
theorem Ho (n:Int) (h0:1 <= n) (h1:n <= 14):Bi Bh n = some (n - 1):=by
 rcases (by omega:n = 1 \/ n = 2 \/ n = 3 \/ n = 4 \/ n = 5 \/ n = 6 \/ n = 7 \/ n = 8 \/ n = 9 \/ n = 10 \/ n = 11 \/ n = 12 \/ n = 13 \/ n = 14) with h | h | h | h | h | h | h | h | h | h | h | h | h | h <;> subst h <;> decide
theorem H7 {n:Int} (h0:1 <= n) (h1:n <= 1099511627776):CA (D8 n) = true:=by
 unfold CA D8;simp [h0,h1]
theorem IE {n:Int} (h0:1 <= n) (h1:n <= 14):GQ Bh (D8 n) = true:=by
 unfold GQ;rw [H7 h0 (by omega)]
 show (true && (!(true) || (Bi Bh n).isSome)) = true
 rw [Ho n h0 h1];rfl
theorem KK {n:Int} (h0:0 <= n) (h1:n <= 14):GQ Bh (IX n) = true:=by
 unfold GQ IX;rw [Rg ⟨by omega,by omega⟩];rfl
theorem EL {o:Ob} {s:HA} (h0:(s.v.k == 5) = false) (h1:decide (s.kind >= 1) = true) (h2:decide (s.kind <= 4) = true) (h3:Bu s.name = 0) (h4:GQ Bh s.v = true):Fg Bh o s = true:=by
 unfold Fg;rw [h0,h1,h2,h3,h4];rfl
theorem ah2:Bu [120] = 0:=by decide +kernel
theorem ajI:Bu [112] = 0:=by decide +kernel
theorem ahE:Bu [113] = 0:=by decide +kernel
theorem afH:Bu [121] = 0:=by decide +kernel
theorem ae1:Bu [114] = 0:=by decide +kernel
theorem aix:Bu [122] = 0:=by decide +kernel
theorem af3:Bu [117,112] = 0:=by decide +kernel
theorem abm (i:Nat):N6 Bh (HV i):=by
 refine ⟨by simp [HV],?_,fun j hj=>by simp [HV] at hj,fun j k _ hj=>by simp [HV] at hj⟩;unfold HK HV
 by_cases h:i = 6
 ·simp [h,Ct,Ls]
 ·simp [h,Ct]
theorem Wz {o:Ob} {a b c:HA} (hs:o.slots = [a,b,c]) (hr:HK Bh o = true) (ha:Fg Bh o a = true) (hb:Fg Bh o b = true) (hc:Fg Bh o c = true) (n1:a.name ≠ b.name) (n2:a.name ≠ c.name) (n3:b.name ≠ c.name):N6 Bh o:=by
 refine ⟨by rw [hs]; simp,hr,fun i hi=>?_,fun i j hj hi=>?_⟩
 ·rw [hs] at hi ⊢
  match i,hi with
  | 0,_=>exact ha
  | 1,_=>exact hb
  | 2,_=>exact hc
  | n + 3,h=>simp at h; omega
 ·rw [hs] at hi ⊢
  match i,j,hi,hj with
  | 1,0,_,_=>exact n1
  | 2,0,_,_=>exact n2
  | 2,1,_,_=>exact n3
  | 0,_,_,h=>omega
  | 1,n + 1,_,h=>omega
  | 2,n + 2,_,h=>omega
  | n + 3,_,h,_=>simp at h; omega
theorem RW {o:Ob} {a b:HA} (hs:o.slots = [a,b]) (hr:HK Bh o = true) (ha:Fg Bh o a = true) (hb:Fg Bh o b = true) (n1:a.name ≠ b.name):N6 Bh o:=by
 refine ⟨by rw [hs]; simp,hr,fun i hi=>?_,fun i j hj hi=>?_⟩
 ·rw [hs] at hi ⊢
  match i,hi with
  | 0,_=>exact ha
  | 1,_=>exact hb
  | n + 2,h=>simp at h; omega
 ·rw [hs] at hi ⊢
  match i,j,hi,hj with
  | 1,0,_,_=>exact n1
  | 0,_,_,h=>omega
  | 1,n + 1,_,h=>omega
  | n + 2,_,h,_=>simp at h; omega
theorem XB:(Bh.objs.any fun o=>!NS Bh o) = false:=by
 rw [List.any_eq_false];intro o ho;simp only [Bool.not_eq_true',Bool.not_eq_false];rw [KP];have ho':o ∈ (List.range 10).map HV ++ [NV,Pm,Qn,Qp]:=ho
 rcases List.mem_append.1 ho' with h | h
 ·obtain ⟨i,_,rfl⟩:=List.mem_map.1 h
  exact abm i
 ·simp only [List.mem_cons,List.not_mem_nil,or_false] at h
  rcases h with rfl | rfl | rfl | rfl
  ·exact Wz rfl rfl (EL rfl rfl rfl ah2 (KK (by omega) (by omega))) (EL rfl rfl rfl ajI (IE (by omega) (by omega))) (EL rfl rfl rfl ahE (IE (by omega) (by omega))) (by decide) (by decide) (by decide)
  ·exact RW rfl rfl (EL rfl rfl rfl afH (KK (by omega) (by omega))) (EL rfl rfl rfl ae1 (IE (by omega) (by omega))) (by decide)
  ·exact RW rfl rfl (EL rfl rfl rfl afH (KK (by omega) (by omega))) (EL rfl rfl rfl ae1 (IE (by omega) (by omega))) (by decide)
  ·exact RW rfl rfl (EL rfl rfl rfl aix (KK (by omega) (by omega))) (EL rfl rfl rfl af3 (IE (by omega) (by omega))) (by decide)
theorem Vr:B6 Bh:=by
 refine ⟨by decide,by decide,by decide +kernel,by decide +kernel,Rz,fun n h0 h1=>by rw [Ho n h0 (by omega)]; rfl,fun i hi=>absurd hi (Nat.not_lt_zero i),rfl,XB⟩
theorem V1:CP Bh = true:=Ck.2 Vr
theorem Cg {n:Int} (h0:1 <= n) (h1:n <= 14):Ay Bh (D8 n) = (n,true):=by
 unfold Ay;rw [if_pos (H7 h0 (by omega))]
 show (if (4:Int) = 4 then (n,(Bi Bh n).isSome) else _) = _
 rw [if_pos rfl,Ho n h0 h1];rfl
theorem Ov (n:Int) (h0:1 <= n) (h1:n <= 14):AJ Bh n = Bh.objs.getD (n - 1).toNat default:=by
 unfold AJ;rw [Ho n h0 h1]
theorem J1:AJ Bh 11 = NV:=(Ov 11 (by omega) (by omega)).trans rfl
theorem Xy:AJ Bh 12 = Pm:=(Ov 12 (by omega) (by omega)).trans rfl
theorem Wr:AJ Bh 13 = Qn:=(Ov 13 (by omega) (by omega)).trans rfl
theorem W6:AJ Bh 14 = Qp:=(Ov 14 (by omega) (by omega)).trans rfl
theorem abH:Ca Bh NV = [(1,12),(2,13)]:=by
 simp [Ca,Fs,NV,BX,IX,Cg (n:=12) (by omega) (by omega),Cg (n:=13) (by omega) (by omega)]
theorem aeV:Ca Bh Pm = [(1,14)]:=by
 simp [Ca,Fs,Pm,BX,IX,Cg (n:=14) (by omega) (by omega)]
theorem afc:Ca Bh Qn = [(1,14)]:=by
 simp [Ca,Fs,Qn,BX,IX,Cg (n:=14) (by omega) (by omega)]
theorem agS:Ca Bh Qp = [(1,11)]:=by
 simp [Ca,Fs,Qp,BX,IX,Cg (n:=11) (by omega) (by omega)]
end Go.Proofs.Tryz

namespace Go.Proofs.Tryz
open Go.PM
attribute [local irreducible] BM BP Bq Ci AU AO Az
def Th (k:Nat):AV:=.agg [.val (.int .i64 ((k:Int) + 1)),.val (.int .i64 (if k = 6 then 2 else 1)),.sl true [],.sl true [],.val (.int .i64 0),.val (.int .i64 0)]
def Ka (k:Nat):List AV:=(List.range k).map Th
theorem Ny (k:Nat):(Ka k).length = k:=by simp [Ka]
theorem Q9 (k:Nat):Ka (k + 1) = Ka k ++ [Th k]:=by simp [Ka,List.range_succ]
section
attribute [local go_sem] Ny ntmps84
theorem c84:Ag prog 84 [] [] (fun r h=>r = .ret (.agg [.hsl 2 10 0 10,.sl true [],.sl true [],.val (.int .i64 11),.val (.int .i64 1)]) /\ h = [.dead,.dead,.row true 10 6 (Ka 10)]):=by
 refine Ag.less ?_;refine Ag.intro func84 (by decide) rfl (Bj ?_);refine Aa.Ad (Z0 ?_);refine Aa.Ad (Z0 ?_);refine Aa.seq ?_;refine Aa.Da 1 0 6 rfl rfl (Z0 ?_);refine Aa.Ad (Z0 ?_);refine Aa.block ?_;refine Aa.A0 (fun k:Nat=>[(2,.val (.int .i64 ((k:Int) + 1)))]) [1,0] (fun k:Nat=>[.cells [.sl true [],.sl true [],.sl true [],.val (.int .i64 0),.val (.int .i64 0)],.cells [.hsl 2 k 0 k,.sl true [],.sl true [],.val (.int .i64 11),.val (.int .i64 1)],.row true k 6 (Ka k)]) (fun k:Nat=>k <= 10) (fun k:Nat=>10 - k) (0) ?_ rfl ?_ ?_;omega;refine ⟨rfl,?_,?_,rfl,?_⟩;refine C1 ?_;constructor;trivial;trivial;refine C1 ?_;constructor;trivial;trivial;exact C1 trivial;rintro k hk;refine Z0 ?_;refine Aa.seq ?_;refine Aa.Ad (Z0 ?_);refine Aa.cond rfl (fun g1=>?_) (fun g1=>?_);have d1:=An g1;refine Aa.skip (Z1 g1 ?_);refine Aa.seq (Aa.block ?_);refine Aa.Ad (Z1 g1 ?_);refine Aa.seq ?_;refine Aa.Ad (Z1 g1 ?_);refine Aa.cond rfl (fun g2=>?_) (fun g2=>?_);have d2:=AB g2;refine Aa.region (Z2 g1 g2 ?_);refine Aa.region (Z2 g1 g2 ?_);refine Ao ?_;refine And.intro (by trivial) ?_;constructor;rotate_left;refine Ao (Ao ?_);refine Aa.region (Z2 g1 g2 ?_);refine Bd ?_;refine ⟨k + 1,?_⟩;constructor;omega;constructor;omega;refine ⟨rfl,?_,?_,rfl,?_⟩;refine Cv g1 g2 ?_;constructor;trivial;trivial;refine Cv g1 g2 ?_;constructor;trivial;rotate_left;exact Cv g1 g2 trivial;have d2:=Aq g2;refine Aa.skip (Z2 g1 g2 ?_);refine Aa.region (Z2 g1 g2 ?_);refine Ao ?_;refine And.intro (by trivial) ?_
 constructor;rotate_left;refine Ao (Ao ?_);refine Aa.region (Z2 g1 g2 ?_);refine Bd ?_;refine ⟨k + 1,?_⟩;constructor;omega;constructor;omega;refine ⟨rfl,?_,?_,rfl,?_⟩;refine Cv g1 g2 ?_;constructor;trivial;trivial;refine Cv g1 g2 ?_;constructor;trivial;rotate_left;exact Cv g1 g2 trivial;have d1:=Aj g1;refine Aa.exit (Z1 g1 ?_);refine Aa.Ad (Z1 g1 ?_);refine Aa.ret (Z1 g1 ?_);rotate_left
 ·exact fun x hx=>by rw [List.mem_singleton.1 hx]; rfl
 ·obtain rfl:k = 6:=by omega
  rfl
 ·exact fun x hx=>by rw [List.mem_singleton.1 hx]; rfl
 ·rw [Q9]
  have:k ≠ 6:=fun e=>by rw [e] at g2; cases g2
  rw [show Th k = .agg [.val (.int .i64 ((k:Int) + 1)),.val (.int .i64 1),.sl true [],.sl true [],.val (.int .i64 0),.val (.int .i64 0)] by unfold Th; rw [if_neg this]]
 ·obtain rfl:k = 10:=by have:=of_decide_eq_false g1; omega
  exact ⟨[.dead,.dead,.row true 10 6 (Ka 10)],⟨.inl rfl,.inl rfl,.inr ⟨rfl,rfl⟩,trivial⟩,Nat.zero_le _,rfl,rfl,rfl⟩
end
theorem NQ (s:List UInt8) (k a b:Int) (t:List UInt8):Af prog 26 [.val (.string (Ak s)),.val (.int .i64 k),.agg [.val (.int .i64 a),.val (.int .i64 b),.val (.string (Ak t))]] (· = H9 ⟨s,k,⟨a,b,t⟩⟩):=c26 s k ⟨a,b,t⟩
section
attribute [local go_sem] Cy H9 Ny ntmps42
theorem c42:Af prog 42 [] (· = C2 Bh):=by
 refine Ag.I7 ?_;refine Ag.res ?_;refine Ag.intro func42 (by decide) rfl (Bj ?_);refine Aa.Ad (Z0 ?_);refine Aa.Ad (Z0 ?_);refine Ag.eq (Ag.EZ (c84) rfl) (Z0 ?_);refine Aa.Ad (Z0 ?_);refine Af.eq (c85 _) rfl (Z0 ?_);refine Af.eq (NQ _ _ _ _ _) rfl (Z0 ?_);refine Af.eq (c20 _) rfl (Z0 ?_);refine Af.eq (NQ _ _ _ _ _) rfl (Z0 ?_);refine Af.eq (c20 _) rfl (Z0 ?_);refine Af.eq (NQ _ _ _ _ _) rfl (Z0 ?_);refine And.intro (by trivial) ?_;refine Aa.Ad (Z0 ?_);refine Af.eq (c85 _) rfl (Z0 ?_);refine Af.eq (NQ _ _ _ _ _) rfl (Z0 ?_);refine Af.eq (c20 _) rfl (Z0 ?_);refine Af.eq (NQ _ _ _ _ _) rfl (Z0 ?_);refine And.intro (by trivial) ?_;refine Aa.Ad (Z0 ?_);refine Af.eq (c85 _) rfl (Z0 ?_);refine Af.eq (NQ _ _ _ _ _) rfl (Z0 ?_);refine Af.eq (c20 _) rfl (Z0 ?_);refine Af.eq (NQ _ _ _ _ _) rfl (Z0 ?_);refine And.intro (by trivial) ?_;refine Aa.Ad (Z0 ?_);refine Af.eq (c85 _) rfl (Z0 ?_);refine Af.eq (NQ _ _ _ _ _) rfl (Z0 ?_);refine Af.eq (c20 _) rfl (Z0 ?_);refine Af.eq (NQ _ _ _ _ _) rfl (Z0 ?_);refine And.intro (by trivial) ?_;refine Aa.Ad (Z0 ?_);refine Ao ?_;refine And.intro (by trivial) ?_;constructor;rotate_left;refine Ao ?_;refine Aa.Ad (Z0 ?_);refine Ao ?_;refine Aa.Ad (Z0 ?_);refine Aa.ret (Z0 ?_);refine And.intro (by trivial) ?_;refine Ae rfl ?_;trivial;intro x hx;simp only [List.mem_cons,List.not_mem_nil,or_false] at hx
 rcases hx with rfl | rfl | rfl | rfl <;> rfl
end
end Go.Proofs.Tryz

namespace Go.Proofs.Tryz
open Go.PM
attribute [local irreducible] BM BP Bq Ci AU AO Az
def E4 (a b:GS):Bool:=a.kind == b.kind && (a.holder == b.holder && (a.slot == b.slot && (a.set == b.set && (a.holder2 == b.holder2 && (a.slot2 == b.slot2 && (GD a.path b.path && GD a.path2 b.path2))))))
section
attribute [local go_sem] HG ntmps22
theorem c22 (a b:GS) (ha:a.path.length <= 1000000000) (ha2:a.path2.length <= 1000000000) (hb:b.path.length <= 1000000000) (hb2:b.path2.length <= 1000000000):Af prog 22 [HG a,HG b] (· = .val (.bool (E4 a b))):=by
 refine Ag.intro func22 (by decide) rfl (Bj ?_);refine Aa.Ad (Z0 ?_);refine Aa.Ad (Z0 ?_);refine Ao (Ao ?_);refine Ap (fun g3=>?_) (fun g3=>?_);have d3:=AB g3;refine Z1 g3 ?_;refine Ao (Ao ?_);refine Ap (fun g4=>?_) (fun g4=>?_);have d4:=AB g4;refine Z2 g3 g4 ?_;refine Ao (Ao ?_);refine Ap (fun g5=>?_) (fun g5=>?_);have d5:=AB g5;refine Z3 g3 g4 g5 ?_;refine Ao (Ao ?_);refine Ap (fun g6=>?_) (fun g6=>?_);refine Z4 g3 g4 g5 g6 ?_;refine Ao (Ao ?_);refine Ap (fun g7=>?_) (fun g7=>?_);have d7:=AB g7;refine Z5 g3 g4 g5 g6 g7 ?_;refine Ao (Ao ?_);refine Ap (fun g8=>?_) (fun g8=>?_);have d8:=AB g8;refine Z6 g3 g4 g5 g6 g7 g8 ?_;refine Ao (Ao ?_);refine Af.eq (c28 a.path b.path ha hb) rfl (Z6 g3 g4 g5 g6 g7 g8 ?_);refine Ap (fun g10=>?_) (fun g10=>?_);refine Z7 g3 g4 g5 g6 g7 g8 g10 ?_;refine Ao (Ao ?_);refine Af.eq (c28 a.path2 b.path2 ha2 hb2) rfl (Z7 g3 g4 g5 g6 g7 g8 g10 ?_);refine Aa.ret (Z7 g3 g4 g5 g6 g7 g8 g10 ?_);refine Ae rfl ?_;simp only [E4,g3,g4,g5,g6,g7,g8,g10,bo,↓reduceIte];refine Z7 g3 g4 g5 g6 g7 g8 g10 ?_;refine Aa.ret (Z7 g3 g4 g5 g6 g7 g8 g10 ?_);refine Ae rfl ?_;simp only [E4,g3,g4,g5,g6,g7,g8,g10,bo,↓reduceIte];have d8:=Aq g8;refine Z6 g3 g4 g5 g6 g7 g8 ?_;refine Aa.ret (Z6 g3 g4 g5 g6 g7 g8 ?_);refine Ae rfl ?_;simp only [E4,g3,g4,g5,g6,g7,g8,bo,↓reduceIte];have d7:=Aq g7;refine Z5 g3 g4 g5 g6 g7 ?_;refine Aa.ret (Z5 g3 g4 g5 g6 g7 ?_);refine Ae rfl ?_;simp only [E4,g3,g4,g5,g6,g7,bo,↓reduceIte]
 refine Z4 g3 g4 g5 g6 ?_;refine Aa.ret (Z4 g3 g4 g5 g6 ?_);refine Ae rfl ?_;simp only [E4,g3,g4,g5,g6,bo,↓reduceIte];have d5:=Aq g5;refine Z3 g3 g4 g5 ?_;refine Aa.ret (Z3 g3 g4 g5 ?_);refine Ae rfl ?_;simp only [E4,g3,g4,g5,bo,↓reduceIte];have d4:=Aq g4;refine Z2 g3 g4 ?_;refine Aa.ret (Z2 g3 g4 ?_);refine Ae rfl ?_;simp only [E4,g3,g4,bo,↓reduceIte];have d3:=Aq g3;refine Z1 g3 ?_;refine Aa.ret (Z1 g3 ?_);refine Ae rfl ?_;simp only [E4,g3,bo,↓reduceIte]
end
end Go.Proofs.Tryz

namespace Go.Proofs.Tryz
open Go.PM
def Vm (sel:List UInt8):Jw:=⟨fun x=>if x = 11 then AN NV sel else if x = 12 then AN Pm sel else if x = 13 then AN Qn sel else if x = 14 then AN Qp sel else none,
 fun x=>if x = 11 then [(1,12),(2,13)] else if x = 12 then [(1,14)] else if x = 13 then [(1,14)] else if x = 14 then [(1,11)] else []⟩
theorem Nc {x:Int} (h1:x ≠ 11) (h2:x ≠ 12) (h3:x ≠ 13) (h4:x ≠ 14):(AJ Bh x).slots = []:=by
 unfold AJ
 cases hk:Bi Bh x with
 | none=>rfl
 | some k =>
  obtain ⟨j,rfl,hj,hx⟩:=Fe hk;have hj':j < 14:=hj;simp only [Int.toNat_natCast]
  rcases (by omega:j = 0 \/ j = 1 \/ j = 2 \/ j = 3 \/ j = 4 \/ j = 5 \/ j = 6 \/ j = 7 \/ j = 8 \/ j = 9 \/ j = 10 \/ j = 11 \/ j = 12 \/ j = 13) with e | e | e | e | e | e | e | e | e | e | e | e | e | e <;> subst e
  ·rfl
  ·rfl
  ·rfl
  ·rfl
  ·rfl
  ·rfl
  ·rfl
  ·rfl
  ·rfl
  ·rfl
  ·exact absurd hx.symm h1
  ·exact absurd hx.symm h2
  ·exact absurd hx.symm h3
  ·exact absurd hx.symm h4
theorem PB {o:Ob} (h:o.slots = []) (sel:List UInt8):AN o sel = none:=by
 unfold AN;rw [h];simp
theorem KG (sel:List UInt8):Gk Bh sel = Vm sel:=by
 have e1:(Gk Bh sel).mt = (Vm sel).mt:=funext fun x=>by
  show AN (AJ Bh x) sel = _
  simp only [Vm]
  by_cases h1:x = 11
  ·rw [h1,J1]; rfl
  ·by_cases h2:x = 12
   ·rw [h2,Xy]; rfl
   ·by_cases h3:x = 13
    ·rw [h3,Wr]; rfl
    ·by_cases h4:x = 14
     ·rw [h4,W6]; rfl
     ·rw [if_neg h1,if_neg h2,if_neg h3,if_neg h4,PB (Nc h1 h2 h3 h4)]
 have e2:(Gk Bh sel).ps = (Vm sel).ps:=funext fun x=>by
  show Ca Bh (AJ Bh x) = _
  simp only [Vm]
  by_cases h1:x = 11
  ·rw [h1,J1,abH]; rfl
  ·by_cases h2:x = 12
   ·rw [h2,Xy,aeV]; rfl
   ·by_cases h3:x = 13
    ·rw [h3,Wr,afc]; rfl
    ·by_cases h4:x = 14
     ·rw [h4,W6,agS]; rfl
     ·rw [if_neg h1,if_neg h2,if_neg h3,if_neg h4]
      unfold Ca;rw [Nc h1 h2 h3 h4];rfl
 unfold Gk at *;simp only at e1 e2;rw [e1,e2]
theorem IV (sel:List UInt8):seen Bh sel 11 = D6 (Vm sel) 15 11 [] ([],[]):=by
 unfold seen WO;rw [KG];rfl
def Xc:GS:=⟨2,12,0,[1],false,13,0,[2]⟩
def Wm:GS:=⟨1,12,0,[1],true,0,0,[]⟩
def J8:GS:=⟨1,14,0,[1,1],false,0,0,[]⟩
def ab1:GS:=⟨1,13,0,[2],false,0,0,[]⟩
def X3:GS:=⟨1,11,0,[1,1,1],false,0,0,[]⟩
theorem adO:Bo (seen Bh [121] 11).2 = Xc:=by rw [IV]; decide +kernel
theorem adr:Bo (seen Bh [121,58] 11).2 = Wm:=by rw [IV]; decide +kernel
theorem Yw:(seen Bh [122] 11).2 = [⟨14,0,false,[1,1]⟩]:=by rw [IV]; decide +kernel
theorem aeB:(seen Bh [102,111,111] 11).1 = [11,12,14,13]:=by rw [IV]; decide +kernel
theorem adW:Bo (OI Bh [121] 13 2).2 = ab1:=by
 unfold OI WO;rw [KG]
 decide +kernel
theorem aep:Bo (IH Bh [120] 11).2 = X3:=by
 unfold IH;rw [KG,J1,abH]
 decide +kernel
theorem ET {sel:List UInt8} (h:decide (Bu sel < 0) = false):Bg Bh (D8 11) sel = 0:=by
 unfold Bg;rw [if_pos V1,Cg (by omega) (by omega),h];rfl
theorem H8 {sel:List UInt8} (h:decide (Bu sel < 0) = false):Bp Bh 11 sel = 0:=by
 unfold Bp;rw [if_pos V1,Ho 11 (by omega) (by omega),h];rfl
theorem aeA:DY Bh (D8 11) [121] = (Xc,0):=by
 unfold DY;rw [if_pos (ET (by decide +kernel)),Cg (by omega) (by omega),adO]
theorem acu:DY Bh (D8 11) [121,58] = (Wm,0):=by
 unfold DY;rw [if_pos (ET (by decide +kernel)),Cg (by omega) (by omega),adr]
theorem aec:DY Bh (D8 11) [122] = (J8,0):=by
 unfold DY;rw [if_pos (ET (by decide +kernel)),Cg (by omega) (by omega),Yw];rfl
theorem adu:VE Bh (D8 11) [102,111,111] = ([11,12,14,13],0):=by
 unfold VE;rw [if_pos (ET (by decide +kernel)),Cg (by omega) (by omega),aeB]
theorem aev:GK Bh 11 [113] [121] = (ab1,0):=by
 unfold GK;rw [if_pos (H8 (by decide +kernel)),J1,if_neg (by decide +kernel)];rw [show Oj NV [113] = 2 by decide +kernel]
 show (Bo (OI Bh [121] (Ay Bh (D8 13)).1 2).2,(0:Int)) = _
 rw [Cg (by omega) (by omega),adW]
theorem aeg:QA Bh 11 [120] = (X3,0):=by
 unfold QA;rw [if_pos (H8 (by decide +kernel)),aep]
theorem ado:GK Bh 11 [120] [121] = (default,60):=by
 unfold GK;rw [if_pos (H8 (by decide +kernel)),J1,if_pos (by decide +kernel)]
theorem RS:DC Bh [122] 11 [11,12,13,14]:=by
 refine ⟨fun y hy=>?_,by simp,fun y hy _ p hp=>?_⟩
 ·simp only [List.mem_cons,List.not_mem_nil,or_false] at hy
  rcases hy with rfl | rfl | rfl | rfl <;> rw [Ho _ (by omega) (by omega)] <;> rfl
 ·simp only [List.mem_cons,List.not_mem_nil,or_false] at hy
  rcases hy with rfl | rfl | rfl | rfl
  ·rw [J1,abH] at hp; simp at hp; rcases hp with rfl | rfl <;> simp
  ·rw [Xy,aeV] at hp; simp at hp; subst hp; simp
  ·rw [Wr,afc] at hp; simp at hp; subst hp; simp
  ·rw [W6,agS] at hp; simp at hp; subst hp; simp
theorem aa7:¬ DC Bh [122] 11 [11,12,14]:=fun h=>by
 have:=h.shut 11 (by simp) (by rw [J1]; decide +kernel) (2,13) (by rw [J1,abH]; simp);simp at this
theorem ZI:Oc Bh [122] [11,12,13,14] = 1:=by
 show ((AF [11,12,13,14]).filter fun y=>((Gk Bh [122]).mt y).isSome).length = 1
 rw [KG]
 decide +kernel
theorem XX:G1 Bh [122] 11 J8.path J8.holder J8.slot = some J8.set:=Uc (w:=Bh) (sel:=[122]) (x:=11) (h:=⟨14,0,false,[1,1]⟩) (by rw [Yw]; simp)
end Go.Proofs.Tryz

namespace Go.Proofs.Tryz
open Go.PM
attribute [local irreducible] BM BP Bq Ci AU AO Az
def ia (n:Int):AV:=.val (.int .i64 n)
def Kd (k h s:Int) (b:Bool) (p:AV) (h2 s2:Int) (p2:AV):AV:=.agg [.val (.int .i64 k),.val (.int .i64 h),.val (.int .i64 s),p,.val (.bool b),.val (.int .i64 h2),.val (.int .i64 s2),p2]
theorem Ju:Cw Bh:=by
 refine ⟨by decide,by decide,by decide,fun o ho=>?_,fun a ha=>(nomatch ha),fun c hc=>(nomatch hc),by unfold Cn; decide,by unfold Cn; decide⟩;have hv:∀ n:Int,0 <= n -> n <= 14 -> Cm (IX n) /\ Cm (D8 n):=fun n h0 h1=>⟨⟨by simp [IX],by unfold Cn IX; simp only; omega,by unfold Cn IX; simp only; omega⟩,⟨by simp [D8],by unfold Cn D8; simp only; omega,by unfold Cn D8; simp only; omega⟩⟩
 have ho':o ∈ (List.range 10).map HV ++ [NV,Pm,Qn,Qp]:=ho
 rcases List.mem_append.1 ho' with h | h
 ·obtain ⟨i,_,rfl⟩:=List.mem_map.1 h
  exact ⟨by simp [HV],by simp [HV],fun v hv=>(nomatch hv),fun s hs=>(nomatch hs)⟩
 ·simp only [List.mem_cons,List.not_mem_nil,or_false] at h
  rcases h with rfl | rfl | rfl | rfl
  all_goals refine ⟨by decide,by decide,fun v hv=>(nomatch hv),fun s hs=>?_⟩
  ·simp only [NV,List.mem_cons,List.not_mem_nil,or_false] at hs
   rcases hs with rfl | rfl | rfl
   ·exact (hv 1 (by omega) (by omega)).1
   ·exact (hv 12 (by omega) (by omega)).2
   ·exact (hv 13 (by omega) (by omega)).2
  ·simp only [Pm,List.mem_cons,List.not_mem_nil,or_false] at hs
   rcases hs with rfl | rfl
   ·exact (hv 2 (by omega) (by omega)).1
   ·exact (hv 14 (by omega) (by omega)).2
  ·simp only [Qn,List.mem_cons,List.not_mem_nil,or_false] at hs
   rcases hs with rfl | rfl
   ·exact (hv 3 (by omega) (by omega)).1
   ·exact (hv 14 (by omega) (by omega)).2
  ·simp only [Qp,List.mem_cons,List.not_mem_nil,or_false] at hs
   rcases hs with rfl | rfl
   ·exact (hv 4 (by omega) (by omega)).1
   ·exact (hv 11 (by omega) (by omega)).2
theorem N5:Cm (D8 11):=⟨by decide,by unfold Cn; decide,by unfold Cn; decide⟩
theorem a16 {sel:List UInt8} {f:GS} (hs:sel.length <= 1000000000) (h:DY Bh (D8 11) sel = (f,0)):Af prog 16 [C2 Bh,Cy ⟨4,11,[]⟩,.val (.string (Ak sel))] (· = .tup [Kd f.kind f.holder f.slot f.set (.sl false (is f.path)) f.holder2 f.slot2 (.sl false (is f.path2)),.val (.int .i64 0)]):=by
 have:=c16 Bh (D8 11) sel Ju N5 hs;rw [h] at this;exact this
theorem a17:Af prog 17 [C2 Bh,Cy ⟨4,11,[]⟩,.val (.string (Ak [102,111,111]))] (· = .tup [.sl false [.val (.int .i64 11),.val (.int .i64 12),.val (.int .i64 14),.val (.int .i64 13)],.val (.int .i64 0)]):=by
 have:=c17 Bh (D8 11) [102,111,111] Ju N5 (by decide);rw [adu] at this;exact this
theorem a29 {name sel:List UInt8} {f:GS} {e:Int} (hs:sel.length <= 1000000000) (h:GK Bh 11 name sel = (f,e)):Af prog 29 [C2 Bh,.val (.int .i64 11),.val (.string (Ak name)),.val (.string (Ak sel))] (· = .tup [Kd f.kind f.holder f.slot f.set (.sl false (is f.path)) f.holder2 f.slot2 (.sl false (is f.path2)),.val (.int .i64 e)]):=by
 have:=c29 Bh 11 name sel Ju hs;rw [h] at this;exact this
theorem a23 {sel:List UInt8} {f:GS} (hs:sel.length <= 1000000000) (h:QA Bh 11 sel = (f,0)):Af prog 23 [C2 Bh,.val (.int .i64 11),.val (.string (Ak sel))] (· = .tup [Kd f.kind f.holder f.slot f.set (.sl false (is f.path)) f.holder2 f.slot2 (.sl false (is f.path2)),.val (.int .i64 0)]):=by
 have:=c23 Bh 11 sel Ju hs;rw [h] at this;exact this
theorem a22 (f:GS) (hp:f.path.length <= 1000000000) (hp2:f.path2.length <= 1000000000) (b:Bool) (hb:b = true):Af prog 22 [Kd f.kind f.holder f.slot f.set (.sl false (is f.path)) f.holder2 f.slot2 (.sl false (is f.path2)),Kd f.kind f.holder f.slot f.set (.sl b (is f.path)) f.holder2 f.slot2 (.sl b (is f.path2))] (· = .val (.bool true)):=by
 have h:=c22 f f hp hp2 hp hp2;rw [show E4 f f = true by simp [E4,GD]] at h;refine Ag.OT ?_;rw [show [Kd f.kind f.holder f.slot f.set (.sl false (is f.path)) f.holder2 f.slot2 (.sl false (is f.path2)),Kd f.kind f.holder f.slot f.set (.sl b (is f.path)) f.holder2 f.slot2 (.sl b (is f.path2))].map AV.lax = [HG f,HG f] by
  simp [Kd,HG,AV.lax,Fz,Iy]]
 exact h
theorem a28 (l:List Int) (hl:l.length <= 1000000000):Af prog 28 [.sl false (is l),.sl true (is l)] (· = .val (.bool true)):=by
 have h:=c28 l l hl hl;rw [show GD l l = true by simp [GD]] at h;refine Ag.OT ?_;rw [show [AV.sl false (is l),.sl true (is l)].map AV.lax = [.sl false (is l),.sl false (is l)] by simp [AV.lax,Iy]];exact h
theorem aim:Af prog 18 [C2 Bh,Cy ⟨4,11,[]⟩,.val (.string (Ak [122])),.sl true (is [11,12,13,14]),Kd 1 14 0 false (.sl false (is [1,1])) 0 0 (.sl false (is []))] (· = .val (.int .i64 0)):=by
 have hx:(Ay Bh (D8 11)).1 = 11:=by rw [Cg (by omega) (by omega)]
 have h:=aiW Bh (D8 11) [122] [11,12,13,14] J8 Ju N5 (by decide) (by decide) (by decide) (ET (by decide +kernel)) (by rw [hx]; exact RS) ZI rfl (by rw [hx]; exact XX) ⟨rfl,rfl,rfl⟩;exact Ag.OT h
theorem ajJ:Af prog 18 [C2 Bh,Cy ⟨4,11,[]⟩,.val (.string (Ak [122])),.sl true (is [11,12,14]),Kd 1 14 0 false (.sl false (is [1,1])) 0 0 (.sl false (is []))] (· = .val (.int .i64 60)):=by
 have hx:(Ay Bh (D8 11)).1 = 11:=by rw [Cg (by omega) (by omega)]
 have h:=ahO Bh (D8 11) [122] [11,12,14] J8 Ju N5 (by decide) (by decide) (ET (by decide +kernel)) (by rw [hx]; exact aa7);exact Ag.OT h
section
attribute [local go_sem] C2 JV Cy Kd ia ntmps14
theorem c14:Af prog 14 [] (· = .val (.bool true)):=by
 have h1:Af prog 16 [C2 Bh,Cy ⟨4,11,[]⟩,.val (.string (Ak [121]))] (· = .tup [Kd 2 12 0 false (.sl false [ia 1]) 13 0 (.sl false [ia 2]),.val (.int .i64 0)]):=a16 (by decide) aeA;have h2:Af prog 16 [C2 Bh,Cy ⟨4,11,[]⟩,.val (.string (Ak [121,58]))] (· = .tup [Kd 1 12 0 true (.sl false [ia 1]) 0 0 (.sl false []),.val (.int .i64 0)]):=a16 (by decide) acu;have h3:Af prog 16 [C2 Bh,Cy ⟨4,11,[]⟩,.val (.string (Ak [122]))] (· = .tup [Kd 1 14 0 false (.sl false [ia 1,ia 1]) 0 0 (.sl false []),.val (.int .i64 0)]):=a16 (by decide) aec;have h4:Af prog 29 [C2 Bh,.val (.int .i64 11),.val (.string (Ak [113])),.val (.string (Ak [121]))] (· = .tup [Kd 1 13 0 false (.sl false [ia 2]) 0 0 (.sl false []),.val (.int .i64 0)]):=a29 (by decide) aev;have h5:Af prog 23 [C2 Bh,.val (.int .i64 11),.val (.string (Ak [120]))] (· = .tup [Kd 1 11 0 false (.sl false [ia 1,ia 1,ia 1]) 0 0 (.sl false []),.val (.int .i64 0)]):=a23 (by decide) aeg;have h6:Af prog 29 [C2 Bh,.val (.int .i64 11),.val (.string (Ak [120])),.val (.string (Ak [121]))] (· = .tup [Kd 0 0 0 false (.sl false []) 0 0 (.sl false []),.val (.int .i64 60)]):=a29 (by decide) ado;have q1:Af prog 22 [Kd 2 12 0 false (.sl false [ia 1]) 13 0 (.sl false [ia 2]),Kd 2 12 0 false (.sl true [ia 1]) 13 0 (.sl true [ia 2])] (· = .val (.bool true)):=a22 Xc (by decide) (by decide) true rfl;have q2:Af prog 22 [Kd 1 12 0 true (.sl false [ia 1]) 0 0 (.sl false []),Kd 1 12 0 true (.sl true [ia 1]) 0 0 (.sl true [])] (· = .val (.bool true)):=a22 Wm (by decide) (by decide) true rfl
 have q3:Af prog 22 [Kd 1 14 0 false (.sl false [ia 1,ia 1]) 0 0 (.sl false []),Kd 1 14 0 false (.sl true [ia 1,ia 1]) 0 0 (.sl true [])] (· = .val (.bool true)):=a22 J8 (by decide) (by decide) true rfl;have q4:Af prog 22 [Kd 1 11 0 false (.sl false [ia 1,ia 1,ia 1]) 0 0 (.sl false []),Kd 1 11 0 false (.sl true [ia 1,ia 1,ia 1]) 0 0 (.sl true [])] (· = .val (.bool true)):=a22 X3 (by decide) (by decide) true rfl;have q5:Af prog 28 [.sl false [ia 11,ia 12,ia 14,ia 13],.sl true [ia 11,ia 12,ia 14,ia 13]] (· = .val (.bool true)):=a28 [11,12,14,13] (by decide);have q6:Af prog 28 [.sl false [ia 2],.sl true [ia 2]] (· = .val (.bool true)):=a28 [2] (by decide);have r1:=aim;have r2:=ajJ;have h7:=a17;refine Ag.intro func14 (by decide) rfl (Bj ?_);refine Aa.Ad (Z0 ?_);refine Aa.Ad (Z0 ?_);refine Af.eq (c42) rfl (Z0 ?_);refine Aa.BQ [(1,.free),(0,.read),(2,.free),(3,.free),(4,.free),(5,.free),(6,.upd),(7,.set),(8,.free)] mixed (by kernel_rfl) (Z0 ?_);refine AI.go (c20 _) rfl (Z0 ?_);refine AI.go (h1) rfl (Z0 ?_);refine And.intro (by (repeat first | exact Ai.refl _ | exact Ai.nil _ | refine Ai.same ?_ | refine Ai.row ?_ | refine Ai.ON ?_ | refine Ai.F8 ?_ | refine Ai.F9 ?_)) ?_;refine Aa.BQ [(1,.free),(0,.read),(2,.free),(3,.free),(4,.free),(5,.free),(6,.upd),(7,.set),(8,.free)] mixed (by kernel_rfl) (Z0 ?_);refine AI.go (c20 _) rfl (Z0 ?_);refine AI.go (h2) rfl (Z0 ?_);refine And.intro (by (repeat first | exact Ai.refl _ | exact Ai.nil _ | refine Ai.same ?_ | refine Ai.row ?_ | refine Ai.ON ?_ | refine Ai.F8 ?_ | refine Ai.F9 ?_)) ?_
 refine Aa.BQ [(1,.free),(0,.read),(2,.free),(3,.free),(4,.free),(5,.free),(6,.upd),(7,.set),(8,.free)] mixed (by kernel_rfl) (Z0 ?_);refine AI.go (c20 _) rfl (Z0 ?_);refine AI.go (h3) rfl (Z0 ?_);refine And.intro (by (repeat first | exact Ai.refl _ | exact Ai.nil _ | refine Ai.same ?_ | refine Ai.row ?_ | refine Ai.ON ?_ | refine Ai.F8 ?_ | refine Ai.F9 ?_)) ?_;refine Aa.BQ [(1,.free),(0,.read),(2,.free),(3,.free),(4,.free),(5,.free),(6,.free),(7,.free)] mixed (by kernel_rfl) (Z0 ?_);refine AI.go (c20 _) rfl (Z0 ?_);refine AI.go (h7) rfl (Z0 ?_);refine Aa.Ad (Z0 ?_);refine Af.eq (h4) rfl (Z0 ?_);refine Aa.Ad (Z0 ?_);refine Af.eq (h5) rfl (Z0 ?_);refine Aa.Ad (Z0 ?_);refine Af.eq (h6) rfl (Z0 ?_);refine Aa.seq ?_;refine Aa.Ad (Z0 ?_);refine Aa.Ax rfl ?_;refine Aa.skip (Z0 ?_);refine Aa.seq ?_;refine Aa.Ad (Z0 ?_);refine And.intro (by trivial) ?_;refine And.intro (by trivial) ?_;refine Af.eq (q1) rfl (Z0 ?_);refine And.intro (by trivial) ?_;refine Af.eq (q2) rfl (Z0 ?_);refine Aa.Ax rfl ?_;refine Aa.skip (Z0 ?_);refine Aa.seq ?_;refine Aa.Ad (Z0 ?_);refine And.intro (by trivial) ?_;refine Af.eq (q3) rfl (Z0 ?_);refine And.intro (by trivial) ?_;refine Af.eq (q5) rfl (Z0 ?_);refine And.intro (by trivial) ?_;refine Af.eq (q4) rfl (Z0 ?_);refine Aa.Ax rfl ?_;refine Aa.skip (Z0 ?_);refine Aa.BQ [(0,.free),(1,.read),(2,.free),(3,.free),(4,.free),(5,.read),(6,.free),(7,.free),(8,.free),(9,.free),(10,.read),(11,.upd),(12,.free),(13,.free),(14,.free),(16,.free),(15,.read),(18,.read),(17,.upd),(19,.free),(20,.free),(21,.free),(22,.free),(24,.free),(23,.read),(26,.read),(25,.upd),(27,.free),(28,.free),(29,.free),(30,.free)] mixed (by kernel_rfl) ?_
 refine Az.cut [(0,.free),(1,.read),(2,.free),(3,.free),(4,.free),(5,.read),(6,.free),(7,.free)] [(8,.free),(9,.free),(10,.read),(11,.upd),(12,.free),(13,.free),(14,.free),(16,.free),(15,.read),(18,.read),(17,.upd),(19,.free),(20,.free),(21,.free),(22,.free),(24,.free),(23,.read),(26,.read),(25,.upd),(27,.free),(28,.free),(29,.free),(30,.free)] rfl ?_;refine Z0 ?_;refine Ao (Ao ?_);refine Au.mk ?_;refine Az.cut [(8,.free),(9,.free),(10,.read),(11,.upd),(12,.free),(13,.free),(14,.free),(16,.free)] [(15,.read),(18,.read),(17,.upd),(19,.free),(20,.free),(21,.free),(22,.free),(24,.free),(23,.read),(26,.read),(25,.upd),(27,.free),(28,.free),(29,.free),(30,.free)] rfl (Z0 ?_);refine Ao ?_;refine And.intro (by trivial) ?_;refine And.intro (by (repeat first | exact Ai.refl _ | exact Ai.nil _ | refine Ai.same ?_ | refine Ai.row ?_ | refine Ai.ON ?_ | refine Ai.F8 ?_ | refine Ai.F9 ?_)) ?_;refine AI.go (q6) rfl (Z0 ?_);refine AI.go (c20 _) rfl (Z0 ?_);refine Au.mk ?_;refine Az.cut [(15,.read),(18,.read),(17,.upd),(19,.free),(20,.free),(21,.free),(22,.free),(24,.free)] [(23,.read),(26,.read),(25,.upd),(27,.free),(28,.free),(29,.free),(30,.free)] rfl (Z0 ?_);refine And.intro (by trivial) ?_;refine And.intro (by (repeat first | exact Ai.refl _ | exact Ai.nil _ | refine Ai.same ?_ | refine Ai.row ?_ | refine Ai.ON ?_ | refine Ai.F8 ?_ | refine Ai.F9 ?_)) ?_;refine AI.go (r1) rfl (Z0 ?_)
 refine AI.go (c20 _) rfl (Z0 ?_);refine Au.mk (Z0 ?_);refine And.intro (by trivial) ?_;refine And.intro (by (repeat first | exact Ai.refl _ | exact Ai.nil _ | refine Ai.same ?_ | refine Ai.row ?_ | refine Ai.ON ?_ | refine Ai.F8 ?_ | refine Ai.F9 ?_)) ?_;refine AI.go (r2) rfl (Z0 ?_);refine Aa.ret (Z0 ?_);exact Ae rfl (Z0 trivial)
end
end Go.Proofs.Tryz

namespace Go.Proofs.Tryz
open Go.PM
attribute [local irreducible] BM BP Bq Ci AU AO Az
section
attribute [local go_sem] C2 JV D9 En Cl Du NK SS O0 Cu B1 Ce Fq ntmps15
theorem e15 (w:Wd) (hw:Cw w):B9 prog 15 [C2 w] (fun v=>∃ b:Bool,v = .val (.bool b)):=by
 have h1:=hw.lo;have h2:=hw.la;have h3:=hw.lc;have ho:∀ i,i < w.objs.length -> KV (w.objs.getD i default):=fun i hi=>hw.OZ _ (Bs hi);have hc:∀ i,i < w.codes.length -> FO (w.codes.getD i default):=fun i hi=>hw.LQ _ (Bs hi);have ha:∀ i,i < w.acts.length -> UN (w.acts.getD i default):=fun i hi=>hw.Od _ (Bs hi);refine B9.of (DX.intro (fun R=>R) (fun _ h=>h) func15 (by decide) rfl ?_);refine Bj ?_;refine Ab.Am ?_;apply Pr.run;intro Ψ4 hΨ4;refine Aa.region (Z0 ?_);exact hΨ4.out;refine Pr.done ?_;refine Ab.Am ?_;apply Pr.run;intro Ψ5 hΨ5;refine Aa.region (Z0 ?_);refine Ao (Ao ?_);exact hΨ5.out;refine Pr.done ?_;refine Ab.seq ?_;refine Ab.Am ?_;apply Pr.run;intro Ψ6 hΨ6;refine Aa.region (Z0 ?_);exact hΨ6.out;refine Pr.done ?_;refine Ab.block ?_;refine Ab.A0 (fun x:Nat × Int=>[(4,.val (.int .i64 (x.1:Nat))),(3,.val (.int .i64 x.2))]) [1] (fun _=>_) (fun x:Nat × Int=>x.1 <= w.objs.length /\ 0 <= x.2 /\ x.2 <= 10000000 * ((x.1:Int) + 1)) (fun x:Nat × Int=>w.objs.length - x.1) ((0,(w.objs.length:Int) + w.acts.length)) ?_ rfl ?_ ?_;omega;refine ⟨rfl,?_,?_,rfl,?_⟩;refine C1 ?_;constructor;rotate_left;trivial;exact C1 trivial;exact C1 trivial;rintro ⟨i,n⟩ ⟨k1,k2,k3⟩;simp only at k1 k2 k3;refine Z0 ?_;refine Ab.seq ?_;refine Ab.Am ?_;apply Pr.run;intro Ψ7 hΨ7;refine Aa.region (Z0 ?_);refine Ao ?_;exact hΨ7.out;refine Pr.done ?_;refine Ab.cond rfl (fun g8=>?_) (fun g8=>?_);have d8:=An g8;refine Ab.skip (Z1 g8 ?_);refine Ab.seq (Ab.block ?_)
 refine Ab.Di ?_;apply Pr.run;intro Ψ9 hΨ9;refine Aa.BS [(0,.free),(1,.free),(3,.free),(8,.free),(10,.free),(2,.read),(4,.read),(5,.free),(6,.read),(7,.read),(9,.read),(11,.read),(12,.free),(13,.read),(14,.read),(15,.free),(16,.free),(17,.free)] mixed (by kernel_rfl) (Z1 g8 ?_);refine Ao (Ao (Ao ?_));refine And.intro (by assumption) ?_;simp -implicitDefEqProofs (dsimp:=false) (disch:=omega) only [i64_in,gd];refine Z1 g8 ?_;refine Ao ?_;refine And.intro (by trivial) ?_;refine Ao ?_;refine And.intro (by assumption) ?_;refine Ao ?_;refine And.intro (by trivial) ?_;exact hΨ9.out;refine Pr.done (Z1 g8 ?_);refine Ab.Di ?_;apply Pr.run;intro Ψ10 hΨ10;refine Aa.region (Z1 g8 ?_);exact hΨ10.out;refine Pr.done (Z1 g8 ?_);refine Bd ?_;refine ⟨(i + 1,n + (((w.objs.getD i default).slots.length:Int) + (w.objs.getD i default).elems.length)),?_⟩;constructor;constructor;omega;constructor;omega;simp -implicitDefEqProofs (dsimp:=false) only [go_sem,simprocAttr,g8,Nat.le_refl,List.length_cons,List.length_append,List.length_nil];rotate_left;constructor;omega;refine ⟨rfl,?_,?_,rfl,?_⟩;refine Mr g8 ?_;constructor;rotate_left;trivial;exact Mr g8 trivial;exact Mr g8 trivial;have d8:=Aj g8;refine Ab.exit (Z1 g8 ?_);refine Ab.seq ?_;refine Ab.Am ?_;apply Pr.run;intro Ψ11 hΨ11;refine Aa.region (Z1 g8 ?_);exact hΨ11.out;refine Pr.done ?_;refine Ab.block ?_;refine Ab.A0 (fun y:Nat × Int=>[(5,.val (.int .i64 (y.1:Nat))),(3,.val (.int .i64 y.2))]) [4,1] (fun _=>_) (fun y:Nat × Int=>y.1 <= w.acts.length /\ 0 <= y.2 /\ y.2 <= 20000000000000 + 10000000 * ((y.1:Int) + 1)) (fun y:Nat × Int=>w.acts.length - y.1) ((0,n)) ?_ rfl ?_ ?_
 omega;refine ⟨rfl,?_,?_,rfl,?_⟩;refine Mr g8 ?_;trivial;exact Mr g8 trivial;exact Mr g8 trivial;rintro ⟨i2,n2⟩ ⟨j1,j2,j3⟩;simp only at j1 j2 j3;refine Z1 g8 ?_;refine Ab.seq ?_;refine Ab.Am ?_;apply Pr.run;intro Ψ12 hΨ12;refine Aa.region (Z1 g8 ?_);refine Ao ?_;exact hΨ12.out;refine Pr.done ?_;refine Ab.cond rfl (fun g13=>?_) (fun g13=>?_);have d13:=An g13;refine Ab.skip (Z2 g8 g13 ?_);refine Ab.seq (Ab.block ?_);refine Ab.Di ?_;apply Pr.run;intro Ψ14 hΨ14;refine Aa.region (Z2 g8 g13 ?_);refine Ao (Ao ?_);refine And.intro (by assumption) ?_;simp -implicitDefEqProofs (dsimp:=false) (disch:=omega) only [i64_in,gd];refine Z2 g8 g13 ?_;refine Ao ?_;exact hΨ14.out;refine Pr.done (Z2 g8 g13 ?_);refine Ab.Di ?_;apply Pr.run;intro Ψ15 hΨ15;refine Aa.region (Z2 g8 g13 ?_);exact hΨ15.out;refine Pr.done (Z2 g8 g13 ?_);refine Bd ?_;refine ⟨(i2 + 1,n2 + ((w.acts.getD i2 default).vars.length:Int)),?_⟩;constructor;constructor;omega;constructor;omega;simp -implicitDefEqProofs (dsimp:=false) only [go_sem,simprocAttr,g8,g13,Nat.le_refl,List.length_cons,List.length_append,List.length_nil];rotate_left;constructor;omega;refine ⟨rfl,?_,?_,rfl,?_⟩;refine Cv g8 g13 ?_;constructor;rotate_left;trivial;exact Cv g8 g13 trivial;exact Cv g8 g13 trivial;have d13:=Aj g13;refine Ab.exit (Z2 g8 g13 ?_);refine Ab.seq ?_;refine Ab.Am ?_;apply Pr.run;intro Ψ16 hΨ16;refine Aa.region (Z2 g8 g13 ?_);exact hΨ16.out;refine Pr.done ?_;refine Ab.block ?_;refine Ab.A0 (fun z:Nat × Int=>[(6,.val (.int .i64 (z.1:Nat))),(3,.val (.int .i64 z.2))]) [5,4,1] (fun _=>_) (fun z:Nat × Int=>z.1 <= w.codes.length /\ 0 <= z.2 /\ z.2 <= 40000000000000 + 10000000 * ((z.1:Int) + 1)) (fun z:Nat × Int=>w.codes.length - z.1) ((0,n2)) ?_ rfl ?_ ?_
 omega;refine ⟨rfl,?_,?_,rfl,?_⟩;refine Cv g8 g13 ?_;trivial;exact Cv g8 g13 trivial;exact Cv g8 g13 trivial;rintro ⟨i3,n3⟩ ⟨m1,m2,m3⟩;simp only at m1 m2 m3;refine Z2 g8 g13 ?_;refine Ab.seq ?_;refine Ab.Am ?_;apply Pr.run;intro Ψ17 hΨ17;refine Aa.region (Z2 g8 g13 ?_);refine Ao ?_;exact hΨ17.out;refine Pr.done ?_;refine Ab.cond rfl (fun g18=>?_) (fun g18=>?_);have d18:=An g18;refine Ab.skip (Z3 g8 g13 g18 ?_);refine Ab.seq (Ab.block ?_);refine Ab.Di ?_;apply Pr.run;intro Ψ19 hΨ19;refine Aa.BS [(0,.free),(1,.free),(2,.read),(3,.free),(4,.read),(5,.free),(6,.read),(7,.read),(8,.free),(9,.free),(10,.read),(11,.free),(12,.read),(13,.free),(14,.read),(15,.read),(16,.free),(17,.free),(18,.read),(19,.free),(20,.read),(21,.free),(22,.read),(23,.read),(24,.free),(25,.free),(26,.read),(27,.free),(28,.read),(29,.free),(30,.read),(31,.read),(32,.free),(33,.free),(34,.read),(35,.free),(36,.read),(37,.free),(38,.read),(39,.read),(40,.free),(41,.free),(42,.free)] mixed (by kernel_rfl) ?_;refine Az.cut [(0,.free),(1,.free),(2,.read),(3,.free),(4,.read),(5,.free),(6,.read),(7,.read)] [(8,.free),(9,.free),(10,.read),(11,.free),(12,.read),(13,.free),(14,.read),(15,.read),(16,.free),(17,.free),(18,.read),(19,.free),(20,.read),(21,.free),(22,.read),(23,.read),(24,.free),(25,.free),(26,.read),(27,.free),(28,.read),(29,.free),(30,.read),(31,.read),(32,.free),(33,.free),(34,.read),(35,.free),(36,.read),(37,.free),(38,.read),(39,.read),(40,.free),(41,.free),(42,.free)] rfl ?_
 refine Z3 g8 g13 g18 ?_;refine Ao (Ao ?_);refine And.intro (by assumption) ?_;simp -implicitDefEqProofs (dsimp:=false) (disch:=omega) only [i64_in,gd];refine Z3 g8 g13 g18 ?_;refine Ao ?_;refine And.intro (by trivial) ?_;refine Au.mk ?_;refine Az.cut [(8,.free),(9,.free),(10,.read),(11,.free),(12,.read),(13,.free),(14,.read),(15,.read)] [(16,.free),(17,.free),(18,.read),(19,.free),(20,.read),(21,.free),(22,.read),(23,.read),(24,.free),(25,.free),(26,.read),(27,.free),(28,.read),(29,.free),(30,.read),(31,.read),(32,.free),(33,.free),(34,.read),(35,.free),(36,.read),(37,.free),(38,.read),(39,.read),(40,.free),(41,.free),(42,.free)] rfl ?_;refine Z3 g8 g13 g18 ?_;refine Ao (Ao ?_);refine And.intro (by assumption) ?_;simp -implicitDefEqProofs (dsimp:=false) (disch:=omega) only [i64_in,gd];refine Z3 g8 g13 g18 ?_;refine Ao ?_;refine And.intro (by trivial) ?_;refine Au.mk ?_;refine Az.cut [(16,.free),(17,.free),(18,.read),(19,.free),(20,.read),(21,.free),(22,.read),(23,.read)] [(24,.free),(25,.free),(26,.read),(27,.free),(28,.read),(29,.free),(30,.read),(31,.read),(32,.free),(33,.free),(34,.read),(35,.free),(36,.read),(37,.free),(38,.read),(39,.read),(40,.free),(41,.free),(42,.free)] rfl ?_;refine Z3 g8 g13 g18 ?_;refine Ao (Ao ?_);refine And.intro (by assumption) ?_;simp -implicitDefEqProofs (dsimp:=false) (disch:=omega) only [i64_in,gd];refine Z3 g8 g13 g18 ?_
 refine Ao ?_;refine And.intro (by trivial) ?_;refine Au.mk ?_;refine Az.cut [(24,.free),(25,.free),(26,.read),(27,.free),(28,.read),(29,.free),(30,.read),(31,.read)] [(32,.free),(33,.free),(34,.read),(35,.free),(36,.read),(37,.free),(38,.read),(39,.read),(40,.free),(41,.free),(42,.free)] rfl (Z3 g8 g13 g18 ?_);refine Ao (Ao ?_);refine And.intro (by assumption) ?_;simp -implicitDefEqProofs (dsimp:=false) (disch:=omega) only [i64_in,gd];refine Z3 g8 g13 g18 ?_;refine Ao ?_;refine And.intro (by trivial) ?_;refine Au.mk (Z3 g8 g13 g18 ?_);refine Ao (Ao ?_);refine And.intro (by assumption) ?_;simp -implicitDefEqProofs (dsimp:=false) (disch:=omega) only [i64_in,gd];refine Z3 g8 g13 g18 ?_;refine Ao ?_;refine And.intro (by trivial) ?_;exact hΨ19.out;refine Pr.done (Z3 g8 g13 g18 ?_);refine Ab.Di ?_;apply Pr.run;intro Ψ20 hΨ20;refine Aa.region (Z3 g8 g13 g18 ?_);exact hΨ20.out;refine Pr.done (Z3 g8 g13 g18 ?_);refine Bd ?_;refine ⟨(i3 + 1,n3 + (1 + ((w.codes.getD i3 default).instrs.length:Int) + (w.codes.getD i3 default).names.length + (w.codes.getD i3 default).lits.length + (w.codes.getD i3 default).sels.length + (w.codes.getD i3 default).init.length)),?_⟩;constructor;constructor;omega;constructor;omega;simp -implicitDefEqProofs (dsimp:=false) only [go_sem,simprocAttr,g8,g13,g18,Nat.le_refl,List.length_cons,List.length_append,List.length_nil];rotate_left;constructor;omega;refine ⟨rfl,?_,?_,rfl,?_⟩;refine ME g8 g13 g18 ?_
 constructor;rotate_left;trivial;exact ME g8 g13 g18 trivial;exact ME g8 g13 g18 trivial;have d18:=Aj g18;refine Ab.exit (Z3 g8 g13 g18 ?_);refine Ab.Am ?_;apply Pr.run;intro Ψ21 hΨ21;refine Aa.region (Z3 g8 g13 g18 ?_);exact hΨ21.out;refine Pr.done ?_;refine Ab.ret ?_;apply AP.i;intro Ψ22 hΨ22;refine Z3 g8 g13 g18 ?_;exact hΨ22.out;refine ⟨_,rfl,rfl,?_⟩;exact ⟨_,rfl⟩
 ·simp -implicitDefEqProofs (dsimp:=false) (disch:=omega) only [i64_in]
 ·have hb1:=(ho i (by simpa using g8)).slots
  have hb2:=(ho i (by simpa using g8)).elems
  push_cast
  omega
 ·have hb1:=(ho i (by simpa using g8)).slots
  have hb2:=(ho i (by simpa using g8)).elems;have hb3:=of_decide_eq_true g8;simp -implicitDefEqProofs (dsimp:=false) (disch:=omega) only [i64_in]
 ·have hb1:=(ha i2 (by simpa using g13)).vars
  push_cast
  omega
 ·have hb1:=(ha i2 (by simpa using g13)).vars
  have hb3:=of_decide_eq_true g13;simp -implicitDefEqProofs (dsimp:=false) (disch:=omega) only [i64_in]
 ·have hb1:=(hc i3 (by simpa using g18)).instrs
  have hb2:=(hc i3 (by simpa using g18)).names;have hb3:=(hc i3 (by simpa using g18)).lits;have hb4:=(hc i3 (by simpa using g18)).sels;have hb5:=(hc i3 (by simpa using g18)).init
  push_cast
  omega
 ·have hb1:=(hc i3 (by simpa using g18)).instrs
  have hb2:=(hc i3 (by simpa using g18)).names;have hb3:=(hc i3 (by simpa using g18)).lits;have hb4:=(hc i3 (by simpa using g18)).sels;have hb5:=(hc i3 (by simpa using g18)).init;have hb6:=of_decide_eq_true g18;simp -implicitDefEqProofs (dsimp:=false) (disch:=omega) only [i64_in]
end
end Go.Proofs.Tryz

namespace Go.Proofs.Tryz
open Go.PM
theorem SW {ns:List Int} (h:∀ j,j < ns.length -> Kl ns j < ns.getD j 0) {i j:Nat} (hij:i < j) (hj:j < ns.length):ns.getD i 0 < ns.getD j 0:=by
 induction j with
 | zero=>omega
 | succ j ih =>
  have h1:=h (j + 1) hj;have h2:Kl ns (j + 1) = ns.getD j 0:=rfl;rw [h2] at h1
  rcases Nat.lt_or_eq_of_le (Nat.le_of_lt_succ hij) with h3 | h3
  ·have:=ih h3 (by omega); omega
  ·rw [h3]; exact h1
theorem Og {w:Wd} {i:Nat} (h:i < w.objs.length):(w.objs.map (·.oid)).getD i 0 = (w.objs.getD i default).oid:=by
 simp [List.getD_eq_getElem?_getD,h]
theorem aaZ {w:Wd} (hv:B6 w) {i j:Nat} (hi:i < w.objs.length) (hj:j < w.objs.length) (h:(w.objs.getD i default).oid = (w.objs.getD j default).oid):i = j:=by
 have hn:=hv.no;unfold NX at hn;simp only [Bool.and_eq_true,decide_eq_true_eq] at hn
 rcases Nat.lt_trichotomy i j with h1 | h1 | h1
 ·have:=SW hn.1 h1 (by simpa using hj)
  rw [Og hi,Og hj] at this;omega
 ·exact h1
 ·have:=SW hn.1 h1 (by simpa using hi)
  rw [Og hi,Og hj] at this;omega
theorem acD {w:Wd} (hv:B6 w) {n:Int} (h:(Bi w n).isSome = true):∃ k:Nat,FX (fun o=>o.oid == n) w.objs = (k:Int) /\ k < w.objs.length /\ Bi w n = some (k:Int) /\ w.objs.getD k default = AJ w n:=by
 cases hk:Bi w n with
 | none=>rw [hk] at h; cases h
 | some k0 =>
  obtain ⟨k,rfl,hkl,hn⟩:=Fe hk;refine ⟨k,?_,hkl,rfl,?_⟩
  ·refine MZ (d:=default) hkl (fun j hj=>?_) (by show ((w.objs.getD k default).oid == n) = true; rw [hn]; exact beq_self_eq_true n)
   rw [beq_eq_false_iff_ne];intro e;have:=aaZ hv (by omega) hkl (e.trans hn.symm);omega
  ·unfold AJ
   rw [hk];simp
theorem VL {w:Wd} {n:Int} (h:(Ay w ⟨4,n,[]⟩).2 = true):(Ay w ⟨4,n,[]⟩).1 = n /\ (Bi w n).isSome = true:=by
 unfold Ay at h ⊢
 split at h
 ·rw [if_pos ‹_›]
  exact ⟨rfl,by simpa using h⟩
 ·cases h
def CQ (s:HA) (sel:List UInt8):Bool:=GM s && (s.name ++ [58] == sel)
structure abq (o:Ob) (sel:List UInt8) (k:Nat) (own:Int) (set:Bool):Prop where
 le:k <= o.slots.length
 name:∀ j,k <= j -> j < o.slots.length -> (o.slots.getD j default).name ≠ sel
 own:(own = -1 /\ set = false /\ ∀ j,k <= j -> j < o.slots.length -> CQ (o.slots.getD j default) sel = false) \/ (∃ m:Nat,own = (m:Int) /\ k <= m /\ m < o.slots.length /\ set = true /\ CQ (o.slots.getD m default) sel = true)
theorem TT (o:Ob) (sel:List UInt8):abq o sel o.slots.length (-1) false:=⟨Nat.le_refl _,fun j h1 h2=>absurd h2 (by omega),.inl ⟨rfl,rfl,fun j h1 h2=>absurd h2 (by omega)⟩⟩
theorem GU {o:Ob} {sel:List UInt8} {k:Nat} {own:Int} {set:Bool} (h:abq o sel (k + 1) own set) (hn:((o.slots.getD k default).name == sel) = false) :
  abq o sel k (if CQ (o.slots.getD k default) sel = true then (k:Int) else own) (if CQ (o.slots.getD k default) sel = true then true else set):=by
 have h1:∀ j,k <= j -> j < o.slots.length -> (o.slots.getD j default).name ≠ sel:=fun j h1 h2=>by
  rcases Nat.lt_or_eq_of_le h1 with h3 | h3
  ·exact h.name j h3 h2
  ·rw [<- h3]; simpa using hn
 have hle:=h.le;refine ⟨by omega,h1,?_⟩
 cases hs:CQ (o.slots.getD k default) sel with
 | true=>exact .inr ⟨k,by simp,Nat.le_refl _,by omega,by simp,hs⟩
 | false =>
  rcases h.own with ⟨h2,h3,h4⟩ | ⟨m,h2,h3,h4,h5,h6⟩
  ·exact .inl ⟨by simp [h2],by simp [h3],fun j h5 h6=>by
    rcases Nat.lt_or_eq_of_le h5 with h7 | h7
    ·exact h4 j h7 h6
    ·rw [<- h7]; exact hs⟩
  ·exact .inr ⟨m,by simp [h2],by omega,h4,by simp [h5],h6⟩
theorem Q8 {o:Ob} {sel:List UInt8} {m:Nat} (hm:m < o.slots.length) (hn:∀ j,j < o.slots.length -> (o.slots.getD j default).name ≠ sel) (hd:∀ i j,j < i -> i < o.slots.length -> (o.slots.getD j default).name ≠ (o.slots.getD i default).name) (hs:CQ (o.slots.getD m default) sel = true):AN o sel = some (m,true):=by
 unfold CQ at hs;simp only [Bool.and_eq_true,beq_iff_eq] at hs;obtain ⟨h1,h2⟩:=Px.2 hs.2;unfold AN;rw [show o.slots.findIdx? (fun s=>s.name == sel) = none by
  rw [List.findIdx?_eq_none_iff];intro x hx;obtain ⟨j,hj,rfl⟩:=List.mem_iff_getElem.1 hx;have:=hn j hj
  simpa [List.getD_eq_getElem?_getD,hj] using this]
 simp only;rw [if_pos h1,show o.slots.findIdx? (fun s=>s.name == sel.take (sel.length - 1) && GM s) = some m by
  rw [List.findIdx?_eq_some_iff_getElem];refine ⟨hm,?_,fun j hj=>?_⟩
  ·have e:o.slots.getD m default = o.slots[m]:=by simp [List.getD_eq_getElem?_getD,hm]
   rw [e] at h2 hs;simp [h2,hs.1]
  ·have hjl:j < o.slots.length:=by omega
   have e:o.slots.getD j default = o.slots[j]:=by simp [List.getD_eq_getElem?_getD,hjl]
   have h3:=hd m j hj hm;rw [h2,e] at h3;simp [h3]]
theorem Um {o:Ob} {sel:List UInt8} (hn:∀ j,j < o.slots.length -> (o.slots.getD j default).name ≠ sel) (hs:∀ j,j < o.slots.length -> CQ (o.slots.getD j default) sel = false):AN o sel = none:=by
 unfold AN;rw [show o.slots.findIdx? (fun s=>s.name == sel) = none by
  rw [List.findIdx?_eq_none_iff];intro x hx;obtain ⟨j,hj,rfl⟩:=List.mem_iff_getElem.1 hx;have:=hn j hj
  simpa [List.getD_eq_getElem?_getD,hj] using this]
 simp only
 by_cases h1:Dh sel [58] = true
 ·rw [if_pos h1,show o.slots.findIdx? (fun s=>s.name == sel.take (sel.length - 1) && GM s) = none by
   rw [List.findIdx?_eq_none_iff];intro x hx;obtain ⟨j,hj,rfl⟩:=List.mem_iff_getElem.1 hx;have h2:=hs j hj;have e:o.slots.getD j default = o.slots[j]:=by simp [List.getD_eq_getElem?_getD,hj]
   rw [e] at h2;unfold CQ at h2;rw [Bool.and_eq_false_iff]
   rcases Bool.and_eq_false_iff.1 h2 with h3 | h3
   ·exact .inr h3
   ·left
    rw [beq_eq_false_iff_ne] at h3 ⊢;exact fun e2=>h3 (Px.1 ⟨h1,e2⟩)]
 ·rw [if_neg h1]
theorem Sd {o:Ob} {sel:List UInt8} {k:Nat} (hk:k < o.slots.length) (hd:∀ i j,j < i -> i < o.slots.length -> (o.slots.getD j default).name ≠ (o.slots.getD i default).name) (hn:((o.slots.getD k default).name == sel) = true):AN o sel = some (k,false):=by
 unfold AN;rw [show o.slots.findIdx? (fun s=>s.name == sel) = some k by
  rw [List.findIdx?_eq_some_iff_getElem];have e:o.slots.getD k default = o.slots[k]:=by simp [List.getD_eq_getElem?_getD,hk]
  refine ⟨hk,by rw [e] at hn; exact hn,fun j hj=>?_⟩;have hjl:j < o.slots.length:=by omega
  have h3:=hd k j hj hk;have e2:o.slots.getD j default = o.slots[j]:=by simp [List.getD_eq_getElem?_getD,hjl]
  rw [show (o.slots.getD k default).name = sel by simpa using hn,e2] at h3;simp [h3]]
end Go.Proofs.Tryz

namespace Go.Proofs.Tryz
open Go.PM
noncomputable def Er (w:Wd):Int -> List Int -> Option Int
 | x,[]=>some x
 | x,i :: p=>if (0 <= i /\ i < (AJ w x).slots.length) /\ BX ((AJ w x).slots.getD i.toNat default) = true then Er w (Ay w ((AJ w x).slots.getD i.toNat default).v).1 p else none
theorem G5 (w:Wd):∀ (p:List Int) (x:Int) (q:List Int),Er w x (p ++ q) = (Er w x p).bind fun y=>Er w y q
 | [],_,_=>rfl
 | i :: p,x,q=>by
  rw [List.cons_append,Er,Er]
  split
  ·exact G5 w p _ q
  ·rfl
theorem QG {w:Wd} {sel:List UInt8} {y z:Int} {i:Nat} (h:(i,z) ∈ (Gk w sel).ps y):Er w y [(i:Int)] = some z:=by
 obtain ⟨h5,h6,h7⟩:=Eh.1 h;rw [Er,if_pos ⟨⟨by omega,by exact_mod_cast h5⟩,by simpa using h6⟩,Er];simp only [Int.toNat_natCast];exact congrArg some h7.symm
structure afD (w:Wd) (sel:List UInt8) (x:Int) (p l:List Int) (y:Int):Prop where
 len:l.length = p.length + 1
 nodup:l.Nodup
 last:l.getD p.length 0 = y
 at':∀ i,i <= p.length -> Er w x (p.take i) = some (l.getD i 0)
 pass:∀ i,i < p.length -> AN (AJ w (l.getD i 0)) sel = none
 rch:∀ z ∈ l,Kb (Gk w sel) (· = x) z
theorem T9 {w:Wd} {sel:List UInt8} {x:Int} {p l:List Int} {y:Int} (h:Kr (Gk w sel) x p l y):afD w sel x p l y:=by
 induction h with
 | nil=>exact ⟨rfl,by simp,rfl,fun i hi=>by rw [Nat.le_zero.1 hi]; rfl,fun i hi=>absurd hi (Nat.not_lt_zero i),fun z hz=>by rw [List.mem_singleton.1 hz]; exact .base rfl⟩
 | @snoc p l y z i hw h2 h3 h4 ih =>
  obtain ⟨k1,k2,k3,k4,k5,k6⟩:=ih;have hg:∀ j,j <= p.length -> (l ++ [z]).getD j 0 = l.getD j 0:=fun j hj=>by
   simp [List.getD_eq_getElem?_getD,List.getElem?_append_left (by omega:j < l.length)]
  have hz:(l ++ [z]).getD (p.length + 1) 0 = z:=by
   rw [<- k1];simp [List.getD_eq_getElem?_getD]
  have hy:y ∈ l:=by
   rw [<- k3,List.getD_eq_getElem?_getD,List.getElem?_eq_getElem (by omega)];exact List.getElem_mem _
  refine ⟨by simp [k1],?_,by simpa using hz,fun j hj=>?_,fun j hj=>?_,fun u hu=>?_⟩
  ·rw [List.nodup_append]
   exact ⟨k2,by simp,fun a ha b hb=>by rw [List.mem_singleton.1 hb]; exact fun e=>h4 (e ▸ ha)⟩
  ·simp only [List.length_append,List.length_cons,List.length_nil,Nat.zero_add] at hj
   rcases Nat.lt_or_eq_of_le hj with hj | hj
   ·rw [List.take_append_of_le_length (by omega),hg j (by omega),k4 j (by omega)]
   ·subst hj
    rw [List.take_of_length_le (by simp),hz,G5];have:=k4 p.length (Nat.le_refl _);rw [List.take_length,k3] at this;rw [this];exact QG h3
  ·simp only [List.length_append,List.length_cons,List.length_nil,Nat.zero_add] at hj
   rcases Nat.lt_or_eq_of_le (Nat.le_of_lt_succ hj) with hj | hj
   ·rw [hg j (by omega)]; exact k5 j hj
   ·subst hj
    rw [hg _ (Nat.le_refl _),k3];exact h2
  ·rcases List.mem_append.1 hu with hu | hu
   ·exact k6 u hu
   ·rw [List.mem_singleton.1 hu]
    exact .step (k6 y hy) h2 h3
end Go.Proofs.Tryz

namespace Go.Proofs.Tryz
open Go.PM
attribute [local irreducible] BM BP Bq Ci AU AO Az
theorem x15:∃ F:Wd -> Bool,∀ w,Cw w -> Af prog 15 [C2 w] (· = .val (.bool (F w))) :=
 HP (D:=Cw) (Q:=fun w b=>Af prog 15 [C2 w] (· = .val (.bool b))) fun w hw=>by
  obtain ⟨v,⟨b,rfl⟩,hc⟩:=e15 w hw;exact ⟨b,hc⟩
noncomputable def ah3:Wd -> Bool:=x15.choose
theorem c15 (w:Wd) (hw:Cw w):Af prog 15 [C2 w] (· = .val (.bool (ah3 w))):=x15.choose_spec w hw
theorem abo {w:Wd} (hv:B6 w) {sel:List UInt8} {x:Int} (hx:(Bi w x).isSome = true) {h:VX} (hh:h ∈ (seen w sel x).2):h.path.length <= w.objs.length:=by
 obtain ⟨l,hw⟩:=PL hh;have hn:=T9 hw;have h1:=C0 (b:=w.objs.map (·.oid)) hn.nodup fun y hy=>by
  have h2:=Oi hv (fun z e=>by rw [e]; exact hx) (hn.rch y hy);exact List.mem_map.2 ⟨_,(BV h2).1,(BV h2).2⟩
 rw [hn.len,List.length_map] at h1;omega
theorem MR {w:Wd} (hw:Cw w) (hv:B6 w) {sel:List UInt8} {x:Int} (hx:(Bi w x).isSome = true):(Bo (seen w sel x).2).path.length <= 1000000000 /\ (Bo (seen w sel x).2).path2.length <= 1000000000:=by
 have hp:∀ h ∈ (seen w sel x).2,h.path.length <= 1048576:=fun h hh=>Nat.le_trans (abo hv hx hh) hw.lo;generalize (seen w sel x).2 = l at hp
 match l,hp with
 | [],_=>exact ⟨Nat.zero_le _,Nat.zero_le _⟩
 | [a],hp=>exact ⟨by have:=hp a (by simp); show a.path.length <= _; omega,Nat.zero_le _⟩
 | a :: b :: _,hp=>exact ⟨by have:=hp a (by simp); show a.path.length <= _; omega,by have:=hp b (by simp); show b.path.length <= _; omega⟩
section
attribute [local go_sem] C2 JV Cy HG ntmps4
theorem c4n (w:Wd) (n:Int) (sel:List UInt8) (hw:Cw w) (hi:Cn n) (hs:sel.length <= 1048576) (he:Bg w ⟨4,n,[]⟩ sel ≠ 0):Af prog 4 [C2 w,.val (.int .i64 n),.val (.string (Ak sel))] (· = .val (.bool true)):=by
 have h16:=c16 w ⟨4,n,[]⟩ sel hw ⟨by simp,hi,by unfold Cn; simp only; omega⟩ (by omega);rw [show DY w ⟨4,n,[]⟩ sel = (default,Bg w ⟨4,n,[]⟩ sel) from if_neg he] at h16;have hlo:=hw.lo;have hb:(Bg w ⟨4,n,[]⟩ sel != 0) = true:=by simpa using he
 generalize Bg w ⟨4,n,[]⟩ sel = e at *;refine Ag.intro func4 (by decide) rfl (D5 hb ?_);refine Aa.Ad (Z1 hb ?_);refine Aa.Ad (Z1 hb ?_);refine Af.eq (c14) rfl (Z1 hb ?_);refine Aa.seq ?_;refine Aa.Ad (Z1 hb ?_);refine Af.eq (c15 w hw) rfl (Z1 hb ?_);refine Aa.cond rfl (fun g19=>?_) (fun g19=>?_);refine Aa.Ad (Z2 hb g19 ?_);refine Aa.ret (Z2 hb g19 ?_);exact Ae rfl (Z2 hb g19 trivial);refine Aa.skip (Z2 hb g19 ?_);refine Aa.BQ [(1,.free),(2,.free),(3,.free),(0,.read),(4,.free),(5,.free),(6,.free),(7,.free),(8,.upd),(9,.set),(10,.free)] mixed (by kernel_rfl) (Z2 hb g19 ?_);refine AI.go (c20 _) rfl (Z2 hb g19 ?_);refine AI.go (h16) rfl (Z2 hb g19 ?_);refine And.intro (by (repeat first | exact Ai.refl _ | exact Ai.nil _ | refine Ai.same ?_ | refine Ai.row ?_ | refine Ai.ON ?_ | refine Ai.F8 ?_ | refine Ai.F9 ?_)) ?_;refine Aa.Ad (Z2 hb g19 ?_);refine Af.eq (c21 w n (by omega)) rfl (Z2 hb g19 ?_);refine Aa.seq ?_;refine Aa.Ad (Z2 hb g19 ?_);refine Aa.Ar rfl ?_;refine Aa.Ad (Z2 hb g19 ?_);refine Aa.ret (Z2 hb g19 ?_);exact Ae rfl (Z2 hb g19 trivial)
end
theorem Dv {k:Nat} (h:decide ((k:Int) - 1 >= 0) = true):∃ k':Nat,k = k' + 1 /\ ((k:Int) - 1).toNat = k' /\ (k:Int) - 1 = (k':Int):=⟨k - 1,by have:=of_decide_eq_true h; omega,by omega,by have:=of_decide_eq_true h; omega⟩
section
attribute [local go_sem] C2 JV Cy HG D9 Du H9 Cu ntmps4
theorem c4y (w:Wd) (n:Int) (sel:List UInt8) (hw:Cw w) (hnm:∀ o ∈ w.objs,∀ s ∈ o.slots,s.name.length <= 1048576) (hi:Cn n) (hs:sel.length <= 1048576) (he:Bg w ⟨4,n,[]⟩ sel = 0):Af prog 4 [C2 w,.val (.int .i64 n),.val (.string (Ak sel))] (· = .val (.bool true)):=by
 have h16:=c16 w ⟨4,n,[]⟩ sel hw ⟨by simp,hi,by unfold Cn; simp only; omega⟩ (by omega);obtain ⟨hvw,hst,har⟩:=Fk he;have hv:=Ck.1 hvw;obtain ⟨hsn,hx⟩:=VL hst;rw [show DY w ⟨4,n,[]⟩ sel = (Bo (seen w sel n).2,0) by unfold DY; rw [if_pos he,hsn]] at h16;have hol:=MR hw hv (sel:=sel) hx;have h23:=c23 w n sel hw (by omega);have hh:Bp w n sel = 0:=by unfold Bp; rw [if_pos hvw,if_pos hx,har]; rfl
 rw [show QA w n sel = (Bo (IH w sel n).2,0) from if_pos hh] at h23;obtain ⟨k0,hk1,hk2,hk3,hk4⟩:=acD hv hx;have h21:=c21 w n (by have:=hw.lo; omega);rw [hk1] at h21;obtain ⟨hob,hsl⟩:=P0 hw hv hx;have hnl:=hnm _ (BV hx).1;have hdis:=(I4 hv (BV hx).1).names;have hown:AN (AJ w n) sel = none -> ED (Bo (seen w sel n).2) (Bo (IH w sel n).2) = true:=Va;have hmat:∀ p,AN (AJ w n) sel = some p -> Bo (seen w sel n).2 = ⟨1,n,(p.1:Nat),[],p.2,0,0,[]⟩:=fun p h=>SH h;have h22:=fun b hb hb2=>c22 (Bo (seen w sel n).2) b hol.1 hol.2 hb hb2;have h19:=c19 (Bo (seen w sel n).2) (Bo (IH w sel n).2);generalize Bo (seen w sel n).2 = A at *;generalize Bo (IH w sel n).2 = B at *;have hlo:=hw.lo;generalize hoo:AJ w n = o at *;have hge:(decide ((k0:Int) < 0)) = false:=by simp
 have hkt:(k0:Int).toNat = k0:=Int.toNat_natCast k0;have h16':Af prog 16 [C2 w,Cy ⟨4,n,[]⟩,.val (.string (Ak sel))] (· = .tup [HG A,.val (.int .i64 0)]):=h16;have h23':Af prog 23 [C2 w,.val (.int .i64 n),.val (.string (Ak sel))] (· = .tup [HG B,.val (.int .i64 0)]):=h23;clear he hst hvw hsn h16 h23;refine Ag.intro func4 (by decide) rfl (VY hge hk4 ?_);refine Aa.Ad (Z2 hge hk4 ?_);refine Aa.Ad (Z2 hge hk4 ?_);refine Af.eq (c14) rfl (Z2 hge hk4 ?_);refine Aa.seq ?_;refine Aa.Ad (Z2 hge hk4 ?_);refine Af.eq (c15 w hw) rfl (Z2 hge hk4 ?_);refine Aa.cond rfl (fun g25=>?_) (fun g25=>?_);refine Aa.Ad (Z3 hge hk4 g25 ?_);refine Aa.ret (Z3 hge hk4 g25 ?_);exact Ae rfl (Z3 hge hk4 g25 trivial);refine Aa.skip (Z3 hge hk4 g25 ?_);refine Aa.BQ [(1,.free),(2,.free),(3,.free),(0,.read),(4,.free),(5,.free),(6,.free),(7,.free),(8,.upd),(9,.set),(10,.free)] mixed (by kernel_rfl) (Z3 hge hk4 g25 ?_);refine AI.go (c20 _) rfl (Z3 hge hk4 g25 ?_);refine AI.go (h16') rfl (Z3 hge hk4 g25 ?_);refine And.intro (by (repeat first | exact Ai.refl _ | exact Ai.nil _ | refine Ai.same ?_ | refine Ai.row ?_ | refine Ai.ON ?_ | refine Ai.F8 ?_ | refine Ai.F9 ?_)) ?_;refine Aa.Ad (Z3 hge hk4 g25 ?_);refine Af.eq (h21) rfl (Z3 hge hk4 g25 ?_);refine Aa.seq ?_;refine Aa.Ad (Z3 hge hk4 g25 ?_);refine Aa.Ax rfl ?_;refine Aa.skip (Z3 hge hk4 g25 ?_);refine Aa.Ad (Z3 hge hk4 g25 ?_);refine Aa.Ad (Z3 hge hk4 g25 ?_);refine Aa.seq ?_;refine Aa.Ad (Z3 hge hk4 g25 ?_);refine Ao (Ao (Ao ?_))
 simp -implicitDefEqProofs (dsimp:=false) (disch:=omega) only [i64_in,gd];refine Z3 hge hk4 g25 ?_;refine Ao ?_;refine Aa.block ?_;refine Aa.A0 (fun x:Nat × Int × Bool=>[(13,.val (.int .i64 ((x.1:Int) - 1))),(11,.val (.int .i64 x.2.1)),(12,.val (.bool x.2.2))]) [10,8,7,3,1,2] (fun _=>_) (fun x:Nat × Int × Bool=>abq o sel x.1 x.2.1 x.2.2) (fun x:Nat × Int × Bool=>x.1) ((o.slots.length,-1,false)) ?_ rfl ?_ ?_;refine Z3 hge hk4 g25 ?_;rotate_left;refine ⟨rfl,?_,?_,rfl,?_⟩;refine ME hge hk4 g25 ?_;constructor;rotate_left;constructor;trivial;trivial;exact ME hge hk4 g25 trivial;exact ME hge hk4 g25 trivial;rintro ⟨k,own,st⟩ hI;simp only at hI;have hle:=hI.le;refine Z3 hge hk4 g25 ?_;refine Aa.seq ?_;refine Aa.Ad (Z3 hge hk4 g25 ?_);refine Aa.cond rfl (fun g27=>?_) (fun g27=>?_);have d27:=An g27;refine Aa.skip (Z4 hge hk4 g25 g27 ?_);refine Aa.seq (Aa.block ?_);refine Aa.Ad (Z4 hge hk4 g25 g27 ?_);refine Ao (Ao (Ao ?_));simp -implicitDefEqProofs (dsimp:=false) (disch:=omega) only [i64_in,gd];refine Z4 hge hk4 g25 g27 ?_;refine Ao ?_;refine And.intro (by assumption) ?_;refine Ao ?_;simp -implicitDefEqProofs (dsimp:=false) (disch:=omega) only [i64_in,gd];refine Z4 hge hk4 g25 g27 ?_;refine Aa.seq ?_;refine Aa.Ad (Z4 hge hk4 g25 g27 ?_);refine Ao ?_;refine Aa.cond rfl (fun g28=>?_) (fun g28=>?_);refine Aa.Ad (Z5 hge hk4 g25 g27 g28 ?_);refine Aa.Ad (Z5 hge hk4 g25 g27 g28 ?_);refine Aa.exit (Z5 hge hk4 g25 g27 g28 ?_);refine Aa.seq ?_
 refine Aa.Ad (Z5 hge hk4 g25 g27 g28 ?_);refine Aa.Ar rfl ?_;refine Aa.Ad (Z5 hge hk4 g25 g27 g28 ?_);refine Ag.OT (Z5 hge hk4 g25 g27 g28 ?_);refine Af.eq (h22 ⟨1,n,_,[],_,0,0,[]⟩ (by simp) (by simp)) rfl (Z5 hge hk4 g25 g27 g28 ?_);refine Aa.ret (Z5 hge hk4 g25 g27 g28 ?_);refine Ae rfl ?_;rotate_left;refine Aa.skip (Z5 hge hk4 g25 g27 g28 ?_);refine Aa.Ad (Z5 hge hk4 g25 g27 g28 ?_);refine Ao ?_;refine Ap (fun g31=>?_) (fun g31=>?_);have d31:=AB g31;refine Z6 hge hk4 g25 g27 g28 g31 ?_;refine Ao ?_;constructor;rotate_left;refine Aa.cond rfl (fun g32=>?_) (fun g32=>?_);refine Aa.Ad (Z7 hge hk4 g25 g27 g28 g31 g32 ?_);refine Aa.region (Z7 hge hk4 g25 g27 g28 g31 g32 ?_);refine Aa.region (Z7 hge hk4 g25 g27 g28 g31 g32 ?_);refine Bd ?_;refine ⟨(k - 1,(if CQ (o.slots.getD (k - 1) default) sel = true then ((k - 1:Nat):Int) else own),(if CQ (o.slots.getD (k - 1) default) sel = true then true else st)),?_⟩;constructor;simp -implicitDefEqProofs (dsimp:=false) only [go_sem,simprocAttr,hge,hk4,g25,g27,g28,g31,g32,Nat.le_refl,List.length_cons,List.length_append,List.length_nil];rotate_left;constructor;omega;refine ⟨rfl,?_,?_,rfl,?_⟩;refine Mu hge hk4 g25 g27 g28 g31 g32 ?_;constructor;rotate_left;constructor;rotate_left;constructor;rotate_left;constructor;trivial;trivial;exact Mu hge hk4 g25 g27 g28 g31 g32 trivial;exact Mu hge hk4 g25 g27 g28 g31 g32 trivial;refine Aa.skip (Z7 hge hk4 g25 g27 g28 g31 g32 ?_);refine Aa.region (Z7 hge hk4 g25 g27 g28 g31 g32 ?_)
 refine Bd ?_;refine ⟨(k - 1,(if CQ (o.slots.getD (k - 1) default) sel = true then ((k - 1:Nat):Int) else own),(if CQ (o.slots.getD (k - 1) default) sel = true then true else st)),?_⟩;constructor;simp -implicitDefEqProofs (dsimp:=false) only [go_sem,simprocAttr,hge,hk4,g25,g27,g28,g31,g32,Nat.le_refl,List.length_cons,List.length_append,List.length_nil];rotate_left;constructor;omega;refine ⟨rfl,?_,?_,rfl,?_⟩;refine Mu hge hk4 g25 g27 g28 g31 g32 ?_;constructor;rotate_left;constructor;rotate_left;constructor;rotate_left;constructor;trivial;trivial;exact Mu hge hk4 g25 g27 g28 g31 g32 trivial;exact Mu hge hk4 g25 g27 g28 g31 g32 trivial;have d31:=Aq g31;refine Z6 hge hk4 g25 g27 g28 g31 ?_;refine Ao ?_;refine Ap (fun g33=>?_) (fun g33=>?_);have d33:=AB g33;refine Z7 hge hk4 g25 g27 g28 g31 g33 ?_;refine Ao ?_;constructor;rotate_left;refine Aa.cond rfl (fun g34=>?_) (fun g34=>?_);refine Aa.Ad (Z8 hge hk4 g25 g27 g28 g31 g33 g34 ?_);refine Aa.region (Z8 hge hk4 g25 g27 g28 g31 g33 g34 ?_);refine Aa.region (Z8 hge hk4 g25 g27 g28 g31 g33 g34 ?_);refine Bd ?_;refine ⟨(k - 1,(if CQ (o.slots.getD (k - 1) default) sel = true then ((k - 1:Nat):Int) else own),(if CQ (o.slots.getD (k - 1) default) sel = true then true else st)),?_⟩;constructor;simp -implicitDefEqProofs (dsimp:=false) only [go_sem,simprocAttr,hge,hk4,g25,g27,g28,g31,g33,g34,Nat.le_refl,List.length_cons,List.length_append,List.length_nil];rotate_left;constructor;omega
 refine ⟨rfl,?_,?_,rfl,?_⟩;refine VZ hge hk4 g25 g27 g28 g31 g33 g34 ?_;constructor;rotate_left;constructor;rotate_left;constructor;rotate_left;constructor;trivial;trivial;exact VZ hge hk4 g25 g27 g28 g31 g33 g34 trivial;exact VZ hge hk4 g25 g27 g28 g31 g33 g34 trivial;refine Aa.skip (Z8 hge hk4 g25 g27 g28 g31 g33 g34 ?_);refine Aa.region (Z8 hge hk4 g25 g27 g28 g31 g33 g34 ?_);refine Bd ?_;refine ⟨(k - 1,(if CQ (o.slots.getD (k - 1) default) sel = true then ((k - 1:Nat):Int) else own),(if CQ (o.slots.getD (k - 1) default) sel = true then true else st)),?_⟩;constructor;simp -implicitDefEqProofs (dsimp:=false) only [go_sem,simprocAttr,hge,hk4,g25,g27,g28,g31,g33,g34,Nat.le_refl,List.length_cons,List.length_append,List.length_nil];rotate_left;constructor;omega;refine ⟨rfl,?_,?_,rfl,?_⟩;refine VZ hge hk4 g25 g27 g28 g31 g33 g34 ?_;constructor;rotate_left;constructor;rotate_left;constructor;rotate_left;constructor;trivial;trivial;exact VZ hge hk4 g25 g27 g28 g31 g33 g34 trivial;exact VZ hge hk4 g25 g27 g28 g31 g33 g34 trivial;have d33:=Aq g33;refine Z7 hge hk4 g25 g27 g28 g31 g33 ?_;refine Aa.Ax rfl ?_;refine Aa.skip (Z7 hge hk4 g25 g27 g28 g31 g33 ?_);refine Aa.region (Z7 hge hk4 g25 g27 g28 g31 g33 ?_);refine Bd ?_;refine ⟨(k - 1,(if CQ (o.slots.getD (k - 1) default) sel = true then ((k - 1:Nat):Int) else own),(if CQ (o.slots.getD (k - 1) default) sel = true then true else st)),?_⟩;constructor;simp -implicitDefEqProofs (dsimp:=false) only [go_sem,simprocAttr,hge,hk4,g25,g27,g28,g31,g33,Nat.le_refl,List.length_cons,List.length_append,List.length_nil]
 rotate_left;constructor;omega;refine ⟨rfl,?_,?_,rfl,?_⟩;refine Mu hge hk4 g25 g27 g28 g31 g33 ?_;constructor;rotate_left;constructor;rotate_left;constructor;rotate_left;constructor;trivial;trivial;exact Mu hge hk4 g25 g27 g28 g31 g33 trivial;exact Mu hge hk4 g25 g27 g28 g31 g33 trivial;have d27:=Aj g27;refine Aa.exit (Z4 hge hk4 g25 g27 ?_);refine Aa.seq ?_;refine Aa.Ad (Z4 hge hk4 g25 g27 ?_);refine Aa.cond rfl (fun g35=>?_) (fun g35=>?_);have d35:=An g35;refine Aa.Ad (Z5 hge hk4 g25 g27 g35 ?_);refine Ag.OT (Z5 hge hk4 g25 g27 g35 ?_);refine Af.eq (h22 ⟨1,n,_,[],_,0,0,[]⟩ (by simp) (by simp)) rfl (Z5 hge hk4 g25 g27 g35 ?_);refine Aa.ret (Z5 hge hk4 g25 g27 g35 ?_);refine Ae rfl ?_;rotate_left;have d35:=Aj g35;refine Aa.skip (Z5 hge hk4 g25 g27 g35 ?_);refine Aa.Ad (Z5 hge hk4 g25 g27 g35 ?_);refine Af.eq (h23') rfl (Z5 hge hk4 g25 g27 g35 ?_);refine Aa.Ad (Z5 hge hk4 g25 g27 g35 ?_);refine Af.eq (h19) rfl (Z5 hge hk4 g25 g27 g35 ?_);refine Aa.ret (Z5 hge hk4 g25 g27 g35 ?_);refine Ae rfl ?_;rotate_left
 ·exact TT o sel
 ·rw [i64_in (by omega) (by omega)]
 ·obtain ⟨k',rfl,e1,e2⟩:=Dv g27
  rw [e1] at g28;rw [e2,hmat _ (Sd (k:=k') (by omega) hdis g28)];simp [E4,GD]
 ·exact Nat.le_trans (hnl _ (Bs (by have:=of_decide_eq_true g27; omega))) (by decide)
 ·obtain ⟨k',rfl,e1,e2⟩:=Dv g27
  rw [e1] at g28;simp only [Nat.add_sub_cancel];exact GU hI g28
 ·obtain ⟨k',rfl,e1,e2⟩:=Dv g27
  rw [e2];simp only [Nat.add_sub_cancel]
 ·obtain ⟨k',rfl,e1,e2⟩:=Dv g27
  rw [e1] at g31 g32;have hs:CQ (o.slots.getD k' default) sel = true:=by (unfold CQ GM; rw [g31,g32]; rfl)
  simp only [Nat.add_sub_cancel,hs,if_true,Bool.false_eq_true,if_false,e2]
 ·obtain ⟨k',rfl,e1,e2⟩:=Dv g27
  rw [e1] at g31 g32;have hs:CQ (o.slots.getD k' default) sel = true:=by (unfold CQ GM; rw [g31,g32]; rfl)
  simp only [Nat.add_sub_cancel,hs,if_true,Bool.false_eq_true,if_false,e2]
 ·obtain ⟨k',rfl,e1,e2⟩:=Dv g27
  rw [e1] at g28;simp only [Nat.add_sub_cancel];exact GU hI g28
 ·obtain ⟨k',rfl,e1,e2⟩:=Dv g27
  rw [e2];simp only [Nat.add_sub_cancel]
 ·obtain ⟨k',rfl,e1,e2⟩:=Dv g27
  rw [e1] at g31 g32;have hs:CQ (o.slots.getD k' default) sel = false:=by (unfold CQ; rw [g32,Bool.and_false])
  simp only [Nat.add_sub_cancel,hs,if_true,Bool.false_eq_true,if_false,e2]
 ·obtain ⟨k',rfl,e1,e2⟩:=Dv g27
  rw [e1] at g31 g32;have hs:CQ (o.slots.getD k' default) sel = false:=by (unfold CQ; rw [g32,Bool.and_false])
  simp only [Nat.add_sub_cancel,hs,if_true,Bool.false_eq_true,if_false,e2]
 ·exact Nat.le_trans (hnl _ (Bs (by have:=of_decide_eq_true g27; omega))) (by decide)
 ·obtain ⟨k',rfl,e1,e2⟩:=Dv g27
  rw [e1] at g28;simp only [Nat.add_sub_cancel];exact GU hI g28
 ·obtain ⟨k',rfl,e1,e2⟩:=Dv g27
  rw [e2];simp only [Nat.add_sub_cancel]
 ·obtain ⟨k',rfl,e1,e2⟩:=Dv g27
  rw [e1] at g33 g34;have hs:CQ (o.slots.getD k' default) sel = true:=by (unfold CQ GM; rw [g33,g34,Bool.or_true]; rfl)
  simp only [Nat.add_sub_cancel,hs,if_true,Bool.false_eq_true,if_false,e2]
 ·obtain ⟨k',rfl,e1,e2⟩:=Dv g27
  rw [e1] at g33 g34;have hs:CQ (o.slots.getD k' default) sel = true:=by (unfold CQ GM; rw [g33,g34,Bool.or_true]; rfl)
  simp only [Nat.add_sub_cancel,hs,if_true,Bool.false_eq_true,if_false,e2]
 ·obtain ⟨k',rfl,e1,e2⟩:=Dv g27
  rw [e1] at g28;simp only [Nat.add_sub_cancel];exact GU hI g28
 ·obtain ⟨k',rfl,e1,e2⟩:=Dv g27
  rw [e2];simp only [Nat.add_sub_cancel]
 ·obtain ⟨k',rfl,e1,e2⟩:=Dv g27
  rw [e1] at g33 g34;have hs:CQ (o.slots.getD k' default) sel = false:=by (unfold CQ; rw [g34,Bool.and_false])
  simp only [Nat.add_sub_cancel,hs,if_true,Bool.false_eq_true,if_false,e2]
 ·obtain ⟨k',rfl,e1,e2⟩:=Dv g27
  rw [e1] at g33 g34;have hs:CQ (o.slots.getD k' default) sel = false:=by (unfold CQ; rw [g34,Bool.and_false])
  simp only [Nat.add_sub_cancel,hs,if_true,Bool.false_eq_true,if_false,e2]
 ·obtain ⟨k',rfl,e1,e2⟩:=Dv g27
  rw [e1] at g28;simp only [Nat.add_sub_cancel];exact GU hI g28
 ·obtain ⟨k',rfl,e1,e2⟩:=Dv g27
  rw [e2];simp only [Nat.add_sub_cancel]
 ·obtain ⟨k',rfl,e1,e2⟩:=Dv g27
  rw [e1] at g31 g33;have hs:CQ (o.slots.getD k' default) sel = false:=by (unfold CQ GM; rw [g31,g33]; rfl)
  simp only [Nat.add_sub_cancel,hs,if_true,Bool.false_eq_true,if_false,e2]
 ·obtain ⟨k',rfl,e1,e2⟩:=Dv g27
  rw [e1] at g31 g33;have hs:CQ (o.slots.getD k' default) sel = false:=by (unfold CQ GM; rw [g31,g33]; rfl)
  simp only [Nat.add_sub_cancel,hs,if_true,Bool.false_eq_true,if_false,e2]
 ·have hk0:k = 0:=by have:=of_decide_eq_false g27; omega
  subst hk0
  rcases hI.own with ⟨q1,q2,q3⟩ | ⟨m,q1,q2,q3,q4,q5⟩
  ·rw [q1] at g35; cases g35
  ·rw [q1,q4,hmat _ (Q8 q3 (fun j hj=>hI.name j (Nat.zero_le _) hj) hdis q5)]
   simp [E4,GD]
 ·have hk0:k = 0:=by have:=of_decide_eq_false g27; omega
  subst hk0
  rcases hI.own with ⟨q1,q2,q3⟩ | ⟨m,q1,q2,q3,q4,q5⟩
  ·rw [hown (Um (fun j hj=>hI.name j (Nat.zero_le _) hj) fun j hj=>q3 j (Nat.zero_le _) hj)]
  ·rw [q1] at g35
   simp at g35
end
theorem c4 (w:Wd) (n:Int) (sel:List UInt8) (hw:Cw w) (hnm:∀ o ∈ w.objs,∀ s ∈ o.slots,s.name.length <= 1048576) (hi:Cn n) (hs:sel.length <= 1048576):Af prog 4 [C2 w,.val (.int .i64 n),.val (.string (Ak sel))] (· = .val (.bool true)):=by
 by_cases he:Bg w ⟨4,n,[]⟩ sel = 0
 ·exact c4y w n sel hw hnm hi hs he
 ·exact c4n w n sel hw hi hs he
end Go.Proofs.Tryz

namespace Go.PM
variable [AA]
open Go.RowKit Go.Deep
def Mem.of (W:World):Mem:=⟨W,fun b=>match W.heap[b]? with
 | some (.cells c _ _)=>c.size
 | _=>0⟩
theorem Mem.KD {W:World} {a:Addr} {v:Value} (h:W.cell? a = some v):a.spot = none /\ (Mem.of W).QM a.block a.off /\ (Mem.of W).get a.block a.off = v:=by
 have hs:a.spot = none:=by
  cases hsp:a.spot with
  | none=>rfl
  | some k =>
   unfold World.cell? at h
   split at h
   ·simp [hsp] at h
   ·cases h
 have ha:a = ⟨a.block,a.off,none⟩:=I1 hs;rw [ha] at h;have hc:W.cell? ⟨a.block,a.off,none⟩ = some v:=h;refine ⟨hs,⟨?_,by show (W.cell? ⟨a.block,a.off,none⟩).isSome = true; rw [hc]; rfl⟩,by unfold Mem.get; show (W.cell? ⟨a.block,a.off,none⟩).getD undef = v; rw [hc]; rfl⟩;unfold World.cell? at h;unfold Mem.of;simp only at h ⊢
 cases hb:W.heap[a.block]? with
 | none=>rw [hb] at h; cases h
 | some o =>
  rw [hb] at h
  cases o <;> simp only at h <;> try (cases h)
  rename_i c ty fr
  simp only at h ⊢;simp at h;exact (Array.getElem?_eq_some_iff.1 h).1
def DG (M:Mem) (l:List AV) (cs:List Value):Prop:=l.length = cs.length /\ ∀ (j:Nat) (c:AV),l[j]? = some c -> c.single = true /\ Al M [] c (cs.getD j undef)
theorem DG.one {M:Mem} {x:AV} {v:Value} (h1:x.single = true) (h2:Al M [] x v):DG M [x] [v]:=by
 refine ⟨rfl,fun j c hc=>?_⟩
 cases j with
 | zero=>simp at hc; subst hc; exact ⟨h1,h2⟩
 | succ j=>simp at hc
theorem DG.app {M:Mem} {l1 l2:List AV} {cs:List Value} {off n1 n2:Nat} (h1:DG M l1 ((cs.drop off).take n1)) (h2:DG M l2 ((cs.drop (off + n1)).take n2)) (hn:l1.length = n1):DG M (l1 ++ l2) ((cs.drop off).take (n1 + n2)):=by
 have e:(cs.drop off).take (n1 + n2) = (cs.drop off).take n1 ++ (cs.drop (off + n1)).take n2:=by
  rw [List.take_add,List.drop_drop]
 rw [e];refine ⟨by simp only [List.length_append]; rw [h1.1,h2.1],fun j c hc=>?_⟩
 by_cases hj:j < l1.length
 ·rw [List.getElem?_append_left hj] at hc
  have:=h1.2 j c hc;rw [List.getD_eq_getElem?_getD,List.getElem?_append_left (by rw [<- h1.1]; exact hj),<- List.getD_eq_getElem?_getD];exact this
 ·rw [List.getElem?_append_right (by omega)] at hc
  have:=h2.2 _ c hc;rw [List.getD_eq_getElem?_getD,List.getElem?_append_right (by rw [<- h1.1]; omega),<- h1.1,<- List.getD_eq_getElem?_getD];exact this
section
variable {H:Type} {enc:TypeId × Value -> H} {P:Program} {W:World}
def G7 (enc:TypeId × Value -> H) (P:Program) (W:World) (t:TypeId) {α:Type} (f:α -> AV) (p:α -> Prop):Prop :=
 ∀ (fuel:Nat) (cs:List Value) (x:DataW H × List MemPlace),DataW.trod enc P W 0 (fun _=>true) true fuel t cs = some x -> ∃ a,p a /\ DG (Mem.of W) (f a).cells cs
theorem UL {t:TypeId} (ht:P.underlying t = some (.int .i64)):G7 enc P W t (fun n:Int=>AV.val (.int .i64 n)) (fun n=>-9223372036854775808 <= n /\ n <= 9223372036854775807):=by
 intro fuel cs x h;obtain ⟨n,rfl,_,hw⟩:=DataW.trod_int ht h;simp only [Lit.wf,Bool.and_eq_true,decide_eq_true_eq] at hw;exact ⟨n,hw,DG.one rfl (.val rfl)⟩
theorem R5 {t:TypeId} (ht:P.underlying t = some .bool):G7 enc P W t (fun b:Bool=>AV.val (.bool b)) (fun _=>True):=by
 intro fuel cs x h;obtain ⟨b,rfl,_⟩:=DataW.trod_bool ht h;exact ⟨b,trivial,DG.one rfl (.val rfl)⟩
theorem G7.mono {t:TypeId} {α:Type} {f:α -> AV} {p q:α -> Prop} (h:G7 enc P W t f p) (hpq:∀ a,p a -> q a):G7 enc P W t f q:=fun fuel cs x hx=>by
 obtain ⟨a,h1,h2⟩:=h fuel cs x hx;exact ⟨a,hpq a h1,h2⟩
theorem G7.single {t:TypeId} {α:Type} {f:α -> AV} {p:α -> Prop} (h:G7 enc P W t f p) (h1:∀ a,(f a).cells = [f a]) {v:Value} {d:DataW H} {ps:List MemPlace} (ht:DataW.Trod enc P W 0 (fun _=>true) true t v d ps) (hv:v.cells = #[v]):∃ a,p a /\ Al (Mem.of W) [] (f a) v:=by
 obtain ⟨fuel,hf⟩:=ht;obtain ⟨a,h2,h3⟩:=h _ _ _ hf;rw [h1,hv] at h3;exact ⟨a,h2,(h3.2 0 (f a) rfl).2⟩
theorem G7.whole {t:TypeId} {α:Type} {f:α -> AV} {p:α -> Prop} (h:G7 enc P W t f p) {g:α -> List AV} (h1:∀ a,f a = .agg (g a)) {cs:Array Value} {d:DataW H} {ps:List MemPlace} (ht:DataW.Trod enc P W 0 (fun _=>true) true t (.agg cs) d ps):∃ a,p a /\ Al (Mem.of W) [] (f a) (.agg cs):=by
 obtain ⟨fuel,hf⟩:=ht;obtain ⟨a,h2,h3⟩:=h _ _ _ hf;rw [h1] at h3;have hc:(AV.agg (g a)).cells = g a:=rfl;have hv:(Value.agg cs).cells = cs:=rfl;rw [hc,hv] at h3;refine ⟨a,h2,?_⟩;rw [h1];refine .agg (by simpa using h3.1) (fun i c hi=>(h3.2 i c hi).1) (fun i c hi=>?_);have:=(h3.2 i c hi).2
 simpa [List.getD_eq_getElem?_getD,Array.getD_eq_getD_getElem?] using this
end
theorem Nk {P:Program} {f:FuncId} {args:List AV} {W:World} {vs:Array Value} (hc:Af P f args (· = .val (.bool true))) (hv:AW (Mem.of W) [] args vs) (hg:∀ (g:Nat) (cs:List AV),AA.get g = some cs -> HS (Mem.of W) g cs):Calls P f vs W fun e W'=>e = .returned (.bool true) /\ Below W.heap.size W W':=by
 have hH:AR (fun b=>b < W.heap.size) (Mem.of W) [] []:=⟨rfl,hg,fun i b e h1=>by simp at h1,fun i b e h1=>by simp at h1,fun i j b b' e e' h1=>by simp at h1⟩
 have hO:Cz (fun b=>b < W.heap.size) (Mem.of W):=⟨fun b hb=>by
  have:W.heap[b]? = none:=Array.getElem?_eq_none (by exact hb);simp [Mem.of,this],fun b hb=>hb⟩
 refine Calls.mono (hc.2 (fun b=>b < W.heap.size) (Mem.of W) [] vs hH hO hv) ?_;rintro e W' ⟨r,h',M',hb',⟨_,x,rfl,rfl⟩,k2,rfl,k4,k5,k6,k7⟩
 cases e with
 | returned v =>
  cases k2
  exact ⟨rfl,k6.os,k6.tape,k6.out,k6.size,fun k hk=>(k6.fr k hk).1⟩
 | panicked _=>exact k2.elim
 | outgrown=>exact k2.elim
end Go.PM

namespace Go.PM
variable [AA]
open Go.RowKit Go.Deep
section
variable {H:Type} {enc:TypeId × Value -> H} {P:Program} {W:World} {B:DataW H -> Nat} {N:Nat}
structure aaM (B:DataW H -> Nat):Prop where
 str:∀ bs:List UInt8,bs.length <= B (.lit (.string bs))
 el:∀ d elems spare,d ∈ elems -> B d <= B (.slice elems spare)
 len:∀ elems spare,elems.length <= B (.slice elems spare)
 part:∀ d parts,d ∈ parts -> B d <= B (.agg parts)
def Dg (B:DataW H -> Nat) (N:Nat) (enc:TypeId × Value -> H) (P:Program) (W:World) (t:TypeId) {α:Type} (f:α -> AV) (p:α -> Prop):Prop :=
 ∀ (fuel:Nat) (cs:List Value) (x:DataW H × List MemPlace),DataW.trod enc P W 0 (fun _=>true) true fuel t cs = some x -> B x.1 <= N -> ∃ a,p a /\ DG (Mem.of W) (f a).cells cs
theorem G7.b {t:TypeId} {α:Type} {f:α -> AV} {p:α -> Prop} (h:G7 enc P W t f p):Dg B N enc P W t f p:=fun fuel cs x hx _=>h fuel cs x hx
theorem My {t:TypeId} (K:aaM B) (ht:P.underlying t = some .string):Dg B N enc P W t (fun l:List UInt8=>AV.val (.string ⟨l.toArray⟩)) (fun l=>l.length <= N):=by
 intro fuel cs x h hz;obtain ⟨s,rfl,rfl,hs⟩:=DataW.trod_string ht h;refine ⟨s.data.toList,Nat.le_trans (K.str _) hz,DG.one rfl ?_⟩;have e:(⟨s.data.toList.toArray⟩:ByteArray) = s:=by simp
 show Al _ _ (AV.val (.string ⟨s.data.toList.toArray⟩)) _
 rw [e];exact .val rfl
theorem CR {t e:TypeId} {α:Type} [Inhabited α] {f:α -> AV} {p:α -> Prop} {sz:Nat} (K:aaM B) (ht:P.underlying t = some (.slice e)) (hsz:P.cellsOf e = sz) (h0:0 < sz) (hf:∀ a,(f a).cells.length = sz) (he:Dg B N enc P W e f p) :
  Dg B N enc P W t (fun l:List α=>AV.sl false (l.map f)) (fun l=>(∀ a ∈ l,p a) /\ l.length <= N):=by
 intro fuel cs x h hz
 rcases Go.Deep.open_slice ht h with ⟨rfl,_⟩ | ⟨a,len,cap,m,n,D,Pl,rfl,_,hl,hm,hmm,rfl,hx⟩
 ·exact ⟨[],⟨fun a ha=>(by cases ha),Nat.zero_le _⟩,DG.one rfl .nil⟩
 have hzl:=Nat.le_trans (K.len _ _) hz;simp only [List.length_map,List.length_range] at hzl;have hze:∀ i,i < len -> B (D i) <= N:=fun i hi=>Nat.le_trans (K.el (D i) _ _ (List.mem_map.2 ⟨i,List.mem_range.2 hi,rfl⟩)) hz;simp only [if_true] at hmm;subst hmm;rw [hsz] at hx;have hsp:a.spot = none \/ m = 0:=by
  rcases Nat.eq_zero_or_pos m with hm0 | hm0
  ·exact .inr hm0
  ·left
   obtain ⟨cs',h1,_⟩:=hx 0 hm0;obtain ⟨_,h3,h4⟩:=World.cells?_some h1;have h5:=h4 0 h0;have h6:cs'[0]? = some (cs'.getD 0 undef):=by
    have:0 < cs'.length:=by omega
    simp [List.getD_eq_getElem?_getD,this]
   rw [h6] at h5;have:=(Mem.KD h5).1
   simpa [Addr.add] using this
 obtain ⟨A,hA⟩:=choose_lt (α:=α) (p:=fun i y=>p y /\ ∃ cs',W.cells? 0 (a.add (i * sz)) sz = some cs' /\ DG (Mem.of W) (f y).cells cs') (n:=len) (fun i hi=>by
  obtain ⟨cs',h1,h2⟩:=hx i (by omega);obtain ⟨y,h3,h4⟩:=he _ _ _ h2 (hze i hi);exact ⟨y,h3,cs',h1,h4⟩)
 refine ⟨(List.range len).map A,⟨fun y hy=>?_,by simp; omega⟩,DG.one rfl ?_⟩
 ·obtain ⟨i,hi,rfl⟩:=List.mem_map.1 hy
  exact (hA i (by have:=List.mem_range.1 hi; omega)).1
 have hlen:(((List.range len).map A).map f).length = len:=by simp
 have key:∀ (i:Nat) (e:AV) (j:Nat) (c:AV),(((List.range len).map A).map f)[i]? = some e -> e.cells[j]? = some c -> (Mem.of W).QM a.block (a.off + i * sz + j) /\ c.single = true /\ Al (Mem.of W) [] c ((Mem.of W).get a.block (a.off + i * sz + j)):=by
  intro i e j c hi hc;have hil:i < len:=by
   have:=(List.getElem?_eq_some_iff.1 hi).1
   simpa using this
  have hee:e = f (A i):=by
   simp [List.getElem?_map,hil] at hi;exact hi.symm
  subst hee;obtain ⟨_,cs',h1,h2,h3⟩:=hA i (by omega);obtain ⟨_,h4,h5⟩:=World.cells?_some h1;have hj:j < sz:=by
   have:=(List.getElem?_eq_some_iff.1 hc).1
   rwa [hf] at this
  have h6:=h5 j hj;have h7:cs'[j]? = some (cs'.getD j undef):=by
   have:j < cs'.length:=by omega
   simp [List.getD_eq_getElem?_getD,this]
  rw [h7] at h6;obtain ⟨g1,g2,g3⟩:=Mem.KD h6;have hb:((a.add (i * sz)).add j).block = a.block /\ ((a.add (i * sz)).add j).off = a.off + i * sz + j:=by
   unfold Addr.add
   split <;> split <;> simp_all
  rw [hb.1,hb.2] at g2 g3;obtain ⟨k1,k2⟩:=h3 j c hc;exact ⟨g2,k1,by rw [g3]; exact k2⟩
 have:=Al.sl (M:=Mem.of W) (hb:=[]) (full:=false) (es:=((List.range len).map A).map f) (a:=a) (cap:=m) sz hsp (by rw [hlen]; exact hl) (fun h=>by cases h)
  (fun e he=>by obtain ⟨y,_,rfl⟩:=List.mem_map.1 he; exact hf y) (fun i e j c hi hc=>⟨(key i e j c hi hc).1,(key i e j c hi hc).2.1⟩) (fun i e j c hi hc=>(key i e j c hi hc).2.2)
 rw [hlen] at this;exact this
def Ky (B:DataW H -> Nat) (N:Nat) (enc:TypeId × Value -> H) (P:Program) (W:World) (off n:Nat) (fs:List Field) {α:Type} (f:α -> List AV) (p:α -> Prop):Prop :=
 ∀ (fuel:Nat) (cs:List Value) (xs:List (DataW H × List MemPlace)),xs.length = fs.length -> (∀ (i:Nat) (fd:Field),fs[i]? = some fd -> DataW.trod enc P W 0 (fun _=>true) true fuel fd.type ((cs.drop fd.offset).take (P.cellsOf fd.type)) = xs[i]?) ->
  (∀ x ∈ xs,B x.1 <= N) -> ∃ a,p a /\ DG (Mem.of W) (f a) ((cs.drop off).take n)
theorem Db {off:Nat}:Ky B N enc P W off 0 [] (fun _:Unit=>[]) (fun _=>True):=by
 intro fuel cs xs _ _ _;exact ⟨(),trivial,by simp,fun j c hc=>by simp at hc⟩
theorem Av {off n m sz:Nat} {fd:Field} {fs:List Field} {α β:Type} {g:α -> AV} {p:α -> Prop} {f:β -> List AV} {q:β -> Prop} (ho:fd.offset = off) (hsz:P.cellsOf fd.type = sz) (hm:m = sz + n)
  (h0:Dg B N enc P W fd.type g p) (hl:∀ a,(g a).cells.length = sz) (h1:Ky B N enc P W (off + sz) n fs f q):Ky B N enc P W off m (fd :: fs) (fun x:α × β=>(g x.1).cells ++ f x.2) (fun x=>p x.1 /\ q x.2):=by
 subst hm;intro fuel cs xs hlen h hz
 cases xs with
 | nil=>simp at hlen
 | cons x xs =>
  obtain ⟨a,k1,k2⟩:=h0 _ _ _ (h 0 fd rfl) (hz x List.mem_cons_self);obtain ⟨b,k3,k4⟩:=h1 fuel cs xs (by simpa using hlen) (fun i fd' hf=>h (i + 1) fd' hf) (fun y hy=>hz y (List.mem_cons_of_mem _ hy));rw [ho,hsz] at k2;exact ⟨(a,b),⟨k1,k3⟩,k2.app k4 (hl a)⟩
theorem Cs {t:TypeId} {fs:Array Field} {n:Nat} {α:Type} {f:α -> List AV} {p:α -> Prop} (K:aaM B) (ht:P.underlying t = some (.struct fs)) (hn:P.cellsOf t = n) (h:Ky B N enc P W 0 n fs.toList f p):Dg B N enc P W t (fun a=>.agg (f a)) p:=by
 intro fuel cs x hx hz;obtain ⟨xs,m,_,rfl,hl,hlen,hf⟩:=DataW.trod_struct ht hx;obtain ⟨a,k1,k2⟩:=h m cs xs (by simpa using hlen) (fun i fd hfd=>hf i fd (by simpa using hfd)) (fun y hy=>Nat.le_trans (K.part _ _ (List.mem_map.2 ⟨y,hy,rfl⟩)) hz);refine ⟨a,k1,?_⟩;rw [List.drop_zero,List.take_of_length_le (by omega)] at k2;exact k2
theorem Dg.map {t:TypeId} {α β:Type} {f:α -> AV} {p:α -> Prop} {f':β -> AV} (h:Dg B N enc P W t f p) (g:α -> β) (hg:∀ a,f a = f' (g a)):Dg B N enc P W t f' (fun b=>∃ a,p a /\ g a = b):=fun fuel cs x hx hz=>by
 obtain ⟨a,h1,h2⟩:=h fuel cs x hx hz;exact ⟨g a,⟨a,h1,rfl⟩,hg a ▸ h2⟩
theorem Dg.mono {t:TypeId} {α:Type} {f:α -> AV} {p q:α -> Prop} (h:Dg B N enc P W t f p) (hpq:∀ a,p a -> q a):Dg B N enc P W t f q:=fun fuel cs x hx hz=>by
 obtain ⟨a,h1,h2⟩:=h fuel cs x hx hz;exact ⟨a,hpq a h1,h2⟩
theorem Dg.single {t:TypeId} {α:Type} {f:α -> AV} {p:α -> Prop} (h:Dg B N enc P W t f p) (h1:∀ a,(f a).cells = [f a]) {v:Value} {d:DataW H} {ps:List MemPlace} (ht:DataW.Trod enc P W 0 (fun _=>true) true t v d ps) (hv:v.cells = #[v]) (hz:B d <= N):∃ a,p a /\ Al (Mem.of W) [] (f a) v:=by
 obtain ⟨fuel,hf⟩:=ht;obtain ⟨a,h2,h3⟩:=h _ _ _ hf hz;rw [h1,hv] at h3;exact ⟨a,h2,(h3.2 0 (f a) rfl).2⟩
theorem Dg.whole {t:TypeId} {α:Type} {f:α -> AV} {p:α -> Prop} (h:Dg B N enc P W t f p) {g:α -> List AV} (h1:∀ a,f a = .agg (g a)) {cs:Array Value} {d:DataW H} {ps:List MemPlace} (ht:DataW.Trod enc P W 0 (fun _=>true) true t (.agg cs) d ps) (hz:B d <= N):∃ a,p a /\ Al (Mem.of W) [] (f a) (.agg cs):=by
 obtain ⟨fuel,hf⟩:=ht;obtain ⟨a,h2,h3⟩:=h _ _ _ hf hz;rw [h1] at h3;have hc:(AV.agg (g a)).cells = g a:=rfl;have hv:(Value.agg cs).cells = cs:=rfl;rw [hc,hv] at h3;refine ⟨a,h2,?_⟩;rw [h1];refine .agg (by simpa using h3.1) (fun i c hi=>(h3.2 i c hi).1) (fun i c hi=>?_);have:=(h3.2 i c hi).2
 simpa [List.getD_eq_getElem?_getD,Array.getD_eq_getD_getElem?] using this
end
end Go.PM

namespace Go.PM
variable [AA]
open Go.RowKit Go.Deep
theorem Qy {P:Program} {W:World} {n:String} {g:Nat} {vs:Array Value} {cs:List AV} (hg:P.globalNamed n = some g) (hv:W.var? P n = some vs) (hl:cs.length = vs.size) (h0:0 < vs.size)
  (hc:∀ (j:Nat) (c:AV),cs[j]? = some c -> c.single = true /\ ∀ v,vs[j]? = some v -> Al (Mem.of W) [] c v):HS (Mem.of W) g cs:=by
 have hb:∃ ty l,W.heap[g]? = some (.cells vs ty l):=by
  have hv':=hv;unfold World.var? at hv';rw [hg] at hv';simp only [Option.bind_some] at hv'
  split at hv'
  ·rename_i cs ty l h
   cases hv'
   exact ⟨_,_,h⟩
  ·cases hv'
 obtain ⟨ty,l,hb⟩:=hb;have key:∀ (j:Nat) (c:AV),cs[j]? = some c -> ∃ v,vs[j]? = some v /\ (Mem.of W).QM g (0 + j) /\ (Mem.of W).get g (0 + j) = v:=fun j c hj=>by
  have hlt:j < vs.size:=by
   have:=(List.getElem?_eq_some_iff.1 hj).1;omega
  have h1:W.cell? ⟨g,j,none⟩ = some vs[j]:=(World.var?_cell hg hv j).trans (Array.getElem?_eq_getElem hlt);have h2:=Mem.KD h1;rw [Nat.zero_add];exact ⟨_,Array.getElem?_eq_getElem hlt,h2.2.1,h2.2.2⟩
 refine ⟨.cptr rfl (fun j c hj=>?_) (fun j c hj=>?_),⟨vs,ty,l,hb,?_,h0⟩,vs,ty,l,hb,hl.symm⟩
 ·obtain ⟨v,_,h2,_⟩:=key j c hj
  exact ⟨h2,(hc j c hj).1⟩
 ·obtain ⟨v,h1,_,h3⟩:=key j c hj
  rw [h3];exact (hc j c hj).2 v h1
 ·show vs.size <= (Mem.of W).lo g
  unfold Mem.of;simp [hb]
theorem Vv {P:Program} {W:World} {n:String} {g:Nat} {k:IntKind} {zs:List Int} (hg:P.globalNamed n = some g) (h:Lib.TabIs P W n k zs) (h0:0 < zs.length):HS (Mem.of W) g (zs.map fun z=>.val (.int k z)):=by
 refine Qy hg h (by simp) (by simpa using h0) fun j c hj=>?_;rw [List.getElem?_map] at hj
 cases hz:zs[j]? with
 | none=>rw [hz] at hj; cases hj
 | some z =>
  rw [hz] at hj;cases hj;refine ⟨rfl,fun v hv=>?_⟩;simp [hz] at hv;subst hv;exact .val rfl
theorem Ng {P:Program} {W:World} {n:String} {g:Nat} {tp:TypeId} {text:List UInt8} (hg:P.globalNamed n = some g) (h:∃ (a:Addr) (s:ByteArray),W.var? P n = some #[.iface tp (.pointer (some a))] /\ W.cell? a = some (.string s) /\ s.data.toList = text /\ s.size <= maxLen) :
  HS (Mem.of W) g [.iface tp (.cptr [.val (.string ⟨text.toArray⟩)])]:=by
 obtain ⟨a,s,h1,h2,h3,_⟩:=h;refine Qy hg h1 rfl (by simp) fun j c hj=>?_
 cases j with
 | succ j=>simp at hj
 | zero =>
  simp at hj;subst hj;refine ⟨rfl,fun v hv=>?_⟩;simp at hv;subst hv;obtain ⟨k1,k2,k3⟩:=Mem.KD h2;have hs:(⟨text.toArray⟩:ByteArray) = s:=by
   subst h3;simp
  refine .iface (.cptr k1 (fun j c hj=>?_) fun j c hj=>?_)
  ·cases j with
   | succ j=>simp at hj
   | zero=>simp at hj; subst hj; exact ⟨k2,rfl⟩
  ·cases j with
   | succ j=>simp at hj
   | zero =>
    simp at hj;subst hj;rw [Nat.add_zero,k3,hs];exact .val rfl
end Go.PM

namespace Go.Proofs.Tryz
open Go.PM Go.RowKit
theorem own:ownKnob prog.godebug = none:=by kernel_rfl
theorem laidOut:laidOutB prog = true:=by kernel_rfl
abbrev Xj:List (String × DataW Unit):=Go.Proofs.YtgbaedjegdcloaaGreatDoor.Rows.lookOwnUptoRow.laid
theorem afR:prog.globalNamed "internal/strconv.uint64pow10" = some 1:=by kernel_rfl
theorem agz:prog.globalNamed "strconv.ErrSyntax" = some 2:=by kernel_rfl
theorem afk:prog.globalNamed "strconv.ErrRange" = some 3:=by kernel_rfl
theorem agC:(prog.globals[1]?).map (·.type) = some 359:=by kernel_rfl
theorem aeU:(prog.globals[2]?).map (·.type) = some 268:=by kernel_rfl
theorem aeL:(prog.globals[3]?).map (·.type) = some 268:=by kernel_rfl
theorem SU : "*" ++ "errors.errorString" = "*errors.errorString":=by decide
theorem X0 (u:TypeId) (h:prog.typeName? 3 u = some "*errors.errorString"):u = 373 :=
 typeName_ptr_named (nm:="errors.errorString") (by rw [SU]; kernel_rfl) (by kernel_rfl) (by decide) u (by rw [SU]; exact h)
theorem Xs:prog.cellsOf 359 = 20:=by kernel_rfl
theorem QH:prog.cellsOf 375 = 1:=by kernel_rfl
theorem Wj:prog.cellsOf 9 = 1:=by kernel_rfl
theorem NH {W:World} (h:laidMetH prog Xj W) (g:Nat) (cs:List AV) (hg:AA.get g = some cs):HS (Mem.of W) g cs:=by
 have h0:laidMet prog Xj W:=h;have h2:=h0.tail.tail;have h4:=h2.tail.tail
 match g,hg with
 | 1,hg =>
  cases hg;exact Vv afR (Lib.tabIs_of_head (k:=.u64) (zs:=[1,10,100,1000,10000,100000,1000000,10000000,100000000,1000000000,10000000000,100000000000,1000000000000,10000000000000,100000000000000,1000000000000000,10000000000000000,100000000000000000,1000000000000000000,10000000000000000000]) afR agC underlying359 underlying296 (by kernel_rfl) Xs h2) (by decide)
 | 2,hg =>
  cases hg;exact Ng agz (laid_sentinel h4.tail agz aeU underlying268 X0 underlying373 underlying375 rfl rfl underlying9 QH Wj)
 | 3,hg =>
  cases hg;exact Ng afk (laid_sentinel h4 afk aeL underlying268 X0 underlying373 underlying375 rfl rfl underlying9 QH Wj)
def Nj:Nat -> DataW Unit -> List Value
 | 0,_=>[]
 | n + 1,d=>match d with
  | .lit (.int k z)=>[.int k z]
  | .agg ps=>ps.flatMap (Nj n)
  | _=>[]
def Gm (vs:Array Value):Obj -> Obj
 | .cells _ t f=>.cells vs t f
 | o=>o
abbrev ahG:ByteArray:={ data:=#[105,110,118,97,108,105,100,32,115,121,110,116,97,120] }
abbrev ajd:ByteArray:={ data:=#[118,97,108,117,101,32,111,117,116,32,111,102,32,114,97,110,103,101] }
noncomputable def low:Nat:=(World.holding prog default ⟨#[],#[],[]⟩).heap.size
open Go.Proofs.YtgbaedjegdcloaaGreatDoor in
noncomputable def FP (os:Os):World :=
 let w0:=World.holding prog os ⟨#[.cells #[.string ahG] 375,.cells #[.string ajd] 375],#[],[]⟩
 { w0 with heap:=((((((w0.heap.modify 1 (Gm (Nj 4 Rows.laid_internal_strconv_uint64pow10).toArray)).modify 2 (Gm #[.iface 373 (.pointer (some ⟨low,0,none⟩))])).modify 3 (Gm #[.iface 373 (.pointer (some ⟨low + 1,0,none⟩))])).modify 4 (Gm (Nj 4 Rows.laid_unicode_utf8_first).toArray)).modify 5 (Gm (Nj 4 Rows.laid_unicode_utf8_acceptRanges).toArray)).modify 6 (Gm (Nj 4 Rows.laid_math_bits_deBruijn32tab).toArray)).modify 7 (Gm (Nj 4 Rows.laid_math_bits_deBruijn64tab).toArray) }
theorem PX (os:Os) (args:Array Value):laidMet prog Xj ((FP os).forCall (fun _ _=>0) ⟨#[],args,[]⟩).memory :=
 laidMet_of_run' 8 (by kernel_rfl) (by kernel_rfl)
end Go.Proofs.Tryz

namespace Go.Proofs.Tryz
open Go.PM Go.RowKit
variable {H:Type} {enc:TypeId × Value -> H} {W:World}
abbrev GX:DataW H -> Nat:=Go.Proofs.YtgbaedjegdcloaaGreatDoor.Rows.uptoBulk
theorem G6 {d:DataW H}:∀ {l:List (DataW H)},d ∈ l -> GX d <= Go.Proofs.YtgbaedjegdcloaaGreatDoor.Rows.uptoBulkAll l
 | x :: r,h=>by
  simp only [Go.Proofs.YtgbaedjegdcloaaGreatDoor.Rows.uptoBulkAll]
  rcases List.mem_cons.1 h with rfl | h
  ·exact Nat.le_add_right _ _
  ·exact Nat.le_trans (G6 h) (Nat.le_add_left _ _)
theorem Zi (d:DataW H):1 <= GX d:=by
 cases d with
 | lit l=>cases l <;> simp [GX,Go.Proofs.YtgbaedjegdcloaaGreatDoor.Rows.uptoBulk]
 | nil=>simp [GX,Go.Proofs.YtgbaedjegdcloaaGreatDoor.Rows.uptoBulk]
 | ptr d=>simp [GX,Go.Proofs.YtgbaedjegdcloaaGreatDoor.Rows.uptoBulk]
 | slice elems spare=>simp [GX,Go.Proofs.YtgbaedjegdcloaaGreatDoor.Rows.uptoBulk]
 | agg parts=>simp [GX,Go.Proofs.YtgbaedjegdcloaaGreatDoor.Rows.uptoBulk]
 | iface t d=>simp [GX,Go.Proofs.YtgbaedjegdcloaaGreatDoor.Rows.uptoBulk]
 | map entries=>simp [GX,Go.Proofs.YtgbaedjegdcloaaGreatDoor.Rows.uptoBulk]
 | held h=>simp [GX,Go.Proofs.YtgbaedjegdcloaaGreatDoor.Rows.uptoBulk]
theorem JO:∀ l:List (DataW H),l.length <= Go.Proofs.YtgbaedjegdcloaaGreatDoor.Rows.uptoBulkAll l
 | []=>Nat.zero_le _
 | x :: r=>by
  have:=Zi x;have:=JO r;simp only [Go.Proofs.YtgbaedjegdcloaaGreatDoor.Rows.uptoBulkAll,List.length_cons];unfold GX at *;omega
theorem DH:aaM (GX (H:=H)):=by
 refine ⟨fun bs=>?_,fun d e s h=>?_,fun e s=>?_,fun d p h=>?_⟩
 ·simp only [GX,Go.Proofs.YtgbaedjegdcloaaGreatDoor.Rows.uptoBulk]; omega
 ·have:=G6 h
  simp only [GX,Go.Proofs.YtgbaedjegdcloaaGreatDoor.Rows.uptoBulk] at *;omega
 ·have:=JO e
  simp only [GX,Go.Proofs.YtgbaedjegdcloaaGreatDoor.Rows.uptoBulk];omega
 ·have:=G6 h
  simp only [GX,Go.Proofs.YtgbaedjegdcloaaGreatDoor.Rows.uptoBulk] at *;omega
abbrev O9 (enc:TypeId × Value -> H) (W:World) (t:TypeId) {α:Type} (f:α -> AV) (p:α -> Prop):Prop:=Dg GX 1048576 enc prog W t f p
theorem BD:O9 enc W 3 (fun n:Int=>AV.val (.int .i64 n)) Cn:=(UL underlying3).b
theorem Nb:O9 enc W 4 (fun b:Bool=>AV.val (.bool b)) (fun _=>True):=(R5 underlying4).b
theorem FY:O9 enc W 9 (fun l:List UInt8=>AV.val (.string (Ak l))) (fun l=>l.length <= 1048576):=My DH underlying9
theorem KB:O9 enc W 28 Cy Cm :=
 ((Cs DH underlying28 (by kernel_rfl) (Av rfl (by kernel_rfl) rfl BD (fun _=>rfl) (Av rfl (by kernel_rfl) rfl BD (fun _=>rfl) (Av rfl (by kernel_rfl) rfl FY (fun _=>rfl) Db)))).map (f':=Cy) (fun x=>(⟨x.1,x.2.1,x.2.2.1⟩:Vl)) (fun _=>rfl)).mono
  fun o ⟨x,h,e⟩=>e ▸ ⟨h.2.2.1,h.2.1,h.1⟩
theorem IL:O9 enc W 45 (fun l:List Vl=>AV.sl false (Pe l)) (fun l=>(∀ a ∈ l,Cm a) /\ l.length <= 1048576):=CR (sz:=3) DH underlying45 (by kernel_rfl) (by decide) (fun _=>rfl) KB
theorem M5:O9 enc W 71 (fun l:List (List UInt8)=>AV.sl false (strs l)) (fun l=>(∀ a ∈ l,(fun s:List UInt8=>s.length <= 1048576) a) /\ l.length <= 1048576):=CR (sz:=1) DH underlying71 (by kernel_rfl) (by decide) (fun _=>rfl) FY
structure slZ (s:HA):Prop where
 n:s.name.length <= 1048576
 k:Cn s.kind
 v:Cm s.v
theorem Xd:O9 enc W 49 H9 slZ :=
 ((Cs DH underlying49 (by kernel_rfl) (Av rfl (by kernel_rfl) rfl FY (fun _=>rfl) (Av rfl (by kernel_rfl) rfl BD (fun _=>rfl) (Av (sz:=3) rfl (by kernel_rfl) rfl KB (fun _=>rfl) Db)))).map (f':=H9) (fun x=>(⟨x.1,x.2.1,x.2.2.1⟩:HA)) (fun _=>rfl)).mono
  fun o ⟨x,h,e⟩=>e ▸ ⟨h.1,h.2.1,h.2.2.1⟩
theorem Vg:O9 enc W 44 (fun l:List HA=>AV.sl false (Tl l)) (fun l=>(∀ a ∈ l,slZ a) /\ l.length <= 1048576):=CR (sz:=5) DH underlying44 (by kernel_rfl) (by decide) (fun _=>rfl) Xd
theorem WN:O9 enc W 179 Cx P5 :=
 ((Cs DH underlying179 (by kernel_rfl) (Av rfl (by kernel_rfl) rfl BD (fun _=>rfl) (Av rfl (by kernel_rfl) rfl BD (fun _=>rfl) (Av rfl (by kernel_rfl) rfl BD (fun _=>rfl) (Av rfl (by kernel_rfl) rfl BD (fun _=>rfl) Db))))).map (f':=Cx) (fun x=>(⟨x.1,x.2.1,x.2.2.1,x.2.2.2.1⟩:Hm)) (fun _=>rfl)).mono
  fun o ⟨x,h,e⟩=>e ▸ ⟨h.1,h.2.1,h.2.2.1,h.2.2.2.1⟩
theorem UQ:O9 enc W 72 (fun l:List Hm=>AV.sl false (WW l)) (fun l=>(∀ a ∈ l,P5 a) /\ l.length <= 1048576):=CR (sz:=4) DH underlying72 (by kernel_rfl) (by decide) (fun _=>rfl) WN
structure obZ (x:Ob):Prop where
 ok:KV x
 n:∀ s ∈ x.slots,s.name.length <= 1048576
theorem aay:O9 enc W 47 Du obZ :=
 ((Cs DH underlying47 (by kernel_rfl) (Av rfl (by kernel_rfl) rfl BD (fun _=>rfl) (Av rfl (by kernel_rfl) rfl BD (fun _=>rfl) (Av rfl (by kernel_rfl) rfl Vg (fun _=>rfl) (Av rfl (by kernel_rfl) rfl IL (fun _=>rfl) (Av rfl (by kernel_rfl) rfl BD (fun _=>rfl) (Av rfl (by kernel_rfl) rfl BD (fun _=>rfl) Db))))))).map (f':=Du) (fun x=>(⟨x.1,x.2.1,x.2.2.1,x.2.2.2.1,x.2.2.2.2.1,x.2.2.2.2.2.1⟩:Ob)) (fun _=>rfl)).mono
  fun o ⟨x,h,e⟩=>e ▸ ⟨⟨h.2.2.1.2,h.2.2.2.1.2,h.2.2.2.1.1,fun s hs=>(h.2.2.1.1 s hs).v⟩,fun s hs=>(h.2.2.1.1 s hs).n⟩
theorem Yx:O9 enc W 22 (fun l:List Ob=>AV.sl false (OZ l)) (fun l=>(∀ a ∈ l,obZ a) /\ l.length <= 1048576):=CR (sz:=6) DH underlying22 (by kernel_rfl) (by decide) (fun _=>rfl) aay
theorem abw:O9 enc W 70 NK UN :=
 ((Cs DH underlying70 (by kernel_rfl) (Av rfl (by kernel_rfl) rfl BD (fun _=>rfl) (Av rfl (by kernel_rfl) rfl BD (fun _=>rfl) (Av (sz:=3) rfl (by kernel_rfl) rfl KB (fun _=>rfl) (Av rfl (by kernel_rfl) rfl BD (fun _=>rfl) (Av rfl (by kernel_rfl) rfl BD (fun _=>rfl) (Av rfl (by kernel_rfl) rfl IL (fun _=>rfl) (Av rfl (by kernel_rfl) rfl Nb (fun _=>rfl) Db)))))))).map (f':=NK) (fun x=>(⟨x.1,x.2.1,x.2.2.1,x.2.2.2.1,x.2.2.2.2.1,x.2.2.2.2.2.1,x.2.2.2.2.2.2.1⟩:Ac)) (fun _=>rfl)).mono
  fun o ⟨x,h,e⟩=>e ▸ ⟨h.2.2.1,h.2.2.2.2.2.1.2,h.2.2.2.2.2.1.1⟩
theorem Wh:O9 enc W 23 (fun l:List Ac=>AV.sl false (Od l)) (fun l=>(∀ a ∈ l,UN a) /\ l.length <= 1048576):=CR (sz:=9) DH underlying23 (by kernel_rfl) (by decide) (fun _=>rfl) abw
theorem aav:O9 enc W 74 SS FO :=
 ((Cs DH underlying74 (by kernel_rfl) (Av rfl (by kernel_rfl) rfl FY (fun _=>rfl) (Av rfl (by kernel_rfl) rfl Nb (fun _=>rfl) (Av rfl (by kernel_rfl) rfl BD (fun _=>rfl) (Av rfl (by kernel_rfl) rfl BD (fun _=>rfl) (Av rfl (by kernel_rfl) rfl M5 (fun _=>rfl) (Av rfl (by kernel_rfl) rfl IL (fun _=>rfl) (Av rfl (by kernel_rfl) rfl IL (fun _=>rfl) (Av rfl (by kernel_rfl) rfl M5 (fun _=>rfl) (Av rfl (by kernel_rfl) rfl UQ (fun _=>rfl) Db)))))))))).map (f':=SS) (fun x=>(⟨x.1,x.2.1,x.2.2.1,x.2.2.2.1,x.2.2.2.2.1,x.2.2.2.2.2.1,x.2.2.2.2.2.2.1,x.2.2.2.2.2.2.2.1,x.2.2.2.2.2.2.2.2.1⟩:Cd)) (fun _=>rfl)).mono
  fun o ⟨x,h,e⟩=>e ▸ ⟨h.2.2.2.2.1.2,h.2.2.2.2.2.1.2,h.2.2.2.2.2.2.1.2,h.2.2.2.2.2.2.2.1.2,h.2.2.2.2.2.2.2.2.1.2,h.2.2.2.2.2.1.1,h.2.2.2.2.2.2.1.1,h.2.2.2.2.2.2.2.2.1.1,h.2.2.2.1,h.2.2.1⟩
theorem Wo:O9 enc W 24 (fun l:List Cd=>AV.sl false (LQ l)) (fun l=>(∀ a ∈ l,FO a) /\ l.length <= 1048576):=CR (sz:=9) DH underlying24 (by kernel_rfl) (by decide) (fun _=>rfl) aav
structure wdZ (w:Wd):Prop where
 ok:Cw w
 n:∀ o ∈ w.objs,∀ s ∈ o.slots,s.name.length <= 1048576
theorem S6:O9 enc W 26 C2 wdZ :=
 ((Cs DH underlying26 (by kernel_rfl) (Av rfl (by kernel_rfl) rfl Yx (fun _=>rfl) (Av rfl (by kernel_rfl) rfl Wh (fun _=>rfl) (Av rfl (by kernel_rfl) rfl Wo (fun _=>rfl) (Av rfl (by kernel_rfl) rfl BD (fun _=>rfl) (Av rfl (by kernel_rfl) rfl BD (fun _=>rfl) Db)))))).map (f':=C2) (fun x=>(⟨x.1,x.2.1,x.2.2.1,x.2.2.2.1,x.2.2.2.2.1⟩:Wd)) (fun _=>rfl)).mono
  fun o ⟨x,h,e⟩=>e ▸ ⟨⟨h.1.2,h.2.1.2,h.2.2.1.2,fun o ho=>(h.1.1 o ho).ok,h.2.1.1,h.2.2.1.1,h.2.2.2.1,h.2.2.2.2.1⟩,fun o ho=>(h.1.1 o ho).n⟩
end Go.Proofs.Tryz
