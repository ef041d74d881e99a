/- A part of the proof: see the last text. -/
import Derived.Test.YtgbaedjegdcloaaGreatDoorD7
set_option linter.unusedVariables false
set_option linter.unusedSimpArgs false
set_option linter.unusedSectionVars false
set_option linter.defProp false
set_option maxRecDepth 100000
set_option maxHeartbeats 4000000
namespace Go.Proofs.Tryz
open Go.PM
attribute [local irreducible] BM BP Bq Ci AU AO Az
open Classical in
noncomputable def ckB (w:Wd) (sel:List UInt8) (x:Int) (n:Nat) (f:GS):Bool:=decide (KindP w sel x n f)
theorem kind_none {w:Wd} {sel:List UInt8} {x0:Int} {n:Nat} {f:GS} (hk:f.kind = 0):KindP w sel x0 n f ↔ n = 0 /\ noneP f /\ XK f:=by
 unfold KindP;rw [hk];constructor
 ·rintro (⟨_,h⟩ | ⟨h,_⟩ | ⟨h,_⟩)
  ·exact h
  ·cases h
  ·cases h
 ·exact fun h=>.inl ⟨rfl,h⟩
theorem kind_one {w:Wd} {sel:List UInt8} {x0:Int} {n:Nat} {f:GS} (hk:f.kind = 1):KindP w sel x0 n f ↔ n = 1 /\ G1 w sel x0 f.path f.holder f.slot = some f.set /\ XK f:=by
 unfold KindP;rw [hk];constructor
 ·rintro (⟨h,_⟩ | ⟨_,h⟩ | ⟨h,_⟩)
  ·cases h
  ·exact h
  ·cases h
 ·exact fun h=>.inr (.inl ⟨rfl,h⟩)
theorem kind_two {w:Wd} {sel:List UInt8} {x0:Int} {n:Nat} {f:GS} (hk:f.kind = 2):KindP w sel x0 n f ↔ G1 w sel x0 f.path f.holder f.slot = some f.set /\ (∃ b,G1 w sel x0 f.path2 f.holder2 f.slot2 = some b) /\ f.holder ≠ f.holder2:=by
 unfold KindP;rw [hk];constructor
 ·rintro (⟨h,_⟩ | ⟨h,_⟩ | ⟨_,h⟩)
  ·cases h
  ·cases h
  ·exact h
 ·exact fun h=>.inr (.inr ⟨rfl,h⟩)
theorem pendK {H H' ext:List Ah} {c:Bool} (hu:Aw H) (h4:H.length = 4) (hc:c = false):∃ h'',BI h''.length (H ++ ext) h'' /\ 4 <= h''.length /\ AE.under h''.length (AE.panic FC) = true /\ ((c = true /\ False /\ h'' = H') \/ (c = false /\ AE.panic FC = AE.panic FC /\ h'' = H)) :=
 ⟨H,Cc ext hu,by omega,rfl,.inr ⟨hc,rfl,rfl⟩⟩
theorem rendK {H H' ext:List Ah} {c:Bool} (hu:Aw H) (h4:H.length = 4) (hc:c = true):∃ h'',BI h''.length (H ++ ext) h'' /\ 4 <= h''.length /\ AE.under h''.length (AE.ret (.tup [])) = true /\ ((c = true /\ h'' = H) \/ (c = false /\ False /\ h'' = H')) :=
 ⟨H,Cc ext hu,by omega,rfl,.inl ⟨hc,rfl⟩⟩
open Classical in
theorem ckB_iff {w:Wd} {sel:List UInt8} {x0:Int} {n:Nat} {f:GS}:ckB w sel x0 n f = true ↔ KindP w sel x0 n f:=by
 unfold ckB;exact decide_eq_true_iff
theorem ckB_none {w:Wd} {sel:List UInt8} {x0:Int} {n:Nat} {f:GS} (hk:f.kind = 0):ckB w sel x0 n f = (((n:Int) == 0) && ((f.holder == 0) && ((f.slot == 0) && ((!f.set) && (((f.path.length:Int) == 0) && ((f.holder2 == 0) && ((f.slot2 == 0) && ((f.path2.length:Int) == 0)))))))):=by
 rw [Bool.eq_iff_iff,ckB_iff,kind_none hk];unfold noneP XK;simp only [Bool.and_eq_true,beq_iff_eq,Bool.not_eq_true',Int.natCast_eq_zero,List.length_eq_zero_iff];constructor
 ·rintro ⟨h1,⟨h2,h3,h4,h5⟩,h6,h7,h8⟩
  exact ⟨h1,h2,h3,h4,h5,h6,h7,h8⟩
 ·rintro ⟨h1,h2,h3,h4,h5,h6,h7,h8⟩
  exact ⟨h1,⟨h2,h3,h4,h5⟩,h6,h7,h8⟩
section
attribute [local go_sem] C4 MB Ki BO ntmps48
theorem c48z (w:Wd) (sel:List UInt8) (l:List Int) (n:Nat) (x0:Int) (f:GS) (hk:f.kind = 0) :
  Bc prog 48 [.ptr 3 0] (C4 w sel l n x0 f) (ckB w sel x0 n f) (.tup []) (C4 w sel l n x0 f) FC (C4 w sel l n x0 f):=by
 refine Bc.mk ?_;refine Ag.less ?_;have k0:(f.kind == 0) = true:=by rw [hk]; rfl
 refine Ag.intro func48 (by decide) rfl (D5 k0 ?_);refine Aa.Ad (Z1 k0 ?_);refine Ao ?_;refine Aa.Ad (Z1 k0 ?_);refine Ao ?_;refine Aa.block ?_;refine Aa.Ad (Z1 k0 ?_);refine Aa.Ar rfl ?_;refine Aa.Ad (Z1 k0 ?_);refine Ao ?_;refine Ap (fun g1=>?_) (fun g1=>?_);have d1:=AB g1;refine Z2 k0 g1 ?_;refine Ao ?_;refine Ap (fun g2=>?_) (fun g2=>?_);have d2:=AB g2;refine Z3 k0 g1 g2 ?_;refine Ao ?_;refine Ap (fun g3=>?_) (fun g3=>?_);have d3:=AB g3;refine Z4 k0 g1 g2 g3 ?_;refine Ao ?_;refine Ap (fun g4=>?_) (fun g4=>?_);refine Z5 k0 g1 g2 g3 g4 ?_;refine Ao ?_;refine Bc.go (Zr _ _) (fun g5=>?_) (fun g5=>?_);have d5:=AB g5;refine Z6 k0 g1 g2 g3 g4 g5 ?_;refine Aa.region (Z6 k0 g1 g2 g3 g4 g5 ?_);refine Ao ?_;refine Ap (fun g6=>?_) (fun g6=>?_);have d6:=AB g6;refine Z7 k0 g1 g2 g3 g4 g5 g6 ?_;refine Ao ?_;refine Ap (fun g7=>?_) (fun g7=>?_);have d7:=AB g7;refine Z8 k0 g1 g2 g3 g4 g5 g6 g7 ?_;refine Ao ?_;refine Bc.go (Zr _ _) (fun g8=>?_) (fun g8=>?_);have d8:=AB g8;refine Z9 k0 g1 g2 g3 g4 g5 g6 g7 g8 ?_;rotate_left;have d8:=Aq g8;refine Z9 k0 g1 g2 g3 g4 g5 g6 g7 g8 ?_;rotate_left;have d7:=Aq g7;refine Z8 k0 g1 g2 g3 g4 g5 g6 g7 ?_;refine Bc.go (Zr _ _) (fun g9=>?_) (fun g9=>?_)
 cases g9
 clear g9;refine Z8 k0 g1 g2 g3 g4 g5 g6 g7 ?_;rotate_left;have d6:=Aq g6;refine Z7 k0 g1 g2 g3 g4 g5 g6 ?_;refine Bc.go (Zr _ _) (fun g10=>?_) (fun g10=>?_)
 cases g10
 clear g10;refine Z7 k0 g1 g2 g3 g4 g5 g6 ?_;rotate_left;have d5:=Aq g5;refine Z6 k0 g1 g2 g3 g4 g5 ?_;rotate_left;refine Z5 k0 g1 g2 g3 g4 ?_;refine Bc.go (Zr _ _) (fun g11=>?_) (fun g11=>?_)
 cases g11
 clear g11;refine Z5 k0 g1 g2 g3 g4 ?_;rotate_left;have d3:=Aq g3;refine Z4 k0 g1 g2 g3 ?_;refine Bc.go (Zr _ _) (fun g12=>?_) (fun g12=>?_)
 cases g12
 clear g12;refine Z4 k0 g1 g2 g3 ?_;rotate_left;have d2:=Aq g2;refine Z3 k0 g1 g2 ?_;refine Bc.go (Zr _ _) (fun g13=>?_) (fun g13=>?_)
 cases g13
 clear g13;refine Z3 k0 g1 g2 ?_;rotate_left;have d1:=Aq g1;refine Z2 k0 g1 ?_;refine Bc.go (Zr _ _) (fun g14=>?_) (fun g14=>?_)
 cases g14
 clear g14;refine Z2 k0 g1 ?_;rotate_left
 all_goals first
  | exact rendK (c:=ckB w sel x0 n f) (H:=C4 w sel l n x0 f) (ext:=[_]) (CY w sel l n x0 f) rfl ((ckB_none hk).trans (by rw [g1,g2,g3,g4,g5,g6,g7,g8]; rfl))
  | (refine pendK (c:=ckB w sel x0 n f) (H:=C4 w sel l n x0 f) (ext:=[_]) (CY w sel l n x0 f) rfl ((ckB_none hk).trans ?_); first
   | (rw [g1]; rfl)
   | (rw [g1,g2]; rfl)
   | (rw [g1,g2,g3]; rfl)
   | (rw [g1,g2,g3,g4]; rfl)
   | (rw [g1,g2,g3,g4,g5]; rfl)
   | (rw [g1,g2,g3,g4,g5,g6]; rfl)
   | (rw [g1,g2,g3,g4,g5,g6,g7]; rfl)
   | (rw [g1,g2,g3,g4,g5,g6,g7,g8]; rfl)
   | trace_state)
end
section
attribute [local go_sem] C4 MB Ki BO ntmps48
theorem c48o (w:Wd) (sel:List UInt8) (l:List Int) (n:Nat) (x0:Int) (f:GS) (hk:f.kind = 1) (hn:n ≠ 1) :
  Ag prog 48 [.ptr 3 0] (C4 w sel l n x0 f) (fun r h=>r = .panic FC /\ h = C4 w sel l n x0 f):=by
 refine Ag.trim (Nat.le_refl _) rfl (CY w sel l n x0 f) ?_;have k0:(f.kind == 0) = false:=by rw [hk]; rfl
 have k1:(f.kind == 1) = true:=by rw [hk]; rfl
 have k2:((n:Int) == 1) = false:=by rw [beq_eq_false_iff_ne]; omega
 refine Ag.intro func48 (by decide) rfl (Ze3 k0 k1 k2 ?_);refine Aa.Ad (Z3 k0 k1 k2 ?_);refine Ao ?_;refine Aa.Ad (Z3 k0 k1 k2 ?_);refine Ao ?_;refine Aa.block ?_;refine Aa.Ad (Z3 k0 k1 k2 ?_);refine Aa.Ax rfl ?_;refine Aa.Ad (Z3 k0 k1 k2 ?_);refine Aa.Ar rfl ?_;refine Aa.ZY [(0,.free),(1,.free),(2,.free),(3,.read),(4,.free),(5,.free),(6,.free),(7,.free),(9,.free),(11,.free),(14,.free),(8,.read),(10,.read),(12,.read),(15,.read),(13,.upd),(16,.free),(17,.free)] 18 mixed (by kernel_rfl) (Z3 k0 k1 k2 ?_);refine Ao ?_;refine Bc.go (Zr _ _) (fun g1=>?_) (fun g1=>?_)
 cases g1
 clear g1;refine Z3 k0 k1 k2 ?_;refine And.intro (by trivial) ?_;rotate_left;exact ⟨[_],rfl⟩
end
theorem c48m (w:Wd) (sel:List UInt8) (hw:Cw w) (hs:sel.length <= 1000000000) (l:List Int) (x0:Int) (f:GS) (hp:f.path.length <= 1000000000) (hk:f.kind = 1) (hq:G1 w sel x0 f.path f.holder f.slot = none) :
  Ag prog 48 [.ptr 3 0] (C4 w sel l 1 x0 f) (fun r h=>r = .panic FC /\ h = C4 w sel l 1 x0 f):=by
 refine Ag.trim (Nat.le_refl _) rfl (CY w sel l 1 x0 f) ?_;have h90:=fun B=>(Bc.pre (c90 w sel hw hs l 1 x0 f f.path f.holder f.slot hp) [B] (CY w sel l 1 x0 f) rfl rfl rfl).2 (by rw [hq]; rfl);have k0:(f.kind == 0) = false:=by rw [hk]; rfl
 have k1:(f.kind == 1) = true:=by rw [hk]; rfl
 refine Ag.intro func48 (by decide) rfl ?_;simp -implicitDefEqProofs (dsimp:=false) only [go_sem,simprocAttr,C4,MB,Ki,BO,k0,k1,Dm,ntmps48,List.range'_succ,List.range'_zero,List.zip_cons_cons,List.zip_nil_left];refine Aa.Ad ?_;simp -implicitDefEqProofs (dsimp:=false) only [go_sem,simprocAttr,C4,MB,Ki,BO,k0,k1];refine Ao ?_;refine Aa.Ad ?_;simp -implicitDefEqProofs (dsimp:=false) only [go_sem,simprocAttr,C4,MB,Ki,BO,k0,k1];refine Ao ?_;refine Aa.block ?_;refine Aa.Ad ?_;simp -implicitDefEqProofs (dsimp:=false) only [go_sem,simprocAttr,C4,MB,Ki,BO,k0,k1];refine Aa.Ax rfl ?_;refine Aa.Ad ?_;simp -implicitDefEqProofs (dsimp:=false) only [go_sem,simprocAttr,C4,MB,Ki,BO,k0,k1];refine Aa.Ar rfl ?_;refine Aa.seqStop [(0,.free),(1,.free),(2,.free),(3,.read),(4,.free),(5,.free),(6,.free),(7,.free),(9,.free),(11,.free),(14,.free),(8,.read),(10,.read),(12,.read),(15,.read)] 13 [(16,.free),(17,.free),(18,.free)] mixed (by kernel_rfl) (fun v h=>v = FC /\ h = C4 w sel l 1 x0 f ++ [.cells (HG f).cells]) ?_ ?_
 ·rintro v h t ⟨rfl,rfl⟩
  simp -implicitDefEqProofs (dsimp:=false) only [go_sem,simprocAttr,C4,MB,Ki,BO,k0,k1];exact ⟨[_],rfl⟩
 simp -implicitDefEqProofs (dsimp:=false) only [go_sem,simprocAttr,C4,MB,Ki,BO,k0,k1];refine And.intro (by omega) (And.intro (by omega) (And.intro (by omega) (And.intro (by omega) (And.intro (by omega) ?_))));exact ⟨rfl,(h90 _).mono fun r h hh=>⟨_,hh.1,rfl,hh.2⟩⟩
section
attribute [local go_sem] C4 MB Ki BO Option.getD_some ntmps48
theorem c48s (w:Wd) (sel:List UInt8) (hw:Cw w) (hs:sel.length <= 1000000000) (l:List Int) (x0:Int) (f:GS) (hp:f.path.length <= 1000000000) (b:Bool) (hk:f.kind = 1) (hq:G1 w sel x0 f.path f.holder f.slot = some b) (hb:(b == f.set) = false) :
  Ag prog 48 [.ptr 3 0] (C4 w sel l 1 x0 f) (fun r h=>r = .panic FC /\ h = C4 w sel l 1 x0 f):=by
 refine Ag.trim (Nat.le_refl _) rfl (CY w sel l 1 x0 f) ?_;have h90:=fun B=>(Bc.pre (c90 w sel hw hs l 1 x0 f f.path f.holder f.slot hp) [B] (CY w sel l 1 x0 f) rfl rfl rfl).1 (by rw [hq]; rfl);rw [hq] at h90;have k0:(f.kind == 0) = false:=by rw [hk]; rfl
 have k1:(f.kind == 1) = true:=by rw [hk]; rfl
 refine Ag.intro func48 (by decide) rfl (Ze3 k0 k1 hb ?_);refine Aa.Ad (Z3 k0 k1 hb ?_);refine Ao ?_;refine Aa.Ad (Z3 k0 k1 hb ?_);refine Ao ?_;refine Aa.block ?_;refine Aa.Ad (Z3 k0 k1 hb ?_);refine Aa.Ax rfl ?_;refine Aa.Ad (Z3 k0 k1 hb ?_);refine Aa.Ar rfl ?_;refine Aa.ZY [(0,.free),(1,.free),(2,.free),(3,.read),(4,.free),(5,.free),(6,.free),(7,.free),(9,.free),(11,.free),(14,.free),(8,.read),(10,.read),(12,.read),(15,.read),(13,.upd),(16,.free),(17,.free)] 18 mixed (by kernel_rfl) (Z3 k0 k1 hb ?_);refine Ao (Ao (Ao (Ao (Ao ?_))));refine ⟨⟨_,func90,by decide,rfl⟩,Or.inr ?_⟩;refine Ja.go (h90 _) (Z3 k0 k1 hb ?_);refine And.intro (by (repeat first | exact Ai.refl _ | exact Ai.nil _ | refine Ai.same ?_ | refine Ai.row ?_ | refine Ai.ON ?_ | refine Ai.F8 ?_ | refine Ai.F9 ?_)) ?_;refine Bc.go (Zr _ _) (fun g91=>?_) (fun g91=>?_)
 cases g91
 clear g91;refine Z3 k0 k1 hb ?_;refine And.intro (by trivial) ?_;rotate_left;exact ⟨[_],rfl⟩
end
section
attribute [local go_sem] C4 MB Ki BO Option.getD_some ntmps48
theorem c48t (w:Wd) (sel:List UInt8) (hw:Cw w) (hs:sel.length <= 1000000000) (l:List Int) (x0:Int) (f:GS) (hp:f.path.length <= 1000000000) (hk:f.kind = 1) (hq:G1 w sel x0 f.path f.holder f.slot = some f.set) (h2:¬ XK f) :
  Ag prog 48 [.ptr 3 0] (C4 w sel l 1 x0 f) (fun r h=>r = .panic FC /\ h = C4 w sel l 1 x0 f):=by
 refine Ag.trim (Nat.le_refl _) rfl (CY w sel l 1 x0 f) ?_;have h90:=fun B=>(Bc.pre (c90 w sel hw hs l 1 x0 f f.path f.holder f.slot hp) [B] (CY w sel l 1 x0 f) rfl rfl rfl).1 (by rw [hq]; rfl);rw [hq] at h90;have k0:(f.kind == 0) = false:=by rw [hk]; rfl
 have k1:(f.kind == 1) = true:=by rw [hk]; rfl
 refine Ag.intro func48 (by decide) rfl (VY k0 k1 ?_);refine Aa.Ad (Z2 k0 k1 ?_);refine Ao ?_;refine Aa.Ad (Z2 k0 k1 ?_);refine Ao ?_;refine Aa.block ?_;refine Aa.Ad (Z2 k0 k1 ?_);refine Aa.Ax rfl ?_;refine Aa.Ad (Z2 k0 k1 ?_);refine Aa.Ar rfl ?_;refine Aa.ZY [(0,.free),(1,.free),(2,.free),(3,.read),(4,.free),(5,.free),(6,.free),(7,.free),(9,.free),(11,.free),(14,.free),(8,.read),(10,.read),(12,.read),(15,.read),(13,.upd),(16,.free),(17,.free)] 18 mixed (by kernel_rfl) (Z2 k0 k1 ?_);refine Ao (Ao (Ao (Ao (Ao ?_))));refine ⟨⟨_,func90,by decide,rfl⟩,Or.inr ?_⟩;refine Ja.go (h90 _) (Z2 k0 k1 ?_);refine And.intro (by (repeat first | exact Ai.refl _ | exact Ai.nil _ | refine Ai.same ?_ | refine Ai.row ?_ | refine Ai.ON ?_ | refine Ai.F8 ?_ | refine Ai.F9 ?_)) ?_;refine Bc.go (Zr _ _) (fun g91=>?_) (fun g91=>?_);clear g91;refine Z2 k0 k1 ?_;refine Aa.region (Z2 k0 k1 ?_);refine Ao ?_;refine Ap (fun g92=>?_) (fun g92=>?_);have d92:=AB g92;refine Z3 k0 k1 g92 ?_;refine Ao ?_;refine Ap (fun g93=>?_) (fun g93=>?_);have d93:=AB g93;refine Z4 k0 k1 g92 g93 ?_;refine Ao ?_;refine Bc.go (Zr _ _) (fun g94=>?_) (fun g94=>?_);have d94:=AB g94;refine Z5 k0 k1 g92 g93 g94 ?_;constructor;rotate_left;rotate_left;have d94:=Aq g94;refine Z5 k0 k1 g92 g93 g94 ?_;refine And.intro (by trivial) ?_;rotate_left;have d93:=Aq g93;refine Z4 k0 k1 g92 g93 ?_;refine Bc.go (Zr _ _) (fun g95=>?_) (fun g95=>?_)
 cases g95
 clear g95;refine Z4 k0 k1 g92 g93 ?_;refine And.intro (by trivial) ?_;rotate_left;have d92:=Aq g92;refine Z3 k0 k1 g92 ?_;refine Bc.go (Zr _ _) (fun g96=>?_) (fun g96=>?_)
 cases g96
 clear g96;refine Z3 k0 k1 g92 ?_;refine And.intro (by trivial) ?_;rotate_left
 cases g91
 all_goals first
  | exact ⟨[_],rfl⟩
  | exact (h2 (show f.holder2 = 0 /\ f.slot2 = 0 /\ f.path2 = [] from ⟨eq_of_beq g92,eq_of_beq g93,by simpa using g94⟩)).elim
end
theorem c48m2 (w:Wd) (sel:List UInt8) (hw:Cw w) (hs:sel.length <= 1000000000) (l:List Int) (n:Nat) (x0:Int) (f:GS) (hp:f.path.length <= 1000000000) (hk:f.kind = 2) (hq:G1 w sel x0 f.path f.holder f.slot = none) :
  Ag prog 48 [.ptr 3 0] (C4 w sel l n x0 f) (fun r h=>r = .panic FC /\ h = C4 w sel l n x0 f):=by
 refine Ag.trim (Nat.le_refl _) rfl (CY w sel l n x0 f) ?_;have h90:=fun B=>(Bc.pre (c90 w sel hw hs l n x0 f f.path f.holder f.slot hp) [B] (CY w sel l n x0 f) rfl rfl rfl).2 (by rw [hq]; rfl);have k0:(f.kind == 0) = false:=by rw [hk]; rfl
 have k1:(f.kind == 1) = false:=by rw [hk]; rfl
 have k2:(f.kind == 2) = true:=by rw [hk]; rfl
 refine Ag.intro func48 (by decide) rfl ?_;simp -implicitDefEqProofs (dsimp:=false) only [go_sem,simprocAttr,C4,MB,Ki,BO,k0,k1,k2,Dm,ntmps48,List.range'_succ,List.range'_zero,List.zip_cons_cons,List.zip_nil_left];refine Aa.Ad ?_;simp -implicitDefEqProofs (dsimp:=false) only [go_sem,simprocAttr,C4,MB,Ki,BO,k0,k1,k2];refine Ao ?_;refine Aa.Ad ?_;simp -implicitDefEqProofs (dsimp:=false) only [go_sem,simprocAttr,C4,MB,Ki,BO,k0,k1,k2];refine Ao ?_;refine Aa.block ?_;refine Aa.Ad ?_;simp -implicitDefEqProofs (dsimp:=false) only [go_sem,simprocAttr,C4,MB,Ki,BO,k0,k1,k2];refine Aa.Ax rfl ?_;refine Aa.Ad ?_;simp -implicitDefEqProofs (dsimp:=false) only [go_sem,simprocAttr,C4,MB,Ki,BO,k0,k1,k2];refine Aa.Ax rfl ?_;refine Aa.Ad ?_;simp -implicitDefEqProofs (dsimp:=false) only [go_sem,simprocAttr,C4,MB,Ki,BO,k0,k1,k2];refine Aa.Ar rfl ?_;refine Aa.seqStop [(0,.free),(1,.free),(3,.free),(5,.free),(8,.free),(2,.read),(4,.read),(6,.read),(9,.read)] 7 [(10,.free),(11,.free)] mixed (by kernel_rfl) (fun v h=>v = FC /\ h = C4 w sel l n x0 f ++ [.cells (HG f).cells]) ?_ ?_
 ·rintro v h t ⟨rfl,rfl⟩
  simp -implicitDefEqProofs (dsimp:=false) only [go_sem,simprocAttr,C4,MB,Ki,BO,k0,k1,k2];exact ⟨[_],rfl⟩
 simp -implicitDefEqProofs (dsimp:=false) only [go_sem,simprocAttr,C4,MB,Ki,BO,k0,k1,k2];refine And.intro (by omega) (And.intro (by omega) (And.intro (by omega) (And.intro (by omega) ?_)));exact ⟨trivial,(h90 _).mono fun r h hh=>⟨_,hh.1,rfl,hh.2⟩⟩
section
attribute [local go_sem] C4 MB Ki BO Option.getD_some ntmps48
theorem c48s2 (w:Wd) (sel:List UInt8) (hw:Cw w) (hs:sel.length <= 1000000000) (l:List Int) (n:Nat) (x0:Int) (f:GS) (hp:f.path.length <= 1000000000) (b:Bool) (hk:f.kind = 2) (hq:G1 w sel x0 f.path f.holder f.slot = some b) (hb:(b == f.set) = false) :
  Ag prog 48 [.ptr 3 0] (C4 w sel l n x0 f) (fun r h=>r = .panic FC /\ h = C4 w sel l n x0 f):=by
 refine Ag.trim (Nat.le_refl _) rfl (CY w sel l n x0 f) ?_;have h90:=fun B=>(Bc.pre (c90 w sel hw hs l n x0 f f.path f.holder f.slot hp) [B] (CY w sel l n x0 f) rfl rfl rfl).1 (by rw [hq]; rfl);rw [hq] at h90;have k0:(f.kind == 0) = false:=by rw [hk]; rfl
 have k1:(f.kind == 1) = false:=by rw [hk]; rfl
 have k2:(f.kind == 2) = true:=by rw [hk]; rfl
 refine Ag.intro func48 (by decide) rfl (Zs k0 k1 k2 hb ?_);refine Aa.Ad (Z4 k0 k1 k2 hb ?_);refine Ao ?_;refine Aa.Ad (Z4 k0 k1 k2 hb ?_);refine Ao ?_;refine Aa.block ?_;refine Aa.Ad (Z4 k0 k1 k2 hb ?_);refine Aa.Ax rfl ?_;refine Aa.Ad (Z4 k0 k1 k2 hb ?_);refine Aa.Ax rfl ?_;refine Aa.Ad (Z4 k0 k1 k2 hb ?_);refine Aa.Ar rfl ?_;refine Aa.ZY [(0,.free),(1,.free),(3,.free),(5,.free),(8,.free),(2,.read),(4,.read),(6,.read),(9,.read),(7,.upd),(10,.free)] 11 mixed (by kernel_rfl) (Z4 k0 k1 k2 hb ?_);refine Ao (Ao (Ao (Ao ?_)));refine ⟨⟨_,func90,by decide,rfl⟩,Or.inr ?_⟩;refine Ja.go (h90 _) (Z4 k0 k1 k2 hb ?_);refine And.intro (by (repeat first | exact Ai.refl _ | exact Ai.nil _ | refine Ai.same ?_ | refine Ai.row ?_ | refine Ai.ON ?_ | refine Ai.F8 ?_ | refine Ai.F9 ?_)) ?_;refine Bc.go (Zr _ _) (fun g91=>?_) (fun g91=>?_)
 cases g91
 clear g91;refine Z4 k0 k1 k2 hb ?_;refine And.intro (by trivial) ?_;rotate_left;exact ⟨[_],rfl⟩
end
section
attribute [local go_sem] C4 MB Ki BO Option.getD_some ntmps48
theorem c48u (w:Wd) (sel:List UInt8) (hw:Cw w) (hs:sel.length <= 1000000000) (l:List Int) (n:Nat) (x0:Int) (f:GS) (hp:f.path.length <= 1000000000) (hp2:f.path2.length <= 1000000000) (hk:f.kind = 2) (hq:G1 w sel x0 f.path f.holder f.slot = some f.set) :
  Bc prog 48 [.ptr 3 0] (C4 w sel l n x0 f) ((G1 w sel x0 f.path2 f.holder2 f.slot2).isSome && (f.holder != f.holder2)) (.tup []) (C4 w sel l n x0 f) FC (C4 w sel l n x0 f):=by
 refine Bc.mk ?_;refine Ag.less ?_;have h90:=fun B=>(Bc.pre (c90 w sel hw hs l n x0 f f.path f.holder f.slot hp) [B] (CY w sel l n x0 f) rfl rfl rfl).1 (by rw [hq]; rfl);have h91:=fun B=>(Bc.pre (c90 w sel hw hs l n x0 f f.path2 f.holder2 f.slot2 hp2) [B] (CY w sel l n x0 f) rfl rfl rfl)
 rw [hq] at h90;have k0:(f.kind == 0) = false:=by rw [hk]; rfl
 have k1:(f.kind == 1) = false:=by rw [hk]; rfl
 have k2:(f.kind == 2) = true:=by rw [hk]; rfl
 refine Ag.intro func48 (by decide) rfl (Ze3 k0 k1 k2 ?_);refine Aa.Ad (Z3 k0 k1 k2 ?_);refine Ao ?_;refine Aa.Ad (Z3 k0 k1 k2 ?_);refine Ao ?_;refine Aa.block ?_;refine Aa.Ad (Z3 k0 k1 k2 ?_);refine Aa.Ax rfl ?_;refine Aa.Ad (Z3 k0 k1 k2 ?_);refine Aa.Ax rfl ?_;refine Aa.Ad (Z3 k0 k1 k2 ?_);refine Aa.Ar rfl ?_;refine Aa.ZY [(0,.free),(1,.free),(3,.free),(5,.free),(8,.free),(2,.read),(4,.read),(6,.read),(9,.read),(7,.upd),(10,.free)] 11 mixed (by kernel_rfl) (Z3 k0 k1 k2 ?_);refine Ao (Ao (Ao (Ao ?_)));refine ⟨⟨_,func90,by decide,rfl⟩,Or.inr ?_⟩;refine Ja.go (h90 _) (Z3 k0 k1 k2 ?_);refine And.intro (by (repeat first | exact Ai.refl _ | exact Ai.nil _ | refine Ai.same ?_ | refine Ai.row ?_ | refine Ai.ON ?_ | refine Ai.F8 ?_ | refine Ai.F9 ?_)) ?_;refine Bc.go (Zr _ _) (fun g92=>?_) (fun g92=>?_);clear g92;refine Z3 k0 k1 k2 ?_;have h90:=h91;refine Aa.Ad (Z3 k0 k1 k2 ?_);refine Ao (Ao (Ao ?_));refine Bc.go (h90 _) (fun g93=>?_) (fun g93=>?_);refine Z4 k0 k1 k2 g93 ?_;refine Aa.region (Z4 k0 k1 k2 g93 ?_);refine Ao (Ao ?_);refine Bc.go (Zr _ _) (fun g94=>?_) (fun g94=>?_);have d94:=BT g94;refine Z5 k0 k1 k2 g93 g94 ?_;rotate_left;have d94:=Bt g94;refine Z5 k0 k1 k2 g93 g94 ?_;rotate_left;refine Z4 k0 k1 k2 g93 ?_;rotate_left
 cases g92
 ·exact ⟨C4 w sel l n x0 f,Cc [_] (CY w sel l n x0 f),Nat.le_refl 4,rfl,.inl rfl⟩
 ·refine ⟨C4 w sel l n x0 f,Cc [_] (CY w sel l n x0 f),Nat.le_refl 4,rfl,?_⟩
  first | exact .inr ⟨rfl,rfl⟩ | exact .inr rfl
 ·refine ⟨C4 w sel l n x0 f,Cc [_] (CY w sel l n x0 f),Nat.le_refl 4,rfl,?_⟩
  first | exact .inr ⟨rfl,rfl⟩ | exact .inr rfl
end
section
attribute [local go_sem] C4 MB Ki BO ntmps48
theorem c48w (w:Wd) (sel:List UInt8) (l:List Int) (n:Nat) (x0:Int) (f:GS) (h0:f.kind ≠ 0) (h1:f.kind ≠ 1) (h2:f.kind ≠ 2) :
  Ag prog 48 [.ptr 3 0] (C4 w sel l n x0 f) (fun r h=>r = .panic FC /\ h = C4 w sel l n x0 f):=by
 refine Ag.trim (Nat.le_refl _) rfl (CY w sel l n x0 f) ?_;have k0:(f.kind == 0) = false:=beq_eq_false_iff_ne.2 h0;have k1:(f.kind == 1) = false:=beq_eq_false_iff_ne.2 h1;have k2:(f.kind == 2) = false:=beq_eq_false_iff_ne.2 h2;refine Ag.intro func48 (by decide) rfl (Ze3 k0 k1 k2 ?_);refine Aa.Ad (Z3 k0 k1 k2 ?_);refine Ao ?_;refine Aa.Ad (Z3 k0 k1 k2 ?_);refine Ao ?_;refine Aa.block ?_;refine Aa.Ad (Z3 k0 k1 k2 ?_);refine Aa.Ax rfl ?_;refine Aa.Ad (Z3 k0 k1 k2 ?_);refine Aa.Ax rfl ?_;refine Aa.Ad (Z3 k0 k1 k2 ?_);refine Aa.Ax rfl ?_;refine Aa.region (Z3 k0 k1 k2 ?_);refine Bc.go (Zr _ _) (fun g3=>?_) (fun g3=>?_)
 cases g3
 clear g3;refine Z3 k0 k1 k2 ?_;refine And.intro (by trivial) ?_;rotate_left;exact ⟨[_],rfl⟩
end
end Go.Proofs.Tryz

namespace Go.Proofs.Tryz
open Go.PM
end Go.Proofs.Tryz

namespace Go.Proofs.Tryz
open Go.PM
attribute [local irreducible] BM BP Bq Ci AU AO Az
end Go.Proofs.Tryz

namespace Go.Proofs.Tryz
open Go.PM
attribute [local irreducible] BM BP Bq Ci AU AO Az
theorem ckB_true {w:Wd} {sel:List UInt8} {x0:Int} {n:Nat} {f:GS} (h:ckB w sel x0 n f = true):KindP w sel x0 n f:=ckB_iff.1 h
theorem ckB_false {w:Wd} {sel:List UInt8} {x0:Int} {n:Nat} {f:GS} (h:ckB w sel x0 n f = false):¬ KindP w sel x0 n f:=fun hk=>by
 rw [ckB_iff.2 hk] at h;cases h
theorem c48 (w:Wd) (sel:List UInt8) (hw:Cw w) (hs:sel.length <= 1000000000) (l:List Int) (n:Nat) (x0:Int) (f:GS) (hp:f.path.length <= 1000000000) (hp2:f.path2.length <= 1000000000) :
  Bc prog 48 [.ptr 3 0] (C4 w sel l n x0 f) (ckB w sel x0 n f) (.tup []) (C4 w sel l n x0 f) FC (C4 w sel l n x0 f):=by
 by_cases k0:f.kind = 0
 ·exact c48z w sel l n x0 f k0
 by_cases k1:f.kind = 1
 ·by_cases hn:n = 1
  ·subst hn
   cases hq:G1 w sel x0 f.path f.holder f.slot with
   | none=>exact ⟨fun h=>(by have:=((kind_one k1).1 (ckB_true h)).2.1; rw [hq] at this; cases this),fun _=>c48m w sel hw hs l x0 f hp k1 hq⟩
   | some b =>
    by_cases hb:b = f.set
    ·subst hb
     by_cases h2:XK f
     ·exact ⟨fun _=>ahy w sel hw hs l x0 f hp k1 hq h2,fun h=>absurd ((kind_one k1).2 ⟨rfl,hq,h2⟩) (ckB_false h)⟩
     ·exact ⟨fun h=>absurd ((kind_one k1).1 (ckB_true h)).2.2 h2,fun _=>c48t w sel hw hs l x0 f hp k1 hq h2⟩
    ·exact ⟨fun h=>(by have:=((kind_one k1).1 (ckB_true h)).2.1; rw [hq] at this; exact absurd (Option.some.inj this) hb),fun _=>c48s w sel hw hs l x0 f hp b k1 hq (by simpa using hb)⟩
  ·exact ⟨fun h=>absurd ((kind_one k1).1 (ckB_true h)).1 hn,fun _=>c48o w sel l n x0 f k1 hn⟩
 by_cases k2:f.kind = 2
 ·cases hq:G1 w sel x0 f.path f.holder f.slot with
  | none=>exact ⟨fun h=>(by have:=((kind_two k2).1 (ckB_true h)).1; rw [hq] at this; cases this),fun _=>c48m2 w sel hw hs l n x0 f hp k2 hq⟩
  | some b =>
   by_cases hb:b = f.set
   ·subst hb
    have h:=c48u w sel hw hs l n x0 f hp hp2 k2 hq;refine ⟨fun h1=>h.1 ?_,fun h1=>h.2 ?_⟩
    ·obtain ⟨_,⟨b,hb⟩,h3⟩:=(kind_two k2).1 (ckB_true h1)
     rw [hb]
     simpa using h3
    ·have h2:=ckB_false h1
     rw [kind_two k2] at h2
     cases hq2:G1 w sel x0 f.path2 f.holder2 f.slot2 with
     | none=>rfl
     | some b =>
      by_cases h3:f.holder = f.holder2
      ·simp [h3]
      ·exact absurd ⟨hq,⟨b,hq2⟩,h3⟩ h2
   ·exact ⟨fun h=>(by have:=((kind_two k2).1 (ckB_true h)).1; rw [hq] at this; exact absurd (Option.some.inj this) hb),fun _=>c48s2 w sel hw hs l n x0 f hp b k2 hq (by simpa using hb)⟩
 ·refine ⟨fun h=>?_,fun _=>c48w w sel l n x0 f k0 k1 k2⟩
  rcases ckB_true h with h | h | h
  ·exact absurd h.1 k0
  ·exact absurd h.1 k1
  ·exact absurd h.1 k2
section
attribute [local go_sem] C2 JV Cy HG Dn GI Ki F1 underlying20 FC ntmps18 ntmps46
theorem c18a (w:Wd) (v:Vl) (sel:List UInt8) (l:List Int) (f:GS) (hw:Cw w) (hvl:Cm v) (hs:sel.length <= 1000000000) (hl:l.length <= 1000000000) (hp:f.path.length <= 1000000000) (hp2:f.path2.length <= 1000000000) (he:Bg w v sel = 0) (hc:DC w sel (Ay w v).1 l) (hk:ckB w sel (Ay w v).1 (Oc w sel l) f = true) :
  Af prog 18 [C2 w,Cy v,.val (.string (Ak sel)),.sl false (is l),HG f] (· = .val (.int .i64 0)):=by
 have h0:=Ag.mono (R':=fun r h=>r = .ret (.tup []) /\ h = C4 w sel (AF l) (Oc w sel l) (Ay w v).1 f) (c47 w sel hw hs l (Ay w v).1 f hl) (fun r h hh=>by
  rcases hh with ⟨_,h3,h4⟩ | ⟨h3,_⟩
  ·exact ⟨h3,h4⟩
  ·exact absurd hc h3)
 have h47:=fun b0 b1 b2 b3 (hu:Aw [b0,b1,b2,b3,.dead,.dead])=>acd (k:=6) (pre:=[b0,b1,b2,b3,.dead,.dead]) rfl hu rfl h0 [];have h48:=fun b0 b1 b2 b3 (hu:Aw [b0,b1,b2,b3,.dead,.dead])=>acd (k:=6) (pre:=[b0,b1,b2,b3,.dead,.dead]) rfl hu rfl ((c48 w sel hw hs (AF l) (Oc w sel l) (Ay w v).1 f hp hp2).1 hk) [];have h43:=abD w v sel hw hvl he;generalize (Ay w v).1 = x0 at *;generalize AF l = D at *;generalize Oc w sel l = N at *;clear h0 hc hk he;refine Ag.intro func18 (by decide) rfl (Bj ?_);refine Aa.Ad (Z0 ?_);refine Aa.Ad (Z0 ?_);refine Ag.eq (Ag.EZ (h43) rfl) (Z0 ?_);refine Aa.seq ?_;refine Aa.Ad (Z0 ?_);refine Aa.Ax rfl ?_;refine Aa.skip (Z0 ?_);refine Aa.Qa (Z0 ?_);refine Aa.Ad (Z0 ?_);refine Aa.Ad (Z0 ?_);refine Ag.eq (h47 _ _ _ _ ?_) ?_;exact BJ rfl;refine Z0 ?_;refine Aa.Ad (Z0 ?_);refine Ag.eq (h48 _ _ _ _ ?_) ?_;exact BJ rfl;refine Z0 ?_;refine Aa.Ad (Z0 ?_);refine Aa.ret (Z0 ?_);refine Kt.recover func46 (by decide) rfl rfl (Bj ?_);refine Aa.block ?_;refine Aa.Ad (Z0 ?_);refine Aa.Ar rfl ?_;refine Aa.region (Z0 ?_);exact Ae rfl (Z0 trivial)
end
section
attribute [local go_sem] C2 JV Cy HG Dn GI Ki F1 underlying20 FC ntmps18 ntmps46
theorem c18b (w:Wd) (v:Vl) (sel:List UInt8) (l:List Int) (f:GS) (hw:Cw w) (hvl:Cm v) (hs:sel.length <= 1000000000) (hl:l.length <= 1000000000) (hp:f.path.length <= 1000000000) (hp2:f.path2.length <= 1000000000) (he:Bg w v sel = 0) (hc:DC w sel (Ay w v).1 l) (hk:ckB w sel (Ay w v).1 (Oc w sel l) f = false) :
  Af prog 18 [C2 w,Cy v,.val (.string (Ak sel)),.sl false (is l),HG f] (· = .val (.int .i64 60)):=by
 have h0:=Ag.mono (R':=fun r h=>r = .ret (.tup []) /\ h = C4 w sel (AF l) (Oc w sel l) (Ay w v).1 f) (c47 w sel hw hs l (Ay w v).1 f hl) (fun r h hh=>by
  rcases hh with ⟨_,h3,h4⟩ | ⟨h3,_⟩
  ·exact ⟨h3,h4⟩
  ·exact absurd hc h3)
 have h1:=Ag.mono (R':=fun r h=>r = .panic FC /\ ∃ D m,h = C4 w sel D m (Ay w v).1 f) ((c48 w sel hw hs (AF l) (Oc w sel l) (Ay w v).1 f hp hp2).2 hk) (fun r h hh=>⟨hh.1,_,_,hh.2⟩);have h47:=fun b0 b1 b2 b3 (hu:Aw [b0,b1,b2,b3,.dead,.dead])=>acd (k:=6) (pre:=[b0,b1,b2,b3,.dead,.dead]) rfl hu rfl h0 [];have h48n:=fun b0 b1 b2 b3 (hu:Aw [b0,b1,b2,b3,.dead,.dead])=>aeQ (k:=6) (pre:=[b0,b1,b2,b3,.dead,.dead]) rfl hu rfl h1 [];have h43:=abD w v sel hw hvl he;generalize (Ay w v).1 = x0 at *;generalize AF l = D at *;generalize Oc w sel l = N at *;clear h0 h1 hc hk he;refine Ag.intro func18 (by decide) rfl (Bj ?_);refine Aa.Ad (Z0 ?_);refine Aa.Ad (Z0 ?_);refine Ag.eq (Ag.EZ (h43) rfl) (Z0 ?_);refine Aa.seq ?_;refine Aa.Ad (Z0 ?_);refine Aa.Ax rfl ?_;refine Aa.skip (Z0 ?_);refine Aa.Qa (Z0 ?_);refine Aa.Ad (Z0 ?_);refine Aa.Ad (Z0 ?_);refine Ag.eq (h47 _ _ _ _ ?_) ?_;exact BJ rfl;refine Z0 ?_;refine Aa.Ad (Z0 ?_);refine (h48n _ _ _ _ ?_).mono ?_;exact BJ rfl;rintro r50 h50 ⟨rfl,D,m,rfl⟩;refine Z0 ?_;refine Kt.recover func46 (by decide) rfl rfl (Bj ?_);refine Aa.block ?_;refine Aa.Ad (Z0 ?_);refine Aa.Ax rfl ?_;refine Aa.Qa (Z0 ?_);refine Aa.Ar rfl ?_;refine Aa.Ad (Z0 ?_);refine Aa.region (Z0 ?_);exact Ae rfl (Z0 trivial)
end
section
attribute [local go_sem] C2 JV Cy HG ntmps18
theorem c18e (w:Wd) (v:Vl) (sel:List UInt8) (l:List Int) (f:GS) (hw:Cw w) (hvl:Cm v) (he:Bg w v sel ≠ 0) :
  Af prog 18 [C2 w,Cy v,.val (.string (Ak sel)),.sl false (is l),HG f] (· = .val (.int .i64 (Bg w v sel))):=by
 have hb:(Bg w v sel != 0) = true:=by simpa using he
 have h43:=af2 w v sel hw hvl he;generalize Bg w v sel = e at *;refine Ag.intro func18 (by decide) rfl (D5 hb ?_);refine Aa.Ad (Z1 hb ?_);refine Aa.Ad (Z1 hb ?_);refine Af.eq (h43) rfl (Z1 hb ?_);refine Aa.seq ?_;refine Aa.Ad (Z1 hb ?_);refine Aa.Ar rfl ?_;refine Aa.Ad (Z1 hb ?_);refine Aa.ret (Z1 hb ?_);exact Ae rfl (Z1 hb trivial)
end
open Classical in
noncomputable def chkV (w:Wd) (v:Vl) (sel:List UInt8) (l:List Int) (f:GS):Int:=if Bg w v sel = 0 then (if CheckP w sel (Ay w v).1 l f then 0 else 60) else Bg w v sel
theorem c18 (w:Wd) (v:Vl) (sel:List UInt8) (l:List Int) (f:GS) (hw:Cw w) (hvl:Cm v) (hs:sel.length <= 1000000000) (hl:l.length <= 1000000000) (hp:f.path.length <= 1000000000) (hp2:f.path2.length <= 1000000000) :
  Af prog 18 [C2 w,Cy v,.val (.string (Ak sel)),.sl false (is l),HG f] (· = .val (.int .i64 (chkV w v sel l f))):=by
 unfold chkV
 by_cases he:Bg w v sel = 0
 ·rw [if_pos he]
  by_cases hc:DC w sel (Ay w v).1 l
  ·cases hk:ckB w sel (Ay w v).1 (Oc w sel l) f with
   | true =>
    rw [if_pos ⟨hc,ckB_true hk⟩];exact c18a w v sel l f hw hvl hs hl hp hp2 he hc hk
   | false =>
    rw [if_neg fun h=>ckB_false hk h.2];exact c18b w v sel l f hw hvl hs hl hp hp2 he hc hk
  ·rw [if_neg fun h=>hc h.1]
   exact ahO w v sel l f hw hvl hs hl he hc
 ·rw [if_neg he]
  exact c18e w v sel l f hw hvl he
section
attribute [local go_sem] C2 JV Cy HG BO ntmps3
theorem c3n (w:Wd) (v:Vl) (sel:List UInt8) (l:List Int) (f:GS) (hw:Cw w) (hvl:Cm v) (hs:sel.length <= 1048576) (hl:l.length <= 1048576) (hp:f.path.length <= 1048576) (hp2:f.path2.length <= 1048576) (he:Bg w v sel ≠ 0) :
  Af prog 3 [C2 w,Cy v,.val (.string (Ak sel)),.sl false (is l),HG f] (· = .val (.bool true)):=by
 have h16:=c16 w v sel hw hvl (by omega);have h17:=c17 w v sel hw hvl (by omega);have h18:=c18e w v sel l f hw hvl he;rw [show DY w v sel = (default,Bg w v sel) from if_neg he] at h16;rw [show VE w v sel = ([],Bg w v sel) from if_neg he] at h17;have hb:(Bg w v sel != 0) = true:=by simpa using he
 generalize Bg w v sel = e at *;refine Ag.intro func3 (by decide) rfl (D5 hb ?_);refine Aa.Ad (Z1 hb ?_);refine Aa.Ad (Z1 hb ?_);refine Af.eq (c14) rfl (Z1 hb ?_);refine Aa.seq ?_;refine Aa.Ad (Z1 hb ?_);refine Af.eq (c15 w hw) rfl (Z1 hb ?_);refine Ap (fun g21=>?_) (fun g21=>?_);refine Z2 hb g21 ?_;refine Aa.Ar rfl ?_;refine Aa.Ad (Z2 hb g21 ?_);refine Aa.ret (Z2 hb g21 ?_);exact Ae rfl (Z2 hb g21 trivial);refine Z2 hb g21 ?_;refine Ap (fun g22=>?_) (fun g22=>?_);have d22:=An g22;refine Z3 hb g21 g22 ?_;refine Aa.Ar rfl ?_;refine Aa.Ad (Z3 hb g21 g22 ?_);refine Aa.ret (Z3 hb g21 g22 ?_);exact Ae rfl (Z3 hb g21 g22 trivial);have d22:=Aj g22;refine Z3 hb g21 g22 ?_;refine Ao ?_;refine Ap (fun g23=>?_) (fun g23=>?_);have d23:=An g23;refine Z4 hb g21 g22 g23 ?_;refine Aa.Ar rfl ?_;refine Aa.Ad (Z4 hb g21 g22 g23 ?_);refine Aa.ret (Z4 hb g21 g22 g23 ?_);exact Ae rfl (Z4 hb g21 g22 g23 trivial);have d23:=Aj g23;refine Z4 hb g21 g22 g23 ?_;refine Ao ?_;refine Aa.cond rfl (fun g24=>?_) (fun g24=>?_);have d24:=An g24;refine Aa.Ad (Z5 hb g21 g22 g23 g24 ?_);refine Aa.ret (Z5 hb g21 g22 g23 g24 ?_);exact Ae rfl (Z5 hb g21 g22 g23 g24 trivial);have d24:=Aj g24;refine Aa.skip (Z5 hb g21 g22 g23 g24 ?_);refine Aa.Ad (Z5 hb g21 g22 g23 g24 ?_);refine Af.eq (h16) rfl (Z5 hb g21 g22 g23 g24 ?_);refine Aa.Ad (Z5 hb g21 g22 g23 g24 ?_);refine Af.eq (h17) rfl (Z5 hb g21 g22 g23 g24 ?_);refine Aa.seq ?_;refine Aa.Ad (Z5 hb g21 g22 g23 g24 ?_);refine Aa.Ar rfl ?_;refine Aa.Ad (Z5 hb g21 g22 g23 g24 ?_)
 refine Af.eq (h18) rfl (Z5 hb g21 g22 g23 g24 ?_);refine Aa.ret (Z5 hb g21 g22 g23 g24 ?_);exact Ae rfl (Z5 hb g21 g22 g23 g24 trivial)
end
section
attribute [local go_sem] C2 JV Cy HG BO ntmps3
theorem c3y (w:Wd) (v:Vl) (sel:List UInt8) (l:List Int) (f:GS) (hw:Cw w) (hvl:Cm v) (hs:sel.length <= 1048576) (hl:l.length <= 1048576) (hp:f.path.length <= 1048576) (hp2:f.path2.length <= 1048576) (he:Bg w v sel = 0) :
  Af prog 3 [C2 w,Cy v,.val (.string (Ak sel)),.sl false (is l),HG f] (· = .val (.bool true)):=by
 obtain ⟨hvw,hst,har⟩:=Fk he;have hv:=Ck.1 hvw;have hx:=NL hv hst;have hlo:=hw.lo;have hfl:=MR hw hv (sel:=sel) hx;have hsl:=(YN hv hx (sel:=sel)).1;have h16:=c16 w v sel hw hvl (by omega);have h17:=c17 w v sel hw hvl (by omega);have h18:=c18 w v sel l f hw hvl (by omega) (by omega) (by omega) (by omega);have h18s:=c18 w v sel (seen w sel (Ay w v).1).1 (Bo (seen w sel (Ay w v).1).2) hw hvl (by omega) (by omega) hfl.1 hfl.2;have e1:chkV w v sel (seen w sel (Ay w v).1).1 (Bo (seen w sel (Ay w v).1).2) = 0:=by
  unfold chkV;rw [if_pos he,if_pos (check_self hv hx)]
 rw [e1] at h18s;have hal:chkV w v sel l f = 0 -> ED (Bo (seen w sel (Ay w v).1).2) f = true:=fun h=>by
  unfold chkV at h;rw [if_pos he] at h
  by_cases hc:CheckP w sel (Ay w v).1 l f
  ·exact check_alike hc
  ·rw [if_neg hc] at h
   exact absurd h (by decide)
 rw [show DY w v sel = (Bo (seen w sel (Ay w v).1).2,0) from if_pos he] at h16;rw [show VE w v sel = ((seen w sel (Ay w v).1).1,0) from if_pos he] at h17;have h19:=c19 (Bo (seen w sel (Ay w v).1).2) f;generalize chkV w v sel l f = e at *;generalize Bo (seen w sel (Ay w v).1).2 = F at *;generalize (seen w sel (Ay w v).1).1 = S at *;generalize ED F f = A at *;clear e1 hx hst har he;refine Ag.intro func3 (by decide) rfl (Bj ?_);refine Aa.Ad (Z0 ?_);refine Aa.Ad (Z0 ?_);refine Af.eq (c14) rfl (Z0 ?_);refine Aa.seq ?_;refine Aa.Ad (Z0 ?_);refine Af.eq (c15 w hw) rfl (Z0 ?_);refine Ap (fun g22=>?_) (fun g22=>?_);refine Z1 g22 ?_;refine Aa.Ar rfl ?_;refine Aa.Ad (Z1 g22 ?_);refine Aa.ret (Z1 g22 ?_);exact Ae rfl (Z1 g22 trivial);refine Z1 g22 ?_;refine Ap (fun g23=>?_) (fun g23=>?_);have d23:=An g23;refine Z2 g22 g23 ?_;refine Aa.Ar rfl ?_;refine Aa.Ad (Z2 g22 g23 ?_);refine Aa.ret (Z2 g22 g23 ?_);exact Ae rfl (Z2 g22 g23 trivial);have d23:=Aj g23;refine Z2 g22 g23 ?_;refine Ao ?_;refine Ap (fun g24=>?_) (fun g24=>?_);have d24:=An g24;refine Z3 g22 g23 g24 ?_;refine Aa.Ar rfl ?_;refine Aa.Ad (Z3 g22 g23 g24 ?_);refine Aa.ret (Z3 g22 g23 g24 ?_);exact Ae rfl (Z3 g22 g23 g24 trivial);have d24:=Aj g24;refine Z3 g22 g23 g24 ?_;refine Ao ?_;refine Aa.cond rfl (fun g25=>?_) (fun g25=>?_);have d25:=An g25;refine Aa.Ad (Z4 g22 g23 g24 g25 ?_);refine Aa.ret (Z4 g22 g23 g24 g25 ?_);exact Ae rfl (Z4 g22 g23 g24 g25 trivial);have d25:=Aj g25;refine Aa.skip (Z4 g22 g23 g24 g25 ?_)
 refine Aa.Ad (Z4 g22 g23 g24 g25 ?_);refine Af.eq (h16) rfl (Z4 g22 g23 g24 g25 ?_);refine Aa.Ad (Z4 g22 g23 g24 g25 ?_);refine Af.eq (h17) rfl (Z4 g22 g23 g24 g25 ?_);refine Aa.seq ?_;refine Aa.Ad (Z4 g22 g23 g24 g25 ?_);refine Aa.Ax rfl ?_;refine Aa.skip (Z4 g22 g23 g24 g25 ?_);refine Aa.Ad (Z4 g22 g23 g24 g25 ?_);refine Af.eq (h18s) rfl (Z4 g22 g23 g24 g25 ?_);refine Af.eq (h18) rfl (Z4 g22 g23 g24 g25 ?_);refine Ap (fun g30=>?_) (fun g30=>?_);have d30:=BT g30;refine Z5 g22 g23 g24 g25 g30 ?_;refine Aa.ret (Z5 g22 g23 g24 g25 g30 ?_);exact Ae rfl (Z5 g22 g23 g24 g25 g30 trivial);have d30:=Bt g30;refine Z5 g22 g23 g24 g25 g30 ?_;refine Af.eq (h19) rfl (Z5 g22 g23 g24 g25 g30 ?_);refine Aa.ret (Z5 g22 g23 g24 g25 g30 ?_);refine Ae rfl ?_;rotate_left
 ·have h:e = 0:=by
   first
    | exact bne_eq_false_iff_eq.1 (by assumption)
    | exact eq_of_beq (by assumption)
    | assumption
  rw [hal h]
end
theorem c3 (w:Wd) (v:Vl) (sel:List UInt8) (l:List Int) (f:GS) (hw:Cw w) (hvl:Cm v) (hs:sel.length <= 1048576) (hl:l.length <= 1048576) (hp:f.path.length <= 1048576) (hp2:f.path2.length <= 1048576) :
  Af prog 3 [C2 w,Cy v,.val (.string (Ak sel)),.sl false (is l),HG f] (· = .val (.bool true)):=by
 by_cases he:Bg w v sel = 0
 ·exact c3y w v sel l f hw hvl hs hl hp hp2 he
 ·exact c3n w v sel l f hw hvl hs hl hp hp2 he
end Go.Proofs.Tryz
