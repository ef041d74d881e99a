/- A part of the proof: see the last text. -/
import Derived.Test.YtgbaedjegdcloaaGreatDoorD2
import Derived.DeepKeys3
set_option linter.unusedVariables false
set_option linter.unusedSimpArgs false
set_option linter.unusedSectionVars false
set_option linter.defProp false
set_option maxRecDepth 100000
set_option maxHeartbeats 4000000
namespace Go.Proofs.Tryz
open Go.PM
attribute [local irreducible] BM BP Bq Ci AU AO Az
theorem Zo (w:Wd) (h:List Ah) (K:AV -> List Ah -> Prop):Ef h (DI w) K = K (DI w) h:=Js h _ K
theorem Ys (w:Wd) (h:List Ah) (K:AV -> List Ah -> Prop):E0 h (DI w) K = K (DI w) h:=NG h _ K
theorem Uu (w:Wd):(DI w).cells = [DI w]:=rfl
attribute [go_sem ↓] Zo Ys
attribute [go_sem] Uu
noncomputable def GQ (w:Wd) (v:Vl):Bool:=CA v && (!(v.k == 4) || (Bi w v.n).isSome)
section
attribute [local go_sem] Cy F1 underlying153 ntmps127
theorem c127 (w:Wd) (v:Vl) (hv:Cm v):Af prog 127 [DI w,Cy v] (· = .val (.bool (GQ w v))):=by
 have h0:=c97 w v.n;have h1:=c105 v hv;unfold Vh at h0;unfold GQ
 cases hb:CA v <;> simp only [hb,Bool.false_eq_true,if_true,if_false] at h1
 ·refine Ag.intro func127 (by decide) rfl (Bj ?_)
  refine Aa.Ad (Z0 ?_);refine Aa.seq ?_;refine Aa.Ad (Z0 ?_);refine Af.eq (h1) rfl (Z0 ?_);refine Aa.Ar rfl ?_;refine Aa.Ad (Z0 ?_);refine Aa.ret (Z0 ?_);exact Ae rfl (Z0 trivial)
 ·cases ho:Bi w v.n <;> simp only [ho] at h0
  ·refine Ag.intro func127 (by decide) rfl (Bj ?_)
   refine Aa.Ad (Z0 ?_);refine Aa.seq ?_;refine Aa.Ad (Z0 ?_);refine Af.eq (h1) rfl (Z0 ?_);refine Aa.Ax rfl ?_;refine Aa.skip (Z0 ?_);refine Aa.Ad (Z0 ?_);refine Ao ?_;refine Ap (fun g3=>?_) (fun g3=>?_);have d3:=BT g3;refine Z1 g3 ?_;refine Aa.ret (Z1 g3 ?_);refine Ae rfl ?_;rotate_left;have d3:=Bt g3;refine Z1 g3 ?_;refine Ao ?_;refine Af.eq (h0) rfl (Z1 g3 ?_);refine Aa.ret (Z1 g3 ?_);refine Ae rfl ?_;rotate_left
   all_goals simp_all [bne]
  ·refine Ag.intro func127 (by decide) rfl (Bj ?_)
   refine Aa.Ad (Z0 ?_);refine Aa.seq ?_;refine Aa.Ad (Z0 ?_);refine Af.eq (h1) rfl (Z0 ?_);refine Aa.Ax rfl ?_;refine Aa.skip (Z0 ?_);refine Aa.Ad (Z0 ?_);refine Ao ?_;refine Ap (fun g3=>?_) (fun g3=>?_);have d3:=BT g3;refine Z1 g3 ?_;refine Aa.ret (Z1 g3 ?_);refine Ae rfl ?_;rotate_left;have d3:=Bt g3;refine Z1 g3 ?_;refine Ao ?_;refine Af.eq (h0) rfl (Z1 g3 ?_);refine Aa.ret (Z1 g3 ?_);refine Ae rfl ?_;rotate_left
   all_goals simp_all [bne]
end
section
attribute [local go_sem] Cy ntmps126
theorem aiq (w:Wd) (v:Vl) (hv:Cm v):Af prog 126 [Cy v,.cptr [DI w]] (· = .val (.bool (!GQ w v))):=by
 refine Ag.intro func126 (by decide) rfl (Bj ?_);refine Aa.Ad (Z0 ?_);refine Aa.Ad (Z0 ?_);refine Af.eq (c127 w v hv) rfl (Z0 ?_);refine Aa.ret (Z0 ?_);exact Ae rfl (Z0 trivial)
end
noncomputable def Ls (w:Wd) (l:List Vl):Bool:=!l.any fun v=>!GQ w v
section
attribute [local go_sem] ntmps98
theorem c98 (w:Wd) (l:List Vl) (hl:l.length <= 1048576) (hv:∀ v ∈ l,Cm v):Af prog 98 [DI w,.sl false (Pe l)] (· = .val (.bool (Ls w l))):=by
 refine Ag.intro func98 (by decide) rfl (Bj ?_);refine Aa.Ad (Z0 ?_);refine And.intro (by trivial) ?_;refine Aa.freeze 2 (Z0 ?_);refine Aa.Ad (Z0 ?_);refine Af.eq (Wt l 126 [.cptr [DI w]] rfl (fun v=>!GQ w v) (fun v h=>aiq w v (hv v h)) (by omega)) rfl (Z0 ?_);refine Aa.ret (Z0 ?_);refine Ae rfl ?_;trivial
end
def NN (l:List Ac):Prop:=∀ i j,i < j -> j < l.length -> (l.getD i default).aid < (l.getD j default).aid
theorem aa4 {a b:Int} (h:GZ a b < 0):a < b:=by
 by_cases h1:a < b
 ·exact h1
 ·by_cases h2:a > b <;> simp [GZ,h1,h2] at h
theorem aaI {a b:Int} (h:¬ GZ a b < 0):b <= a:=by
 by_cases h1:a < b
 ·simp [GZ,h1] at h
 ·omega
theorem Zw {a b:Int} (h:GZ a b = 0):a = b:=by
 by_cases h1:a < b
 ·simp [GZ,h1] at h
 ·by_cases h2:a > b
  ·simp [GZ,h1,h2] at h
  ·omega
theorem VG (a:Int):GZ a a = 0:=by simp [GZ]
structure Oy (l:List Ac) (n:Int) (i:Nat) (ok:Bool):Prop where
 le:i <= l.length
 yes:ok = true -> i < l.length /\ (l.getD i default).aid = n
 no:NN l -> ok = false -> ∀ j,j < l.length -> (l.getD j default).aid ≠ n
theorem Q5 {i j:Nat} (h:(i:Int) + j <= 4611686018427387904):IntKind.i64.wrap ((IntKind.u64.wrap ((i:Int) + j)).fdiv (2 ^ min 1 64)) = (((i + j) / 2:Nat):Int):=by
 have h1:IntKind.u64.wrap ((i:Int) + j) = (i:Int) + j:=IntWalk.u64_in _ (by omega);have h2:(2:Int) ^ min 1 64 = 2:=rfl;rw [h1,h2,Int.fdiv_eq_ediv_of_nonneg _ (by omega),i64_in (by omega) (by omega)];omega
section
attribute [local go_sem] En ntmps214
theorem aiv (l:List Ac) (n:Int) (hl:l.length <= 1048576):B9 prog 214 [.sl false (Od l),.val (.int .i64 n),.fn 215 []] (fun v=>∃ (i:Nat) (ok:Bool),v = .tup [.val (.int .i64 (i:Nat)),.val (.bool ok)] /\ Oy l n i ok):=by
 refine B9.of (DX.intro (fun R=>R) (fun _ h=>h) func214 (by decide) rfl ?_);refine Bj ?_;refine Ab.Am ?_;apply Pr.run;intro Ψ1 hΨ1;refine Aa.region (Z0 ?_);exact hΨ1.out;refine Pr.done ?_;refine Ab.Am ?_;apply Pr.run;intro Ψ2 hΨ2;refine Aa.region (Z0 ?_);exact hΨ2.out;refine Pr.done ?_;refine Ab.Am ?_;apply Pr.run;intro Ψ3 hΨ3;refine Aa.region (Z0 ?_);exact hΨ3.out;refine Pr.done ?_;refine Ab.seq (Ab.block ?_);refine Ab.A0 (fun x:Nat × Nat=>[(9,.val (.int .i64 (x.1:Nat))),(10,.val (.int .i64 (x.2:Nat)))]) [8,0,1,2] (fun _=>_) (fun x:Nat × Nat=>x.1 <= x.2 /\ x.2 <= l.length /\ (NN l -> ∀ k,k < x.1 -> (l.getD k default).aid < n) /\ (NN l -> ∀ k,x.2 <= k -> k < l.length -> n <= (l.getD k default).aid)) (fun x:Nat × Nat=>x.2 - x.1) ((0,l.length)) ?_ rfl ?_ ?_;refine Z0 ?_;rotate_left;refine ⟨rfl,?_,?_,rfl,?_⟩;exact C1 trivial;exact C1 trivial;exact C1 trivial;rintro ⟨i,j⟩ ⟨h1,h2,h3,h4⟩;simp only at h1 h2 h3 h4;refine Z0 ?_;refine Ab.seq ?_;refine Ab.Am ?_;apply Pr.run;intro Ψ4 hΨ4;refine Aa.region (Z0 ?_);exact hΨ4.out;refine Pr.done ?_;refine Ab.cond rfl (fun g5=>?_) (fun g5=>?_);have d5:=An g5;refine Ab.skip (Z1 g5 ?_);refine Ab.block ?_;refine Ab.Am ?_;apply Pr.run;intro Ψ6 hΨ6;refine Aa.region (Z1 g5 ?_);exact hΨ6.out;refine Pr.done ?_;refine Ab.Am ?_;apply Pr.run;intro Ψ7 hΨ7;refine Aa.region (Z1 g5 ?_);simp -implicitDefEqProofs (dsimp:=false) (disch:=omega) only [i64_in,gd,Q5];refine Z1 g5 ?_;refine Ao (Ao ?_);refine Af.eq (agY _ n) rfl (Z1 g5 ?_)
 exact hΨ7.out;refine Pr.done ?_;refine Ab.cond rfl (fun g9=>?_) (fun g9=>?_);have d9:=An g9;refine Ab.Di ?_;apply Pr.run;intro Ψ10 hΨ10;refine Aa.region (Z2 g5 g9 ?_);exact hΨ10.out;refine Pr.done (Z2 g5 g9 ?_);simp -implicitDefEqProofs (dsimp:=false) (disch:=omega) only [i64_in,gd,Q5];refine ⟨(if decide (GZ (l.getD ((i + j) / 2) default).aid n < 0) = true then ((i + j) / 2 + 1,j) else (i,(i + j) / 2)),?_⟩;constructor;constructor;simp -implicitDefEqProofs (dsimp:=false) only [go_sem,simprocAttr,g5,g9,Nat.le_refl,List.length_cons,List.length_append,List.length_nil];omega;constructor;simp -implicitDefEqProofs (dsimp:=false) only [go_sem,simprocAttr,g5,g9,Nat.le_refl,List.length_cons,List.length_append,List.length_nil]
 assumption
 constructor;simp -implicitDefEqProofs (dsimp:=false) only [go_sem,simprocAttr,g5,g9,Nat.le_refl,List.length_cons,List.length_append,List.length_nil];rotate_left;simp -implicitDefEqProofs (dsimp:=false) only [go_sem,simprocAttr,g5,g9,Nat.le_refl,List.length_cons,List.length_append,List.length_nil]
 assumption
 constructor;simp -implicitDefEqProofs (dsimp:=false) only [go_sem,simprocAttr,g5,g9,Nat.le_refl,List.length_cons,List.length_append,List.length_nil];omega;refine ⟨rfl,?_,?_,rfl,?_⟩;exact Cv g5 g9 trivial;exact Cv g5 g9 trivial;exact Cv g5 g9 trivial;have d9:=Aj g9;refine Ab.Di ?_;apply Pr.run;intro Ψ11 hΨ11;refine Aa.region (Z2 g5 g9 ?_);exact hΨ11.out;refine Pr.done (Z2 g5 g9 ?_);refine ⟨(if decide (GZ (l.getD ((i + j) / 2) default).aid n < 0) = true then ((i + j) / 2 + 1,j) else (i,(i + j) / 2)),?_⟩;constructor;constructor;simp -implicitDefEqProofs (dsimp:=false) only [go_sem,simprocAttr,g5,g9,Nat.le_refl,List.length_cons,List.length_append,List.length_nil];omega;constructor;simp -implicitDefEqProofs (dsimp:=false) only [go_sem,simprocAttr,g5,g9,Nat.le_refl,List.length_cons,List.length_append,List.length_nil];omega;constructor;simp -implicitDefEqProofs (dsimp:=false) only [go_sem,simprocAttr,g5,g9,Nat.le_refl,List.length_cons,List.length_append,List.length_nil]
 assumption
 simp -implicitDefEqProofs (dsimp:=false) only [go_sem,simprocAttr,g5,g9,Nat.le_refl,List.length_cons,List.length_append,List.length_nil];rotate_left;constructor;simp -implicitDefEqProofs (dsimp:=false) only [go_sem,simprocAttr,g5,g9,Nat.le_refl,List.length_cons,List.length_append,List.length_nil];omega;refine ⟨rfl,?_,?_,rfl,?_⟩;exact Cv g5 g9 trivial;exact Cv g5 g9 trivial;exact Cv g5 g9 trivial;have d5:=Aj g5;refine Ab.exit (Z1 g5 ?_);refine Ab.Am ?_;apply Pr.run;intro Ψ12 hΨ12;refine Aa.region (Z1 g5 ?_);exact hΨ12.out;refine Pr.CH (fun g13=>?_) (fun g13=>?_);have d13:=An g13;apply Pr.run;intro Ψ14 hΨ14;refine Z2 g5 g13 ?_;refine Ao ?_;refine And.intro (by assumption) ?_;simp -implicitDefEqProofs (dsimp:=false) (disch:=omega) only [i64_in,gd,Q5];refine Z2 g5 g13 ?_;refine Af.eq (agY _ n) rfl (Z2 g5 g13 ?_);exact hΨ14.out;refine Pr.done ?_;refine Ab.ret ?_;apply AP.i;intro Ψ16 hΨ16;refine Z2 g5 g13 ?_;exact hΨ16.out;refine ⟨_,rfl,rfl,?_⟩;rotate_left;have d13:=Aj g13;apply Pr.run;intro Ψ17 hΨ17;refine Z2 g5 g13 ?_;exact hΨ17.out;refine Pr.done ?_;refine Ab.ret ?_;apply AP.i;intro Ψ18 hΨ18;refine Z2 g5 g13 ?_;exact hΨ18.out;refine ⟨_,rfl,rfl,?_⟩;rotate_left
 ·exact ⟨Nat.zero_le _,Nat.le_refl _,fun _ k hk=>absurd hk (Nat.not_lt_zero k),fun _ k h5 h6=>absurd h6 (by omega)⟩
 ·intro hs k hk
  have h6:=aa4 (of_decide_eq_true g9)
  rcases Nat.lt_or_ge k ((i + j) / 2) with h7 | h7
  ·have:=hs k ((i + j) / 2) h7 (by have:=of_decide_eq_true g5; omega)
   omega
  ·obtain rfl:k = (i + j) / 2:=by omega
   exact h6
 ·intro hs k hk hk2
  have h6:=aaI (of_decide_eq_false g9)
  rcases Nat.lt_or_ge ((i + j) / 2) k with h7 | h7
  ·have:=hs ((i + j) / 2) k h7 hk2
   omega
  ·obtain rfl:k = (i + j) / 2:=by omega
   exact h6
 ·have e1:=of_decide_eq_false g5
  have e2:=of_decide_eq_true g13;refine ⟨i,_,rfl,by omega,fun h=>⟨by omega,Zw (by simpa using h)⟩,fun hs h k hk he=>?_⟩;have h5:¬ GZ (l.getD i default).aid n = 0:=by simpa using h
  rcases Nat.lt_trichotomy k i with h6 | h6 | h6
  ·have:=h3 hs k h6; omega
  ·subst h6; rw [he] at h5; exact h5 (VG n)
  ·have h7:=h4 hs i (by omega) (by omega)
   have h8:=hs i k h6 hk;omega
 ·have e1:=of_decide_eq_false g5
  have e2:=of_decide_eq_false g13;refine ⟨i,_,rfl,by omega,fun h=>(by cases h),fun hs _ k hk he=>?_⟩;have:=h3 hs k (by omega);omega
end
theorem aaP:∃ F:List Ac × Int -> Nat × Bool,∀ x,x.1.length <= 1048576 -> (Oy x.1 x.2 (F x).1 (F x).2 /\ Af prog 214 [.sl false (Od x.1),.val (.int .i64 x.2),.fn 215 []] (· = .tup [.val (.int .i64 ((F x).1:Nat)),.val (.bool (F x).2)])) :=
 HP (D:=fun x:List Ac × Int=>x.1.length <= 1048576) (Q:=fun x (y:Nat × Bool)=>Oy x.1 x.2 y.1 y.2 /\ Af prog 214 [.sl false (Od x.1),.val (.int .i64 x.2),.fn 215 []] (· = .tup [.val (.int .i64 (y.1:Nat)),.val (.bool y.2)])) fun x hx=>by
  obtain ⟨v,⟨i,ok,rfl,h⟩,hc⟩:=aiv x.1 x.2 hx;exact ⟨(i,ok),h,hc⟩
noncomputable def XF (l:List Ac) (n:Int):Nat:=(aaP.choose (l,n)).1
noncomputable def Pd (l:List Ac) (n:Int):Bool:=(aaP.choose (l,n)).2
theorem afj (l:List Ac) (n:Int) (hl:l.length <= 1048576):Af prog 214 [.sl false (Od l),.val (.int .i64 n),.fn 215 []] (· = .tup [.val (.int .i64 (XF l n:Nat)),.val (.bool (Pd l n))]):=(aaP.choose_spec (l,n) hl).2
theorem ahS {l:List Ac} (n:Int) (hl:l.length <= 1048576):Oy l n (XF l n) (Pd l n):=(aaP.choose_spec (l,n) hl).1
noncomputable def aae (w:Wd) (n:Int):AV:=if Pd w.acts n = true then .cptr (NK (w.acts.getD (XF w.acts n) default)).cells else .val (.pointer none)
section
attribute [local go_sem] DI ntmps164
theorem c164 (w:Wd) (n:Int) (hw:w.acts.length <= 1048576):Af prog 164 [DI w,.val (.int .i64 n)] (· = aae w n):=by
 have hF:=ahS n hw;unfold aae
 cases ho:Pd w.acts n with
 | false =>
  refine Ag.intro func164 (by decide) rfl (D5 ho ?_);refine Aa.Ad (Z1 ho ?_);refine Aa.Ad (Z1 ho ?_);refine Ao (Ao ?_);refine Af.eq (afj w.acts n hw) rfl (Z1 ho ?_);refine Aa.seq ?_;refine Aa.Ad (Z1 ho ?_);refine Aa.Ar rfl ?_;refine Aa.Ad (Z1 ho ?_);refine Aa.ret (Z1 ho ?_);exact Ae rfl (Z1 ho trivial)
 | true =>
  have hy:=hF.yes ho;refine Ag.intro func164 (by decide) rfl (D5 ho ?_);refine Aa.Ad (Z1 ho ?_);refine Aa.Ad (Z1 ho ?_);refine Ao (Ao ?_);refine Af.eq (afj w.acts n hw) rfl (Z1 ho ?_);refine Aa.seq ?_;refine Aa.Ad (Z1 ho ?_);refine Aa.Ax rfl ?_;refine Aa.skip (Z1 ho ?_);refine Aa.Ad (Z1 ho ?_);refine Ao (Ao (Ao (Ao ?_)));simp -implicitDefEqProofs (dsimp:=false) (disch:=omega) only [i64_in,gd];refine Z1 ho ?_;refine Aa.ret (Z1 ho ?_);exact Ae rfl (Z1 ho trivial)
end
noncomputable def upW (w:Wd) (p up:Int):Bool:=if (w.codes.getD p.toNat default).block = true then (Pd w.acts up && (w.acts.getD (XF w.acts up) default).code == (w.codes.getD p.toNat default).outer) else up == 0
section
attribute [local go_sem] DI SS O0 Cl F1 LO underlying221 NK ntmps128
theorem ajz (w:Wd) (p up:Int) (hw:w.acts.length <= 1048576) (hp:0 <= p /\ p < (w.codes.length:Int)):Af prog 128 [DI w,.val (.int .i64 p),.val (.int .i64 up)] (· = .val (.bool (upW w p up))):=by
 have h0:=c164 w up hw;have h9:=FH (l:=w.codes) (i:=p.toNat) (by omega);have h8:(0 <= p) = True:=eq_true hp.1;have h7:(p < (w.codes.length:Int)) = True:=eq_true hp.2;unfold upW;unfold aae at h0
 cases hb:(w.codes.getD p.toNat default).block with
 | false =>
  refine Ag.intro func128 (by decide) rfl (Zs hb h9 h8 h7 ?_);refine Aa.Ad (Z4 hb h9 h8 h7 ?_);refine Aa.seq ?_;refine Aa.Ad (Z4 hb h9 h8 h7 ?_);refine Ao (Ao (Ao ?_));refine Aa.Ar rfl ?_;refine Aa.Ad (Z4 hb h9 h8 h7 ?_);refine Aa.ret (Z4 hb h9 h8 h7 ?_);exact Ae rfl (Z4 hb h9 h8 h7 trivial)
 | true =>
  cases ho:Pd w.acts up <;> simp only [ho,Bool.false_eq_true,if_true,if_false] at h0
  ·refine Ag.intro func128 (by decide) rfl (Zs hb h9 h8 h7 ?_)
   refine Aa.Ad (Z4 hb h9 h8 h7 ?_);refine Aa.seq ?_;refine Aa.Ad (Z4 hb h9 h8 h7 ?_);refine Ao (Ao (Ao ?_));refine Aa.Ax rfl ?_;refine Aa.skip (Z4 hb h9 h8 h7 ?_);refine Aa.Ad (Z4 hb h9 h8 h7 ?_);refine Af.eq (h0) rfl (Z4 hb h9 h8 h7 ?_);refine Aa.BQ [(0,.free),(1,.free),(2,.free),(3,.free),(4,.free),(5,.free),(7,.free),(8,.free),(9,.free),(10,.free),(12,.free),(6,.read),(11,.read),(13,.read),(14,.free),(15,.read),(16,.free),(17,.free),(18,.free)] mixed (by kernel_rfl) (Z4 hb h9 h8 h7 ?_);refine Aa.ret (Z4 hb h9 h8 h7 ?_);exact Ae rfl (Z4 hb h9 h8 h7 trivial)
  ·refine Ag.intro func128 (by decide) rfl (Zs hb h9 h8 h7 ?_)
   refine Aa.Ad (Z4 hb h9 h8 h7 ?_);refine Aa.seq ?_;refine Aa.Ad (Z4 hb h9 h8 h7 ?_);refine Ao (Ao (Ao ?_));refine Aa.Ax rfl ?_;refine Aa.skip (Z4 hb h9 h8 h7 ?_);refine Aa.Ad (Z4 hb h9 h8 h7 ?_);refine Af.eq (h0) rfl (Z4 hb h9 h8 h7 ?_);refine Aa.BQ [(0,.free),(1,.free),(2,.free),(3,.free),(4,.free),(5,.free),(7,.free),(8,.free),(9,.free),(10,.free),(12,.free),(6,.read),(11,.read),(13,.read),(14,.free),(15,.read),(16,.free),(17,.free),(18,.free)] mixed (by kernel_rfl) (Z4 hb h9 h8 h7 ?_);refine Ao (Ao (Ao (Ao ?_)));refine Aa.ret (Z4 hb h9 h8 h7 ?_);exact Ae rfl (Z4 hb h9 h8 h7 trivial)
end
end Go.Proofs.Tryz

namespace Go.Proofs.Tryz
open Go.PM
def ace:List UInt8:=[87,105,116,104,58]
def W7:List UInt8:=[118,97,108,117,101]
def Lc (n:Int):List UInt8:=if (decide (n < 0) || decide (n > 8)) = true then [] else if (n == 0) = true then W7 else W7 ++ [58] ++ Lib.repeatL ace (n - 1).toNat
def HY (n:Int):Int:=if (decide (n < 0) || decide (n > 8)) = true then 1 else 0
section
attribute [local go_sem] ntmps153
theorem afh (n:Int):Af prog 153 [.val (.int .i64 n)] (· = .tup [.val (.string (Ak (Lc n))),.val (.int .i64 (HY n))]):=by
 refine Ag.intro func153 (by decide) rfl (Bj ?_);refine Aa.Ad (Z0 ?_);refine Aa.seq (Aa.block ?_);refine Aa.Ad (Z0 ?_);refine Ap (fun g1=>?_) (fun g1=>?_);have d1:=An g1;refine Z1 g1 ?_;refine Aa.Ar rfl ?_;refine Aa.Ad (Z1 g1 ?_);refine Aa.ret (Z1 g1 ?_);refine Ae rfl ?_;simp only [Lc,HY,Bool.true_or,Bool.false_or,g1,bo,↓reduceIte];have d1:=Aj g1;refine Z1 g1 ?_;refine Aa.cond rfl (fun g2=>?_) (fun g2=>?_);have d2:=An g2;refine Aa.Ad (Z2 g1 g2 ?_);refine Aa.ret (Z2 g1 g2 ?_);refine Ae rfl ?_;simp only [Lc,HY,Bool.true_or,Bool.false_or,g1,g2,bo,↓reduceIte];have d2:=Aj g2;refine Aa.Ad (Z2 g1 g2 ?_);refine Aa.cond rfl (fun g3=>?_) (fun g3=>?_);have d3:=AB g3;refine Aa.Ad (Z3 g1 g2 g3 ?_);refine Aa.ret (Z3 g1 g2 g3 ?_);refine Ae rfl ?_;rotate_left;have d3:=Aq g3;refine Aa.skip (Z3 g1 g2 g3 ?_);refine Aa.Ad (Z3 g1 g2 g3 ?_);refine Bd ?_;refine Af.eq (ah9 ace (n - 1) ?_ ?_ ?_) rfl ?_;omega;omega;rotate_left;refine Z3 g1 g2 g3 ?_;constructor;rotate_left;refine Aa.ret (Z3 g1 g2 g3 ?_);refine Ae rfl ?_;rotate_left
 ·have h3:=beq_iff_eq.1 g3
  subst h3;rfl
 ·have:=of_decide_eq_false g2
  show 5 * (n - 1).toNat <= _
  omega
 ·have:=of_decide_eq_false g2
  rw [Lib.repeatL_length]
  show 6 + (n - 1).toNat * 5 <= _
  omega
 ·simp only [Lc,HY,g1,g2,g3,Bool.or_self,Bool.false_eq_true,if_false]
  rfl
end
end Go.Proofs.Tryz

namespace Go.Proofs.Tryz
open Go.PM
attribute [local irreducible] BM BP Bq Ci AU AO Az
section
attribute [local go_sem] Cl SS O0 ntmps154
theorem ai3 (l:List Cd) (a:Int) (hl:l.length <= 1048576):B9 prog 154 [.sl false (LQ l),.val (.int .i64 a)] (fun v=>∃ n:Int,v = .val (.int .i64 n)):=by
 refine B9.of (DX.intro (fun R=>R) (fun _ h=>h) func154 (by decide) rfl ?_);refine Bj ?_;refine Ab.Am ?_;apply Pr.run;intro Ψ1 hΨ1;refine Aa.region (Z0 ?_);exact hΨ1.out;refine Pr.done ?_;refine Ab.Am ?_;apply Pr.run;intro Ψ2 hΨ2;refine Aa.region (Z0 ?_);exact hΨ2.out;refine Pr.done ?_;refine Ab.seq (Ab.block ?_);refine Ab.A0 (fun x:Nat × Int=>[(5,.val (.int .i64 (x.1:Nat))),(1,.val (.int .i64 x.2))]) [0] (fun _=>_) (fun x:Nat × Int=>x.1 <= 21) (fun x:Nat × Int=>21 - x.1) ((0,a)) ?_ rfl ?_ ?_;omega;refine ⟨rfl,?_,?_,rfl,?_⟩;exact C1 trivial;exact C1 trivial;exact C1 trivial;rintro ⟨n,a⟩ h1;simp only at h1;refine Z0 ?_;refine Ab.seq ?_;refine Ab.Am ?_;apply Pr.run;intro Ψ3 hΨ3;refine Aa.region (Z0 ?_);exact hΨ3.out;refine Pr.CH (fun g4=>?_) (fun g4=>?_);have d4:=An g4;apply Pr.run;intro Ψ5 hΨ5;refine Z1 g4 ?_;exact hΨ5.out;refine Pr.CH (fun g6=>?_) (fun g6=>?_);have d6:=An g6;apply Pr.run;intro Ψ7 hΨ7;refine Z2 g4 g6 ?_;refine And.intro (by assumption) ?_;refine And.intro (by assumption) ?_;simp -implicitDefEqProofs (dsimp:=false) (disch:=omega) only [i64_in,gd];refine Z2 g4 g6 ?_;refine Ao ?_;exact hΨ7.out;refine Pr.CH (fun g8=>?_) (fun g8=>?_);apply Pr.run;intro Ψ9 hΨ9;refine Z3 g4 g6 g8 ?_;exact hΨ9.out;refine Pr.done ?_;refine Ab.cond rfl (fun g10=>?_) (fun g10=>?_);have d10:=An g10;refine Ab.skip (Z4 g4 g6 g8 g10 ?_);refine Ab.block ?_;refine Ab.Am ?_;apply Pr.run;intro Ψ11 hΨ11;refine Aa.region (Z4 g4 g6 g8 g10 ?_);exact hΨ11.out
 refine Pr.done ?_;refine Ab.Di ?_;apply Pr.run;intro Ψ12 hΨ12;refine Aa.region (Z4 g4 g6 g8 g10 ?_);refine And.intro (by assumption) ?_;refine And.intro (by assumption) ?_;simp -implicitDefEqProofs (dsimp:=false) (disch:=omega) only [i64_in,gd];refine Z4 g4 g6 g8 g10 ?_;refine Ao ?_;exact hΨ12.out;refine Pr.done (Z4 g4 g6 g8 g10 ?_);refine ⟨(n + 1,(l.getD a.toNat default).outer),?_⟩;constructor;omega;constructor;omega;refine ⟨rfl,?_,?_,rfl,?_⟩;exact Mv g4 g6 g8 g10 trivial;exact Mv g4 g6 g8 g10 trivial;exact Mv g4 g6 g8 g10 trivial;have d10:=Aj g10;refine Ab.exit (Z4 g4 g6 g8 g10 ?_);refine Ab.Am ?_;apply Pr.run;intro Ψ13 hΨ13;refine Aa.region (Z4 g4 g6 g8 g10 ?_);exact hΨ13.out;refine Pr.done ?_;refine Ab.ret ?_;apply AP.i;intro Ψ14 hΨ14;refine Z4 g4 g6 g8 g10 ?_;exact hΨ14.out;refine ⟨_,rfl,rfl,?_⟩;exact ⟨_,rfl⟩;apply Pr.run;intro Ψ15 hΨ15;refine Z3 g4 g6 g8 ?_;exact hΨ15.out;refine Pr.done ?_;refine Ab.Ax rfl ?_;refine Ab.exit (Z3 g4 g6 g8 ?_);refine Ab.Am ?_;apply Pr.run;intro Ψ16 hΨ16;refine Aa.region (Z3 g4 g6 g8 ?_);exact hΨ16.out;refine Pr.done ?_;refine Ab.ret ?_;apply AP.i;intro Ψ17 hΨ17;refine Z3 g4 g6 g8 ?_;exact hΨ17.out;refine ⟨_,rfl,rfl,?_⟩;exact ⟨_,rfl⟩;have d6:=Aj g6;apply Pr.run;intro Ψ18 hΨ18;refine Z2 g4 g6 ?_;exact hΨ18.out;refine Pr.done ?_;refine Ab.Ax rfl ?_;refine Ab.exit (Z2 g4 g6 ?_);refine Ab.Am ?_;apply Pr.run;intro Ψ19 hΨ19;refine Aa.region (Z2 g4 g6 ?_);exact hΨ19.out;refine Pr.done ?_;refine Ab.ret ?_;apply AP.i;intro Ψ20 hΨ20
 refine Z2 g4 g6 ?_;exact hΨ20.out;refine ⟨_,rfl,rfl,?_⟩;exact ⟨_,rfl⟩;have d4:=Aj g4;apply Pr.run;intro Ψ21 hΨ21;refine Z1 g4 ?_;exact hΨ21.out;refine Pr.done ?_;refine Ab.Ax rfl ?_;refine Ab.exit (Z1 g4 ?_);refine Ab.Am ?_;apply Pr.run;intro Ψ22 hΨ22;refine Aa.region (Z1 g4 ?_);exact hΨ22.out;refine Pr.done ?_;refine Ab.ret ?_;apply AP.i;intro Ψ23 hΨ23;refine Z1 g4 ?_;exact hΨ23.out;refine ⟨_,rfl,rfl,?_⟩;exact ⟨_,rfl⟩
end
theorem afn:∃ F:List Cd × Int -> Int,∀ x,x.1.length <= 1048576 -> Af prog 154 [.sl false (LQ x.1),.val (.int .i64 x.2)] (· = .val (.int .i64 (F x))) :=
 HP (D:=fun x:List Cd × Int=>x.1.length <= 1048576) (Q:=fun x n=>Af prog 154 [.sl false (LQ x.1),.val (.int .i64 x.2)] (· = .val (.int .i64 n))) fun x hx=>by
  obtain ⟨v,⟨n,rfl⟩,hc⟩:=ai3 x.1 x.2 hx;exact ⟨n,hc⟩
noncomputable def aef (l:List Cd) (a:Int):Int:=afn.choose (l,a)
theorem c154 (l:List Cd) (a:Int) (hl:l.length <= 1048576):Af prog 154 [.sl false (LQ l),.val (.int .i64 a)] (· = .val (.int .i64 (aef l a))):=afn.choose_spec (l,a) hl
structure FO (c:Cd):Prop where
 names:c.names.length <= 1048576
 init:c.init.length <= 1048576
 lits:c.lits.length <= 1048576
 sels:c.sels.length <= 1048576
 instrs:c.instrs.length <= 1048576
 vi:∀ v ∈ c.init,Cm v
 vl:∀ v ∈ c.lits,Cm v
 ins:∀ x ∈ c.instrs,P5 x
 args:Cn c.args
 outer:Cn c.outer
structure K4 (c:Cd) (at':Int):Prop where
 args:0 <= c.args /\ c.args <= c.names.length
 names:c.names.length <= 40
 init:(c.init.length:Int) = c.names.length - c.args
 block:c.block = true -> 0 <= c.outer /\ c.outer < at'
 meth:c.block = false -> c.outer = -1
section
attribute [local go_sem] Ke O0 Ce B1 ntmps123
theorem ahw (c:Cd) (l:List Cd) (at':Int) (hc:FO c) (hl:l.length <= 1048576):B9 prog 123 [.cptr (Ke c l at')] (fun v=>∃ b:Bool,v = .val (.bool b) /\ (b = true -> K4 c at')):=by
 have hN:∃ b:Bool,AV.val (.bool false) = .val (.bool b) /\ (b = true -> K4 c at'):=⟨false,rfl,fun h=>by cases h⟩
 have h2:=hc.names;have h3:=hc.init;have h4:=hc.lits;have h5:=hc.args;unfold Cn at h5;have h6:HY c.args = 0 -> 0 <= c.args /\ c.args <= 8:=by
  unfold HY
  split <;> simp_all
 refine B9.of (DX.intro (fun R=>R) (fun _ h=>h) func123 (by decide) rfl ?_);refine Bj ?_;refine Ab.Am ?_;apply Pr.run;intro Ψ7 hΨ7;refine Aa.region (Z0 ?_);exact hΨ7.out;refine Pr.done ?_;refine Ab.Am ?_;apply Pr.run;intro Ψ8 hΨ8;refine Aa.region (Z0 ?_);refine Ao (Ao ?_);refine Af.eq (afh c.args) rfl (Z0 ?_);exact hΨ8.out;refine Pr.done ?_;refine Ab.seq (Ab.block ?_);refine Ab.Am ?_;apply Pr.run;intro Ψ10 hΨ10;refine Aa.BS [(0,.free),(1,.free),(2,.free),(3,.free),(4,.free),(5,.free),(6,.free),(7,.read),(8,.free),(9,.free),(10,.free),(11,.free),(12,.read),(13,.read),(14,.free),(15,.free),(16,.free),(17,.free),(18,.free),(19,.free),(20,.free),(21,.read),(22,.read),(23,.free),(24,.free),(25,.free),(26,.free),(27,.free),(28,.free),(29,.free),(30,.read),(31,.read),(32,.free),(33,.free),(34,.free),(35,.free),(36,.read),(37,.read),(38,.free),(39,.free),(40,.free),(41,.free),(42,.read),(43,.free),(44,.free),(45,.free),(46,.free)] mixed (by kernel_rfl) ?_;refine Az.cut [(0,.free),(1,.free),(2,.free),(3,.free),(4,.free),(5,.free),(6,.free),(7,.read)] [(8,.free),(9,.free),(10,.free),(11,.free),(12,.read),(13,.read),(14,.free),(15,.free),(16,.free),(17,.free),(18,.free),(19,.free),(20,.free),(21,.read),(22,.read),(23,.free),(24,.free),(25,.free),(26,.free),(27,.free),(28,.free),(29,.free),(30,.read),(31,.read),(32,.free),(33,.free),(34,.free),(35,.free),(36,.read),(37,.read),(38,.free),(39,.free),(40,.free),(41,.free),(42,.read),(43,.free),(44,.free),(45,.free),(46,.free)] rfl ?_
 refine Z0 ?_;exact hΨ10.out;refine Pr.CH (fun g11=>?_) (fun g11=>?_);have d11:=BT g11;apply Pr.run;intro Ψ12 hΨ12;refine Z1 g11 ?_;refine Au.mk ?_;refine Az.cut [(8,.free),(9,.free),(10,.free),(11,.free),(12,.read),(13,.read),(14,.free),(15,.free)] [(16,.free),(17,.free),(18,.free),(19,.free),(20,.free),(21,.read),(22,.read),(23,.free),(24,.free),(25,.free),(26,.free),(27,.free),(28,.free),(29,.free),(30,.read),(31,.read),(32,.free),(33,.free),(34,.free),(35,.free),(36,.read),(37,.read),(38,.free),(39,.free),(40,.free),(41,.free),(42,.read),(43,.free),(44,.free),(45,.free),(46,.free)] rfl ?_;refine Z1 g11 ?_;refine Au.mk ?_;refine Az.cut [(16,.free),(17,.free),(18,.free),(19,.free),(20,.free),(21,.read),(22,.read),(23,.free)] [(24,.free),(25,.free),(26,.free),(27,.free),(28,.free),(29,.free),(30,.read),(31,.read),(32,.free),(33,.free),(34,.free),(35,.free),(36,.read),(37,.read),(38,.free),(39,.free),(40,.free),(41,.free),(42,.read),(43,.free),(44,.free),(45,.free),(46,.free)] rfl ?_;refine Z1 g11 ?_;refine Au.mk ?_;refine Az.cut [(24,.free),(25,.free),(26,.free),(27,.free),(28,.free),(29,.free),(30,.read),(31,.read)] [(32,.free),(33,.free),(34,.free),(35,.free),(36,.read),(37,.read),(38,.free),(39,.free),(40,.free),(41,.free),(42,.read),(43,.free),(44,.free),(45,.free),(46,.free)] rfl (Z1 g11 ?_)
 refine Au.mk ?_;refine Az.cut [(32,.free),(33,.free),(34,.free),(35,.free),(36,.read),(37,.read),(38,.free),(39,.free)] [(40,.free),(41,.free),(42,.read),(43,.free),(44,.free),(45,.free),(46,.free)] rfl (Z1 g11 ?_);refine Au.mk (Z1 g11 ?_);exact hΨ12.out;refine Pr.done ?_;refine Ab.Ar rfl ?_;refine Ab.Am ?_;apply Pr.run;intro Ψ13 hΨ13;refine Aa.region (Z1 g11 ?_);exact hΨ13.out;refine Pr.done ?_;refine Ab.ret (Z1 g11 ?_);apply AP.i;intro Ψ14 hΨ14;refine Z1 g11 ?_;exact hΨ14.out;refine ⟨_,rfl,rfl,?_⟩
 assumption
 have d11:=Bt g11;apply Pr.run;intro Ψ15 hΨ15;refine Z1 g11 ?_;refine Ao (Ao ?_);refine Au.mk ?_;refine Az.cut [(8,.free),(9,.free),(10,.free),(11,.free),(12,.read),(13,.read),(14,.free),(15,.free)] [(16,.free),(17,.free),(18,.free),(19,.free),(20,.free),(21,.read),(22,.read),(23,.free),(24,.free),(25,.free),(26,.free),(27,.free),(28,.free),(29,.free),(30,.read),(31,.read),(32,.free),(33,.free),(34,.free),(35,.free),(36,.read),(37,.read),(38,.free),(39,.free),(40,.free),(41,.free),(42,.read),(43,.free),(44,.free),(45,.free),(46,.free)] rfl ?_;refine Z1 g11 ?_;refine Ao (Ao ?_);refine And.intro (by trivial) ?_;refine Au.mk ?_;refine Az.cut [(16,.free),(17,.free),(18,.free),(19,.free),(20,.free),(21,.read),(22,.read),(23,.free)] [(24,.free),(25,.free),(26,.free),(27,.free),(28,.free),(29,.free),(30,.read),(31,.read),(32,.free),(33,.free),(34,.free),(35,.free),(36,.read),(37,.read),(38,.free),(39,.free),(40,.free),(41,.free),(42,.read),(43,.free),(44,.free),(45,.free),(46,.free)] rfl ?_;refine Z1 g11 ?_;exact hΨ15.out;refine Pr.CH (fun g16=>?_) (fun g16=>?_);have d16:=An g16;apply Pr.run;intro Ψ17 hΨ17;refine Z2 g11 g16 ?_;refine Au.mk ?_;refine Az.cut [(24,.free),(25,.free),(26,.free),(27,.free),(28,.free),(29,.free),(30,.read),(31,.read)] [(32,.free),(33,.free),(34,.free),(35,.free),(36,.read),(37,.read),(38,.free),(39,.free),(40,.free),(41,.free),(42,.read),(43,.free),(44,.free),(45,.free),(46,.free)] rfl (Z2 g11 g16 ?_)
 refine Au.mk ?_;refine Az.cut [(32,.free),(33,.free),(34,.free),(35,.free),(36,.read),(37,.read),(38,.free),(39,.free)] [(40,.free),(41,.free),(42,.read),(43,.free),(44,.free),(45,.free),(46,.free)] rfl (Z2 g11 g16 ?_);refine Au.mk (Z2 g11 g16 ?_);exact hΨ17.out;refine Pr.done ?_;refine Ab.Ar rfl ?_;refine Ab.Am ?_;apply Pr.run;intro Ψ18 hΨ18;refine Aa.region (Z2 g11 g16 ?_);exact hΨ18.out;refine Pr.done ?_;refine Ab.ret (Z2 g11 g16 ?_);apply AP.i;intro Ψ19 hΨ19;refine Z2 g11 g16 ?_;exact hΨ19.out;refine ⟨_,rfl,rfl,?_⟩
 assumption
 have d16:=Aj g16;apply Pr.run;intro Ψ20 hΨ20;refine Z2 g11 g16 ?_;refine Ao (Ao ?_);refine And.intro (by trivial) ?_;refine Au.mk ?_;refine Az.cut [(24,.free),(25,.free),(26,.free),(27,.free),(28,.free),(29,.free),(30,.read),(31,.read)] [(32,.free),(33,.free),(34,.free),(35,.free),(36,.read),(37,.read),(38,.free),(39,.free),(40,.free),(41,.free),(42,.read),(43,.free),(44,.free),(45,.free),(46,.free)] rfl (Z2 g11 g16 ?_);exact hΨ20.out;refine Pr.CH (fun g21=>?_) (fun g21=>?_);have d21:=An g21;apply Pr.run;intro Ψ22 hΨ22;refine Z3 g11 g16 g21 ?_;refine Au.mk ?_;refine Az.cut [(32,.free),(33,.free),(34,.free),(35,.free),(36,.read),(37,.read),(38,.free),(39,.free)] [(40,.free),(41,.free),(42,.read),(43,.free),(44,.free),(45,.free),(46,.free)] rfl (Z3 g11 g16 g21 ?_);refine Au.mk (Z3 g11 g16 g21 ?_);exact hΨ22.out;refine Pr.done ?_;refine Ab.Ar rfl ?_;refine Ab.Am ?_;apply Pr.run;intro Ψ23 hΨ23;refine Aa.region (Z3 g11 g16 g21 ?_);exact hΨ23.out;refine Pr.done ?_;refine Ab.ret (Z3 g11 g16 g21 ?_);apply AP.i;intro Ψ24 hΨ24;refine Z3 g11 g16 g21 ?_;exact hΨ24.out;refine ⟨_,rfl,rfl,?_⟩
 assumption
 have d21:=Aj g21;apply Pr.run;intro Ψ25 hΨ25;refine Z3 g11 g16 g21 ?_;refine Ao (Ao ?_);refine And.intro (by trivial) ?_;refine Au.mk ?_;refine Az.cut [(32,.free),(33,.free),(34,.free),(35,.free),(36,.read),(37,.read),(38,.free),(39,.free)] [(40,.free),(41,.free),(42,.read),(43,.free),(44,.free),(45,.free),(46,.free)] rfl (Z3 g11 g16 g21 ?_);refine Ao (Ao ?_);refine And.intro (by trivial) ?_;refine Au.mk (Z3 g11 g16 g21 ?_);refine Ao (Ao ?_);exact hΨ25.out;refine Pr.done (Bd ?_);refine Ab.cond rfl (fun g26=>?_) (fun g26=>?_);have d26:=BT g26;refine Ab.Am ?_;apply Pr.run;intro Ψ27 hΨ27;refine Aa.region (Z4 g11 g16 g21 g26 ?_);exact hΨ27.out;refine Pr.done ?_;refine Ab.ret (Z4 g11 g16 g21 g26 ?_);apply AP.i;intro Ψ28 hΨ28;refine Z4 g11 g16 g21 g26 ?_;exact hΨ28.out;refine ⟨_,rfl,rfl,?_⟩
 assumption
 have d26:=Bt g26;refine Ab.Am ?_;apply Pr.run;intro Ψ29 hΨ29;refine Aa.BS [(0,.free),(1,.free),(2,.free),(3,.free),(4,.read),(5,.free),(6,.free),(7,.free),(8,.free),(9,.free),(10,.read),(11,.free),(12,.free),(13,.free),(14,.free),(15,.free),(16,.free),(17,.read),(18,.free),(19,.free),(20,.free),(21,.read),(22,.free),(23,.free),(24,.free),(25,.free),(26,.free),(27,.free),(28,.free),(29,.read),(30,.free),(31,.free),(32,.free),(33,.free),(34,.free),(35,.free),(36,.free),(37,.read),(38,.free),(39,.free),(40,.free),(41,.read),(42,.free),(43,.free),(44,.free),(45,.free),(46,.free)] mixed (by kernel_rfl) ?_;refine Az.cut [(0,.free),(1,.free),(2,.free),(3,.free),(4,.read),(5,.free),(6,.free),(7,.free)] [(8,.free),(9,.free),(10,.read),(11,.free),(12,.free),(13,.free),(14,.free),(15,.free),(16,.free),(17,.read),(18,.free),(19,.free),(20,.free),(21,.read),(22,.free),(23,.free),(24,.free),(25,.free),(26,.free),(27,.free),(28,.free),(29,.read),(30,.free),(31,.free),(32,.free),(33,.free),(34,.free),(35,.free),(36,.free),(37,.read),(38,.free),(39,.free),(40,.free),(41,.read),(42,.free),(43,.free),(44,.free),(45,.free),(46,.free)] rfl ?_;refine Z4 g11 g16 g21 g26 ?_;refine Ao (Ao ?_);exact hΨ29.out;refine Pr.CH (fun g30=>?_) (fun g30=>?_);apply Pr.run;intro Ψ31 hΨ31;refine Z5 g11 g16 g21 g26 g30 ?_;refine Au.mk ?_
 refine Az.cut [(8,.free),(9,.free),(10,.read),(11,.free),(12,.free),(13,.free),(14,.free),(15,.free)] [(16,.free),(17,.read),(18,.free),(19,.free),(20,.free),(21,.read),(22,.free),(23,.free),(24,.free),(25,.free),(26,.free),(27,.free),(28,.free),(29,.read),(30,.free),(31,.free),(32,.free),(33,.free),(34,.free),(35,.free),(36,.free),(37,.read),(38,.free),(39,.free),(40,.free),(41,.read),(42,.free),(43,.free),(44,.free),(45,.free),(46,.free)] rfl ?_;refine Z5 g11 g16 g21 g26 g30 ?_;refine Ao (Ao ?_);exact hΨ31.out;refine Pr.CH (fun g32=>?_) (fun g32=>?_);have d32:=An g32;apply Pr.run;intro Ψ33 hΨ33;refine Z6 g11 g16 g21 g26 g30 g32 ?_;refine Au.mk ?_;refine Az.cut [(16,.free),(17,.read),(18,.free),(19,.free),(20,.free),(21,.read),(22,.free),(23,.free)] [(24,.free),(25,.free),(26,.free),(27,.free),(28,.free),(29,.read),(30,.free),(31,.free),(32,.free),(33,.free),(34,.free),(35,.free),(36,.free),(37,.read),(38,.free),(39,.free),(40,.free),(41,.read),(42,.free),(43,.free),(44,.free),(45,.free),(46,.free)] rfl ?_;refine Z6 g11 g16 g21 g26 g30 g32 ?_;refine Au.mk ?_;refine Az.cut [(24,.free),(25,.free),(26,.free),(27,.free),(28,.free),(29,.read),(30,.free),(31,.free)] [(32,.free),(33,.free),(34,.free),(35,.free),(36,.free),(37,.read),(38,.free),(39,.free),(40,.free),(41,.read),(42,.free),(43,.free),(44,.free),(45,.free),(46,.free)] rfl (Z6 g11 g16 g21 g26 g30 g32 ?_)
 refine Au.mk ?_;refine Az.cut [(32,.free),(33,.free),(34,.free),(35,.free),(36,.free),(37,.read),(38,.free),(39,.free)] [(40,.free),(41,.read),(42,.free),(43,.free),(44,.free),(45,.free),(46,.free)] rfl (Z6 g11 g16 g21 g26 g30 g32 ?_);refine Au.mk (Z6 g11 g16 g21 g26 g30 g32 ?_);exact hΨ33.out;refine Pr.done ?_;refine Ab.Ar rfl ?_;refine Ab.Am ?_;apply Pr.run;intro Ψ34 hΨ34;refine Aa.region (Z6 g11 g16 g21 g26 g30 g32 ?_);exact hΨ34.out;refine Pr.done ?_;refine Ab.ret (Z6 g11 g16 g21 g26 g30 g32 ?_);apply AP.i;intro Ψ35 hΨ35;refine Z6 g11 g16 g21 g26 g30 g32 ?_;exact hΨ35.out;refine ⟨_,rfl,rfl,?_⟩
 assumption
 have d32:=Aj g32;apply Pr.run;intro Ψ36 hΨ36;refine Z6 g11 g16 g21 g26 g30 g32 ?_;refine Ao ?_;refine Au.mk ?_;refine Az.cut [(16,.free),(17,.read),(18,.free),(19,.free),(20,.free),(21,.read),(22,.free),(23,.free)] [(24,.free),(25,.free),(26,.free),(27,.free),(28,.free),(29,.read),(30,.free),(31,.free),(32,.free),(33,.free),(34,.free),(35,.free),(36,.free),(37,.read),(38,.free),(39,.free),(40,.free),(41,.read),(42,.free),(43,.free),(44,.free),(45,.free),(46,.free)] rfl ?_;refine Z6 g11 g16 g21 g26 g30 g32 ?_;refine Ao (Ao ?_);refine Au.mk ?_;refine Az.cut [(24,.free),(25,.free),(26,.free),(27,.free),(28,.free),(29,.read),(30,.free),(31,.free)] [(32,.free),(33,.free),(34,.free),(35,.free),(36,.free),(37,.read),(38,.free),(39,.free),(40,.free),(41,.read),(42,.free),(43,.free),(44,.free),(45,.free),(46,.free)] rfl (Z6 g11 g16 g21 g26 g30 g32 ?_);exact hΨ36.out;refine Pr.CH (fun g37=>?_) (fun g37=>?_);have d37:=An g37;apply Pr.run;intro Ψ38 hΨ38;refine Z7 g11 g16 g21 g26 g30 g32 g37 ?_;refine Au.mk ?_;refine Az.cut [(32,.free),(33,.free),(34,.free),(35,.free),(36,.free),(37,.read),(38,.free),(39,.free)] [(40,.free),(41,.read),(42,.free),(43,.free),(44,.free),(45,.free),(46,.free)] rfl (Z7 g11 g16 g21 g26 g30 g32 g37 ?_);refine Au.mk (Z7 g11 g16 g21 g26 g30 g32 g37 ?_);exact hΨ38.out;refine Pr.done ?_;refine Ab.Ar rfl ?_;refine Ab.Am ?_;apply Pr.run
 intro Ψ39 hΨ39;refine Aa.region (Z7 g11 g16 g21 g26 g30 g32 g37 ?_);exact hΨ39.out;refine Pr.done ?_;refine Ab.ret (Z7 g11 g16 g21 g26 g30 g32 g37 ?_);apply AP.i;intro Ψ40 hΨ40;refine Z7 g11 g16 g21 g26 g30 g32 g37 ?_;exact hΨ40.out;refine ⟨_,rfl,rfl,?_⟩
 assumption
 have d37:=Aj g37;apply Pr.run;intro Ψ41 hΨ41;refine Z7 g11 g16 g21 g26 g30 g32 g37 ?_;refine Ao (Ao ?_);refine Au.mk ?_;refine Az.cut [(32,.free),(33,.free),(34,.free),(35,.free),(36,.free),(37,.read),(38,.free),(39,.free)] [(40,.free),(41,.read),(42,.free),(43,.free),(44,.free),(45,.free),(46,.free)] rfl (Z7 g11 g16 g21 g26 g30 g32 g37 ?_);exact hΨ41.out;refine Pr.CH (fun g42=>?_) (fun g42=>?_);apply Pr.run;intro Ψ43 hΨ43;refine Z8 g11 g16 g21 g26 g30 g32 g37 g42 ?_;refine Au.mk (Z8 g11 g16 g21 g26 g30 g32 g37 g42 ?_);exact hΨ43.out;refine Pr.done ?_;refine Ab.Ar rfl ?_;refine Ab.Am ?_;apply Pr.run;intro Ψ44 hΨ44;refine Aa.region (Z8 g11 g16 g21 g26 g30 g32 g37 g42 ?_);exact hΨ44.out;refine Pr.done ?_;refine Ab.ret (Z8 g11 g16 g21 g26 g30 g32 g37 g42 ?_);apply AP.i;intro Ψ45 hΨ45;refine Z8 g11 g16 g21 g26 g30 g32 g37 g42 ?_;exact hΨ45.out;refine ⟨_,rfl,rfl,?_⟩
 assumption
 apply Pr.run;intro Ψ46 hΨ46;refine Z8 g11 g16 g21 g26 g30 g32 g37 g42 ?_;refine Ao ?_;refine Au.mk (Z8 g11 g16 g21 g26 g30 g32 g37 g42 ?_);refine Ao ?_;refine AI.go (c154 l at' hl) rfl (Z8 g11 g16 g21 g26 g30 g32 g37 g42 ?_);exact hΨ46.out;refine Pr.done ?_;refine Ab.cond rfl (fun g47=>?_) (fun g47=>?_);have d47:=An g47;refine Ab.Am ?_;apply Pr.run;intro Ψ48 hΨ48;refine Aa.region (Z9 g11 g16 g21 g26 g30 g32 g37 g42 g47 ?_);exact hΨ48.out;refine Pr.done ?_;refine Ab.ret (Z9 g11 g16 g21 g26 g30 g32 g37 g42 g47 ?_);apply AP.i;intro Ψ49 hΨ49;refine Z9 g11 g16 g21 g26 g30 g32 g37 g42 g47 ?_;exact hΨ49.out;refine ⟨_,rfl,rfl,?_⟩
 assumption
 have d47:=Aj g47;refine Ab.Am ?_;apply Pr.run;intro Ψ50 hΨ50;refine Aa.BS [(0,.free),(1,.free),(2,.free),(3,.free),(4,.read),(5,.free),(6,.free),(7,.free),(8,.free),(9,.free),(10,.free),(11,.read),(12,.free),(13,.free),(14,.free),(15,.free),(16,.free),(17,.free),(20,.free),(21,.free),(22,.free),(23,.free),(18,.read),(19,.free),(24,.read),(25,.free),(26,.free),(27,.free),(28,.free)] mixed (by kernel_rfl) ?_;refine Z9 g11 g16 g21 g26 g30 g32 g37 g42 g47 ?_;refine Ao (Ao ?_);exact hΨ50.out;refine Pr.done ?_;refine Ab.Ax rfl ?_;refine Ab.skip (Z9 g11 g16 g21 g26 g30 g32 g37 g42 g47 ?_);refine Ab.Am ?_;apply Pr.run;intro Ψ51 hΨ51;refine Aa.region (Z9 g11 g16 g21 g26 g30 g32 g37 g42 g47 ?_);exact hΨ51.out;refine Pr.done ?_;refine Ab.Am ?_;apply Pr.run;intro Ψ52 hΨ52;refine Aa.region (Z9 g11 g16 g21 g26 g30 g32 g37 g42 g47 ?_);refine Ao (Ao ?_);refine Af.eq (c156 c.names (by omega)) rfl (Z9 g11 g16 g21 g26 g30 g32 g37 g42 g47 ?_);exact hΨ52.out;refine Pr.CH (fun g54=>?_) (fun g54=>?_);apply Pr.run;intro Ψ55 hΨ55;refine F5 g11 g16 g21 g26 g30 g32 g37 g42 g47 g54 ?_;refine Ao (Ao ?_);refine Af.eq (c157 c.names 158 [] rfl _ (fun s _=>agU s) (by omega)) rfl (F5 g11 g16 g21 g26 g30 g32 g37 g42 g47 g54 ?_);exact hΨ55.out;refine Pr.CH (fun g57=>?_) (fun g57=>?_);apply Pr.run;intro Ψ58 hΨ58;refine OY g11 g16 g21 g26 g30 g32 g37 g42 g47 g54 g57 ?_;refine Ao (Ao ?_);refine Af.eq (Wt c.init 155 [] rfl (fun v=>!CA v) (fun v hv=>aab v (hc.vi v hv)) (by omega)) rfl (OY g11 g16 g21 g26 g30 g32 g37 g42 g47 g54 g57 ?_)
 exact hΨ58.out;refine Pr.CH (fun g60=>?_) (fun g60=>?_);apply Pr.run;intro Ψ61 hΨ61;refine EI g11 g16 g21 g26 g30 g32 g37 g42 g47 g54 g57 g60 ?_;refine Ao (Ao ?_);refine Af.eq (Wt c.lits 155 [] rfl (fun v=>!CA v) (fun v hv=>aab v (hc.vl v hv)) (by omega)) rfl (EI g11 g16 g21 g26 g30 g32 g37 g42 g47 g54 g57 g60 ?_);exact hΨ61.out;refine Pr.done ?_;refine Ab.ret ?_;apply AP.i;intro Ψ63 hΨ63;refine EI g11 g16 g21 g26 g30 g32 g37 g42 g47 g54 g57 g60 ?_;exact hΨ63.out;refine ⟨_,rfl,rfl,?_⟩;rotate_left;apply Pr.run;intro Ψ64 hΨ64;refine EI g11 g16 g21 g26 g30 g32 g37 g42 g47 g54 g57 g60 ?_;exact hΨ64.out;refine Pr.done ?_;refine Ab.ret ?_;apply AP.i;intro Ψ65 hΨ65;refine EI g11 g16 g21 g26 g30 g32 g37 g42 g47 g54 g57 g60 ?_;exact hΨ65.out;refine ⟨_,rfl,rfl,?_⟩
 assumption
 apply Pr.run;intro Ψ66 hΨ66;refine OY g11 g16 g21 g26 g30 g32 g37 g42 g47 g54 g57 ?_;exact hΨ66.out;refine Pr.done ?_;refine Ab.ret ?_;apply AP.i;intro Ψ67 hΨ67;refine OY g11 g16 g21 g26 g30 g32 g37 g42 g47 g54 g57 ?_;exact hΨ67.out;refine ⟨_,rfl,rfl,?_⟩
 assumption
 apply Pr.run;intro Ψ68 hΨ68;refine F5 g11 g16 g21 g26 g30 g32 g37 g42 g47 g54 ?_;exact hΨ68.out;refine Pr.done ?_;refine Ab.ret ?_;apply AP.i;intro Ψ69 hΨ69;refine F5 g11 g16 g21 g26 g30 g32 g37 g42 g47 g54 ?_;exact hΨ69.out;refine ⟨_,rfl,rfl,?_⟩
 assumption
 apply Pr.run;intro Ψ70 hΨ70;refine Z5 g11 g16 g21 g26 g30 ?_;refine Au.mk ?_;refine Az.cut [(8,.free),(9,.free),(10,.read),(11,.free),(12,.free),(13,.free),(14,.free),(15,.free)] [(16,.free),(17,.read),(18,.free),(19,.free),(20,.free),(21,.read),(22,.free),(23,.free),(24,.free),(25,.free),(26,.free),(27,.free),(28,.free),(29,.read),(30,.free),(31,.free),(32,.free),(33,.free),(34,.free),(35,.free),(36,.free),(37,.read),(38,.free),(39,.free),(40,.free),(41,.read),(42,.free),(43,.free),(44,.free),(45,.free),(46,.free)] rfl ?_;refine Z5 g11 g16 g21 g26 g30 ?_;refine Au.mk ?_;refine Az.cut [(16,.free),(17,.read),(18,.free),(19,.free),(20,.free),(21,.read),(22,.free),(23,.free)] [(24,.free),(25,.free),(26,.free),(27,.free),(28,.free),(29,.read),(30,.free),(31,.free),(32,.free),(33,.free),(34,.free),(35,.free),(36,.free),(37,.read),(38,.free),(39,.free),(40,.free),(41,.read),(42,.free),(43,.free),(44,.free),(45,.free),(46,.free)] rfl ?_;refine Z5 g11 g16 g21 g26 g30 ?_;refine Au.mk ?_;refine Az.cut [(24,.free),(25,.free),(26,.free),(27,.free),(28,.free),(29,.read),(30,.free),(31,.free)] [(32,.free),(33,.free),(34,.free),(35,.free),(36,.free),(37,.read),(38,.free),(39,.free),(40,.free),(41,.read),(42,.free),(43,.free),(44,.free),(45,.free),(46,.free)] rfl (Z5 g11 g16 g21 g26 g30 ?_);refine Au.mk ?_;refine Az.cut [(32,.free),(33,.free),(34,.free),(35,.free),(36,.free),(37,.read),(38,.free),(39,.free)] [(40,.free),(41,.read),(42,.free),(43,.free),(44,.free),(45,.free),(46,.free)] rfl (Z5 g11 g16 g21 g26 g30 ?_)
 refine Au.mk (Z5 g11 g16 g21 g26 g30 ?_);exact hΨ70.out;refine Pr.done ?_;refine Ab.Ax rfl ?_;refine Ab.Am ?_;apply Pr.run;intro Ψ71 hΨ71;refine Aa.BS [(0,.free),(1,.free),(2,.free),(3,.free),(4,.read),(5,.free),(6,.free),(7,.free),(8,.free),(9,.free),(10,.free),(11,.read),(12,.free),(13,.free),(14,.free),(15,.free),(16,.free),(17,.free),(20,.free),(21,.free),(22,.free),(23,.free),(18,.read),(19,.free),(24,.read),(25,.free),(26,.free),(27,.free),(28,.free)] mixed (by kernel_rfl) ?_;refine Z5 g11 g16 g21 g26 g30 ?_;refine Ao (Ao (Ao (Ao ?_)));exact hΨ71.out;refine Pr.CH (fun g72=>?_) (fun g72=>?_);have d72:=BT g72;apply Pr.run;intro Ψ73 hΨ73;refine Z6 g11 g16 g21 g26 g30 g72 ?_;exact hΨ73.out;refine Pr.done ?_;refine Ab.Ar rfl ?_;refine Ab.Am ?_;apply Pr.run;intro Ψ74 hΨ74;refine Aa.region (Z6 g11 g16 g21 g26 g30 g72 ?_);exact hΨ74.out;refine Pr.done ?_;refine Ab.ret (Z6 g11 g16 g21 g26 g30 g72 ?_);apply AP.i;intro Ψ75 hΨ75;refine Z6 g11 g16 g21 g26 g30 g72 ?_;exact hΨ75.out;refine ⟨_,rfl,rfl,?_⟩
 assumption
 have d72:=Bt g72;apply Pr.run;intro Ψ76 hΨ76;refine Z6 g11 g16 g21 g26 g30 g72 ?_;refine Ao (Ao (Ao (Ao ?_)));refine AI.go (c75 _) rfl (Z6 g11 g16 g21 g26 g30 g72 ?_);exact hΨ76.out;refine Pr.done ?_;refine Ab.cond rfl (fun g77=>?_) (fun g77=>?_);have d77:=BT g77;refine Ab.Am ?_;apply Pr.run;intro Ψ78 hΨ78;refine Aa.region (Z7 g11 g16 g21 g26 g30 g72 g77 ?_);exact hΨ78.out;refine Pr.done ?_;refine Ab.ret (Z7 g11 g16 g21 g26 g30 g72 g77 ?_);apply AP.i;intro Ψ79 hΨ79;refine Z7 g11 g16 g21 g26 g30 g72 g77 ?_;exact hΨ79.out;refine ⟨_,rfl,rfl,?_⟩
 assumption
 have d77:=Bt g77;refine Ab.skip (Z7 g11 g16 g21 g26 g30 g72 g77 ?_);refine Ab.Am ?_;apply Pr.run;intro Ψ80 hΨ80;refine Aa.region (Z7 g11 g16 g21 g26 g30 g72 g77 ?_);exact hΨ80.out;refine Pr.done ?_;refine Ab.Am ?_;apply Pr.run;intro Ψ81 hΨ81;refine Aa.region (Z7 g11 g16 g21 g26 g30 g72 g77 ?_);refine Ao (Ao ?_);refine Af.eq (c156 c.names (by omega)) rfl (Z7 g11 g16 g21 g26 g30 g72 g77 ?_);exact hΨ81.out;refine Pr.CH (fun g83=>?_) (fun g83=>?_);apply Pr.run;intro Ψ84 hΨ84;refine Z8 g11 g16 g21 g26 g30 g72 g77 g83 ?_;refine Ao (Ao ?_);refine Af.eq (c157 c.names 158 [] rfl _ (fun s _=>agU s) (by omega)) rfl (Z8 g11 g16 g21 g26 g30 g72 g77 g83 ?_);exact hΨ84.out;refine Pr.CH (fun g86=>?_) (fun g86=>?_);apply Pr.run;intro Ψ87 hΨ87;refine Z9 g11 g16 g21 g26 g30 g72 g77 g83 g86 ?_;refine Ao (Ao ?_);refine Af.eq (Wt c.init 155 [] rfl (fun v=>!CA v) (fun v hv=>aab v (hc.vi v hv)) (by omega)) rfl (Z9 g11 g16 g21 g26 g30 g72 g77 g83 g86 ?_);exact hΨ87.out;refine Pr.CH (fun g89=>?_) (fun g89=>?_);apply Pr.run;intro Ψ90 hΨ90;refine F5 g11 g16 g21 g26 g30 g72 g77 g83 g86 g89 ?_;refine Ao (Ao ?_);refine Af.eq (Wt c.lits 155 [] rfl (fun v=>!CA v) (fun v hv=>aab v (hc.vl v hv)) (by omega)) rfl (F5 g11 g16 g21 g26 g30 g72 g77 g83 g86 g89 ?_);exact hΨ90.out;refine Pr.done ?_;refine Ab.ret ?_;apply AP.i;intro Ψ92 hΨ92;refine F5 g11 g16 g21 g26 g30 g72 g77 g83 g86 g89 ?_;exact hΨ92.out;refine ⟨_,rfl,rfl,?_⟩;rotate_left;apply Pr.run;intro Ψ93 hΨ93;refine F5 g11 g16 g21 g26 g30 g72 g77 g83 g86 g89 ?_
 exact hΨ93.out;refine Pr.done ?_;refine Ab.ret ?_;apply AP.i;intro Ψ94 hΨ94;refine F5 g11 g16 g21 g26 g30 g72 g77 g83 g86 g89 ?_;exact hΨ94.out;refine ⟨_,rfl,rfl,?_⟩
 assumption
 apply Pr.run;intro Ψ95 hΨ95;refine Z9 g11 g16 g21 g26 g30 g72 g77 g83 g86 ?_;exact hΨ95.out;refine Pr.done ?_;refine Ab.ret ?_;apply AP.i;intro Ψ96 hΨ96;refine Z9 g11 g16 g21 g26 g30 g72 g77 g83 g86 ?_;exact hΨ96.out;refine ⟨_,rfl,rfl,?_⟩
 assumption
 apply Pr.run;intro Ψ97 hΨ97;refine Z8 g11 g16 g21 g26 g30 g72 g77 g83 ?_;exact hΨ97.out;refine Pr.done ?_;refine Ab.ret ?_;apply AP.i;intro Ψ98 hΨ98;refine Z8 g11 g16 g21 g26 g30 g72 g77 g83 ?_;exact hΨ98.out;refine ⟨_,rfl,rfl,?_⟩
 assumption
 all_goals try exact hN
 ·exact ⟨_,rfl,fun _=>⟨⟨(h6 d11).1,by omega⟩,by omega,d26,fun _=>⟨by omega,by omega⟩,fun h=>by rw [g30] at h; cases h⟩⟩
 ·have e1:=of_decide_eq_false g16
  have e2:=of_decide_eq_false g21;exact ⟨_,rfl,fun _=>⟨⟨(h6 (by simpa using g11)).1,by omega⟩,by omega,by simpa using g26,fun h=>(by rw [g30] at h; cases h),fun _=>by simpa using g72⟩⟩
end
theorem aey:∃ F:Cd × List Cd × Int -> Bool,∀ x,(FO x.1 /\ x.2.1.length <= 1048576) -> ((F x = true -> K4 x.1 x.2.2) /\ Af prog 123 [.cptr (Ke x.1 x.2.1 x.2.2)] (· = .val (.bool (F x)))) :=
 HP (D:=fun x:Cd × List Cd × Int=>FO x.1 /\ x.2.1.length <= 1048576) (Q:=fun x b=>(b = true -> K4 x.1 x.2.2) /\ Af prog 123 [.cptr (Ke x.1 x.2.1 x.2.2)] (· = .val (.bool b))) fun x hx=>by
  obtain ⟨v,⟨b,rfl,hb⟩,hc⟩:=ahw x.1 x.2.1 x.2.2 hx.1 hx.2;exact ⟨b,hb,hc⟩
noncomputable def abP (c:Cd) (l:List Cd) (a:Int):Bool:=aey.choose (c,l,a)
theorem ajt (c:Cd) (l:List Cd) (a:Int) (hc:FO c) (hl:l.length <= 1048576):Af prog 123 [.cptr (Ke c l a)] (· = .val (.bool (abP c l a))):=(aey.choose_spec (c,l,a) ⟨hc,hl⟩).2
theorem aaB {c:Cd} {l:List Cd} {a:Int} (hc:FO c) (hl:l.length <= 1048576) (h:abP c l a = true):K4 c a:=(aey.choose_spec (c,l,a) ⟨hc,hl⟩).1 h
end Go.Proofs.Tryz

namespace Go.Proofs.Tryz
open Go.PM
attribute [local irreducible] BM BP Bq Ci AU AO Az
structure UN (a:Ac):Prop where
 self:Cm a.self
 vars:a.vars.length <= 1048576
 vs:∀ v ∈ a.vars,Cm v
noncomputable def V0 (w:Wd) (a:Ac):Bool :=
 AH w.codes.length a.code && (GQ w a.self && ((Bi w a.holder).isSome && (((a.vars.length:Int) == ((w.codes.getD a.code.toNat default).names.length:Int)) && (Ls w a.vars && upW w a.code a.up))))
section
attribute [local go_sem] DI NK Cy Cl ntmps101 SS O0 B1 Ce LO F1 underlying153
theorem aio (w:Wd) (a:Ac) (ha:UN a) (hw:w.acts.length <= 1048576):Af prog 101 [DI w,NK a] (· = .val (.bool (V0 w a))):=by
 have h1:=c127 w a.self ha.self;have h0:=c97 w a.holder;unfold Vh at h0;unfold V0
 rcases Int.lt_or_le a.code 0 with hlo | hlo
 ·have hi:AH w.codes.length a.code = false:=by simp [AH]; omega
  refine Ag.intro func101 (by decide) rfl (D5 hi ?_);refine Aa.Ad (Z1 hi ?_);refine Aa.seq ?_;refine Aa.BQ [(0,.free),(1,.read),(2,.free),(3,.free),(4,.free),(6,.free),(7,.free),(8,.free),(9,.free),(5,.read),(10,.read),(11,.read),(12,.free),(13,.free),(14,.free),(15,.free),(16,.free),(17,.read),(18,.free),(19,.free),(20,.free),(21,.free),(22,.free),(23,.free),(24,.read),(25,.free),(26,.free),(27,.free)] mixed (by kernel_rfl) ?_;refine Z1 hi ?_;refine Ao ?_;refine Ap (fun g2=>?_) (fun g2=>?_);have d2:=An g2;refine Z2 hi g2 ?_;refine Aa.Ar rfl ?_;refine Aa.Ad (Z2 hi g2 ?_);refine Aa.ret (Z2 hi g2 ?_);exact Ae rfl (Z2 hi g2 trivial);have d2:=Aj g2
  (exfalso; omega)
 rcases Int.lt_or_le a.code w.codes.length with hhi | hhi
 ·have hi:AH w.codes.length a.code = true:=by simp [AH]; omega
  have h9:=FH (l:=w.codes) (i:=a.code.toNat) (by omega);have h8:(0 <= a.code) = True:=eq_true hlo;have h7:(a.code < (w.codes.length:Int)) = True:=eq_true hhi
  cases ho:Bi w a.holder <;> simp only [ho] at h0
  ·refine Ag.intro func101 (by decide) rfl (Zs hi h9 h8 h7 ?_)
   refine Aa.Ad (Z4 hi h9 h8 h7 ?_);refine Aa.seq ?_;refine Aa.BQ [(0,.free),(1,.read),(2,.free),(3,.free),(4,.free),(6,.free),(7,.free),(8,.free),(9,.free),(5,.read),(10,.read),(11,.read),(12,.free),(13,.free),(14,.free),(15,.free),(16,.free),(17,.read),(18,.free),(19,.free),(20,.free),(21,.free),(22,.free),(23,.free),(24,.read),(25,.free),(26,.free),(27,.free)] mixed (by kernel_rfl) ?_;refine Z4 hi h9 h8 h7 ?_;refine Ao ?_;refine Ap (fun g10=>?_) (fun g10=>?_);have d10:=An g10
   (exfalso; omega)
   have d10:=Aj g10;refine Z5 hi h9 h8 h7 g10 ?_;refine Ao (Ao (Ao ?_));refine And.intro (by trivial) ?_;refine Ap (fun g11=>?_) (fun g11=>?_);have d11:=An g11
   (exfalso; omega)
   have d11:=Aj g11;refine Z6 hi h9 h8 h7 g10 g11 ?_;refine Ao ?_;refine AI.go (h1) rfl (Z6 hi h9 h8 h7 g10 g11 ?_);refine Ap (fun g12=>?_) (fun g12=>?_);refine Z7 hi h9 h8 h7 g10 g11 g12 ?_;refine Aa.Ar rfl ?_;refine Aa.Ad (Z7 hi h9 h8 h7 g10 g11 g12 ?_);refine Aa.ret (Z7 hi h9 h8 h7 g10 g11 g12 ?_);refine Ae rfl ?_;simp only [hi,ho,Bool.true_and,Bool.false_and,g10,g11,g12,bo,↓reduceIte];refine Z7 hi h9 h8 h7 g10 g11 g12 ?_;refine Ao ?_;refine AI.go (h0) rfl (Z7 hi h9 h8 h7 g10 g11 g12 ?_);refine Aa.Ar rfl ?_;refine Aa.Ad (Z7 hi h9 h8 h7 g10 g11 g12 ?_);refine Aa.ret (Z7 hi h9 h8 h7 g10 g11 g12 ?_);refine Ae rfl ?_;simp only [hi,ho,Bool.true_and,Bool.false_and,g10,g11,g12,bo,↓reduceIte]
  ·refine Ag.intro func101 (by decide) rfl (Zs hi h9 h8 h7 ?_)
   refine Aa.Ad (Z4 hi h9 h8 h7 ?_);refine Aa.seq ?_;refine Aa.BQ [(0,.free),(1,.read),(2,.free),(3,.free),(4,.free),(6,.free),(7,.free),(8,.free),(9,.free),(5,.read),(10,.read),(11,.read),(12,.free),(13,.free),(14,.free),(15,.free),(16,.free),(17,.read),(18,.free),(19,.free),(20,.free),(21,.free),(22,.free),(23,.free),(24,.read),(25,.free),(26,.free),(27,.free)] mixed (by kernel_rfl) ?_;refine Z4 hi h9 h8 h7 ?_;refine Ao ?_;refine Ap (fun g10=>?_) (fun g10=>?_);have d10:=An g10
   (exfalso; omega)
   have d10:=Aj g10;refine Z5 hi h9 h8 h7 g10 ?_;refine Ao (Ao (Ao ?_));refine And.intro (by trivial) ?_;refine Ap (fun g11=>?_) (fun g11=>?_);have d11:=An g11
   (exfalso; omega)
   have d11:=Aj g11;refine Z6 hi h9 h8 h7 g10 g11 ?_;refine Ao ?_;refine AI.go (h1) rfl (Z6 hi h9 h8 h7 g10 g11 ?_);refine Ap (fun g12=>?_) (fun g12=>?_);refine Z7 hi h9 h8 h7 g10 g11 g12 ?_;refine Aa.Ar rfl ?_;refine Aa.Ad (Z7 hi h9 h8 h7 g10 g11 g12 ?_);refine Aa.ret (Z7 hi h9 h8 h7 g10 g11 g12 ?_);refine Ae rfl ?_;rotate_left;refine Z7 hi h9 h8 h7 g10 g11 g12 ?_;refine Ao ?_;refine AI.go (h0) rfl (Z7 hi h9 h8 h7 g10 g11 g12 ?_);refine Aa.Ax rfl ?_;refine Aa.skip (Z7 hi h9 h8 h7 g10 g11 g12 ?_);refine Aa.BQ [(0,.free),(3,.free),(4,.free),(5,.free),(6,.free),(8,.free),(1,.read),(2,.read),(7,.read),(9,.read),(10,.read),(11,.free),(12,.read),(13,.read),(14,.free),(15,.free),(16,.free),(17,.free),(18,.read),(19,.free),(20,.free),(21,.free),(22,.free),(23,.free),(25,.free),(24,.read),(26,.read),(27,.free),(28,.free),(29,.free)] mixed (by kernel_rfl) ?_;refine Z7 hi h9 h8 h7 g10 g11 g12 ?_;refine Ao (Ao (Ao (Ao ?_)));refine And.intro (by trivial) ?_;refine Ao ?_;refine And.intro (by trivial) ?_;refine Ap (fun g13=>?_) (fun g13=>?_);have d13:=AB g13;refine Z8 hi h9 h8 h7 g10 g11 g12 g13 ?_;refine Ao ?_;refine AI.go (c98 w a.vars ha.vars ha.vs) rfl (Z8 hi h9 h8 h7 g10 g11 g12 g13 ?_);refine Ap (fun g14=>?_) (fun g14=>?_);refine Z9 hi h9 h8 h7 g10 g11 g12 g13 g14 ?_;refine Ao (Ao ?_);refine AI.go (ajz w a.code a.up hw ⟨hlo,hhi⟩) rfl (Z9 hi h9 h8 h7 g10 g11 g12 g13 g14 ?_);refine Aa.ret (Z9 hi h9 h8 h7 g10 g11 g12 g13 g14 ?_)
   refine Ae rfl ?_;rotate_left;refine Z9 hi h9 h8 h7 g10 g11 g12 g13 g14 ?_;refine Aa.ret (Z9 hi h9 h8 h7 g10 g11 g12 g13 g14 ?_);refine Ae rfl ?_;simp only [hi,ho,Bool.true_and,Bool.false_and,g10,g11,g12,g13,g14,bo,↓reduceIte];have d13:=Aq g13;refine Z8 hi h9 h8 h7 g10 g11 g12 g13 ?_;refine Aa.ret (Z8 hi h9 h8 h7 g10 g11 g12 g13 ?_);refine Ae rfl ?_;simp only [hi,ho,Bool.true_and,Bool.false_and,g10,g11,g12,g13,bo,↓reduceIte]
   ·rw [show GQ w a.self = false by simpa using g12,Bool.false_and]
   ·rw [show GQ w a.self = true by simpa using g12,Bool.true_and]
 ·have hi:AH w.codes.length a.code = false:=by simp [AH]; omega
  refine Ag.intro func101 (by decide) rfl (D5 hi ?_);refine Aa.Ad (Z1 hi ?_);refine Aa.seq ?_;refine Aa.BQ [(0,.free),(1,.read),(2,.free),(3,.free),(4,.free),(6,.free),(7,.free),(8,.free),(9,.free),(5,.read),(10,.read),(11,.read),(12,.free),(13,.free),(14,.free),(15,.free),(16,.free),(17,.read),(18,.free),(19,.free),(20,.free),(21,.free),(22,.free),(23,.free),(24,.read),(25,.free),(26,.free),(27,.free)] mixed (by kernel_rfl) ?_;refine Z1 hi ?_;refine Ao ?_;refine Ap (fun g2=>?_) (fun g2=>?_);have d2:=An g2
  (exfalso; omega)
  have d2:=Aj g2;refine Z2 hi g2 ?_;refine Ao (Ao (Ao ?_));refine And.intro (by trivial) ?_;refine Ap (fun g3=>?_) (fun g3=>?_);have d3:=An g3;refine Z3 hi g2 g3 ?_;refine Aa.Ar rfl ?_;refine Aa.Ad (Z3 hi g2 g3 ?_);refine Aa.ret (Z3 hi g2 g3 ?_);exact Ae rfl (Z3 hi g2 g3 trivial);have d3:=Aj g3
  (exfalso; omega)
end
section
attribute [local go_sem] NK Cy ntmps100
theorem ajb (w:Wd) (a:Ac) (ha:UN a) (hw:w.acts.length <= 1048576):Af prog 100 [NK a,.cptr [DI w]] (· = .val (.bool (!V0 w a))):=by
 refine Ag.intro func100 (by decide) rfl (Bj ?_);refine Aa.Ad (Z0 ?_);refine Aa.Ad (Z0 ?_);refine Af.eq (aio w a ha hw) rfl (Z0 ?_);refine Aa.ret (Z0 ?_);exact Ae rfl (Z0 trivial)
end
end Go.Proofs.Tryz

namespace Go.Proofs.Tryz
open Go.PM
attribute [local irreducible] BM BP Bq Ci AU AO Az
theorem M7 (place:Nat -> Option (Nat × Nat)) (cells:List AV) (K:List AV -> Prop):Gy place cells [] K = K cells:=rfl
theorem Ll (place:Nat -> Option (Nat × Nat)) (cells:List AV) (i:Nat) (x:AV) (rest:List (Nat × AV)) (K:List AV -> Prop):Gy place cells ((i,x) :: rest) K = match place i with
  | some (off,size)=>x.cells.length = size /\ Ec x.cells = true /\ off + size <= cells.length /\ Gy place (putAt cells off x.cells) rest K
  | none=>False:=rfl
theorem afE:AM prog 213 = true:=by kernel_rfl
def KR:List AV:=[.val .nilFunc,.val (.int .i64 0),.val .nilFunc,.fn 198 [],.val (.int .i64 1),.fn 199 [],.fn 198 [],.val (.int .i64 1),.fn 201 [],.fn 202 [],.val (.int .i64 1),.fn 203 [],.fn 197 [],.val (.int .i64 1),.fn 205 [],.fn 197 [],.val (.int .i64 1),.fn 206 [],.fn 207 [],.val (.int .i64 1),.fn 208 [],
 .fn 198 [],.val (.int .i64 1),.fn 210 [],.fn 211 [],.val (.int .i64 0),.fn 201 [],.fn 211 [],.val (.int .i64 0),.fn 201 [],.fn 211 [],.val (.int .i64 0),.fn 212 []]
section
attribute [local go_sem] Ea placeOf afE M7 Ll underlying213 KR ntmps159
theorem c159:Af prog 159 [] (· = .agg KR):=by
 refine Ag.intro func159 (by decide) rfl (Bj ?_);refine Aa.Ad (Z0 ?_);refine Aa.Ad (Z0 ?_);refine Aa.Ad (Z0 ?_);refine Aa.ret (Z0 ?_);exact Ae rfl (Z0 trivial)
end
theorem agt:WideMaps.KeyLaw prog 28:=Go.deep_law (m:=20) (by decide) agQ (by kernel_rfl) (by kernel_rfl)
theorem abe (d:Nat) (v:Vl) (h:Cm v):prog.keyLits (d + 2) 28 [.int .i64 v.k,.int .i64 v.n,.string (Ak v.t)] = some (YQ v):=by
 have w:∀ n:Int,Cn n -> (Lit.int .i64 n).wf = true:=by
  intro n hn;simp [Lit.wf,IntKind.min,IntKind.max,IntKind.signed,IntKind.bits];unfold Cn at hn;omega
 have u3:∀ (d:Nat) (n:Int),Cn n -> prog.keyLits (d + 1) 3 [.int .i64 n] = some [.int .i64 n]:=by
  intro d n hn;simp only [Program.keyLits,underlying3,w n hn,and_self,if_true]
 have u9:∀ (d:Nat) (l:List UInt8),l.length <= maxLen -> prog.keyLits (d + 1) 9 [.string (Ak l)] = some [.string l]:=by
  intro d l hl;have:(Ak l).size <= maxLen:=hl;simp only [Program.keyLits,underlying9,this,if_true];rfl
 have hl:v.t.length <= maxLen:=by have:=h.t; unfold maxLen; omega
 unfold Program.keyLits;simp [underlying28,ad4,co3,co9,u3 d _ h.k,u3 d _ h.n,u9 d _ hl,YQ]
theorem afG:prog.keyType 28 = true:=by kernel_rfl
theorem ts2:∃ d,prog.types.size + 1 = d + 2:=⟨389 + 1,by kernel_rfl⟩
theorem Ze (v:Vl) (h:Cm v):S4 prog 28 (Cy v):=by
 refine ⟨[.int .i64 v.k,.int .i64 v.n,.string (Ak v.t)],.string (keyBytes (YQ v)),rfl,?_,?_⟩
 ·intro x hx
  simp only [List.mem_cons,List.not_mem_nil,or_false] at hx
  rcases hx with rfl | rfl | rfl <;> rfl
 ·have hf:(Value.agg #[.int .i64 v.k,.int .i64 v.n,.string (Ak v.t)]).formed prog 28 = true:=by
   simp only [Value.formed,underlying28,ad4];rfl
  obtain ⟨d,hd⟩:=ts2;have hl:=abe d v h;rw [<- hd] at hl;unfold keyOf;simp only [underlying28]
  show (if (prog.keyType 28 && _) = true then _ else _) = _
  rw [afG,hf];simp only [Bool.and_self,if_true]
  show (prog.keyLits (prog.types.size + 1) 28 [.int .i64 v.k,.int .i64 v.n,.string (Ak v.t)]).map _ = _
  rw [hl];rfl
theorem Tx:∀ x y:Vl,Cy x = Cy y -> x = y:=by
 intro x y h;obtain ⟨a,b,c⟩:=x;obtain ⟨a',b',c'⟩:=y;simp only [Cy,AV.agg.injEq,List.cons.injEq,AV.val.injEq,Value.int.injEq,Value.string.injEq,true_and,and_true] at h;obtain ⟨rfl,rfl,h⟩:=h;rw [PC h]
theorem YR (l:List Vl) (v:AV) (a:Vl) (hl:∀ x ∈ l,Cm x) (ha:Cm a):GA prog 28 (Bx Cy v l) (Cy a):=by
 refine ⟨_,_,_,rfl,.inr ⟨agt,?_⟩⟩;intro k hk
 rcases List.mem_cons.1 hk with rfl | hk
 ·exact Ze a ha
 ·simp only [List.map_map,List.mem_map] at hk
  obtain ⟨x,hx,rfl⟩:=hk;exact Ze x (hl x hx)
theorem ZF (l:List Vl) (a:Vl):D2 (Bx Cy (.val (.bool true)) l) (Cy a) (.val (.bool false)) = .val (.bool (Hk a l)):=by
 have:=Ik (k:=Cy) (v:=.val (.bool true)) (z:=.val (.bool false)) (l:=l) (a:=a) Tx;rw [this]
 split <;> rename_i h <;> simp [Hk,h]
theorem ZP (v:Vl):AV.agg [.val (.int .i64 v.k),.val (.int .i64 v.n),.val (.string (Ak v.t))] = Cy v:=rfl
section
attribute [local go_sem] B1 ZP ZF ntmps162
theorem c162 (l:List Vl) (hl:l.length <= 1048576) (hv:∀ v ∈ l,Cm v):Af prog 162 [.sl false (Pe l)] (· = .val (.bool (Jf l))):=by
 refine Ag.intro func162 (by decide) rfl (Bj ?_);refine Aa.Ad (Z0 ?_);refine Aa.Ad (Z0 ?_);refine Aa.seq ?_;refine Aa.Ad (Z0 ?_);refine Aa.block ?_;refine Aa.A0 (fun i:Nat=>[(9,.val (.int .i64 (i:Nat)))]) [8,7,3] (fun i:Nat=>[Bx Cy (.val (.bool true)) (l.take i)]) (fun i:Nat=>i <= l.length /\ (l.take i).Nodup) (fun i:Nat=>l.length - i) (0) ?_ rfl ?_ ?_;exact ⟨Nat.zero_le _,List.nodup_nil⟩;refine ⟨rfl,?_,?_,rfl,?_⟩;refine C1 ?_;trivial;refine C1 ?_;exact .inr ⟨rfl,rfl⟩;exact C1 trivial;rintro i hj;obtain ⟨hi,hn⟩:=hj;refine Z0 ?_;refine Aa.Ad (Z0 ?_);refine Aa.seq (Aa.cond rfl (fun g1=>?_) (fun g1=>?_));have d1:=An g1;refine Aa.skip (Z1 g1 ?_);refine Aa.seq (Aa.block ?_);refine Aa.Ad (Z1 g1 ?_);refine Ao ?_;refine And.intro (by assumption) ?_;simp -implicitDefEqProofs (dsimp:=false) (disch:=omega) only [i64_in,gd];refine Z1 g1 ?_;refine Aa.seq ?_;refine Aa.Ad (Z1 g1 ?_);constructor;rotate_left;refine Aa.cond rfl (fun g2=>?_) (fun g2=>?_);refine Aa.Ad (Z2 g1 g2 ?_);refine Aa.ret (Z2 g1 g2 ?_);refine Ae rfl ?_;exact PF (by assumption) (by omega);refine Aa.skip (Z2 g1 g2 ?_);refine Aa.region (Z2 g1 g2 ?_);constructor;rotate_left;refine Aa.region (Z2 g1 g2 ?_);refine Bd ?_;refine ⟨i + 1,?_⟩;constructor;constructor;omega;exact LJ (by assumption) (by assumption) (by omega);constructor;omega;refine ⟨rfl,?_,?_,rfl,?_⟩;refine Cv g1 g2 ?_;trivial;refine Cv g1 g2 ?_;exact S2 Tx _ rfl (by assumption) (by omega);exact Cv g1 g2 trivial;have d1:=Aj g1
 refine Aa.exit (Z1 g1 ?_);refine Aa.Ad (Z1 g1 ?_);refine Aa.ret (Z1 g1 ?_);refine Ae rfl ?_;exact Nv (by assumption) (by omega)
 all_goals try exact YR _ _ _ (fun x hx=>hv x (List.mem_of_mem_take hx)) (hv _ (Bs (by omega)))
end
section
attribute [local go_sem] ntmps160
theorem c160 (es:List AV) (f:Bool) (i:Int) (h:es.length <= 1000000):Af prog 160 [.sl f es,.val (.int .i64 i)] (· = .val (.bool (AH es.length i))):=by
 refine Ag.intro func160 (by decide) rfl (Bj ?_);refine Aa.Ad (Z0 ?_);refine Aa.Ad (Z0 ?_);refine Ap (fun g1=>?_) (fun g1=>?_);have d1:=An g1;refine Z1 g1 ?_;refine Aa.ret (Z1 g1 ?_);refine Ae rfl ?_;simp only [AH,Bool.true_and,Bool.false_and,g1,bo,↓reduceIte];have d1:=Aj g1;refine Z1 g1 ?_;refine Aa.ret (Z1 g1 ?_);refine Ae rfl ?_;simp only [AH,Bool.true_and,Bool.false_and,g1,bo,↓reduceIte]
end
end Go.Proofs.Tryz

namespace Go.Proofs.Tryz
open Go.PM
attribute [local irreducible] BM BP Bq Ci AU AO Az
structure KV (o:Ob):Prop where
 slots:o.slots.length <= 1048576
 elems:o.elems.length <= 1048576
 es:∀ v ∈ o.elems,Cm v
 ss:∀ s ∈ o.slots,Cm s.v
def Ct (o:Ob):Bool:=o.code == 0 && o.up == 0
section
attribute [local go_sem] Du B1 ntmps165
theorem aiJ (w:Wd) (o:Ob):Af prog 165 [DI w,Du o] (· = .val (.bool (Ct o && (o.elems.length:Int) == 0))):=by
 refine Ag.intro func165 (by decide) rfl (Bj ?_);refine Aa.Ad (Z0 ?_);refine Aa.Ad (Z0 ?_);refine Af.eq (ZC o) rfl (Z0 ?_);refine Ap (fun g2=>?_) (fun g2=>?_);refine Z1 g2 ?_;refine Ao ?_;refine Aa.ret (Z1 g2 ?_);refine Ae rfl ?_;simp only [Ct,Bool.true_and,Bool.false_and,g2,bo,↓reduceIte];refine Z1 g2 ?_;refine Aa.ret (Z1 g2 ?_);refine Ae rfl ?_;simp only [Ct,Bool.true_and,Bool.false_and,g2,bo,↓reduceIte]
end
section
attribute [local go_sem] Du B1 ntmps167
theorem c167 (w:Wd) (o:Ob) (ho:KV o):Af prog 167 [DI w,Du o] (· = .val (.bool (Ct o && (decide ((o.elems.length:Int) <= 400) && Ls w o.elems)))):=by
 refine Ag.intro func167 (by decide) rfl (Bj ?_);refine Aa.Ad (Z0 ?_);refine Aa.Ad (Z0 ?_);refine Af.eq (ZC o) rfl (Z0 ?_);refine Ap (fun g2=>?_) (fun g2=>?_);refine Z1 g2 ?_;refine Ao ?_;refine Ap (fun g3=>?_) (fun g3=>?_);have d3:=An g3;refine Z2 g2 g3 ?_;refine Ao ?_;refine Af.eq (c98 w o.elems ho.elems ho.es) rfl (Z2 g2 g3 ?_);refine Aa.ret (Z2 g2 g3 ?_);refine Ae rfl ?_;simp only [Ct,Bool.true_and,Bool.false_and,g2,g3,bo,↓reduceIte];have d3:=Aj g3;refine Z2 g2 g3 ?_;refine Aa.ret (Z2 g2 g3 ?_);refine Ae rfl ?_;simp only [Ct,Bool.true_and,Bool.false_and,g2,g3,bo,↓reduceIte];refine Z1 g2 ?_;refine Aa.ret (Z1 g2 ?_);refine Ae rfl ?_;simp only [Ct,Bool.true_and,Bool.false_and,g2,bo,↓reduceIte]
end
section
attribute [local go_sem] Du B1 ntmps169
theorem aiu (w:Wd) (o:Ob) (ho:KV o):Af prog 169 [DI w,Du o] (· = .val (.bool (Ct o && ((o.elems.length:Int) == 1 && Ls w o.elems)))):=by
 refine Ag.intro func169 (by decide) rfl (Bj ?_);refine Aa.Ad (Z0 ?_);refine Aa.Ad (Z0 ?_);refine Af.eq (ZC o) rfl (Z0 ?_);refine Ap (fun g2=>?_) (fun g2=>?_);refine Z1 g2 ?_;refine Ao ?_;refine Ap (fun g3=>?_) (fun g3=>?_);have d3:=AB g3;refine Z2 g2 g3 ?_;refine Ao ?_;refine Af.eq (c98 w o.elems ho.elems ho.es) rfl (Z2 g2 g3 ?_);refine Aa.ret (Z2 g2 g3 ?_);refine Ae rfl ?_;simp only [Ct,Bool.true_and,Bool.false_and,g2,g3,bo,↓reduceIte];have d3:=Aq g3;refine Z2 g2 g3 ?_;refine Aa.ret (Z2 g2 g3 ?_);refine Ae rfl ?_;simp only [Ct,Bool.true_and,Bool.false_and,g2,g3,bo,↓reduceIte];refine Z1 g2 ?_;refine Aa.ret (Z1 g2 ?_);refine Ae rfl ?_;simp only [Ct,Bool.true_and,Bool.false_and,g2,bo,↓reduceIte]
end
def KW (v:Vl):Bool:=v.k == 1 && (v.t == [] && (decide (v.n >= 0) && decide (v.n <= 1099511627776)))
section
attribute [local go_sem] Du B1 Cy ntmps170
theorem ahW (w:Wd) (o:Ob):Af prog 170 [DI w,Du o] (· = .val (.bool (Ct o && ((o.elems.length:Int) == 1 && KW (o.elems.getD 0 default))))):=by
 refine Ag.intro func170 (by decide) rfl (Bj ?_);refine Aa.Ad (Z0 ?_);refine Aa.Ad (Z0 ?_);refine Af.eq (ZC o) rfl (Z0 ?_);refine Ap (fun g2=>?_) (fun g2=>?_);refine Z1 g2 ?_;refine Ao ?_;refine Ap (fun g3=>?_) (fun g3=>?_);have d3:=AB g3;refine Z2 g2 g3 ?_;refine Ao (Ao ?_);simp -implicitDefEqProofs (dsimp:=false) (disch:=omega) only [i64_in,gd];refine Z2 g2 g3 ?_;refine Af.eq (c171 (o.elems.getD 0 default)) rfl (Z2 g2 g3 ?_);refine Aa.ret (Z2 g2 g3 ?_);refine Ae rfl ?_;simp only [Ct,KW,Bool.true_and,Bool.false_and,g2,g3,bo,↓reduceIte];have d3:=Aq g3;refine Z2 g2 g3 ?_;refine Aa.ret (Z2 g2 g3 ?_);refine Ae rfl ?_;simp only [Ct,KW,Bool.true_and,Bool.false_and,g2,g3,bo,↓reduceIte];refine Z1 g2 ?_;refine Aa.ret (Z1 g2 ?_);refine Ae rfl ?_;simp only [Ct,KW,Bool.true_and,Bool.false_and,g2,bo,↓reduceIte]
end
noncomputable def Rn (w:Wd) (o:Ob):Bool :=
 decide (o.elems.length = 0) && (AH w.codes.length o.code && ((w.codes.getD o.code.toNat default).block && (Pd w.acts o.up && (w.acts.getD (XF w.acts o.up) default).code == (w.codes.getD o.code.toNat default).outer)))
section
attribute [local go_sem] DI Du B1 Cl ntmps168 SS O0 NK LO F1 underlying221
theorem c168 (w:Wd) (o:Ob) (hw:w.acts.length <= 1048576):Af prog 168 [DI w,Du o] (· = .val (.bool (Rn w o))):=by
 have h0:=c164 w o.up hw;unfold aae at h0;unfold Rn
 rcases Int.lt_or_le o.code 0 with hlo | hlo
 ·have hi:AH w.codes.length o.code = false:=by simp [AH]; omega
  refine Ag.intro func168 (by decide) rfl (D5 hi ?_);refine Aa.Ad (Z1 hi ?_);refine Aa.seq ?_;refine Aa.BQ [(0,.free),(1,.read),(2,.read),(3,.free),(4,.free),(5,.free),(6,.read),(7,.free),(8,.free),(9,.free),(10,.free),(12,.free),(13,.free),(14,.free),(15,.free),(11,.read),(16,.read),(17,.read),(18,.free),(19,.free),(20,.free),(21,.free),(22,.free),(23,.free),(24,.free),(26,.free),(25,.read),(27,.read),(28,.read),(29,.free),(30,.read),(31,.free),(32,.free)] mixed (by kernel_rfl) ?_;refine Az.cut [(0,.free),(1,.read),(2,.read),(3,.free),(4,.free),(5,.free),(6,.read),(7,.free)] [(8,.free),(9,.free),(10,.free),(12,.free),(13,.free),(14,.free),(15,.free),(11,.read),(16,.read),(17,.read),(18,.free),(19,.free),(20,.free),(21,.free),(22,.free),(23,.free),(24,.free),(26,.free),(25,.read),(27,.read),(28,.read),(29,.free),(30,.read),(31,.free),(32,.free)] rfl ?_;refine Z1 hi ?_;refine Ao ?_;refine And.intro (by trivial) ?_;refine Ap (fun g1=>?_) (fun g1=>?_);have d1:=An g1;refine Z2 hi g1 ?_;refine Au.mk ?_;refine Az.cut [(8,.free),(9,.free),(10,.free),(12,.free),(13,.free),(14,.free),(15,.free),(11,.read)] [(16,.read),(17,.read),(18,.free),(19,.free),(20,.free),(21,.free),(22,.free),(23,.free),(24,.free),(26,.free),(25,.read),(27,.read),(28,.read),(29,.free),(30,.read),(31,.free),(32,.free)] rfl (Z2 hi g1 ?_)
  refine Au.mk ?_;refine Az.cut [(16,.read),(17,.read),(18,.free),(19,.free),(20,.free),(21,.free),(22,.free),(23,.free)] [(24,.free),(26,.free),(25,.read),(27,.read),(28,.read),(29,.free),(30,.read),(31,.free),(32,.free)] rfl (Z2 hi g1 ?_);refine Au.mk (Z2 hi g1 ?_);refine Aa.Ar rfl ?_;refine Aa.Ad (Z2 hi g1 ?_);refine Aa.ret (Z2 hi g1 ?_);refine Ae rfl ?_;rotate_left;have d1:=Aj g1;refine Z2 hi g1 ?_;refine Ao ?_;refine Au.mk ?_;refine Az.cut [(8,.free),(9,.free),(10,.free),(12,.free),(13,.free),(14,.free),(15,.free),(11,.read)] [(16,.read),(17,.read),(18,.free),(19,.free),(20,.free),(21,.free),(22,.free),(23,.free),(24,.free),(26,.free),(25,.read),(27,.read),(28,.read),(29,.free),(30,.read),(31,.free),(32,.free)] rfl (Z2 hi g1 ?_);refine Ap (fun g2=>?_) (fun g2=>?_);have d2:=An g2;refine Z3 hi g1 g2 ?_;refine Au.mk ?_;refine Az.cut [(16,.read),(17,.read),(18,.free),(19,.free),(20,.free),(21,.free),(22,.free),(23,.free)] [(24,.free),(26,.free),(25,.read),(27,.read),(28,.read),(29,.free),(30,.read),(31,.free),(32,.free)] rfl (Z3 hi g1 g2 ?_);refine Au.mk (Z3 hi g1 g2 ?_);refine Aa.Ar rfl ?_;refine Aa.Ad (Z3 hi g1 g2 ?_);refine Aa.ret (Z3 hi g1 g2 ?_);refine Ae rfl ?_;rotate_left;have d2:=Aj g2
  (exfalso; omega)
  all_goals simp [hi]
 rcases Int.lt_or_le o.code w.codes.length with hhi | hhi
 ·have hi:AH w.codes.length o.code = true:=by simp [AH]; omega
  have h9:=FH (l:=w.codes) (i:=o.code.toNat) (by omega);have h8:(0 <= o.code) = True:=eq_true hlo;have h7:(o.code < (w.codes.length:Int)) = True:=eq_true hhi
  cases ho:Pd w.acts o.up <;> simp only [ho,Bool.false_eq_true,if_true,if_false] at h0
  ·refine Ag.intro func168 (by decide) rfl (Zs hi h9 h8 h7 ?_)
   refine Aa.Ad (Z4 hi h9 h8 h7 ?_);refine Aa.seq ?_;refine Aa.BQ [(0,.free),(1,.read),(2,.read),(3,.free),(4,.free),(5,.free),(6,.read),(7,.free),(8,.free),(9,.free),(10,.free),(12,.free),(13,.free),(14,.free),(15,.free),(11,.read),(16,.read),(17,.read),(18,.free),(19,.free),(20,.free),(21,.free),(22,.free),(23,.free),(24,.free),(26,.free),(25,.read),(27,.read),(28,.read),(29,.free),(30,.read),(31,.free),(32,.free)] mixed (by kernel_rfl) ?_;refine Az.cut [(0,.free),(1,.read),(2,.read),(3,.free),(4,.free),(5,.free),(6,.read),(7,.free)] [(8,.free),(9,.free),(10,.free),(12,.free),(13,.free),(14,.free),(15,.free),(11,.read),(16,.read),(17,.read),(18,.free),(19,.free),(20,.free),(21,.free),(22,.free),(23,.free),(24,.free),(26,.free),(25,.read),(27,.read),(28,.read),(29,.free),(30,.read),(31,.free),(32,.free)] rfl ?_;refine Z4 hi h9 h8 h7 ?_;refine Ao ?_;refine And.intro (by trivial) ?_;refine Ap (fun g10=>?_) (fun g10=>?_);have d10:=An g10;refine Z5 hi h9 h8 h7 g10 ?_;refine Au.mk ?_;refine Az.cut [(8,.free),(9,.free),(10,.free),(12,.free),(13,.free),(14,.free),(15,.free),(11,.read)] [(16,.read),(17,.read),(18,.free),(19,.free),(20,.free),(21,.free),(22,.free),(23,.free),(24,.free),(26,.free),(25,.read),(27,.read),(28,.read),(29,.free),(30,.read),(31,.free),(32,.free)] rfl (Z5 hi h9 h8 h7 g10 ?_);refine Au.mk ?_
   refine Az.cut [(16,.read),(17,.read),(18,.free),(19,.free),(20,.free),(21,.free),(22,.free),(23,.free)] [(24,.free),(26,.free),(25,.read),(27,.read),(28,.read),(29,.free),(30,.read),(31,.free),(32,.free)] rfl (Z5 hi h9 h8 h7 g10 ?_);refine Au.mk (Z5 hi h9 h8 h7 g10 ?_);refine Aa.Ar rfl ?_;refine Aa.Ad (Z5 hi h9 h8 h7 g10 ?_);refine Aa.ret (Z5 hi h9 h8 h7 g10 ?_);refine Ae rfl ?_;rotate_left;have d10:=Aj g10;refine Z5 hi h9 h8 h7 g10 ?_;refine Ao ?_;refine Au.mk ?_;refine Az.cut [(8,.free),(9,.free),(10,.free),(12,.free),(13,.free),(14,.free),(15,.free),(11,.read)] [(16,.read),(17,.read),(18,.free),(19,.free),(20,.free),(21,.free),(22,.free),(23,.free),(24,.free),(26,.free),(25,.read),(27,.read),(28,.read),(29,.free),(30,.read),(31,.free),(32,.free)] rfl (Z5 hi h9 h8 h7 g10 ?_);refine Ap (fun g11=>?_) (fun g11=>?_);have d11:=An g11
   (exfalso; omega)
   have d11:=Aj g11;refine Z6 hi h9 h8 h7 g10 g11 ?_;refine Ao (Ao (Ao ?_));refine Au.mk ?_;refine Az.cut [(16,.read),(17,.read),(18,.free),(19,.free),(20,.free),(21,.free),(22,.free),(23,.free)] [(24,.free),(26,.free),(25,.read),(27,.read),(28,.read),(29,.free),(30,.read),(31,.free),(32,.free)] rfl (Z6 hi h9 h8 h7 g10 g11 ?_);refine And.intro (by trivial) ?_;refine Ap (fun g12=>?_) (fun g12=>?_);have d12:=An g12
   (exfalso; omega)
   have d12:=Aj g12;refine Z7 hi h9 h8 h7 g10 g11 g12 ?_;refine Ao ?_;refine Au.mk (Z7 hi h9 h8 h7 g10 g11 g12 ?_);refine Ao (Ao (Ao ?_));refine Aa.cond rfl (fun g13=>?_) (fun g13=>?_);refine Aa.Ad (Z8 hi h9 h8 h7 g10 g11 g12 g13 ?_);refine Aa.ret (Z8 hi h9 h8 h7 g10 g11 g12 g13 ?_);refine Ae rfl ?_;rotate_left;refine Aa.skip (Z8 hi h9 h8 h7 g10 g11 g12 g13 ?_);refine Aa.Ad (Z8 hi h9 h8 h7 g10 g11 g12 g13 ?_);refine Ao ?_;refine Af.eq (h0) rfl (Z8 hi h9 h8 h7 g10 g11 g12 g13 ?_);refine Aa.BQ [(0,.free),(1,.free),(2,.free),(3,.free),(4,.free),(5,.free),(7,.free),(8,.free),(9,.free),(10,.free),(12,.free),(6,.read),(11,.read),(13,.read),(14,.read),(15,.free),(16,.read),(17,.free),(18,.free),(19,.free)] mixed (by kernel_rfl) (Z8 hi h9 h8 h7 g10 g11 g12 g13 ?_);refine Aa.ret (Z8 hi h9 h8 h7 g10 g11 g12 g13 ?_);refine Ae rfl ?_;rotate_left
   all_goals simp_all
  ·refine Ag.intro func168 (by decide) rfl (Zs hi h9 h8 h7 ?_)
   refine Aa.Ad (Z4 hi h9 h8 h7 ?_);refine Aa.seq ?_;refine Aa.BQ [(0,.free),(1,.read),(2,.read),(3,.free),(4,.free),(5,.free),(6,.read),(7,.free),(8,.free),(9,.free),(10,.free),(12,.free),(13,.free),(14,.free),(15,.free),(11,.read),(16,.read),(17,.read),(18,.free),(19,.free),(20,.free),(21,.free),(22,.free),(23,.free),(24,.free),(26,.free),(25,.read),(27,.read),(28,.read),(29,.free),(30,.read),(31,.free),(32,.free)] mixed (by kernel_rfl) ?_;refine Az.cut [(0,.free),(1,.read),(2,.read),(3,.free),(4,.free),(5,.free),(6,.read),(7,.free)] [(8,.free),(9,.free),(10,.free),(12,.free),(13,.free),(14,.free),(15,.free),(11,.read),(16,.read),(17,.read),(18,.free),(19,.free),(20,.free),(21,.free),(22,.free),(23,.free),(24,.free),(26,.free),(25,.read),(27,.read),(28,.read),(29,.free),(30,.read),(31,.free),(32,.free)] rfl ?_;refine Z4 hi h9 h8 h7 ?_;refine Ao ?_;refine And.intro (by trivial) ?_;refine Ap (fun g10=>?_) (fun g10=>?_);have d10:=An g10;refine Z5 hi h9 h8 h7 g10 ?_;refine Au.mk ?_;refine Az.cut [(8,.free),(9,.free),(10,.free),(12,.free),(13,.free),(14,.free),(15,.free),(11,.read)] [(16,.read),(17,.read),(18,.free),(19,.free),(20,.free),(21,.free),(22,.free),(23,.free),(24,.free),(26,.free),(25,.read),(27,.read),(28,.read),(29,.free),(30,.read),(31,.free),(32,.free)] rfl (Z5 hi h9 h8 h7 g10 ?_);refine Au.mk ?_
   refine Az.cut [(16,.read),(17,.read),(18,.free),(19,.free),(20,.free),(21,.free),(22,.free),(23,.free)] [(24,.free),(26,.free),(25,.read),(27,.read),(28,.read),(29,.free),(30,.read),(31,.free),(32,.free)] rfl (Z5 hi h9 h8 h7 g10 ?_);refine Au.mk (Z5 hi h9 h8 h7 g10 ?_);refine Aa.Ar rfl ?_;refine Aa.Ad (Z5 hi h9 h8 h7 g10 ?_);refine Aa.ret (Z5 hi h9 h8 h7 g10 ?_);refine Ae rfl ?_;rotate_left;have d10:=Aj g10;refine Z5 hi h9 h8 h7 g10 ?_;refine Ao ?_;refine Au.mk ?_;refine Az.cut [(8,.free),(9,.free),(10,.free),(12,.free),(13,.free),(14,.free),(15,.free),(11,.read)] [(16,.read),(17,.read),(18,.free),(19,.free),(20,.free),(21,.free),(22,.free),(23,.free),(24,.free),(26,.free),(25,.read),(27,.read),(28,.read),(29,.free),(30,.read),(31,.free),(32,.free)] rfl (Z5 hi h9 h8 h7 g10 ?_);refine Ap (fun g11=>?_) (fun g11=>?_);have d11:=An g11
   (exfalso; omega)
   have d11:=Aj g11;refine Z6 hi h9 h8 h7 g10 g11 ?_;refine Ao (Ao (Ao ?_));refine Au.mk ?_;refine Az.cut [(16,.read),(17,.read),(18,.free),(19,.free),(20,.free),(21,.free),(22,.free),(23,.free)] [(24,.free),(26,.free),(25,.read),(27,.read),(28,.read),(29,.free),(30,.read),(31,.free),(32,.free)] rfl (Z6 hi h9 h8 h7 g10 g11 ?_);refine And.intro (by trivial) ?_;refine Ap (fun g12=>?_) (fun g12=>?_);have d12:=An g12
   (exfalso; omega)
   have d12:=Aj g12;refine Z7 hi h9 h8 h7 g10 g11 g12 ?_;refine Ao ?_;refine Au.mk (Z7 hi h9 h8 h7 g10 g11 g12 ?_);refine Ao (Ao (Ao ?_));refine Aa.cond rfl (fun g13=>?_) (fun g13=>?_);refine Aa.Ad (Z8 hi h9 h8 h7 g10 g11 g12 g13 ?_);refine Aa.ret (Z8 hi h9 h8 h7 g10 g11 g12 g13 ?_);refine Ae rfl ?_;rotate_left;refine Aa.skip (Z8 hi h9 h8 h7 g10 g11 g12 g13 ?_);refine Aa.Ad (Z8 hi h9 h8 h7 g10 g11 g12 g13 ?_);refine Ao ?_;refine Af.eq (h0) rfl (Z8 hi h9 h8 h7 g10 g11 g12 g13 ?_);refine Aa.BQ [(0,.free),(1,.free),(2,.free),(3,.free),(4,.free),(5,.free),(7,.free),(8,.free),(9,.free),(10,.free),(12,.free),(6,.read),(11,.read),(13,.read),(14,.read),(15,.free),(16,.read),(17,.free),(18,.free),(19,.free)] mixed (by kernel_rfl) (Z8 hi h9 h8 h7 g10 g11 g12 g13 ?_);refine Ao (Ao (Ao (Ao (Ao ?_))));refine Aa.ret (Z8 hi h9 h8 h7 g10 g11 g12 g13 ?_);refine Ae rfl ?_;rotate_left
   ·rw [decide_eq_false (by omega:¬ o.elems.length = 0),Bool.false_and]
   ·have hb:(w.codes.getD o.code.toNat default).block = false:=by simpa using g13
    simp only [hi,hb,ho,Bool.false_and,Bool.and_false]
   ·have hb:(w.codes.getD o.code.toNat default).block = true:=by simpa using g13
    have he:o.elems.length = 0:=by have:=of_decide_eq_false g10; omega
    simp only [hi,hb,he,ho,Bool.true_and,decide_true]
 ·have hi:AH w.codes.length o.code = false:=by simp [AH]; omega
  refine Ag.intro func168 (by decide) rfl (D5 hi ?_);refine Aa.Ad (Z1 hi ?_);refine Aa.seq ?_;refine Aa.BQ [(0,.free),(1,.read),(2,.read),(3,.free),(4,.free),(5,.free),(6,.read),(7,.free),(8,.free),(9,.free),(10,.free),(12,.free),(13,.free),(14,.free),(15,.free),(11,.read),(16,.read),(17,.read),(18,.free),(19,.free),(20,.free),(21,.free),(22,.free),(23,.free),(24,.free),(26,.free),(25,.read),(27,.read),(28,.read),(29,.free),(30,.read),(31,.free),(32,.free)] mixed (by kernel_rfl) ?_;refine Az.cut [(0,.free),(1,.read),(2,.read),(3,.free),(4,.free),(5,.free),(6,.read),(7,.free)] [(8,.free),(9,.free),(10,.free),(12,.free),(13,.free),(14,.free),(15,.free),(11,.read),(16,.read),(17,.read),(18,.free),(19,.free),(20,.free),(21,.free),(22,.free),(23,.free),(24,.free),(26,.free),(25,.read),(27,.read),(28,.read),(29,.free),(30,.read),(31,.free),(32,.free)] rfl ?_;refine Z1 hi ?_;refine Ao ?_;refine And.intro (by trivial) ?_;refine Ap (fun g1=>?_) (fun g1=>?_);have d1:=An g1;refine Z2 hi g1 ?_;refine Au.mk ?_;refine Az.cut [(8,.free),(9,.free),(10,.free),(12,.free),(13,.free),(14,.free),(15,.free),(11,.read)] [(16,.read),(17,.read),(18,.free),(19,.free),(20,.free),(21,.free),(22,.free),(23,.free),(24,.free),(26,.free),(25,.read),(27,.read),(28,.read),(29,.free),(30,.read),(31,.free),(32,.free)] rfl (Z2 hi g1 ?_)
  refine Au.mk ?_;refine Az.cut [(16,.read),(17,.read),(18,.free),(19,.free),(20,.free),(21,.free),(22,.free),(23,.free)] [(24,.free),(26,.free),(25,.read),(27,.read),(28,.read),(29,.free),(30,.read),(31,.free),(32,.free)] rfl (Z2 hi g1 ?_);refine Au.mk (Z2 hi g1 ?_);refine Aa.Ar rfl ?_;refine Aa.Ad (Z2 hi g1 ?_);refine Aa.ret (Z2 hi g1 ?_);refine Ae rfl ?_;rotate_left;have d1:=Aj g1;refine Z2 hi g1 ?_;refine Ao ?_;refine Au.mk ?_;refine Az.cut [(8,.free),(9,.free),(10,.free),(12,.free),(13,.free),(14,.free),(15,.free),(11,.read)] [(16,.read),(17,.read),(18,.free),(19,.free),(20,.free),(21,.free),(22,.free),(23,.free),(24,.free),(26,.free),(25,.read),(27,.read),(28,.read),(29,.free),(30,.read),(31,.free),(32,.free)] rfl (Z2 hi g1 ?_);refine Ap (fun g2=>?_) (fun g2=>?_);have d2:=An g2
  (exfalso; omega)
  have d2:=Aj g2;refine Z3 hi g1 g2 ?_;refine Ao (Ao (Ao ?_));refine Au.mk ?_;refine Az.cut [(16,.read),(17,.read),(18,.free),(19,.free),(20,.free),(21,.free),(22,.free),(23,.free)] [(24,.free),(26,.free),(25,.read),(27,.read),(28,.read),(29,.free),(30,.read),(31,.free),(32,.free)] rfl (Z3 hi g1 g2 ?_);refine And.intro (by trivial) ?_;refine Ap (fun g3=>?_) (fun g3=>?_);have d3:=An g3;refine Z4 hi g1 g2 g3 ?_;refine Au.mk (Z4 hi g1 g2 g3 ?_);refine Aa.Ar rfl ?_;refine Aa.Ad (Z4 hi g1 g2 g3 ?_);refine Aa.ret (Z4 hi g1 g2 g3 ?_);refine Ae rfl ?_;rotate_left;have d3:=Aj g3
  (exfalso; omega)
  all_goals simp [hi]
end
theorem afI:AM prog 187 = true:=by kernel_rfl
section
attribute [local go_sem] Ea placeOf afI M7 Ll underlying187 ntmps130
theorem c130:Af prog 130 [] (· = .agg [.val .nilFunc,.fn 165 [],.fn 167 [],.fn 168 [],.fn 169 [],.fn 170 []]):=by
 refine Ag.intro func130 (by decide) rfl (Bj ?_);refine Aa.Ad (Z0 ?_);refine Aa.Ad (Z0 ?_);refine Aa.ret (Z0 ?_);exact Ae rfl (Z0 trivial)
end
section
attribute [local go_sem] H9 ntmps133
theorem ais (s t:HA):Af prog 133 [H9 t,.cptr (H9 s).cells] (· = .val (.bool (t.name == s.name))):=by
 refine Ag.intro func133 (by decide) rfl (Bj ?_);refine Aa.Ad (Z0 ?_);refine Aa.Ad (Z0 ?_);refine Ao (Ao ?_);refine Aa.ret (Z0 ?_);exact Ae rfl (Z0 trivial)
end
noncomputable def Fg (w:Wd) (o:Ob) (s:HA):Bool :=
 if (s.v.k == 5) = true then
  (s.kind == 1 && (s.v.t == [] && (AH w.codes.length s.v.n &&
   (if (w.codes.getD s.v.n.toNat default).block = true then (HY (w.codes.getD s.v.n.toNat default).args == 0 && (o.kind == 3 && (o.code == s.v.n && s.name == Lc (w.codes.getD s.v.n.toNat default).args)))
    else Bu s.name == (w.codes.getD s.v.n.toNat default).args))))
 else (decide (s.kind >= 1) && (decide (s.kind <= 4) && (Bu s.name == 0 && GQ w s.v)))
section
attribute [local go_sem] DI Du H9 Cy Cl ntmps131 SS O0
theorem c131 (w:Wd) (o:Ob) (s:HA) (hs:Cm s.v):Af prog 131 [DI w,Du o,H9 s] (· = .val (.bool (Fg w o s))):=by
 have h1:=c127 w s.v hs;unfold Fg
 cases hk:(s.v.k == 5) with
 | false =>
  have hk':(s.v.k != 5) = true:=by simp [bne,hk]
  refine Ag.intro func131 (by decide) rfl (D5 hk' ?_);refine Aa.Ad (Z1 hk' ?_);refine Aa.seq ?_;refine Aa.Ad (Z1 hk' ?_);refine Ao (Ao ?_);refine Aa.Ar rfl ?_;refine Aa.Ad (Z1 hk' ?_);refine Ao ?_;refine Ap (fun g2=>?_) (fun g2=>?_);have d2:=An g2;refine Z2 hk' g2 ?_;refine Ao ?_;refine Ap (fun g3=>?_) (fun g3=>?_);have d3:=An g3;refine Z3 hk' g2 g3 ?_;refine Ao ?_;refine Af.eq (c75 _) rfl (Z3 hk' g2 g3 ?_);refine Ap (fun g5=>?_) (fun g5=>?_);have d5:=AB g5;refine Z4 hk' g2 g3 g5 ?_;refine Ao ?_;refine Af.eq (h1) rfl (Z4 hk' g2 g3 g5 ?_);refine Aa.ret (Z4 hk' g2 g3 g5 ?_);exact Ae rfl (Z4 hk' g2 g3 g5 trivial);have d5:=Aq g5;refine Z4 hk' g2 g3 g5 ?_;refine Aa.ret (Z4 hk' g2 g3 g5 ?_);exact Ae rfl (Z4 hk' g2 g3 g5 trivial);have d3:=Aj g3;refine Z3 hk' g2 g3 ?_;refine Aa.ret (Z3 hk' g2 g3 ?_);exact Ae rfl (Z3 hk' g2 g3 trivial);have d2:=Aj g2;refine Z2 hk' g2 ?_;refine Aa.ret (Z2 hk' g2 ?_);exact Ae rfl (Z2 hk' g2 trivial)
 | true =>
  have hk':(s.v.k != 5) = false:=by simp [bne,hk]
  rcases Int.lt_or_le s.v.n 0 with hlo | hlo
  ·have hi:AH w.codes.length s.v.n = false:=by simp [AH]; omega
   refine Ag.intro func131 (by decide) rfl (D5 hk' ?_);refine Aa.Ad (Z1 hk' ?_);refine Aa.seq ?_;refine Aa.Ad (Z1 hk' ?_);refine Ao (Ao ?_);refine Aa.Ax rfl ?_;refine Aa.skip (Z1 hk' ?_);refine Aa.Ad (Z1 hk' ?_);refine Ao (Ao ?_);refine Aa.seq ?_;refine Aa.Ad (Z1 hk' ?_);refine Ao ?_;refine Ap (fun g2=>?_) (fun g2=>?_);have d2:=BT g2;refine Z2 hk' g2 ?_;refine Aa.Ar rfl ?_;refine Aa.Ad (Z2 hk' g2 ?_);refine Aa.ret (Z2 hk' g2 ?_);refine Ae rfl ?_;rotate_left;have d2:=Bt g2;refine Z2 hk' g2 ?_;refine Ao (Ao ?_);refine Ap (fun g3=>?_) (fun g3=>?_);refine Z3 hk' g2 g3 ?_;refine Aa.Ar rfl ?_;refine Aa.Ad (Z3 hk' g2 g3 ?_);refine Aa.ret (Z3 hk' g2 g3 ?_);refine Ae rfl ?_;rotate_left;refine Z3 hk' g2 g3 ?_;refine Ap (fun g4=>?_) (fun g4=>?_);have d4:=An g4;refine Z4 hk' g2 g3 g4 ?_;refine Aa.Ar rfl ?_;refine Aa.Ad (Z4 hk' g2 g3 g4 ?_);refine Aa.ret (Z4 hk' g2 g3 g4 ?_);refine Ae rfl ?_;rotate_left;have d4:=Aj g4
   (exfalso; omega)
   all_goals simp_all
  rcases Int.lt_or_le s.v.n w.codes.length with hhi | hhi
  ·have hi:AH w.codes.length s.v.n = true:=by simp [AH]; omega
   have h9:=FH (l:=w.codes) (i:=s.v.n.toNat) (by omega);have h8:(0 <= s.v.n) = True:=eq_true hlo;have h7:(s.v.n < (w.codes.length:Int)) = True:=eq_true hhi;refine Ag.intro func131 (by decide) rfl (Zs hk' h9 h8 h7 ?_);refine Aa.Ad (Z4 hk' h9 h8 h7 ?_);refine Aa.seq ?_;refine Aa.Ad (Z4 hk' h9 h8 h7 ?_);refine Ao (Ao ?_);refine Aa.Ax rfl ?_;refine Aa.skip (Z4 hk' h9 h8 h7 ?_);refine Aa.Ad (Z4 hk' h9 h8 h7 ?_);refine Ao (Ao ?_);refine Aa.seq ?_;refine Aa.Ad (Z4 hk' h9 h8 h7 ?_);refine Ao ?_;refine Ap (fun g10=>?_) (fun g10=>?_);have d10:=BT g10;refine Z5 hk' h9 h8 h7 g10 ?_;refine Aa.Ar rfl ?_;refine Aa.Ad (Z5 hk' h9 h8 h7 g10 ?_);refine Aa.ret (Z5 hk' h9 h8 h7 g10 ?_);refine Ae rfl ?_;rotate_left;have d10:=Bt g10;refine Z5 hk' h9 h8 h7 g10 ?_;refine Ao (Ao ?_);refine Ap (fun g11=>?_) (fun g11=>?_);refine Z6 hk' h9 h8 h7 g10 g11 ?_;refine Aa.Ar rfl ?_;refine Aa.Ad (Z6 hk' h9 h8 h7 g10 g11 ?_);refine Aa.ret (Z6 hk' h9 h8 h7 g10 g11 ?_);refine Ae rfl ?_;rotate_left;refine Z6 hk' h9 h8 h7 g10 g11 ?_;refine Ap (fun g12=>?_) (fun g12=>?_);have d12:=An g12
   (exfalso; omega)
   have d12:=Aj g12;refine Z7 hk' h9 h8 h7 g10 g11 g12 ?_;refine Ao (Ao ?_);refine Aa.cond rfl (fun g13=>?_) (fun g13=>?_);have d13:=An g13
   (exfalso; omega)
   have d13:=Aj g13;refine Aa.skip (Z8 hk' h9 h8 h7 g10 g11 g12 g13 ?_);refine Aa.seq ?_;refine Aa.Ad (Z8 hk' h9 h8 h7 g10 g11 g12 g13 ?_);refine Ao (Ao (Ao ?_));refine Aa.cond rfl (fun g14=>?_) (fun g14=>?_);refine Aa.BQ [(0,.free),(3,.free),(4,.free),(5,.free),(6,.free),(8,.free),(1,.read),(2,.free),(7,.read),(9,.read),(10,.free),(11,.read),(12,.free),(13,.free)] mixed (by kernel_rfl) (Z9 hk' h9 h8 h7 g10 g11 g12 g13 g14 ?_);refine Ao (Ao (Ao ?_));refine AI.go (c75 s.name) rfl (Z9 hk' h9 h8 h7 g10 g11 g12 g13 g14 ?_);refine Ao ?_;refine Aa.ret (Z9 hk' h9 h8 h7 g10 g11 g12 g13 g14 ?_);refine Ae rfl ?_;rotate_left;refine Aa.skip (Z9 hk' h9 h8 h7 g10 g11 g12 g13 g14 ?_);refine Aa.Ad (Z9 hk' h9 h8 h7 g10 g11 g12 g13 g14 ?_);refine Ao (Ao (Ao ?_));refine Af.eq (afh (w.codes.getD s.v.n.toNat default).args) rfl (Z9 hk' h9 h8 h7 g10 g11 g12 g13 g14 ?_);refine Aa.Ad (Z9 hk' h9 h8 h7 g10 g11 g12 g13 g14 ?_);refine Ap (fun g16=>?_) (fun g16=>?_);have d16:=AB g16;refine F5 hk' h9 h8 h7 g10 g11 g12 g13 g14 g16 ?_;refine Ao ?_;refine Ap (fun g17=>?_) (fun g17=>?_);have d17:=AB g17;refine OY hk' h9 h8 h7 g10 g11 g12 g13 g14 g16 g17 ?_;refine Ao ?_;refine Ap (fun g18=>?_) (fun g18=>?_);have d18:=AB g18;refine EI hk' h9 h8 h7 g10 g11 g12 g13 g14 g16 g17 g18 ?_;refine Ao ?_;refine Aa.ret (EI hk' h9 h8 h7 g10 g11 g12 g13 g14 g16 g17 g18 ?_);refine Ae rfl ?_;rotate_left;have d18:=Aq g18;refine EI hk' h9 h8 h7 g10 g11 g12 g13 g14 g16 g17 g18 ?_
   refine Aa.ret (EI hk' h9 h8 h7 g10 g11 g12 g13 g14 g16 g17 g18 ?_);refine Ae rfl ?_;rotate_left;have d17:=Aq g17;refine OY hk' h9 h8 h7 g10 g11 g12 g13 g14 g16 g17 ?_;refine Aa.ret (OY hk' h9 h8 h7 g10 g11 g12 g13 g14 g16 g17 ?_);refine Ae rfl ?_;rotate_left;have d16:=Aq g16;refine F5 hk' h9 h8 h7 g10 g11 g12 g13 g14 g16 ?_;refine Aa.ret (F5 hk' h9 h8 h7 g10 g11 g12 g13 g14 g16 ?_);refine Ae rfl ?_;rotate_left
   all_goals simp_all
  ·have hi:AH w.codes.length s.v.n = false:=by simp [AH]; omega
   refine Ag.intro func131 (by decide) rfl (D5 hk' ?_);refine Aa.Ad (Z1 hk' ?_);refine Aa.seq ?_;refine Aa.Ad (Z1 hk' ?_);refine Ao (Ao ?_);refine Aa.Ax rfl ?_;refine Aa.skip (Z1 hk' ?_);refine Aa.Ad (Z1 hk' ?_);refine Ao (Ao ?_);refine Aa.seq ?_;refine Aa.Ad (Z1 hk' ?_);refine Ao ?_;refine Ap (fun g2=>?_) (fun g2=>?_);have d2:=BT g2;refine Z2 hk' g2 ?_;refine Aa.Ar rfl ?_;refine Aa.Ad (Z2 hk' g2 ?_);refine Aa.ret (Z2 hk' g2 ?_);refine Ae rfl ?_;rotate_left;have d2:=Bt g2;refine Z2 hk' g2 ?_;refine Ao (Ao ?_);refine Ap (fun g3=>?_) (fun g3=>?_);refine Z3 hk' g2 g3 ?_;refine Aa.Ar rfl ?_;refine Aa.Ad (Z3 hk' g2 g3 ?_);refine Aa.ret (Z3 hk' g2 g3 ?_);refine Ae rfl ?_;rotate_left;refine Z3 hk' g2 g3 ?_;refine Ap (fun g4=>?_) (fun g4=>?_);have d4:=An g4
   (exfalso; omega)
   have d4:=Aj g4;refine Z4 hk' g2 g3 g4 ?_;refine Ao (Ao ?_);refine Aa.cond rfl (fun g5=>?_) (fun g5=>?_);have d5:=An g5;refine Aa.Ad (Z5 hk' g2 g3 g4 g5 ?_);refine Aa.ret (Z5 hk' g2 g3 g4 g5 ?_);refine Ae rfl ?_;rotate_left;have d5:=Aj g5
   (exfalso; omega)
   all_goals simp_all
end
noncomputable def HK (w:Wd) (o:Ob):Bool :=
 if o.kind = 1 then Ct o && (o.elems.length:Int) == 0
 else if o.kind = 2 then Ct o && (decide ((o.elems.length:Int) <= 400) && Ls w o.elems)
 else if o.kind = 3 then Rn w o
 else if o.kind = 4 then Ct o && ((o.elems.length:Int) == 1 && Ls w o.elems)
 else if o.kind = 5 then Ct o && ((o.elems.length:Int) == 1 && KW (o.elems.getD 0 default))
 else false
structure N6 (w:Wd) (o:Ob):Prop where
 slots:o.slots.length <= 40
 rule:HK w o = true
 each:∀ i,i < o.slots.length -> Fg w o (o.slots.getD i default) = true
 names:∀ i j,j < i -> i < o.slots.length -> (o.slots.getD j default).name ≠ (o.slots.getD i default).name
theorem PS {l:List HA} {i:Nat} {n:List UInt8} (hi:i <= l.length):((l.take i).any fun t=>t.name == n) = true ↔ ∃ j,j < i /\ (l.getD j default).name = n:=by
 rw [List.any_eq_true];constructor
 ·rintro ⟨t,ht,he⟩
  obtain ⟨j,hj,rfl⟩:=List.getElem_of_mem ht;rw [List.length_take] at hj;refine ⟨j,by omega,?_⟩;rw [List.getD_eq_getElem?_getD,List.getElem?_eq_getElem (by omega:j < l.length)]
  simpa [List.getElem_take] using he
 ·rintro ⟨j,hj,he⟩
  refine ⟨l.getD j default,?_,by simpa using he⟩;rw [List.getD_eq_getElem?_getD,List.getElem?_eq_getElem (by omega:j < l.length),List.mem_take_iff_getElem];exact ⟨j,by omega,rfl⟩
theorem V5 (l:List HA) (n:Nat):(Tl l).take n = Tl (l.take n):=by simp [Tl]
section
attribute [local go_sem] Du Cu underlying187 H9 V5 ntmps104
theorem ajp (w:Wd) (o:Ob) (ho:KV o) (hw:w.acts.length <= 1048576):B9 prog 104 [DI w,Du o] (fun v=>∃ b:Bool,v = .val (.bool b) /\ (b = true ↔ N6 w o)):=by
 have hN:∀ (_:¬ N6 w o),∃ b:Bool,AV.val (.bool false) = .val (.bool b) /\ (b = true ↔ N6 w o):=fun h=>⟨false,rfl,by simp [h]⟩
 rcases Int.lt_or_le o.kind 1 with hlo | hlo
 ·have hr:HK w o = false:=by unfold HK; rw [if_neg (by omega),if_neg (by omega),if_neg (by omega),if_neg (by omega),if_neg (by omega)]
  refine B9.of (DX.intro (fun R=>R) (fun _ h=>h) func104 (by decide) rfl ?_);refine Bj ?_;refine Ab.Am ?_;apply Pr.run;intro Ψ1 hΨ1;refine Aa.region (Z0 ?_);exact hΨ1.out;refine Pr.done ?_;refine Ab.seq ?_;refine Ab.Am ?_;apply Pr.run;intro Ψ2 hΨ2;refine Aa.BS [(0,.free),(1,.read),(2,.free),(3,.free),(4,.free),(5,.read),(6,.free),(7,.free),(8,.free),(9,.free),(10,.read),(11,.read),(12,.free),(13,.free),(14,.free),(15,.free),(16,.free),(20,.free),(17,.read),(18,.free),(19,.free),(21,.read),(22,.free),(23,.free),(24,.free)] mixed (by kernel_rfl) (Z0 ?_);refine Ao ?_;exact hΨ2.out;refine Pr.CH (fun g3=>?_) (fun g3=>?_);have d3:=An g3;apply Pr.run;intro Ψ4 hΨ4;refine Z1 g3 ?_;exact hΨ4.out;refine Pr.done ?_;refine Ab.Ar rfl ?_;refine Ab.Am ?_;apply Pr.run;intro Ψ5 hΨ5;refine Aa.region (Z1 g3 ?_);exact hΨ5.out;refine Pr.done ?_;refine Ab.ret (Z1 g3 ?_);apply AP.i;intro Ψ6 hΨ6;refine Z1 g3 ?_;exact hΨ6.out;refine ⟨_,rfl,rfl,?_⟩;rotate_left;have d3:=Aj g3
  (exfalso; omega)
  all_goals exact hN (fun h=>by rw [h.rule] at hr; cases hr)
 rcases Int.lt_or_le 5 o.kind with hhi | hhi
 ·have hr:HK w o = false:=by unfold HK; rw [if_neg (by omega),if_neg (by omega),if_neg (by omega),if_neg (by omega),if_neg (by omega)]
  refine B9.of (DX.intro (fun R=>R) (fun _ h=>h) func104 (by decide) rfl ?_);refine Bj ?_;refine Ab.Am ?_;apply Pr.run;intro Ψ1 hΨ1;refine Aa.region (Z0 ?_);exact hΨ1.out;refine Pr.done ?_;refine Ab.seq ?_;refine Ab.Am ?_;apply Pr.run;intro Ψ2 hΨ2;refine Aa.BS [(0,.free),(1,.read),(2,.free),(3,.free),(4,.free),(5,.read),(6,.free),(7,.free),(8,.free),(9,.free),(10,.read),(11,.read),(12,.free),(13,.free),(14,.free),(15,.free),(16,.free),(20,.free),(17,.read),(18,.free),(19,.free),(21,.read),(22,.free),(23,.free),(24,.free)] mixed (by kernel_rfl) (Z0 ?_);refine Ao ?_;exact hΨ2.out;refine Pr.CH (fun g3=>?_) (fun g3=>?_);have d3:=An g3
  (exfalso; omega)
  have d3:=Aj g3;apply Pr.run;intro Ψ4 hΨ4;refine Z1 g3 ?_;refine Ao ?_;exact hΨ4.out;refine Pr.CH (fun g5=>?_) (fun g5=>?_);have d5:=An g5;apply Pr.run;intro Ψ6 hΨ6;refine Z2 g3 g5 ?_;exact hΨ6.out;refine Pr.done ?_;refine Ab.Ar rfl ?_;refine Ab.Am ?_;apply Pr.run;intro Ψ7 hΨ7;refine Aa.region (Z2 g3 g5 ?_);exact hΨ7.out;refine Pr.done ?_;refine Ab.ret (Z2 g3 g5 ?_);apply AP.i;intro Ψ8 hΨ8;refine Z2 g3 g5 ?_;exact hΨ8.out;refine ⟨_,rfl,rfl,?_⟩;rotate_left;have d5:=Aj g5
  (exfalso; omega)
  all_goals exact hN (fun h=>by rw [h.rule] at hr; cases hr)
 obtain ⟨f,hk,hf⟩:∃ f:FuncId,(List.take 1 (List.drop (o.kind.toNat * 1) [AV.val .nilFunc,.fn 165 [],.fn 167 [],.fn 168 [],.fn 169 [],.fn 170 []]) = [.fn f []]) /\ Af prog f [DI w,Du o] (· = .val (.bool (HK w o))):=by
  unfold HK
  rcases (by omega:o.kind = 1 \/ o.kind = 2 \/ o.kind = 3 \/ o.kind = 4 \/ o.kind = 5) with h | h | h | h | h <;> rw [h]
  ·exact ⟨165,rfl,aiJ w o⟩
  ·exact ⟨167,rfl,c167 w o ho⟩
  ·exact ⟨168,rfl,c168 w o hw⟩
  ·exact ⟨169,rfl,aiu w o ho⟩
  ·exact ⟨170,rfl,ahW w o⟩
 refine B9.of (DX.intro (fun R=>R) (fun _ h=>h) func104 (by decide) rfl ?_);refine D5 hk ?_;refine Ab.Am ?_;apply Pr.run;intro Ψ1 hΨ1;refine Aa.region (Z1 hk ?_);exact hΨ1.out;refine Pr.done ?_;refine Ab.seq ?_;refine Ab.Am ?_;apply Pr.run;intro Ψ2 hΨ2;refine Aa.BS [(0,.free),(1,.read),(2,.free),(3,.free),(4,.free),(5,.read),(6,.free),(7,.free),(8,.free),(9,.free),(10,.read),(11,.read),(12,.free),(13,.free),(14,.free),(15,.free),(16,.free),(20,.free),(17,.read),(18,.free),(19,.free),(21,.read),(22,.free),(23,.free),(24,.free)] mixed (by kernel_rfl) (Z1 hk ?_);refine Ao ?_;exact hΨ2.out;refine Pr.CH (fun g3=>?_) (fun g3=>?_);have d3:=An g3
 (exfalso; omega)
 have d3:=Aj g3;apply Pr.run;intro Ψ4 hΨ4;refine Z2 hk g3 ?_;refine Ao ?_;exact hΨ4.out;refine Pr.CH (fun g5=>?_) (fun g5=>?_);have d5:=An g5
 (exfalso; omega)
 have d5:=Aj g5;apply Pr.run;intro Ψ6 hΨ6;refine Z3 hk g3 g5 ?_;refine Ao ?_;refine And.intro (by trivial) ?_;exact hΨ6.out;refine Pr.CH (fun g7=>?_) (fun g7=>?_);have d7:=An g7;apply Pr.run;intro Ψ8 hΨ8;refine Z4 hk g3 g5 g7 ?_;exact hΨ8.out;refine Pr.done ?_;refine Ab.Ar rfl ?_;refine Ab.Am ?_;apply Pr.run;intro Ψ9 hΨ9;refine Aa.region (Z4 hk g3 g5 g7 ?_);exact hΨ9.out;refine Pr.done ?_;refine Ab.ret (Z4 hk g3 g5 g7 ?_);apply AP.i;intro Ψ10 hΨ10;refine Z4 hk g3 g5 g7 ?_;exact hΨ10.out;refine ⟨_,rfl,rfl,?_⟩;rotate_left;have d7:=Aj g7;apply Pr.run;intro Ψ11 hΨ11;refine Z4 hk g3 g5 g7 ?_;refine AI.go (c130) rfl (Z4 hk g3 g5 g7 ?_);refine Ao (Ao (Ao (Ao ?_)));refine AI.go (hf) rfl (Z4 hk g3 g5 g7 ?_);exact hΨ11.out;refine Pr.done ?_;refine Ab.cond rfl (fun g12=>?_) (fun g12=>?_);refine Ab.Am ?_;apply Pr.run;intro Ψ13 hΨ13;refine Aa.region (Z5 hk g3 g5 g7 g12 ?_);exact hΨ13.out;refine Pr.done ?_;refine Ab.ret (Z5 hk g3 g5 g7 g12 ?_);apply AP.i;intro Ψ14 hΨ14;refine Z5 hk g3 g5 g7 g12 ?_;exact hΨ14.out;refine ⟨_,rfl,rfl,?_⟩;rotate_left;refine Ab.skip (Z5 hk g3 g5 g7 g12 ?_);refine Ab.seq ?_;refine Ab.Am ?_;apply Pr.run;intro Ψ15 hΨ15;refine Aa.region (Z5 hk g3 g5 g7 g12 ?_);refine Ao ?_;exact hΨ15.out;refine Pr.done ?_;refine Ab.block ?_;refine Ab.A0 (fun i:Nat=>[(35,.val (.int .i64 (i:Nat)))]) [34,33,3,0] (fun _=>_) (fun i:Nat=>i <= o.slots.length /\ (∀ k,k < i -> Fg w o (o.slots.getD k default) = true) /\ (∀ k j,j < k -> k < i -> (o.slots.getD j default).name ≠ (o.slots.getD k default).name)) (fun i:Nat=>o.slots.length - i) (0) ?_ rfl ?_ ?_
 rotate_left;refine ⟨rfl,?_,?_,rfl,?_⟩;refine GO hk g3 g5 g7 g12 ?_;constructor;trivial;trivial;exact GO hk g3 g5 g7 g12 trivial;exact GO hk g3 g5 g7 g12 trivial;rintro i ⟨h1,h2,h3⟩;refine Z5 hk g3 g5 g7 g12 ?_;refine Ab.Am ?_;apply Pr.run;intro Ψ16 hΨ16;refine Aa.region (Z5 hk g3 g5 g7 g12 ?_);exact hΨ16.out;refine Pr.done ?_;refine Ab.seq (Ab.cond rfl (fun g17=>?_) (fun g17=>?_));have d17:=An g17;refine Ab.skip (Z6 hk g3 g5 g7 g12 g17 ?_);refine Ab.seq (Ab.block ?_);refine Ab.Am ?_;apply Pr.run;intro Ψ18 hΨ18;refine Aa.region (Z6 hk g3 g5 g7 g12 g17 ?_);refine Ao ?_;refine And.intro (by assumption) ?_;simp -implicitDefEqProofs (dsimp:=false) (disch:=omega) only [i64_in,gd];refine Z6 hk g3 g5 g7 g12 g17 ?_;exact hΨ18.out;refine Pr.done ?_;refine Ab.Am ?_;apply Pr.run;intro Ψ19 hΨ19;refine Aa.freeze 6 (Z6 hk g3 g5 g7 g12 g17 ?_);refine Aa.region (Z6 hk g3 g5 g7 g12 g17 ?_);refine Af.eq (c131 w o _ (ho.ss _ (Bs (by omega)))) rfl (Z6 hk g3 g5 g7 g12 g17 ?_);exact hΨ19.out;refine Pr.CH (fun g21=>?_) (fun g21=>?_);apply Pr.run;intro Ψ22 hΨ22;refine Z7 hk g3 g5 g7 g12 g17 g21 ?_;exact hΨ22.out;refine Pr.done ?_;refine Ab.Ar rfl ?_;refine Ab.Am ?_;apply Pr.run;intro Ψ23 hΨ23;refine Aa.region (Z7 hk g3 g5 g7 g12 g17 g21 ?_);exact hΨ23.out;refine Pr.done ?_;refine Ab.ret (Z7 hk g3 g5 g7 g12 g17 g21 ?_);apply AP.i;intro Ψ24 hΨ24;refine Z7 hk g3 g5 g7 g12 g17 g21 ?_;exact hΨ24.out;refine ⟨_,rfl,rfl,?_⟩;rotate_left;apply Pr.run;intro Ψ25 hΨ25;refine Z7 hk g3 g5 g7 g12 g17 g21 ?_
 refine Ao ?_;refine And.intro (by exact ZS _) ?_;refine Ao (Ao ?_);refine Af.eq (ahj (o.slots.take i) 133 [.cptr (H9 (o.slots.getD i default)).cells] rfl (fun t=>t.name == (o.slots.getD i default).name) (fun t _=>ais _ t) (by rw [List.length_take]; omega)) rfl (Z7 hk g3 g5 g7 g12 g17 g21 ?_);exact hΨ25.out;refine Pr.done ?_;refine Ab.cond rfl (fun g27=>?_) (fun g27=>?_);refine Ab.Am ?_;apply Pr.run;intro Ψ28 hΨ28;refine Aa.region (Z8 hk g3 g5 g7 g12 g17 g21 g27 ?_);exact hΨ28.out;refine Pr.done ?_;refine Ab.ret (Z8 hk g3 g5 g7 g12 g17 g21 g27 ?_);apply AP.i;intro Ψ29 hΨ29;refine Z8 hk g3 g5 g7 g12 g17 g21 g27 ?_;exact hΨ29.out;refine ⟨_,rfl,rfl,?_⟩;rotate_left;refine Ab.skip (Z8 hk g3 g5 g7 g12 g17 g21 g27 ?_);refine Ab.Di ?_;apply Pr.run;intro Ψ30 hΨ30;refine Aa.region (Z8 hk g3 g5 g7 g12 g17 g21 g27 ?_);exact hΨ30.out;refine Pr.done (Z8 hk g3 g5 g7 g12 g17 g21 g27 ?_);refine Bd ?_;refine ⟨i + 1,?_⟩;constructor;constructor;omega;constructor;rotate_left;rotate_left;constructor;omega;refine ⟨rfl,?_,?_,rfl,?_⟩;refine VZ hk g3 g5 g7 g12 g17 g21 g27 ?_;constructor;trivial;trivial;exact VZ hk g3 g5 g7 g12 g17 g21 g27 trivial;exact VZ hk g3 g5 g7 g12 g17 g21 g27 trivial;have d17:=Aj g17;refine Ab.exit (Z6 hk g3 g5 g7 g12 g17 ?_);refine Ab.Am ?_;apply Pr.run;intro Ψ31 hΨ31;refine Aa.region (Z6 hk g3 g5 g7 g12 g17 ?_);exact hΨ31.out;refine Pr.done ?_;refine Ab.ret ?_;apply AP.i;intro Ψ32 hΨ32;refine Z6 hk g3 g5 g7 g12 g17 ?_;exact hΨ32.out;refine ⟨_,rfl,rfl,?_⟩;rotate_left
 ·exact hN fun h=>by have:=h.slots; omega
 ·exact hN fun h=>by rw [h.rule] at g12; cases g12
 ·exact ⟨Nat.zero_le _,fun k hk=>absurd hk (Nat.not_lt_zero k),fun k j _ hk=>absurd hk (Nat.not_lt_zero k)⟩
 ·have hil:=of_decide_eq_true g17
  exact hN fun h=>by rw [h.each i (by omega)] at g21; cases g21
 ·have hil:=of_decide_eq_true g17
  obtain ⟨j,hj,he⟩:=(PS (by omega)).1 g27;exact hN fun h=>h.names i j hj (by omega) he
 ·intro k hk
  rcases Nat.lt_or_eq_of_le (Nat.le_of_lt_succ hk) with h | h
  ·exact h2 k h
  ·rw [h]; simpa using g21
 ·intro k j hj hk
  rcases Nat.lt_or_eq_of_le (Nat.le_of_lt_succ hk) with h | h
  ·exact h3 k j hj h
  ·subst h
   intro he;rw [(PS h1).2 ⟨j,hj,he⟩] at g27
   cases g27
 ·have hil:=of_decide_eq_false g17
  have h7:=of_decide_eq_false g7;obtain rfl:i = o.slots.length:=by omega
  exact ⟨true,rfl,by simp only [true_iff]; exact ⟨by omega,by simpa using g12,h2,fun a b hb ha=>h3 a b hb ha⟩⟩
end
open Classical in
noncomputable def NS (w:Wd) (o:Ob):Bool:=decide (N6 w o)
theorem KP {w:Wd} {o:Ob}:NS w o = true ↔ N6 w o:=by unfold NS; simp
theorem ai2 (w:Wd) (o:Ob) (ho:KV o) (hw:w.acts.length <= 1048576):Af prog 104 [DI w,Du o] (· = .val (.bool (NS w o))):=by
 obtain ⟨v,⟨b,rfl,hb⟩,hc⟩:=ajp w o ho hw
 rwa [show NS w o = b from Bool.eq_iff_iff.2 (KP.trans hb.symm)]
section
attribute [local go_sem] Du ntmps103
theorem ahU (w:Wd) (o:Ob) (ho:KV o) (hw:w.acts.length <= 1048576):Af prog 103 [Du o,.cptr [DI w]] (· = .val (.bool (!NS w o))):=by
 refine Ag.intro func103 (by decide) rfl (Bj ?_);refine Aa.Ad (Z0 ?_);refine Aa.Ad (Z0 ?_);refine Af.eq (ai2 w o ho hw) rfl (Z0 ?_);refine Aa.ret (Z0 ?_);exact Ae rfl (Z0 trivial)
end
end Go.Proofs.Tryz

namespace Go.Proofs.Tryz
open Go.PM
attribute [local irreducible] BM BP Bq Ci AU AO Az
section
attribute [local go_sem] Cx ntmps161
theorem agG (x:Hm):Af prog 161 [Cx x] (· = .fn 213 [.cptr (Cx x).cells]):=by
 refine Ag.intro func161 (by decide) rfl (Bj ?_);refine Aa.Ad (Z0 ?_);refine Aa.freeze 1 (Z0 ?_);refine Aa.Ad (Z0 ?_);refine Aa.ret (Z0 ?_);exact Ae rfl (Z0 trivial)
end
def Bm (x:Hm):List Int :=
 if ((x.op == 3 || x.op == 4) || x.op == 6) = true then [x.a]
 else if (x.op == 5) = true then (if decide (x.c > 0) = true then [x.a,x.c - 1] else [x.a])
 else []
section
attribute [local go_sem] Cx ntmps213
theorem OQ (x:Hm) (hxc:x.c <= 9223372036854775807):U8 prog 213 [.cptr (Cx x).cells] ((Bm x).map fun n=>[.val (.int .i64 n)]):=by
 intro l m J JF hc0 hl hy hz h0
 cases h1:((x.op == 3 || x.op == 4) || x.op == 6) with
 | true =>
  have h1':x.op = 3 \/ x.op = 4 \/ x.op = 6:=by
   simp only [Bool.or_eq_true,beq_iff_eq] at h1;omega
  have hu:Bm x = [x.a]:=by unfold Bm; rw [if_pos h1]
  rw [hu] at hy hz ⊢;simp only [List.map_cons,List.map_nil,List.length_cons,List.length_nil] at hy hz ⊢
  rcases m with _ | m
  ·have hyA:=hz hc0 _ h0 rfl
   refine Ag.intro func213 (by decide) rfl (Bj ?_);refine Aa.Ad (Z0 ?_);refine Ao ?_;refine Aa.block ?_;refine Aa.seq ?_;refine Aa.Ad (Z0 ?_);refine Aa.cond rfl (fun g2=>?_) (fun g2=>?_);have d2:=AB g2;refine Aa.skip (Z1 g2 ?_);refine Aa.Ar rfl ?_;refine Aa.region (Z1 g2 ?_);refine Ao ?_;refine hyA.mono ?_;rintro r2 h2 ⟨rfl,hJ⟩;refine Z1 g2 ?_;constructor;rotate_left;refine And.intro (by assumption) ?_;intro hb3;trivial;have d2:=Aq g2;refine Aa.Ad (Z1 g2 ?_);refine Aa.cond rfl (fun g4=>?_) (fun g4=>?_);have d4:=AB g4;refine Aa.skip (Z2 g2 g4 ?_);refine Aa.Ar rfl ?_;refine Aa.region (Z2 g2 g4 ?_);refine Ao ?_;refine hyA.mono ?_;rintro r2 h2 ⟨rfl,hJ⟩;refine Z2 g2 g4 ?_;constructor;rotate_left;refine And.intro (by assumption) ?_;intro hb5;trivial;have d4:=Aq g4;refine Aa.region (Z2 g2 g4 ?_);refine Aa.cond rfl (fun g6=>?_) (fun g6=>?_);have d6:=AB g6;refine Aa.region (Z3 g2 g4 g6 ?_);refine Ao ?_;refine hyA.mono ?_;rintro r2 h2 ⟨rfl,hJ⟩;refine Z3 g2 g4 g6 ?_;constructor;rotate_left;refine And.intro (by assumption) ?_;intro hb7;trivial;have d6:=Aq g6
   (exfalso; omega)
   all_goals simp_all
  ·have hyA:=hy 0 hc0 _ (Nat.succ_pos m) h0 rfl
   refine Ag.intro func213 (by decide) rfl (Bj ?_);refine Aa.Ad (Z0 ?_);refine Ao ?_;refine Aa.block ?_;refine Aa.seq ?_;refine Aa.Ad (Z0 ?_);refine Aa.cond rfl (fun g2=>?_) (fun g2=>?_);have d2:=AB g2;refine Aa.skip (Z1 g2 ?_);refine Aa.Ar rfl ?_;refine Aa.region (Z1 g2 ?_);refine Ao ?_;refine hyA.mono ?_;rintro r2 h2 ⟨rfl,hJ⟩;refine Z1 g2 ?_;constructor;rotate_left;refine And.intro (by (congr 1 <;> omega)) ?_
   assumption
   have d2:=Aq g2;refine Aa.Ad (Z1 g2 ?_);refine Aa.cond rfl (fun g3=>?_) (fun g3=>?_);have d3:=AB g3;refine Aa.skip (Z2 g2 g3 ?_);refine Aa.Ar rfl ?_;refine Aa.region (Z2 g2 g3 ?_);refine Ao ?_;refine hyA.mono ?_;rintro r2 h2 ⟨rfl,hJ⟩;refine Z2 g2 g3 ?_;constructor;rotate_left;refine And.intro (by (congr 1 <;> omega)) ?_
   assumption
   have d3:=Aq g3;refine Aa.region (Z2 g2 g3 ?_);refine Aa.cond rfl (fun g4=>?_) (fun g4=>?_);have d4:=AB g4;refine Aa.region (Z3 g2 g3 g4 ?_);refine Ao ?_;refine hyA.mono ?_;rintro r2 h2 ⟨rfl,hJ⟩;refine Z3 g2 g3 g4 ?_;constructor;rotate_left;refine And.intro (by (congr 1 <;> omega)) ?_
   assumption
   have d4:=Aq g4
   (exfalso; omega)
   all_goals simp_all
 | false =>
  have h1':x.op ≠ 3 /\ x.op ≠ 4 /\ x.op ≠ 6:=by
   simp only [Bool.or_eq_false_iff,beq_eq_false_iff_ne] at h1;omega
  cases h2:(x.op == 5) with
  | false =>
   have hu:Bm x = []:=by unfold Bm; rw [if_neg (by rw [h1]; simp),if_neg (by rw [h2]; simp)]
   rw [hu];refine Ag.intro func213 (by decide) rfl (Bj ?_);refine Aa.Ad (Z0 ?_);refine Ao ?_;refine Aa.block ?_;refine Aa.seq ?_;refine Aa.Ad (Z0 ?_);refine Aa.cond rfl (fun g3=>?_) (fun g3=>?_);have d3:=AB g3
   (exfalso; omega)
   have d3:=Aq g3;refine Aa.Ad (Z1 g3 ?_);refine Aa.cond rfl (fun g4=>?_) (fun g4=>?_);have d4:=AB g4
   (exfalso; omega)
   have d4:=Aq g4;refine Aa.region (Z2 g3 g4 ?_);refine Aa.cond rfl (fun g5=>?_) (fun g5=>?_);have d5:=AB g5
   (exfalso; omega)
   have d5:=Aq g5;refine Aa.Ad (Z3 g3 g4 g5 ?_);refine Aa.cond rfl (fun g6=>?_) (fun g6=>?_);have d6:=AB g6;refine Aa.Ad (Z4 g3 g4 g5 g6 ?_);refine Ao ?_;rotate_left;have d6:=Aq g6;refine Aa.skip (Z4 g3 g4 g5 g6 ?_);constructor;rotate_left;refine And.intro (by (congr 1 <;> omega)) ?_;intro hb7
   assumption
   all_goals simp_all
  | true =>
   cases h3:decide (x.c > 0) with
   | false =>
    have hu:Bm x = [x.a]:=by unfold Bm; rw [if_neg (by rw [h1]; simp),if_pos h2,if_neg (by rw [h3]; simp)]
    rw [hu] at hy hz ⊢;simp only [List.map_cons,List.map_nil,List.length_cons,List.length_nil] at hy hz ⊢
    rcases m with _ | m
    ·have hyA:=hz hc0 _ h0 rfl
     refine Ag.intro func213 (by decide) rfl (Bj ?_);refine Aa.Ad (Z0 ?_);refine Ao ?_;refine Aa.block ?_;refine Aa.seq ?_;refine Aa.Ad (Z0 ?_);refine Aa.cond rfl (fun g4=>?_) (fun g4=>?_);have d4:=AB g4
     (exfalso; omega)
     have d4:=Aq g4;refine Aa.Ad (Z1 g4 ?_);refine Aa.cond rfl (fun g5=>?_) (fun g5=>?_);have d5:=AB g5
     (exfalso; omega)
     have d5:=Aq g5;refine Aa.region (Z2 g4 g5 ?_);refine Aa.cond rfl (fun g6=>?_) (fun g6=>?_);have d6:=AB g6
     (exfalso; omega)
     have d6:=Aq g6;refine Aa.Ad (Z3 g4 g5 g6 ?_);refine Aa.cond rfl (fun g7=>?_) (fun g7=>?_);have d7:=AB g7;refine Aa.Ad (Z4 g4 g5 g6 g7 ?_);refine Ao ?_;refine hyA.mono ?_;rintro r2 h2 ⟨rfl,hJ⟩;refine Z4 g4 g5 g6 g7 ?_;refine Aa.Ax rfl ?_;refine Aa.skip (Z4 g4 g5 g6 g7 ?_);constructor;rotate_left;refine And.intro (by assumption) ?_;intro hb8;trivial;have d7:=Aq g7;refine Aa.skip (Z4 g4 g5 g6 g7 ?_);constructor;rotate_left;constructor;rotate_left;intro hb9;trivial
     all_goals simp_all
    ·have hyA:=hy 0 hc0 _ (Nat.succ_pos m) h0 rfl
     refine Ag.intro func213 (by decide) rfl (D5 h3 ?_);refine Aa.Ad (Z1 h3 ?_);refine Ao ?_;refine Aa.block ?_;refine Aa.seq ?_;refine Aa.Ad (Z1 h3 ?_);refine Aa.cond rfl (fun g4=>?_) (fun g4=>?_);have d4:=AB g4
     (exfalso; omega)
     have d4:=Aq g4;refine Aa.Ad (Z2 h3 g4 ?_);refine Aa.cond rfl (fun g5=>?_) (fun g5=>?_);have d5:=AB g5
     (exfalso; omega)
     have d5:=Aq g5;refine Aa.region (Z3 h3 g4 g5 ?_);refine Aa.cond rfl (fun g6=>?_) (fun g6=>?_);have d6:=AB g6
     (exfalso; omega)
     have d6:=Aq g6;refine Aa.Ad (Z4 h3 g4 g5 g6 ?_);refine Aa.cond rfl (fun g7=>?_) (fun g7=>?_);have d7:=AB g7;refine Aa.Ad (Z5 h3 g4 g5 g6 g7 ?_);refine Ao ?_;refine hyA.mono ?_;rintro r2 h2 ⟨rfl,hJ⟩;refine Z5 h3 g4 g5 g6 g7 ?_;refine Ao ?_;refine Aa.Ax rfl ?_;refine Aa.skip (Z5 h3 g4 g5 g6 g7 ?_);constructor;rotate_left;refine And.intro (by (congr 1 <;> omega)) ?_
     assumption
     have d7:=Aq g7;refine Aa.skip (Z5 h3 g4 g5 g6 g7 ?_);constructor;rotate_left;refine And.intro (by (congr 1 <;> omega)) ?_;rotate_left
     all_goals simp_all
   | true =>
    have hu:Bm x = [x.a,x.c - 1]:=by unfold Bm; rw [if_neg (by rw [h1]; simp),if_pos h2,if_pos h3]
    rw [hu] at hy hz ⊢;simp only [List.map_cons,List.map_nil,List.length_cons,List.length_nil] at hy hz ⊢;have h4:=of_decide_eq_true h3
    rcases m with _ | _ | m
    ·have hyA:=hz hc0 _ h0 rfl
     refine Ag.intro func213 (by decide) rfl (Bj ?_);refine Aa.Ad (Z0 ?_);refine Ao ?_;refine Aa.block ?_;refine Aa.seq ?_;refine Aa.Ad (Z0 ?_);refine Aa.cond rfl (fun g5=>?_) (fun g5=>?_);have d5:=AB g5
     (exfalso; omega)
     have d5:=Aq g5;refine Aa.Ad (Z1 g5 ?_);refine Aa.cond rfl (fun g6=>?_) (fun g6=>?_);have d6:=AB g6
     (exfalso; omega)
     have d6:=Aq g6;refine Aa.region (Z2 g5 g6 ?_);refine Aa.cond rfl (fun g7=>?_) (fun g7=>?_);have d7:=AB g7
     (exfalso; omega)
     have d7:=Aq g7;refine Aa.Ad (Z3 g5 g6 g7 ?_);refine Aa.cond rfl (fun g8=>?_) (fun g8=>?_);have d8:=AB g8;refine Aa.Ad (Z4 g5 g6 g7 g8 ?_);refine Ao ?_;refine hyA.mono ?_;rintro r2 h2 ⟨rfl,hJ⟩;refine Z4 g5 g6 g7 g8 ?_;refine Aa.Ax rfl ?_;refine Aa.skip (Z4 g5 g6 g7 g8 ?_);constructor;rotate_left;refine And.intro (by assumption) ?_;intro hb9;trivial;have d8:=Aq g8;refine Aa.skip (Z4 g5 g6 g7 g8 ?_);constructor;rotate_left;constructor;rotate_left;intro hb10;trivial
     all_goals simp_all
    ·have hyA:=hy 0 hc0 _ (Nat.succ_pos 0) h0 rfl
     have hyB:=fun hc (h:J 1 hc)=>hz hc _ h rfl;refine Ag.intro func213 (by decide) rfl (D5 h3 ?_);refine Aa.Ad (Z1 h3 ?_);refine Ao ?_;refine Aa.block ?_;refine Aa.seq ?_;refine Aa.Ad (Z1 h3 ?_);refine Aa.cond rfl (fun g5=>?_) (fun g5=>?_);have d5:=AB g5
     (exfalso; omega)
     have d5:=Aq g5;refine Aa.Ad (Z2 h3 g5 ?_);refine Aa.cond rfl (fun g6=>?_) (fun g6=>?_);have d6:=AB g6
     (exfalso; omega)
     have d6:=Aq g6;refine Aa.region (Z3 h3 g5 g6 ?_);refine Aa.cond rfl (fun g7=>?_) (fun g7=>?_);have d7:=AB g7
     (exfalso; omega)
     have d7:=Aq g7;refine Aa.Ad (Z4 h3 g5 g6 g7 ?_);refine Aa.cond rfl (fun g8=>?_) (fun g8=>?_);have d8:=AB g8;refine Aa.Ad (Z5 h3 g5 g6 g7 g8 ?_);refine Ao ?_
     try simp -implicitDefEqProofs (dsimp:=false) (disch:=omega) only [i64_in]
     first | refine hyA.mono ?_ | refine (hyB _ hJ).mono ?_
     rintro r2 h2 ⟨rfl,hJ⟩;refine Z5 h3 g5 g6 g7 g8 ?_;refine Ao ?_;refine Aa.Ar rfl ?_;refine Aa.region (Z5 h3 g5 g6 g7 g8 ?_);refine Ao ?_
     try simp -implicitDefEqProofs (dsimp:=false) (disch:=omega) only [i64_in]
     first | refine hyA.mono ?_ | refine (hyB _ hJ).mono ?_
     rintro r2 h2 ⟨rfl,hJ⟩;refine Z5 h3 g5 g6 g7 g8 ?_;constructor;rotate_left;refine And.intro (by assumption) ?_;intro hb9;trivial;have d8:=Aq g8;refine Aa.skip (Z5 h3 g5 g6 g7 g8 ?_);constructor;rotate_left;constructor;rotate_left;intro hb10;trivial
     all_goals simp_all
    ·have hyA:=hy 0 hc0 _ (by omega) h0 rfl
     have hyB:=fun hc (h:J 1 hc)=>hy 1 hc _ (by omega) h rfl;refine Ag.intro func213 (by decide) rfl (D5 h3 ?_);refine Aa.Ad (Z1 h3 ?_);refine Ao ?_;refine Aa.block ?_;refine Aa.seq ?_;refine Aa.Ad (Z1 h3 ?_);refine Aa.cond rfl (fun g5=>?_) (fun g5=>?_);have d5:=AB g5
     (exfalso; omega)
     have d5:=Aq g5;refine Aa.Ad (Z2 h3 g5 ?_);refine Aa.cond rfl (fun g6=>?_) (fun g6=>?_);have d6:=AB g6
     (exfalso; omega)
     have d6:=Aq g6;refine Aa.region (Z3 h3 g5 g6 ?_);refine Aa.cond rfl (fun g7=>?_) (fun g7=>?_);have d7:=AB g7
     (exfalso; omega)
     have d7:=Aq g7;refine Aa.Ad (Z4 h3 g5 g6 g7 ?_);refine Aa.cond rfl (fun g8=>?_) (fun g8=>?_);have d8:=AB g8;refine Aa.Ad (Z5 h3 g5 g6 g7 g8 ?_);refine Ao ?_
     try simp -implicitDefEqProofs (dsimp:=false) (disch:=omega) only [i64_in]
     first | refine hyA.mono ?_ | refine (hyB _ hJ).mono ?_
     rintro r2 h2 ⟨rfl,hJ⟩;refine Z5 h3 g5 g6 g7 g8 ?_;refine Ao ?_;refine Aa.Ar rfl ?_;refine Aa.region (Z5 h3 g5 g6 g7 g8 ?_);refine Ao ?_
     try simp -implicitDefEqProofs (dsimp:=false) (disch:=omega) only [i64_in]
     first | refine hyA.mono ?_ | refine (hyB _ hJ).mono ?_
     rintro r2 h2 ⟨rfl,hJ⟩;refine Z5 h3 g5 g6 g7 g8 ?_;constructor;rotate_left;refine And.intro (by (congr 1 <;> omega)) ?_
     assumption
     have d8:=Aq g8;refine Aa.skip (Z5 h3 g5 g6 g7 g8 ?_);constructor;rotate_left;refine And.intro (by (congr 1 <;> omega)) ?_;rotate_left
     all_goals simp_all
end
end Go.Proofs.Tryz

namespace Go.Proofs.Tryz
open Go.PM
attribute [local irreducible] BM BP Bq Ci AU AO Az
theorem PO (s:List UInt8) (k:Int):JX s k <= 8:=by
 unfold JX
 repeat' split
 all_goals first
  | omega
  | (rename_i h _; simp only [Bool.and_eq_true,decide_eq_true_eq] at h; omega)
theorem Pk (s:List UInt8):Li s <= 8:=by
 have h1:=PO s 2;have h2:=PO s 4;unfold Li LC NR
 repeat' split
 all_goals omega
theorem Jh (s:List UInt8):Bu s <= 8:=by
 have:=Pk s;unfold Bu
 split <;> omega
theorem UU (s:List UInt8):JL s <= 8:=by
 have:=Pk s;unfold JL
 split <;> omega
theorem Hx {c:Cd} {x:Hm} {ar:List UInt8 -> Int} (ha:∀ s,ar s <= 8) (h:FA c x ar = true):0 <= x.b /\ x.b <= 8:=by
 unfold FA at h;simp only [Bool.and_eq_true,decide_eq_true_eq,beq_iff_eq] at h;have:=ha (c.sels.getD x.a.toNat []);omega
structure agh (c:Cd) (l:List Cd) (at':Int) (x:Hm) (f1 f2:FuncId) (p:Int) (r:Bool) (n:Int):Prop where
 cells:∃ rest,List.drop (x.op.toNat * 3) KR = .fn f1 [] :: .val (.int .i64 p) :: .fn f2 [] :: rest
 right:Af prog f2 [.cptr (Ke c l at'),Cx x] (· = .val (.bool r))
 takes:r = true -> Af prog f1 [Cx x] (· = .val (.int .i64 n)) /\ 0 <= n /\ n <= 100
 puts:0 <= p /\ p <= 1
 blk:x.op = 7 -> r = true -> AH l.length x.a = true
theorem afT (c:Cd) (l:List Cd) (at':Int) (x:Hm) (h:1 <= x.op /\ x.op <= 10):∃ f1 f2 p r n,agh c l at' x f1 f2 p r n:=by
 rcases (by omega:x.op = 1 \/ x.op = 2 \/ x.op = 3 \/ x.op = 4 \/ x.op = 5 \/ x.op = 6 \/ x.op = 7 \/ x.op = 8 \/ x.op = 9 \/ x.op = 10) with h | h | h | h | h | h | h | h | h | h
 ·exact ⟨198,199,1,_,0,⟨_,by rw [h]; rfl⟩,ahI c l at' x,fun _=>⟨c198 x,by omega,by omega⟩,⟨by omega,by omega⟩,fun h7=>absurd h7 (by omega)⟩
 ·exact ⟨198,201,1,_,0,⟨_,by rw [h]; rfl⟩,c201 _ x,fun _=>⟨c198 x,by omega,by omega⟩,⟨by omega,by omega⟩,fun h7=>absurd h7 (by omega)⟩
 ·refine ⟨202,203,1,_,x.b + 1,⟨_,by rw [h]; rfl⟩,c203 c l at' x,fun hr=>?_,⟨by omega,by omega⟩,fun h7=>absurd h7 (by omega)⟩
  have hb:=Hx Jh (Bool.and_eq_true_iff.1 hr).1;exact ⟨aiE x ⟨by omega,by omega⟩,by omega,by omega⟩
 ·refine ⟨197,205,1,_,x.b,⟨_,by rw [h]; rfl⟩,ah5 c l at' x,fun hr=>?_,⟨by omega,by omega⟩,fun h7=>absurd h7 (by omega)⟩
  have hb:=Hx Jh (Bool.and_eq_true_iff.1 hr).1;exact ⟨agn x,by omega,by omega⟩
 ·refine ⟨197,206,1,_,x.b,⟨_,by rw [h]; rfl⟩,c206 c l at' x,fun hr=>?_,⟨by omega,by omega⟩,fun h7=>absurd h7 (by omega)⟩
  have hb:=Hx Jh (Bool.and_eq_true_iff.1 hr).1;exact ⟨agn x,by omega,by omega⟩
 ·refine ⟨207,208,1,_,x.b + x.c + 1,⟨_,by rw [h]; rfl⟩,c208 c l at' x,fun hr=>?_,⟨by omega,by omega⟩,fun h7=>absurd h7 (by omega)⟩
  have hb:=Hx UU (Bool.and_eq_true_iff.1 hr).1;have hc:=(Bool.and_eq_true_iff.1 hr).2;simp only [Bool.or_eq_true,beq_iff_eq] at hc;exact ⟨ajc x ⟨by omega,by omega⟩ ⟨by omega,by omega⟩,by omega,by omega⟩
 ·exact ⟨198,210,1,_,0,⟨_,by rw [h]; rfl⟩,c210 c l at' x,fun _=>⟨c198 x,by omega,by omega⟩,⟨by omega,by omega⟩,fun _ hr=>(Bool.and_eq_true_iff.1 hr).1⟩
 ·exact ⟨211,201,0,_,1,⟨_,by rw [h]; rfl⟩,c201 _ x,fun _=>⟨ac0 x,by omega,by omega⟩,⟨by omega,by omega⟩,fun h7=>absurd h7 (by omega)⟩
 ·exact ⟨211,201,0,_,1,⟨_,by rw [h]; rfl⟩,c201 _ x,fun _=>⟨ac0 x,by omega,by omega⟩,⟨by omega,by omega⟩,fun h7=>absurd h7 (by omega)⟩
 ·exact ⟨211,212,0,_,1,⟨_,by rw [h]; rfl⟩,c212 c l at' x,fun _=>⟨ac0 x,by omega,by omega⟩,⟨by omega,by omega⟩,fun h7=>absurd h7 (by omega)⟩
end Go.Proofs.Tryz
