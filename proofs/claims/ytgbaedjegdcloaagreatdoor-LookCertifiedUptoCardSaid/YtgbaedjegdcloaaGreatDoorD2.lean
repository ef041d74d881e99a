/- A part of the proof: see the last text. -/
import Derived.Test.YtgbaedjegdcloaaGreatDoorD1
import Derived.Lib.SplitLaws
import Derived.Shelf.Strings.Count
import Derived.Shelf.Strings.Search3
import Derived.Shelf.Strings.SplitCore
set_option linter.unusedVariables false
set_option linter.unusedSimpArgs false
set_option linter.unusedSectionVars false
set_option linter.defProp false
set_option maxRecDepth 100000
set_option maxHeartbeats 4000000
namespace Go.Proofs.Tryz
open Go.PM
attribute [local irreducible] BM BP Bq Ci AU AO Az
section
attribute [local go_sem] BO ntmps247
theorem Zy (d:List Int) (neg:Bool):Af prog 247 [.sl false (is d),.val (.bool neg)] (· = MH d (neg && !((d.length:Int) == 0))):=by
 refine Ag.intro func247 (by decide) rfl (Bj ?_);refine Aa.Ad (Z0 ?_);refine Aa.Ad (Z0 ?_);refine Ap (fun g1=>?_) (fun g1=>?_);refine Z1 g1 ?_;refine Af.eq (adV d) rfl (Z1 g1 ?_);refine Aa.ret (Z1 g1 ?_);refine Ae rfl ?_;trivial;refine Z1 g1 ?_;refine Aa.ret (Z1 g1 ?_);refine Ae rfl ?_;trivial
end
theorem aeS {y:Int} {m:Nat} (h:y < 10 ^ m) (hy:y > 0):y / 10 < 10 ^ (m - 1):=by
 cases m with
 | zero=>simp at h; omega
 | succ m =>
  have:(10:Int) ^ (m + 1) = 10 ^ m * 10:=Int.pow_succ ..;simp only [Nat.add_sub_cancel];omega
theorem WZ {y:Int} {m:Nat} (h:y < 10 ^ m) (hy:y > 0):1 <= m:=by
 cases m with
 | zero=>simp at h; omega
 | succ m=>omega
section
attribute [local go_sem] BO ntmps249
theorem ajE (T:Nat) (d:List Int) (hT:T <= 400) (hd:Tp T d):B9 prog 249 [.sl false (is d)] (fun v=>∃ r:Int,v = .val (.int .i64 r) /\ r <= 400):=by
 rcases Nat.eq_zero_or_pos d.length with h0 | h0
 ·obtain rfl:=List.eq_nil_of_length_eq_zero h0
  refine B9.of (DX.intro (fun R=>R) (fun _ h=>h) func249 (by decide) rfl ?_);refine Bj ?_;refine Ab.Am ?_;apply Pr.run;intro Ψ1 hΨ1;refine Aa.region (Z0 ?_);exact hΨ1.out;refine Pr.done ?_;refine Ab.seq ?_;refine Ab.Am ?_;apply Pr.run;intro Ψ2 hΨ2;refine Aa.region (Z0 ?_);refine Af.eq (adV []) rfl (Z0 ?_);exact hΨ2.out;refine Pr.done ?_;refine Ab.Ar rfl ?_;refine Ab.Am ?_;apply Pr.run;intro Ψ4 hΨ4;refine Aa.region (Z0 ?_);exact hΨ4.out;refine Pr.done ?_;refine Ab.ret (Z0 ?_);apply AP.i;intro Ψ5 hΨ5;refine Z0 ?_;exact hΨ5.out;refine ⟨_,rfl,rfl,?_⟩;rotate_left;exact ⟨1,rfl,by omega⟩
 ·have hl:=hd (d.length - 1) (by omega)
  have hlen:d.length <= 70:=by omega
  have e1:((d.length:Int) - 1).toNat = d.length - 1:=by omega
  refine B9.of (DX.intro (fun R=>R) (fun _ h=>h) func249 (by decide) rfl ?_);refine D5 e1 ?_;refine Ab.Am ?_;apply Pr.run;intro Ψ1 hΨ1;refine Aa.region (Z1 e1 ?_);exact hΨ1.out;refine Pr.done ?_;refine Ab.seq ?_;refine Ab.Am ?_;apply Pr.run;intro Ψ2 hΨ2;refine Aa.region (Z1 e1 ?_);refine Af.eq (adV d) rfl (Z1 e1 ?_);exact hΨ2.out;refine Pr.done ?_;refine Ab.cond rfl (fun g4=>?_) (fun g4=>?_);have d4:=AB g4
  (exfalso; omega)
  have d4:=Aq g4;refine Ab.skip (Z2 e1 g4 ?_);refine Ab.Am ?_;apply Pr.run;intro Ψ5 hΨ5;refine Aa.region (Z2 e1 g4 ?_);exact hΨ5.out;refine Pr.done ?_;refine Ab.seq ?_;refine Ab.Am ?_;apply Pr.run;intro Ψ6 hΨ6;refine Aa.region (Z2 e1 g4 ?_);simp -implicitDefEqProofs (dsimp:=false) (disch:=omega) only [i64_in,gd];refine Z2 e1 g4 ?_;refine Ao (Ao ?_);exact hΨ6.out;refine Pr.done ?_;refine Ab.block ?_;refine Ab.A0 (fun x:Int × Int × Nat=>[(3,.val (.int .i64 x.1)),(4,.val (.int .i64 x.2.1))]) [] (fun _=>_) (fun x:Int × Int × Nat=>(0 <= x.2.1 /\ x.2.1 < 1000000) /\ x.2.1 < 10 ^ x.2.2 /\ x.1 + (x.2.2:Int) <= 400 /\ 0 <= x.1) (fun x:Int × Int × Nat=>x.2.1.toNat) ((6 * ((d.length:Int) - 1),d.getD (d.length - 1) 0,T - 6 * (d.length - 1))) ?_ rfl ?_ ?_;refine Z2 e1 g4 ?_;omega;refine ⟨rfl,?_,?_,rfl,?_⟩;exact Cv e1 g4 trivial;exact Cv e1 g4 trivial;exact Cv e1 g4 trivial;rintro ⟨n,y,m⟩ ⟨⟨h1,h5⟩,h2,h3,h4⟩;simp only at h1 h2 h3 h4 h5;refine Z2 e1 g4 ?_;refine Ab.seq ?_;refine Ab.Am ?_;apply Pr.run;intro Ψ7 hΨ7;refine Aa.region (Z2 e1 g4 ?_);exact hΨ7.out;refine Pr.done ?_;refine Ab.cond rfl (fun g8=>?_) (fun g8=>?_);have d8:=An g8;refine Ab.skip (Z3 e1 g4 g8 ?_);refine Ab.seq (Ab.block ?_);refine Ab.Di ?_;apply Pr.run;intro Ψ9 hΨ9;refine Aa.region (Z3 e1 g4 g8 ?_);exact hΨ9.out;refine Pr.done (Z3 e1 g4 g8 ?_);refine Ab.Di ?_;apply Pr.run;intro Ψ10 hΨ10;refine Aa.region (Z3 e1 g4 g8 ?_);exact hΨ10.out;refine Pr.done (Z3 e1 g4 g8 ?_);refine Bd ?_;refine ⟨(n + 1,y / 10,m - 1),?_⟩
  constructor;constructor;constructor;simp -implicitDefEqProofs (dsimp:=false) only [go_sem,simprocAttr,e1,g4,g8,Nat.le_refl,List.length_cons,List.length_append,List.length_nil];omega;simp -implicitDefEqProofs (dsimp:=false) only [go_sem,simprocAttr,e1,g4,g8,Nat.le_refl,List.length_cons,List.length_append,List.length_nil];omega;constructor;simp -implicitDefEqProofs (dsimp:=false) only [go_sem,simprocAttr,e1,g4,g8,Nat.le_refl,List.length_cons,List.length_append,List.length_nil];rotate_left;constructor;simp -implicitDefEqProofs (dsimp:=false) only [go_sem,simprocAttr,e1,g4,g8,Nat.le_refl,List.length_cons,List.length_append,List.length_nil];rotate_left;omega;constructor;simp -implicitDefEqProofs (dsimp:=false) only [go_sem,simprocAttr,e1,g4,g8,Nat.le_refl,List.length_cons,List.length_append,List.length_nil];omega;refine ⟨rfl,?_,?_,rfl,?_⟩;refine ME e1 g4 g8 ?_;rotate_left;exact ME e1 g4 g8 trivial;exact ME e1 g4 g8 trivial;have d8:=Aj g8;refine Ab.exit (Z3 e1 g4 g8 ?_);refine Ab.Am ?_;apply Pr.run;intro Ψ11 hΨ11;refine Aa.region (Z3 e1 g4 g8 ?_);exact hΨ11.out;refine Pr.done ?_;refine Ab.ret ?_;apply AP.i;intro Ψ12 hΨ12;refine Z3 e1 g4 g8 ?_;exact hΨ12.out;refine ⟨_,rfl,rfl,?_⟩;rotate_left
  ·exact aeS h2 d8
  ·have:=WZ h2 d8
   omega
  ·rw [Int.tdiv_eq_ediv_of_nonneg h1,i64_in (by omega) (by omega)]
  ·exact ⟨n,rfl,by omega⟩
end
def Ft:List UInt8:=[48,49,50,51,52,53,54,55,56,57]
theorem dropWhile_nil {α:Type} {p:α -> Bool}:∀ {l:List α},l.dropWhile p = [] -> ∀ x ∈ l,p x = true
 | [],_,x,hx=>by simp at hx
 | y :: l,h,x,hx=>by
  rw [List.dropWhile_cons] at h
  split at h
  ·rename_i hy
   rcases List.mem_cons.1 hx with rfl | hx
   ·exact hy
   ·exact dropWhile_nil h x hx
  ·simp at h
theorem VK {l cs:List UInt8} (h:Lib.trimS l cs = []):∀ x ∈ l,cs.contains x = true:=by
 unfold Lib.trimS Lib.trimLeftS Lib.trimRightS at h;have h1:=dropWhile_nil h;intro x hx
 by_cases hc:cs.contains x = true
 ·exact hc
 ·have hr:∀ (m:List UInt8),x ∈ m -> x ∈ m.dropWhile (fun b=>cs.contains b):=by
   intro m
   induction m with
   | nil=>intro h; cases h
   | cons y m ih =>
    intro hm;rw [List.dropWhile_cons]
    split
    ·rename_i hy
     rcases List.mem_cons.1 hm with rfl | hm
     ·exact absurd hy hc
     ·exact ih hm
    ·exact hm
  exact h1 x (List.mem_reverse.2 (hr _ (List.mem_reverse.2 hx)))
theorem Wl {x:UInt8} (h:Ft.contains x = true):48 <= x.toNat /\ x.toNat <= 57:=by
 simp only [Ft,List.contains_cons,List.contains_nil,Bool.or_false,Bool.or_eq_true,beq_iff_eq] at h
 rcases h with rfl | rfl | rfl | rfl | rfl | rfl | rfl | rfl | rfl | rfl <;> decide
def Ml (t:List UInt8) (e:Int):List UInt8:=(t.take e.toNat).drop (max 0 (e - 6)).toNat
theorem adx (t:List UInt8) (e:Int):List.drop (max 0 (e - 6)).toNat (List.take e.toNat t) = Ml t e:=rfl
theorem TD (t:List UInt8) (e:Int):(Ml t e).length <= 6 /\ (Ml t e).length <= e.toNat:=by
 unfold Ml;rw [List.length_drop,List.length_take];omega
theorem aan {t:List UInt8} {e:Int} {x:UInt8} (h:x ∈ Ml t e):x ∈ t:=List.mem_of_mem_take (List.mem_of_mem_drop h)
theorem aeb {l:List UInt8} {p:Nat} (h:p < (Ak l).size) (ha:(l.getD p 0).toNat < 128):Utf8.decode (Ak l) p = ((l.getD p 0).toNat,1):=by
 have hl:p < l.length:=by rwa [BH] at h
 have hg:(Ak l)[p]'h = l.getD p 0:=by
  show l.toArray[p]'(by simpa using hl) = _
  simp [List.getD_eq_getElem?_getD,hl]
 rw [decode_ascii (Ak l) p h (by rw [hg]; exact ha),hg]
theorem Tp.snoc {T:Nat} {d:List Int} {n:Int} {k:Nat} (h:Tp T d) (h0:0 <= n) (h1:n < 10 ^ k) (hk:k <= 6) (hk2:k <= T - 6 * d.length) (hT:6 * d.length < T):Tp T (d ++ [n]):=by
 have hp:∀ m:Nat,k <= m -> n < 10 ^ m:=fun m hm=>Int.lt_of_lt_of_le h1 (by
  have:(10:Nat) ^ k <= 10 ^ m:=Nat.pow_le_pow_right (by decide) hm
  exact_mod_cast this)
 intro i hi;rw [List.length_append,List.length_singleton] at hi
 rcases Nat.lt_or_ge i d.length with hl | hl
 ·have:=h i hl
  rwa [show (d ++ [n]).getD i 0 = d.getD i 0 by simp [List.getD_eq_getElem?_getD,List.getElem?_append_left hl]]
 ·obtain rfl:i = d.length:=by omega
  rw [show (d ++ [n]).getD d.length 0 = n by simp [List.getD_eq_getElem?_getD]];exact ⟨h0,by have:=hp 6 hk; simpa using this,hp _ hk2,hT⟩
theorem Tp.take {T:Nat} {d:List Int} (h:Tp T d) (m:Nat):Tp T (d.take m):=by
 intro i hi;rw [List.length_take] at hi;have him:i < m:=by omega
 rw [show (d.take m).getD i 0 = d.getD i 0 by simp [List.getD_eq_getElem?_getD,List.getElem?_take,him]];exact h i (by omega)
theorem aaa (l:List Int) (n:Nat):(is l).take n = is (l.take n):=by simp [is]
theorem ZB (l:List Int) (x:Int):is l ++ [.val (.int .i64 x)] = is (l ++ [x]):=by simp [is]
theorem PV {n:Int} {p:Nat} {c:Nat} (h0:0 <= n) (h:n < 10 ^ p) (h1:48 <= c) (h2:c <= 57):0 <= 10 * n + ((c:Int) - 48) /\ 10 * n + ((c:Int) - 48) < 10 ^ (p + 1):=by
 have:(10:Int) ^ (p + 1) = 10 ^ p * 10:=Int.pow_succ ..;omega
theorem SJ {p m:Nat} (h:p <= m):(10:Int) ^ p <= 10 ^ m:=by
 have:(10:Nat) ^ p <= 10 ^ m:=Nat.pow_le_pow_right (by decide) h
 exact_mod_cast this
theorem XC {n:Int} {p:Nat} (h:n < 10 ^ p) (hp:p <= 6):n < 1000000:=by
 have:=SJ hp;rw [show (10:Int) ^ 6 = 1000000 from rfl] at this;omega
theorem JH {t:List UInt8} {e:Int} {p:Nat} (g:(!Lib.trimS t Ft == []) = false) (hp:p < (Ml t e).length):48 <= ((Ml t e).getD p 0).toNat /\ ((Ml t e).getD p 0).toNat <= 57:=by
 have h1:Lib.trimS t Ft = []:=by
  generalize Lib.trimS t Ft = z at g
  cases z with
  | nil=>rfl
  | cons x z=>cases g
 refine Wl (VK h1 _ (aan (e:=e) ?_));rw [List.getD_eq_getElem?_getD,List.getElem?_eq_getElem hp];exact List.getElem_mem hp
theorem Td {t:List UInt8} {e:Int} {p:Nat} (g:(!Lib.trimS t Ft == []) = false) (hp:p < (Ml t e).length):Utf8.decode (Ak (Ml t e)) p = (((Ml t e).getD p 0).toNat,1) :=
 aeb (by rw [BH]; exact hp) (by have:=JH g hp; omega)
theorem adP {t:List UInt8} {e n:Int} {p:Nat} (g:(!Lib.trimS t Ft == []) = false) (hp:p < (Ml t e).length) (h0:0 <= n) (h1:n < 1000000):AV.val (.int .i64 (IntKind.i64.wrap (10 * n + IntKind.i64.wrap (IntKind.i32.wrap (((Utf8.decode (Ak (Ml t e)) p).fst:Int) - 48))))) = .val (.int .i64 (10 * n + ((((Ml t e).getD p 0).toNat:Int) - 48))):=by
 have hd:=JH g hp;rw [Td g hp]
 dsimp only
 generalize ((Ml t e).getD p 0).toNat = c at hd;rw [IntWalk.i32_in _ (by omega),i64_in (n:=(c:Int) - 48) (by omega) (by omega),i64_in (by omega) (by omega)]
section
attribute [local go_sem] adx BH BO MH aaa Iy ntmps217
theorem aiF (s:List UInt8) (hs:s.length <= 1048576):B9 prog 217 [.val (.string (Ak s))] (fun v=>∃ (d:List Int) (neg ok:Bool) (T:Nat),v = .tup [MH d neg,.val (.bool ok)] /\ T <= 400 /\ Tp T d):=by
 have h0:=ai6 s [45];generalize ht:Lib.trimPrefix s [45] = t at h0;have h1:=ajP t Ft;have hN:∀ neg ok:Bool,∃ (d:List Int) (neg' ok':Bool) (T:Nat),AV.tup [.agg [.sl false [],.val (.bool neg)],.val (.bool ok)] = .tup [MH d neg',.val (.bool ok')] /\ T <= 400 /\ Tp T d:=fun neg ok=>⟨[],neg,ok,0,rfl,by omega,fun i hi=>absurd hi (Nat.not_lt_zero i)⟩
 refine B9.of (DX.intro (fun R=>adS (fun r h=>R r.lax h)) (fun _ h=>Ag.I7 (Ag.res h)) func217 (by decide) rfl ?_);refine Bj ?_;refine Ab.Am ?_;apply Pr.run;intro Ψ2 hΨ2;refine Aa.region (Z0 ?_);exact hΨ2.out;refine Pr.done ?_;refine Ab.Am ?_;apply Pr.run;intro Ψ3 hΨ3;refine Aa.region (Z0 ?_);refine Af.eq (h0) rfl (Z0 ?_);exact hΨ3.out;refine Pr.done ?_;refine Ab.seq ?_;refine Ab.Am ?_;apply Pr.run;intro Ψ5 hΨ5;refine Aa.region (Z0 ?_);exact hΨ5.out;refine Pr.CH (fun g6=>?_) (fun g6=>?_);apply Pr.run;intro Ψ7 hΨ7;refine Z1 g6 ?_;exact hΨ7.out;refine Pr.done ?_;refine Ab.Ar rfl ?_;refine Ab.Am ?_;apply Pr.run;intro Ψ8 hΨ8;refine Aa.region (Z1 g6 ?_);exact hΨ8.out;refine Pr.done ?_;refine Ab.ret (Z1 g6 ?_);apply AP.i;intro Ψ9 hΨ9;refine Z1 g6 ?_;exact hΨ9.out;refine ⟨_,rfl,rfl,?_⟩;rotate_left;apply Pr.run;intro Ψ10 hΨ10;refine Z1 g6 ?_;exact hΨ10.out;refine Pr.CH (fun g11=>?_) (fun g11=>?_);have d11:=An g11;apply Pr.run;intro Ψ12 hΨ12;refine Z2 g6 g11 ?_;exact hΨ12.out;refine Pr.done ?_;refine Ab.Ar rfl ?_;refine Ab.Am ?_;apply Pr.run;intro Ψ13 hΨ13;refine Aa.region (Z2 g6 g11 ?_);exact hΨ13.out;refine Pr.done ?_;refine Ab.ret (Z2 g6 g11 ?_);apply AP.i;intro Ψ14 hΨ14;refine Z2 g6 g11 ?_;exact hΨ14.out;refine ⟨_,rfl,rfl,?_⟩;rotate_left;have d11:=Aj g11;apply Pr.run;intro Ψ15 hΨ15;refine Z2 g6 g11 ?_;constructor;rotate_left;exact hΨ15.out;refine Pr.CH (fun g16=>?_) (fun g16=>?_);have d16:=AB g16;apply Pr.run;intro Ψ17 hΨ17;refine Z3 g6 g11 g16 ?_;exact hΨ17.out
 refine Pr.CH (fun g18=>?_) (fun g18=>?_);apply Pr.run;intro Ψ19 hΨ19;refine Z4 g6 g11 g16 g18 ?_;exact hΨ19.out;refine Pr.done ?_;refine Ab.Ar rfl ?_;refine Ab.Am ?_;apply Pr.run;intro Ψ20 hΨ20;refine Aa.region (Z4 g6 g11 g16 g18 ?_);exact hΨ20.out;refine Pr.done ?_;refine Ab.ret (Z4 g6 g11 g16 g18 ?_);apply AP.i;intro Ψ21 hΨ21;refine Z4 g6 g11 g16 g18 ?_;exact hΨ21.out;refine ⟨_,rfl,rfl,?_⟩;rotate_left;apply Pr.run;intro Ψ22 hΨ22;refine Z4 g6 g11 g16 g18 ?_;refine Af.eq (h1 ?_ ?_ ?_) rfl ?_;omega;trivial;trivial;refine Z4 g6 g11 g16 g18 ?_;exact hΨ22.out;refine Pr.done ?_;refine Ab.cond rfl (fun g24=>?_) (fun g24=>?_);refine Ab.Am ?_;apply Pr.run;intro Ψ25 hΨ25;refine Aa.region (Z5 g6 g11 g16 g18 g24 ?_);exact hΨ25.out;refine Pr.done ?_;refine Ab.ret (Z5 g6 g11 g16 g18 g24 ?_);apply AP.i;intro Ψ26 hΨ26;refine Z5 g6 g11 g16 g18 g24 ?_;exact hΨ26.out;refine ⟨_,rfl,rfl,?_⟩;rotate_left;refine Ab.skip (Z5 g6 g11 g16 g18 g24 ?_);refine Ab.Am ?_;apply Pr.run;intro Ψ27 hΨ27;refine Aa.region (Z5 g6 g11 g16 g18 g24 ?_);exact hΨ27.out;refine Pr.done ?_;refine Ab.seq ?_;refine Ab.Am ?_;apply Pr.run;intro Ψ28 hΨ28;refine Aa.E7 5 1 0 rfl (Z5 g6 g11 g16 g18 g24 ?_);refine Aa.region (Z5 g6 g11 g16 g18 g24 ?_);exact hΨ28.out;refine Pr.done ?_;refine Ab.block ?_;refine Ab.A0 (fun x:Int × List Int=>[(5,.hsl 1 x.2.length 0 x.2.length),(6,.val (.int .i64 x.1))]) [4,2,0] (fun x:Int × List Int=>[.cells [.sl true [],.val (.bool false)],.row true x.2.length 1 (is x.2)]) (fun x:Int × List Int=>x.1 + 6 * (x.2.length:Int) = t.length /\ Tp t.length x.2 /\ -6 < x.1) (fun x:Int × List Int=>x.1.toNat) (((t.length:Int),[])) ?_ rfl ?_ ?_
 refine Z5 g6 g11 g16 g18 g24 ?_;rotate_left;refine ⟨rfl,?_,?_,rfl,?_⟩;refine GO g6 g11 g16 g18 g24 ?_;constructor;trivial;trivial;refine GO g6 g11 g16 g18 g24 ?_;trivial;exact GO g6 g11 g16 g18 g24 trivial;rintro ⟨e,d⟩ ⟨h2,h3,h4⟩;simp only at h2 h3 h4;have hc:=TD t e;refine Z5 g6 g11 g16 g18 g24 ?_;refine Ab.seq ?_;refine Ab.Am ?_;apply Pr.run;intro Ψ29 hΨ29;refine Aa.region (Z5 g6 g11 g16 g18 g24 ?_);exact hΨ29.out;refine Pr.done ?_;refine Ab.cond rfl (fun g30=>?_) (fun g30=>?_);have d30:=An g30;refine Ab.skip (Z6 g6 g11 g16 g18 g24 g30 ?_);refine Ab.seq (Ab.block ?_);refine Ab.Am ?_;apply Pr.run;intro Ψ31 hΨ31;refine Aa.region (Z6 g6 g11 g16 g18 g24 g30 ?_);exact hΨ31.out;refine Pr.done ?_;refine Ab.seq ?_;refine Ab.Am ?_;apply Pr.run;intro Ψ32 hΨ32;refine Aa.region (Z6 g6 g11 g16 g18 g24 g30 ?_);simp -implicitDefEqProofs (dsimp:=false) (disch:=omega) only [i64_in,gd,IntWalk.i32_in];refine Af.eq (afQ _ _) rfl (Z6 g6 g11 g16 g18 g24 g30 ?_);refine Ao (Ao (Ao ?_));exact hΨ32.out;refine Pr.done ?_;refine Ab.block ?_;refine Ab.A0 (fun y:Nat × Int=>[(7,.val (.int .i64 y.2))]) [46,5,6,4,2,0] (fun y:Nat × Int=>[.cells [.sl true [],.val (.bool false)],.row true d.length 1 (is d),.siter (Ak (Ml t e)) y.1]) (fun y:Nat × Int=>y.1 <= (Ml t e).length /\ 0 <= y.2 /\ y.2 < 10 ^ y.1) (fun y:Nat × Int=>(Ml t e).length - y.1) ((0,0)) ?_ rfl ?_ ?_;refine Z6 g6 g11 g16 g18 g24 g30 ?_;omega;refine ⟨rfl,?_,?_,rfl,?_⟩;refine JB g6 g11 g16 g18 g24 g30 ?_
 constructor;trivial;constructor;trivial;trivial;exact JB g6 g11 g16 g18 g24 g30 trivial;exact JB g6 g11 g16 g18 g24 g30 trivial;rintro ⟨p,n⟩ ⟨h5,h6,h7⟩;simp only at h5 h6 h7;have h8:=XC h7 (by omega);refine Z6 g6 g11 g16 g18 g24 g30 ?_;refine Ab.Am ?_;apply Pr.run;intro Ψ34 hΨ34;refine Aa.region (Z6 g6 g11 g16 g18 g24 g30 ?_);exact hΨ34.out;refine Pr.both (fun g35=>?_) (fun g35=>?_);apply Pr.run;intro Ψ36 hΨ36;exact hΨ36.out;refine Pr.done ?_;refine Ab.seq (Ab.Ar rfl ?_);refine Ab.skip (Z7 g6 g11 g16 g18 g24 g30 g35 ?_);refine Ab.block ?_;refine Ab.Am ?_;apply Pr.run;intro Ψ37 hΨ37;refine Aa.region (Z7 g6 g11 g16 g18 g24 g30 g35 ?_);exact hΨ37.out;refine Pr.done ?_;refine Ab.Di ?_;apply Pr.run;intro Ψ38 hΨ38;refine Aa.region (Z7 g6 g11 g16 g18 g24 g30 g35 ?_);exact hΨ38.out;refine Pr.done (Z7 g6 g11 g16 g18 g24 g30 g35 ?_);simp -implicitDefEqProofs (dsimp:=false) (disch:=omega) only [i64_in,gd,IntWalk.i32_in];refine ⟨(p + 1,10 * n + ((((Ml t e).getD p 0).toNat:Int) - 48)),?_⟩;constructor;constructor
 assumption
 constructor;simp -implicitDefEqProofs (dsimp:=false) only [go_sem,simprocAttr,g6,g11,g16,g18,g24,g30,g35,Nat.le_refl,List.length_cons,List.length_append,List.length_nil];rotate_left;simp -implicitDefEqProofs (dsimp:=false) only [go_sem,simprocAttr,g6,g11,g16,g18,g24,g30,g35,Nat.le_refl,List.length_cons,List.length_append,List.length_nil];rotate_left;constructor;omega;refine ⟨rfl,?_,?_,rfl,?_⟩;refine Mu g6 g11 g16 g18 g24 g30 g35 ?_;constructor;rotate_left;constructor;trivial;constructor;trivial;trivial;refine Mu g6 g11 g16 g18 g24 g30 g35 ?_;rotate_left;exact Mu g6 g11 g16 g18 g24 g30 g35 trivial;apply Pr.run;intro Ψ39 hΨ39;exact hΨ39.out;refine Pr.done ?_;refine Ab.seq (Ab.Ax rfl ?_);refine Ab.exit (Z7 g6 g11 g16 g18 g24 g30 g35 ?_);refine Ab.Di ?_;apply Pr.run;intro Ψ40 hΨ40;refine Aa.region (Z7 g6 g11 g16 g18 g24 g30 g35 ?_);refine And.intro (by trivial) ?_;constructor;rotate_left;refine Ao ?_;exact hΨ40.out;refine Pr.done (Z7 g6 g11 g16 g18 g24 g30 g35 ?_);refine Ab.Di ?_;apply Pr.run;intro Ψ41 hΨ41;refine Aa.region (Z7 g6 g11 g16 g18 g24 g30 g35 ?_);exact hΨ41.out;refine Pr.done (Z7 g6 g11 g16 g18 g24 g30 g35 ?_);simp -implicitDefEqProofs (dsimp:=false) (disch:=omega) only [i64_in,gd,IntWalk.i32_in];refine ⟨(e - 6,d ++ [n]),?_⟩;constructor;constructor;simp -implicitDefEqProofs (dsimp:=false) only [go_sem,simprocAttr,g6,g11,g16,g18,g24,g30,g35,Nat.le_refl,List.length_cons,List.length_append,List.length_nil];omega;constructor
 simp -implicitDefEqProofs (dsimp:=false) only [go_sem,simprocAttr,g6,g11,g16,g18,g24,g30,g35,Nat.le_refl,List.length_cons,List.length_append,List.length_nil];rotate_left;omega;constructor;omega;refine ⟨rfl,?_,?_,rfl,?_⟩;refine Mu g6 g11 g16 g18 g24 g30 g35 ?_;constructor;rotate_left;constructor;trivial;trivial;refine Mu g6 g11 g16 g18 g24 g30 g35 ?_;rotate_left;exact Mu g6 g11 g16 g18 g24 g30 g35 trivial;have d30:=Aj g30;refine Ab.exit (Z6 g6 g11 g16 g18 g24 g30 ?_);refine Ab.seq (Ab.block ?_);refine Ab.A0 (fun m:Nat=>[(5,.hsl 1 d.length 0 m)]) [6,4,2,0] (fun m:Nat=>[.cells [.sl true [],.val (.bool false)],.row true d.length 1 (is d)]) (fun m:Nat=>m <= d.length) (fun m:Nat=>m) (d.length) ?_ rfl ?_ ?_;omega;refine ⟨rfl,?_,?_,rfl,?_⟩;refine JB g6 g11 g16 g18 g24 g30 ?_;constructor;trivial;trivial;exact JB g6 g11 g16 g18 g24 g30 trivial;exact JB g6 g11 g16 g18 g24 g30 trivial;rintro m h9;refine Z6 g6 g11 g16 g18 g24 g30 ?_;refine Ab.seq ?_;refine Ab.Am ?_;apply Pr.run;intro Ψ42 hΨ42;refine Aa.region (Z6 g6 g11 g16 g18 g24 g30 ?_);exact hΨ42.out;refine Pr.CH (fun g43=>?_) (fun g43=>?_);have d43:=An g43;apply Pr.run;intro Ψ44 hΨ44;refine Z7 g6 g11 g16 g18 g24 g30 g43 ?_;simp -implicitDefEqProofs (dsimp:=false) (disch:=omega) only [i64_in,gd,IntWalk.i32_in];refine Z7 g6 g11 g16 g18 g24 g30 g43 ?_;refine Ao (Ao ?_);refine And.intro (by assumption) ?_;refine Ao ?_;exact hΨ44.out;refine Pr.done ?_;refine Ab.cond rfl (fun g45=>?_) (fun g45=>?_)
 have d45:=AB g45;refine Ab.skip (Z8 g6 g11 g16 g18 g24 g30 g43 g45 ?_);refine Ab.block ?_;refine Ab.Di ?_;apply Pr.run;intro Ψ46 hΨ46;refine Aa.region (Z8 g6 g11 g16 g18 g24 g30 g43 g45 ?_);refine And.intro (by assumption) ?_;simp -implicitDefEqProofs (dsimp:=false) (disch:=omega) only [i64_in,gd,IntWalk.i32_in];refine Ao (Ao ?_);exact hΨ46.out;refine Pr.done (Z8 g6 g11 g16 g18 g24 g30 g43 g45 ?_);refine ⟨m - 1,?_⟩;constructor;omega;constructor;omega;refine ⟨rfl,?_,?_,rfl,?_⟩;refine VZ g6 g11 g16 g18 g24 g30 g43 g45 ?_;constructor
 (congr 1 <;> omega)
 constructor;trivial;trivial;exact VZ g6 g11 g16 g18 g24 g30 g43 g45 trivial;exact VZ g6 g11 g16 g18 g24 g30 g43 g45 trivial;have d45:=Aq g45;refine Ab.exit (Z8 g6 g11 g16 g18 g24 g30 g43 g45 ?_);refine Ab.Am ?_;apply Pr.run;intro Ψ47 hΨ47;refine Aa.freeze 5 (Z8 g6 g11 g16 g18 g24 g30 g43 g45 ?_);constructor
 assumption
 refine Aa.region (Z8 g6 g11 g16 g18 g24 g30 g43 g45 ?_);refine Af.eq (Zy _ _) rfl (Z8 g6 g11 g16 g18 g24 g30 g43 g45 ?_);exact hΨ47.out;refine Pr.done ?_;refine Ab.ret ?_;apply AP.i;intro Ψ49 hΨ49;refine Z8 g6 g11 g16 g18 g24 g30 g43 g45 ?_;exact hΨ49.out;refine ⟨_,rfl,rfl,?_⟩;rotate_left;have d43:=Aj g43;apply Pr.run;intro Ψ50 hΨ50;refine Z7 g6 g11 g16 g18 g24 g30 g43 ?_;exact hΨ50.out;refine Pr.done ?_;refine Ab.Ax rfl ?_;refine Ab.exit (Z7 g6 g11 g16 g18 g24 g30 g43 ?_);refine Ab.Am ?_;apply Pr.run;intro Ψ51 hΨ51;refine Aa.freeze 5 (Z7 g6 g11 g16 g18 g24 g30 g43 ?_);constructor
 assumption
 refine Aa.region (Z7 g6 g11 g16 g18 g24 g30 g43 ?_);refine Af.eq (Zy _ _) rfl (Z7 g6 g11 g16 g18 g24 g30 g43 ?_);exact hΨ51.out;refine Pr.done ?_;refine Ab.ret ?_;apply AP.i;intro Ψ53 hΨ53;refine Z7 g6 g11 g16 g18 g24 g30 g43 ?_;exact hΨ53.out;refine ⟨_,rfl,rfl,?_⟩;rotate_left;have d16:=Aq g16;apply Pr.run;intro Ψ54 hΨ54;refine Z3 g6 g11 g16 ?_;refine Af.eq (h1 ?_ ?_ ?_) rfl ?_;omega;trivial;trivial;refine Z3 g6 g11 g16 ?_;exact hΨ54.out;refine Pr.done ?_;refine Ab.cond rfl (fun g56=>?_) (fun g56=>?_);refine Ab.Am ?_;apply Pr.run;intro Ψ57 hΨ57;refine Aa.region (Z4 g6 g11 g16 g56 ?_);exact hΨ57.out;refine Pr.done ?_;refine Ab.ret (Z4 g6 g11 g16 g56 ?_);apply AP.i;intro Ψ58 hΨ58;refine Z4 g6 g11 g16 g56 ?_;exact hΨ58.out;refine ⟨_,rfl,rfl,?_⟩;rotate_left;refine Ab.skip (Z4 g6 g11 g16 g56 ?_);refine Ab.Am ?_;apply Pr.run;intro Ψ59 hΨ59;refine Aa.region (Z4 g6 g11 g16 g56 ?_);exact hΨ59.out;refine Pr.done ?_;refine Ab.seq ?_;refine Ab.Am ?_;apply Pr.run;intro Ψ60 hΨ60;refine Aa.E7 5 1 0 rfl (Z4 g6 g11 g16 g56 ?_);refine Aa.region (Z4 g6 g11 g16 g56 ?_);exact hΨ60.out;refine Pr.done ?_;refine Ab.block ?_;refine Ab.A0 (fun x:Int × List Int=>[(5,.hsl 1 x.2.length 0 x.2.length),(6,.val (.int .i64 x.1))]) [4,2,0] (fun x:Int × List Int=>[.cells [.sl true [],.val (.bool false)],.row true x.2.length 1 (is x.2)]) (fun x:Int × List Int=>x.1 + 6 * (x.2.length:Int) = t.length /\ Tp t.length x.2 /\ -6 < x.1) (fun x:Int × List Int=>x.1.toNat) (((t.length:Int),[])) ?_ rfl ?_ ?_
 refine Z4 g6 g11 g16 g56 ?_;rotate_left;refine ⟨rfl,?_,?_,rfl,?_⟩;refine Mv g6 g11 g16 g56 ?_;constructor;trivial;trivial;refine Mv g6 g11 g16 g56 ?_;trivial;exact Mv g6 g11 g16 g56 trivial;rintro ⟨e,d⟩ ⟨h2,h3,h4⟩;simp only at h2 h3 h4;have hc:=TD t e;refine Z4 g6 g11 g16 g56 ?_;refine Ab.seq ?_;refine Ab.Am ?_;apply Pr.run;intro Ψ61 hΨ61;refine Aa.region (Z4 g6 g11 g16 g56 ?_);exact hΨ61.out;refine Pr.done ?_;refine Ab.cond rfl (fun g62=>?_) (fun g62=>?_);have d62:=An g62;refine Ab.skip (Z5 g6 g11 g16 g56 g62 ?_);refine Ab.seq (Ab.block ?_);refine Ab.Am ?_;apply Pr.run;intro Ψ63 hΨ63;refine Aa.region (Z5 g6 g11 g16 g56 g62 ?_);exact hΨ63.out;refine Pr.done ?_;refine Ab.seq ?_;refine Ab.Am ?_;apply Pr.run;intro Ψ64 hΨ64;refine Aa.region (Z5 g6 g11 g16 g56 g62 ?_);simp -implicitDefEqProofs (dsimp:=false) (disch:=omega) only [i64_in,gd,IntWalk.i32_in];refine Af.eq (afQ _ _) rfl (Z5 g6 g11 g16 g56 g62 ?_);refine Ao (Ao (Ao ?_));exact hΨ64.out;refine Pr.done ?_;refine Ab.block ?_;refine Ab.A0 (fun y:Nat × Int=>[(7,.val (.int .i64 y.2))]) [46,5,6,4,2,0] (fun y:Nat × Int=>[.cells [.sl true [],.val (.bool false)],.row true d.length 1 (is d),.siter (Ak (Ml t e)) y.1]) (fun y:Nat × Int=>y.1 <= (Ml t e).length /\ 0 <= y.2 /\ y.2 < 10 ^ y.1) (fun y:Nat × Int=>(Ml t e).length - y.1) ((0,0)) ?_ rfl ?_ ?_;refine Z5 g6 g11 g16 g56 g62 ?_;omega;refine ⟨rfl,?_,?_,rfl,?_⟩;refine GO g6 g11 g16 g56 g62 ?_;constructor;trivial;constructor;trivial;trivial
 exact GO g6 g11 g16 g56 g62 trivial;exact GO g6 g11 g16 g56 g62 trivial;rintro ⟨p,n⟩ ⟨h5,h6,h7⟩;simp only at h5 h6 h7;have h8:=XC h7 (by omega);refine Z5 g6 g11 g16 g56 g62 ?_;refine Ab.Am ?_;apply Pr.run;intro Ψ66 hΨ66;refine Aa.region (Z5 g6 g11 g16 g56 g62 ?_);exact hΨ66.out;refine Pr.both (fun g67=>?_) (fun g67=>?_);apply Pr.run;intro Ψ68 hΨ68;exact hΨ68.out;refine Pr.done ?_;refine Ab.seq (Ab.Ar rfl ?_);refine Ab.skip (Z6 g6 g11 g16 g56 g62 g67 ?_);refine Ab.block ?_;refine Ab.Am ?_;apply Pr.run;intro Ψ69 hΨ69;refine Aa.region (Z6 g6 g11 g16 g56 g62 g67 ?_);exact hΨ69.out;refine Pr.done ?_;refine Ab.Di ?_;apply Pr.run;intro Ψ70 hΨ70;refine Aa.region (Z6 g6 g11 g16 g56 g62 g67 ?_);exact hΨ70.out;refine Pr.done (Z6 g6 g11 g16 g56 g62 g67 ?_);simp -implicitDefEqProofs (dsimp:=false) (disch:=omega) only [i64_in,gd,IntWalk.i32_in];refine ⟨(p + 1,10 * n + ((((Ml t e).getD p 0).toNat:Int) - 48)),?_⟩;constructor;constructor
 assumption
 constructor;simp -implicitDefEqProofs (dsimp:=false) only [go_sem,simprocAttr,g6,g11,g16,g56,g62,g67,Nat.le_refl,List.length_cons,List.length_append,List.length_nil];rotate_left;simp -implicitDefEqProofs (dsimp:=false) only [go_sem,simprocAttr,g6,g11,g16,g56,g62,g67,Nat.le_refl,List.length_cons,List.length_append,List.length_nil];rotate_left;constructor;omega;refine ⟨rfl,?_,?_,rfl,?_⟩;refine JB g6 g11 g16 g56 g62 g67 ?_;constructor;rotate_left;constructor;trivial;constructor;trivial;trivial;refine JB g6 g11 g16 g56 g62 g67 ?_;rotate_left;exact JB g6 g11 g16 g56 g62 g67 trivial;apply Pr.run;intro Ψ71 hΨ71;exact hΨ71.out;refine Pr.done ?_;refine Ab.seq (Ab.Ax rfl ?_);refine Ab.exit (Z6 g6 g11 g16 g56 g62 g67 ?_);refine Ab.Di ?_;apply Pr.run;intro Ψ72 hΨ72;refine Aa.region (Z6 g6 g11 g16 g56 g62 g67 ?_);refine And.intro (by trivial) ?_;constructor;rotate_left;refine Ao ?_;exact hΨ72.out;refine Pr.done (Z6 g6 g11 g16 g56 g62 g67 ?_);refine Ab.Di ?_;apply Pr.run;intro Ψ73 hΨ73;refine Aa.region (Z6 g6 g11 g16 g56 g62 g67 ?_);exact hΨ73.out;refine Pr.done (Z6 g6 g11 g16 g56 g62 g67 ?_);simp -implicitDefEqProofs (dsimp:=false) (disch:=omega) only [i64_in,gd,IntWalk.i32_in];refine ⟨(e - 6,d ++ [n]),?_⟩;constructor;constructor;simp -implicitDefEqProofs (dsimp:=false) only [go_sem,simprocAttr,g6,g11,g16,g56,g62,g67,Nat.le_refl,List.length_cons,List.length_append,List.length_nil];omega;constructor;simp -implicitDefEqProofs (dsimp:=false) only [go_sem,simprocAttr,g6,g11,g16,g56,g62,g67,Nat.le_refl,List.length_cons,List.length_append,List.length_nil]
 rotate_left;omega;constructor;omega;refine ⟨rfl,?_,?_,rfl,?_⟩;refine JB g6 g11 g16 g56 g62 g67 ?_;constructor;rotate_left;constructor;trivial;trivial;refine JB g6 g11 g16 g56 g62 g67 ?_;rotate_left;exact JB g6 g11 g16 g56 g62 g67 trivial;have d62:=Aj g62;refine Ab.exit (Z5 g6 g11 g16 g56 g62 ?_);refine Ab.seq (Ab.block ?_);refine Ab.A0 (fun m:Nat=>[(5,.hsl 1 d.length 0 m)]) [6,4,2,0] (fun m:Nat=>[.cells [.sl true [],.val (.bool false)],.row true d.length 1 (is d)]) (fun m:Nat=>m <= d.length) (fun m:Nat=>m) (d.length) ?_ rfl ?_ ?_;omega;refine ⟨rfl,?_,?_,rfl,?_⟩;refine GO g6 g11 g16 g56 g62 ?_;constructor;trivial;trivial;exact GO g6 g11 g16 g56 g62 trivial;exact GO g6 g11 g16 g56 g62 trivial;rintro m h9;refine Z5 g6 g11 g16 g56 g62 ?_;refine Ab.seq ?_;refine Ab.Am ?_;apply Pr.run;intro Ψ74 hΨ74;refine Aa.region (Z5 g6 g11 g16 g56 g62 ?_);exact hΨ74.out;refine Pr.CH (fun g75=>?_) (fun g75=>?_);have d75:=An g75;apply Pr.run;intro Ψ76 hΨ76;refine Z6 g6 g11 g16 g56 g62 g75 ?_;simp -implicitDefEqProofs (dsimp:=false) (disch:=omega) only [i64_in,gd,IntWalk.i32_in];refine Z6 g6 g11 g16 g56 g62 g75 ?_;refine Ao (Ao ?_);refine And.intro (by assumption) ?_;refine Ao ?_;exact hΨ76.out;refine Pr.done ?_;refine Ab.cond rfl (fun g77=>?_) (fun g77=>?_);have d77:=AB g77;refine Ab.skip (Z7 g6 g11 g16 g56 g62 g75 g77 ?_);refine Ab.block ?_;refine Ab.Di ?_;apply Pr.run;intro Ψ78 hΨ78;refine Aa.region (Z7 g6 g11 g16 g56 g62 g75 g77 ?_);refine And.intro (by assumption) ?_
 simp -implicitDefEqProofs (dsimp:=false) (disch:=omega) only [i64_in,gd,IntWalk.i32_in];refine Ao (Ao ?_);exact hΨ78.out;refine Pr.done (Z7 g6 g11 g16 g56 g62 g75 g77 ?_);refine ⟨m - 1,?_⟩;constructor;omega;constructor;omega;refine ⟨rfl,?_,?_,rfl,?_⟩;refine Mu g6 g11 g16 g56 g62 g75 g77 ?_;constructor
 (congr 1 <;> omega)
 constructor;trivial;trivial;exact Mu g6 g11 g16 g56 g62 g75 g77 trivial;exact Mu g6 g11 g16 g56 g62 g75 g77 trivial;have d77:=Aq g77;refine Ab.exit (Z7 g6 g11 g16 g56 g62 g75 g77 ?_);refine Ab.Am ?_;apply Pr.run;intro Ψ79 hΨ79;refine Aa.freeze 5 (Z7 g6 g11 g16 g56 g62 g75 g77 ?_);constructor
 assumption
 refine Aa.region (Z7 g6 g11 g16 g56 g62 g75 g77 ?_);refine Af.eq (Zy _ _) rfl (Z7 g6 g11 g16 g56 g62 g75 g77 ?_);exact hΨ79.out;refine Pr.done ?_;refine Ab.ret ?_;apply AP.i;intro Ψ81 hΨ81;refine Z7 g6 g11 g16 g56 g62 g75 g77 ?_;exact hΨ81.out;refine ⟨_,rfl,rfl,?_⟩;rotate_left;have d75:=Aj g75;apply Pr.run;intro Ψ82 hΨ82;refine Z6 g6 g11 g16 g56 g62 g75 ?_;exact hΨ82.out;refine Pr.done ?_;refine Ab.Ax rfl ?_;refine Ab.exit (Z6 g6 g11 g16 g56 g62 g75 ?_);refine Ab.Am ?_;apply Pr.run;intro Ψ83 hΨ83;refine Aa.freeze 5 (Z6 g6 g11 g16 g56 g62 g75 ?_);constructor
 assumption
 refine Aa.region (Z6 g6 g11 g16 g56 g62 g75 ?_);refine Af.eq (Zy _ _) rfl (Z6 g6 g11 g16 g56 g62 g75 ?_);exact hΨ83.out;refine Pr.done ?_;refine Ab.ret ?_;apply AP.i;intro Ψ85 hΨ85;refine Z6 g6 g11 g16 g56 g62 g75 ?_;exact hΨ85.out;refine ⟨_,rfl,rfl,?_⟩;rotate_left
 all_goals first
  | exact hN _ _
  | exact ⟨_,_,_,t.length,rfl,(by have:=of_decide_eq_false g11; omega),h3.take m⟩
  | exact ⟨by omega,fun i hi=>absurd hi (Nat.not_lt_zero i),by omega⟩
  | exact JI [n]
  | exact (PV h6 h7 (JH (by assumption) (by assumption)).1 (JH (by assumption) (by assumption)).2).1
  | exact (PV h6 h7 (JH (by assumption) (by assumption)).1 (JH (by assumption) (by assumption)).2).2
  | exact adP (by assumption) (by assumption) h6 (by omega)
  | (rw [Td (by assumption) (by assumption)])
  | exact Tp.snoc h3 h6 h7 (by omega) (by omega) (by omega)
  | (rw [ZB,List.length_append,List.length_singleton])
  | (rw [List.length_append,List.length_singleton])
  | (
   have ht0:t ≠ []:=(by simpa using g6)
   have:=List.length_pos_iff.2 ht0;omega)
  | skip
end
end Go.Proofs.Tryz

namespace Go.Proofs.Tryz
open Go Go.RowKit Go.Shelf Go.PM
def CJ (s:List UInt8) (c:UInt8):Nat:=min (Lib.count s [c] + 1) (s.length + 1)
def Dr (s:List UInt8) (c:UInt8):List (List UInt8):=Lib.splitK [c] 1 (CJ s c - 1) s
theorem Y4 {M:Mem} {b:Nat} {l:List (List UInt8)} {cap:Nat} (h1:l.length <= cap) (h2:∀ i:Nat,i < l.length -> M.w.cell? ⟨b,i,none⟩ = some (.string (Ak (l.getD i [])))) (h3:cap <= M.lo b):Al M [] (.sl false (strs l)) (.slice (some ⟨b,0,none⟩) l.length cap):=by
 have hl:(strs l).length = l.length:=by simp [strs]
 have hx:∀ (i:Nat) (x:AV),(strs l)[i]? = some x -> i < l.length /\ x = .val (.string (Ak (l.getD i []))):=by
  intro i x hi;have hlt:i < l.length:=by rw [<- hl]; exact (List.getElem?_eq_some_iff.1 hi).1
  refine ⟨hlt,?_⟩;have:=MS hlt;rw [List.getD_eq_getElem?_getD,hi] at this;exact this
 have hc:∀ (i j:Nat) (x c:AV),(strs l)[i]? = some x -> x.cells[j]? = some c -> i < l.length /\ j = 0 /\ c = .val (.string (Ak (l.getD i []))):=by
  intro i j x c hi hj;obtain ⟨h5,rfl⟩:=hx i x hi
  match j,hj with
  | 0,hj=>cases hj; exact ⟨h5,rfl,rfl⟩
  | j + 1,hj=>simp [AV.cells] at hj
 have hg:∀ i:Nat,i < l.length -> M.QM b i /\ M.get b i = .string (Ak (l.getD i [])):=fun i hi=>⟨⟨by omega,by rw [h2 i hi]; rfl⟩,by unfold Mem.get; rw [h2 i hi]; rfl⟩
 have:=Al.sl (M:=M) (hb:=[]) (full:=false) (es:=strs l) (a:=⟨b,0,none⟩) (cap:=cap) 1 (.inl rfl) (by omega) (fun hf=>by cases hf)
  (fun e he=>by
   obtain ⟨i,hi⟩:=List.getElem?_of_mem he;obtain ⟨h5,rfl⟩:=hx i e hi;rfl)
  (fun i e j c hi hj=>by
   obtain ⟨h5,rfl,rfl⟩:=hc i j e c hi hj;simp only [Nat.mul_one,Nat.zero_add,Nat.add_zero];exact ⟨(hg i h5).1,rfl⟩)
  (fun i e j c hi hj=>by
   obtain ⟨h5,rfl,rfl⟩:=hc i j e c hi hj;simp only [Nat.mul_one,Nat.zero_add,Nat.add_zero];rw [(hg i h5).2];exact .val rfl)
 rwa [hl] at this
theorem aie (s:List UInt8) (c:UInt8) (hs:s.length < 4294967281):Af prog 288 [.val (.string (Ak s)),.val (.string (Ak [c])),.val (.int .i64 1),.val (.int .i64 (-1))] (· = .sl false (strs (Dr s c))):=by
 refine Af.afY (vals:=[.string (Ak s),.string (Ak [c]),.int .i64 1,.int .i64 (-1)]) (SD func288 (by decide) rfl) fun M hM htop=>?_;have hsz:(Ak s).size = s.length:=BH s;have hmap:(Lib.splitB (Ak [c]) 1 (CJ s c - 1) (Ak s)).map (·.data.toList) = Dr s c:=Lib.splitB_data _ _ _ _;have hlen:(Lib.splitB (Ak [c]) 1 (CJ s c - 1) (Ak s)).length = (Dr s c).length:=by rw [<- hmap]; simp
 have hroom:1 <= CJ s c:=by unfold CJ; omega
 have hle:(Lib.splitB (Ak [c]) 1 (CJ s c - 1) (Ak s)).length <= CJ s c:=by
  have:=Lib.splitB_length_le (Ak [c]) 1 (CJ s c - 1) (Ak s);omega
 refine Calls.mono (Any.strings_genSplit_core Ru (by kernel_rfl) (Ak s) (Ak [c]) 1 (-1) (CJ s c) M.w (by rw [hsz]; exact hs) (by rw [BH]; exact Nat.le_refl _) (by rw [BH]; exact Nat.le_refl _)
  (fun x cs hx=>(Any.strings_Index_one { Ru with } x c _).mono fun e w' ⟨he,hw⟩=>⟨by rw [he,<- Lib.index_one]; rfl,hw⟩)
  ((Any.strings_Count_one { Ru with } (Ak s) c M.w).mono fun e w' ⟨he,hw⟩=>⟨by
   rw [he]
   show _ = Ending.returned (Value.int .i64 ((Lib.count s [c]:Nat):Int))
   rw [Lib.count_one];rfl,hw⟩)
  (by decide) (by decide) (by
   show ((CJ s c:Nat):Int) = min (if (-1:Int) < 0 then ((Lib.count s [c]:Nat):Int) + 1 else -1) (((Ak s).size:Int) + 1)
   rw [hsz,if_pos (by decide)];unfold CJ;omega)) fun e w' ⟨h1,h2⟩=>?_
 have hB:Below M.w.heap.size M.w w':=by rw [h2]; exact (Below.refl _ _).alloc (Nat.le_refl _) _
 have hnew:w'.heap[M.w.heap.size]? = some (.cells (Lib.cellsOf (Lib.splitB (Ak [c]) 1 (CJ s c - 1) (Ak s)) (CJ s c)) (Wp.t 9) (0,0)):=by rw [h2]; exact World.alloc_heap_new M.w _
 have hsize:w'.heap.size = M.w.heap.size + 1:=by rw [h2]; simp
 refine ⟨_,_,fun b=>if b = M.w.heap.size then CJ s c else M.lo b,h1,rfl,rfl,hB,fun b hb=>if_neg (by omega),fun b hb=>?_,?_⟩
 ·show (if b = M.w.heap.size then CJ s c else M.lo b) = 0
  rw [if_neg (by omega)];exact htop b (by omega)
 ·rw [hlen]
  refine Y4 (by omega) (fun i hi=>?_) (by show _ <= if M.w.heap.size = M.w.heap.size then CJ s c else _; rw [if_pos rfl]; exact Nat.le_refl _);have hi':i < (Lib.splitB (Ak [c]) 1 (CJ s c - 1) (Ak s)).length:=by omega
  have hcell:w'.cell? ⟨M.w.heap.size,i,none⟩ = (Lib.cellsOf (Lib.splitB (Ak [c]) 1 (CJ s c - 1) (Ak s)) (CJ s c))[i]?:=by simp [World.cell?,hnew]
  show w'.cell? ⟨M.w.heap.size,i,none⟩ = _
  rw [hcell];have hp:(Dr s c).getD i [] = ((Lib.splitB (Ak [c]) 1 (CJ s c - 1) (Ak s))[i]'hi').data.toList:=by
   rw [<- hmap];simp [List.getD_eq_getElem?_getD,hi']
  rw [hp];generalize hd:Lib.splitB (Ak [c]) 1 (CJ s c - 1) (Ak s) = d at hi';unfold Lib.cellsOf;rw [List.getElem?_toArray,List.getElem?_append_left (by simpa using hi'),List.getElem?_map,List.getElem?_eq_getElem hi'];simp [Ak]
theorem U7 (c:UInt8):∀ (k:Nat) (s:List UInt8),Lib.splitK [c] 1 k s ≠ []
 | 0,_=>by simp [Lib.splitK]
 | k + 1,s=>by
  unfold Lib.splitK
  split <;> simp
theorem NI (c:UInt8):∀ (k:Nat) (s:List UInt8),∀ x ∈ Lib.splitK [c] 1 k s,x.length <= s.length
 | 0,s=>by simp [Lib.splitK]
 | k + 1,s=>by
  unfold Lib.splitK
  split
  ·simp
  ·intro x hx
   rcases List.mem_cons.1 hx with rfl | hx
   ·simp; omega
   ·have:=NI c k _ x hx
    simp at this;omega
theorem UI (s:List UInt8) (c:UInt8):Dr s c ≠ []:=U7 c _ s
theorem Up {s x:List UInt8} {c:UInt8} (h:x ∈ Dr s c):x.length <= s.length:=NI c _ s x h
theorem RI (s:List UInt8) (c:UInt8):0 < (Dr s c).length:=List.length_pos_iff.2 (UI s c)
theorem HM (c:UInt8):∀ (k:Nat) (s:List UInt8),(Lib.splitK [c] 1 k s).length <= k + 1
 | 0,s=>by simp [Lib.splitK]
 | k + 1,s=>by
  unfold Lib.splitK
  split
  ·simp
  ·have:=HM c k (s.drop ((Lib.index s [c]).toNat + [c].length))
   simp only [List.length_cons];exact Nat.succ_le_succ this
theorem HJ (s:List UInt8) (c:UInt8):(Dr s c).length <= s.length + 1:=by
 have:=HM c (CJ s c - 1) s;have h:CJ s c <= s.length + 1:=by unfold CJ; omega
 have h1:1 <= CJ s c:=by unfold CJ; omega
 unfold Dr;omega
end Go.Proofs.Tryz

namespace Go.Proofs.Tryz
open Go.PM
def isSmall (b:UInt8):Bool:=decide ((b.toNat:Int) >= 97) && decide ((b.toNat:Int) <= 122)
def isLarge (b:UInt8):Bool:=decide ((b.toNat:Int) >= 65) && decide ((b.toNat:Int) <= 90)
def F4 (b:UInt8):Bool:=isSmall b || isLarge b
def isDigit (b:UInt8):Bool:=decide ((b.toNat:Int) >= 48) && decide ((b.toNat:Int) <= 57)
def Dj (b:UInt8):Bool:=F4 b || isDigit b
def EP (b:UInt8):Bool:=(b.toNat:Int) == 32 || (b.toNat:Int) == 9 || (b.toNat:Int) == 10
def EX (b:UInt8):Bool:=decide ((b.toNat:Int) >= 32) && decide ((b.toNat:Int) <= 126) && ((b.toNat:Int) != 39)
def Wg:List UInt8:=[43,45,42,47,37,60,62,61,126,38,64,33,63]
def Ro:List UInt8:=[40,41,91,93,124,46,94,58,59]
def isOp (b:UInt8):Bool:=decide (Lib.indexByte Wg b >= 0)
def Ra (b:UInt8):Bool:=decide (Lib.indexByte Ro b >= 0)
section
attribute [local go_sem] ntmps339
theorem aeY (b:UInt8):Af prog 339 [b8 b] (· = .val (.bool (isSmall b))):=by
 refine Ag.intro func339 (by decide) rfl (Bj ?_);refine Aa.Ad (Z0 ?_);refine Aa.Ad (Z0 ?_);refine Ap (fun g1=>?_) (fun g1=>?_);have d1:=An g1;refine Z1 g1 ?_;refine Aa.ret (Z1 g1 ?_);refine Ae rfl ?_;simp only [isSmall,Bool.true_and,Bool.false_and,g1,bo,↓reduceIte];have d1:=Aj g1;refine Z1 g1 ?_;refine Aa.ret (Z1 g1 ?_);refine Ae rfl ?_;simp only [isSmall,Bool.true_and,Bool.false_and,g1,bo,↓reduceIte]
end
section
attribute [local go_sem] ntmps340
theorem aby (b:UInt8):Af prog 340 [b8 b] (· = .val (.bool (isLarge b))):=by
 refine Ag.intro func340 (by decide) rfl (Bj ?_);refine Aa.Ad (Z0 ?_);refine Aa.Ad (Z0 ?_);refine Ap (fun g1=>?_) (fun g1=>?_);have d1:=An g1;refine Z1 g1 ?_;refine Aa.ret (Z1 g1 ?_);refine Ae rfl ?_;simp only [isLarge,Bool.true_and,Bool.false_and,g1,bo,↓reduceIte];have d1:=Aj g1;refine Z1 g1 ?_;refine Aa.ret (Z1 g1 ?_);refine Ae rfl ?_;simp only [isLarge,Bool.true_and,Bool.false_and,g1,bo,↓reduceIte]
end
section
attribute [local go_sem] ntmps311
theorem acP (b:UInt8):Af prog 311 [b8 b] (· = .val (.bool (isDigit b))):=by
 refine Ag.intro func311 (by decide) rfl (Bj ?_);refine Aa.Ad (Z0 ?_);refine Aa.Ad (Z0 ?_);refine Ap (fun g1=>?_) (fun g1=>?_);have d1:=An g1;refine Z1 g1 ?_;refine Aa.ret (Z1 g1 ?_);refine Ae rfl ?_;simp only [isDigit,Bool.true_and,Bool.false_and,g1,bo,↓reduceIte];have d1:=Aj g1;refine Z1 g1 ?_;refine Aa.ret (Z1 g1 ?_);refine Ae rfl ?_;simp only [isDigit,Bool.true_and,Bool.false_and,g1,bo,↓reduceIte]
end
section
attribute [local go_sem] ntmps307
theorem ac5 (b:UInt8):Af prog 307 [b8 b] (· = .val (.bool (F4 b))):=by
 refine Ag.intro func307 (by decide) rfl (Bj ?_);refine Aa.Ad (Z0 ?_);refine Aa.Ad (Z0 ?_);refine Af.eq (aeY _) rfl (Z0 ?_);refine Ap (fun g2=>?_) (fun g2=>?_);refine Z1 g2 ?_;refine Aa.ret (Z1 g2 ?_);refine Ae rfl ?_;simp only [F4,Bool.true_or,Bool.false_or,g2,bo,↓reduceIte];refine Z1 g2 ?_;refine Af.eq (aby _) rfl (Z1 g2 ?_);refine Aa.ret (Z1 g2 ?_);refine Ae rfl ?_;simp only [F4,Bool.true_or,Bool.false_or,g2,bo,↓reduceIte]
end
section
attribute [local go_sem] ntmps341
theorem ag5 (b:UInt8):Af prog 341 [b8 b] (· = .val (.bool (Dj b))):=by
 refine Ag.intro func341 (by decide) rfl (Bj ?_);refine Aa.Ad (Z0 ?_);refine Aa.Ad (Z0 ?_);refine Af.eq (ac5 _) rfl (Z0 ?_);refine Ap (fun g2=>?_) (fun g2=>?_);refine Z1 g2 ?_;refine Aa.ret (Z1 g2 ?_);refine Ae rfl ?_;simp only [Dj,Bool.true_or,Bool.false_or,g2,bo,↓reduceIte];refine Z1 g2 ?_;refine Af.eq (acP _) rfl (Z1 g2 ?_);refine Aa.ret (Z1 g2 ?_);refine Ae rfl ?_;simp only [Dj,Bool.true_or,Bool.false_or,g2,bo,↓reduceIte]
end
section
attribute [local go_sem] ntmps309
theorem ahK (b:UInt8):Af prog 309 [b8 b] (· = .val (.bool ((b.toNat:Int) == 95))):=by
 refine Ag.intro func309 (by decide) rfl (Bj ?_);refine Aa.Ad (Z0 ?_);refine Aa.Ad (Z0 ?_);refine Aa.ret (Z0 ?_);exact Ae rfl (Z0 trivial)
end
section
attribute [local go_sem] ntmps313
theorem aje (b:UInt8):Af prog 313 [b8 b] (· = .val (.bool ((b.toNat:Int) == 39))):=by
 refine Ag.intro func313 (by decide) rfl (Bj ?_);refine Aa.Ad (Z0 ?_);refine Aa.Ad (Z0 ?_);refine Aa.ret (Z0 ?_);exact Ae rfl (Z0 trivial)
end
section
attribute [local go_sem] ntmps322
theorem ahN (b:UInt8):Af prog 322 [b8 b] (· = .val (.bool (EP b))):=by
 refine Ag.intro func322 (by decide) rfl (Bj ?_);refine Aa.Ad (Z0 ?_);refine Aa.Ad (Z0 ?_);refine Ap (fun g1=>?_) (fun g1=>?_);have d1:=AB g1;refine Z1 g1 ?_;refine Aa.ret (Z1 g1 ?_);refine Ae rfl ?_;simp only [EP,Bool.true_or,Bool.false_or,Bool.or_true,Bool.or_false,g1,bo,↓reduceIte];have d1:=Aq g1;refine Z1 g1 ?_;refine Ap (fun g2=>?_) (fun g2=>?_);have d2:=AB g2;refine Z2 g1 g2 ?_;refine Aa.ret (Z2 g1 g2 ?_);refine Ae rfl ?_;simp only [EP,Bool.true_or,Bool.false_or,Bool.or_true,Bool.or_false,g1,g2,bo,↓reduceIte];have d2:=Aq g2;refine Z2 g1 g2 ?_;refine Aa.ret (Z2 g1 g2 ?_);refine Ae rfl ?_;simp only [EP,Bool.true_or,Bool.false_or,Bool.or_true,Bool.or_false,g1,g2,bo,↓reduceIte]
end
section
attribute [local go_sem] ntmps343
theorem ahf (b:UInt8):Af prog 343 [b8 b] (· = .val (.bool (EX b))):=by
 refine Ag.intro func343 (by decide) rfl (Bj ?_);refine Aa.Ad (Z0 ?_);refine Aa.Ad (Z0 ?_);refine Ap (fun g1=>?_) (fun g1=>?_);have d1:=An g1;refine Z1 g1 ?_;refine Ap (fun g2=>?_) (fun g2=>?_);have d2:=An g2;refine Z2 g1 g2 ?_;refine Aa.ret (Z2 g1 g2 ?_);refine Ae rfl ?_;simp only [EX,Bool.true_and,Bool.false_and,Bool.and_true,Bool.and_false,g1,g2,bo,↓reduceIte];have d2:=Aj g2;refine Z2 g1 g2 ?_;refine Aa.ret (Z2 g1 g2 ?_);refine Ae rfl ?_;simp only [EX,Bool.true_and,Bool.false_and,Bool.and_true,Bool.and_false,g1,g2,bo,↓reduceIte];have d1:=Aj g1;refine Z1 g1 ?_;refine Aa.ret (Z1 g1 ?_);refine Ae rfl ?_;simp only [EX,Bool.true_and,Bool.false_and,Bool.and_true,Bool.and_false,g1,bo,↓reduceIte]
end
section
attribute [local go_sem] ntmps315
theorem adi (b:UInt8):Af prog 315 [b8 b] (· = .val (.bool (isOp b))):=by
 refine Ag.intro func315 (by decide) rfl (Bj ?_);refine Aa.Ad (Z0 ?_);refine Aa.Ad (Z0 ?_);refine Af.eq (adG Wg (b.toNat:Int)) rfl (Z0 ?_);refine Aa.ret (Z0 ?_);refine Ae rfl ?_;simp [isOp,Wg]
end
section
attribute [local go_sem] ntmps317
theorem ai8 (b:UInt8):Af prog 317 [b8 b] (· = .val (.bool (Ra b))):=by
 refine Ag.intro func317 (by decide) rfl (Bj ?_);refine Aa.Ad (Z0 ?_);refine Aa.Ad (Z0 ?_);refine Af.eq (adG Ro (b.toNat:Int)) rfl (Z0 ?_);refine Aa.ret (Z0 ?_);refine Ae rfl ?_;simp [Ra,Ro]
end
section
attribute [local go_sem] ntmps112
theorem agN (s p:List UInt8):Af prog 112 [.val (.string (Ak s)),.val (.string (Ak p))] (· = .val (.bool (JE s p))):=by
 refine Ag.intro func112 (by decide) rfl (Bj ?_);refine Aa.Ad (Z0 ?_);refine Aa.Ad (Z0 ?_);refine Af.eq (c139 s p) rfl (Z0 ?_);refine Aa.ret (Z0 ?_);exact Ae rfl (Z0 trivial)
end
section
attribute [local go_sem] ntmps180
theorem ahX (s p:List UInt8) (hs:s.length <= 1000000000) (hp:p.length <= 1000000000):Af prog 180 [.val (.string (Ak s)),.val (.string (Ak p))] (· = .val (.bool (Dh s p))):=by
 refine Ag.intro func180 (by decide) rfl (Bj ?_);refine Aa.Ad (Z0 ?_);refine Aa.Ad (Z0 ?_);refine Af.eq (adg s p hs hp) rfl (Z0 ?_);refine Aa.ret (Z0 ?_);exact Ae rfl (Z0 trivial)
end
section
attribute [local go_sem] ntmps257
theorem ah1 (s:List UInt8) (c:UInt8) (hs:s.length < 4294967281):Af prog 257 [.val (.string (Ak s)),.val (.string (Ak [c]))] (· = .sl false (strs (Dr s c))):=by
 refine Ag.intro func257 (by decide) rfl (Bj ?_);refine Aa.Ad (Z0 ?_);refine Aa.Ad (Z0 ?_);refine Af.eq (aie s c hs) rfl (Z0 ?_);refine Aa.ret (Z0 ?_);exact Ae rfl (Z0 trivial)
end
end Go.Proofs.Tryz

namespace Go.Proofs.Tryz
open Go.PM
theorem UW (l:List UInt8):((Ak l).data.toList.map fun b=>AV.val (.int .u8 (b.toNat:Int))) = bs l:=rfl
attribute [go_sem] UW
structure Cb where
 pos:Nat
 line:Nat
 col:Nat
 name:Nat
def C5 (s:List UInt8) (r:Cb):List AV:=[.val (.int .i64 (r.pos:Nat)),.val (.int .i64 (r.line:Nat)),.val (.int .i64 (r.col:Nat)),.val (.string (Ak s)),.val (.int .i64 (r.name:Nat))]
def Cb.ok (s:List UInt8) (r:Cb):Prop:=r.pos <= s.length /\ r.line <= r.pos + 1 /\ r.col <= r.pos + 1 /\ s.length <= 20000
def ahead (s:List UInt8) (r:Cb) (n:Nat):UInt8:=if r.pos + n < s.length then s.getD (r.pos + n) 0 else 0
def GH (e at':Int):AV:=.iface 285 (.agg [.val (.int .i64 e),.val (.int .i64 at')])
section
attribute [local go_sem] C5 ntmps287
theorem Kx (s:List UInt8) (r:Cb) (n:Nat) (hr:r.ok s) (hn:n <= 100000):Ag prog 287 [.ptr 0 0,.val (.int .i64 (n:Nat))] [.cells (C5 s r)] (fun x h'=>x = .ret (b8 (ahead s r n)) /\ h' = [.cells (C5 s r)]):=by
 obtain ⟨h1,h2,h3,h4⟩:=hr
 rcases Nat.lt_or_ge (r.pos + n) s.length with h | h
 ·have e1:ahead s r n = s.getD (r.pos + n) 0:=if_pos h
  have e2:((r.pos:Int) + (n:Int)).toNat = r.pos + n:=by omega
  refine Ag.intro func287 (by decide) rfl (VY e1 e2 ?_);refine Aa.Ad (Z2 e1 e2 ?_);refine Aa.seq ?_;refine Aa.BQ [(0,.free),(1,.free),(2,.free),(3,.free),(5,.free),(7,.free),(8,.free),(9,.free),(4,.read),(6,.free),(10,.read),(11,.read),(12,.free)] mixed (by kernel_rfl) (Z2 e1 e2 ?_);refine Ao (Ao (Ao ?_));refine And.intro (by trivial) (Bd ?_);refine Aa.cond rfl (fun g5=>?_) (fun g5=>?_);have d5:=An g5
  (exfalso; omega)
  have d5:=Aj g5;refine Aa.skip (Z3 e1 e2 g5 ?_);refine Aa.BQ [(0,.free),(1,.free),(2,.free),(4,.free),(5,.free),(6,.free),(7,.free),(9,.free),(3,.read),(8,.read),(10,.free),(11,.free),(12,.free)] mixed (by kernel_rfl) (Z3 e1 e2 g5 ?_);refine Ao (Ao (Ao ?_));simp -implicitDefEqProofs (dsimp:=false) (disch:=omega) only [i64_in,gd];refine Z3 e1 e2 g5 ?_;refine Ao (Ao ?_);exact Aa.ret (Z3 e1 e2 g5 trivial)
 ·have e1:ahead s r n = 0:=if_neg (by omega)
  refine Ag.intro func287 (by decide) rfl (D5 e1 ?_);refine Aa.Ad (Z1 e1 ?_);refine Aa.seq ?_;refine Aa.BQ [(0,.free),(1,.free),(2,.free),(3,.free),(5,.free),(7,.free),(8,.free),(9,.free),(4,.read),(6,.free),(10,.read),(11,.read),(12,.free)] mixed (by kernel_rfl) (Z1 e1 ?_);refine Ao (Ao (Ao ?_));refine And.intro (by trivial) (Bd ?_);refine Aa.cond rfl (fun g5=>?_) (fun g5=>?_);have d5:=An g5;refine Aa.Ad (Z2 e1 g5 ?_);refine Aa.ret (Z2 e1 g5 ?_);trivial;have d5:=Aj g5
  (exfalso; omega)
end
def colonI (s:List UInt8) (r:Cb) (n:Nat):Int:=if ((ahead s r n).toNat:Int) == 58 then 1 else 0
section
attribute [local go_sem] ntmps342
theorem ae8 (s:List UInt8) (r:Cb) (n:Nat) (hr:r.ok s) (hn:n <= 100000):Ag prog 342 [.ptr 0 0,.val (.int .i64 (n:Nat))] [.cells (C5 s r)] (fun x h'=>x = .ret (.val (.int .i64 (colonI s r n))) /\ h' = [.cells (C5 s r)]):=by
 refine Ag.intro func342 (by decide) rfl (Bj ?_);refine Aa.Ad (Z0 ?_);refine Aa.seq ?_;refine Aa.Ad (Z0 ?_);refine Ag.eq (Kx s r n hr hn) (Z0 ?_);refine Aa.cond rfl (fun g2=>?_) (fun g2=>?_);have d2:=AB g2;refine Aa.Ad (Z1 g2 ?_);refine Aa.ret (Z1 g2 ?_);simp only [colonI,g2,bo,↓reduceIte];have d2:=Aq g2;refine Aa.skip (Z1 g2 ?_);refine Aa.Ad (Z1 g2 ?_);refine Aa.ret (Z1 g2 ?_);simp only [colonI,g2,bo,↓reduceIte]
end
section
attribute [local go_sem] ntmps282
theorem Ie (c:Bool) (e a:Int) (h:List Ah):Bc prog 282 [.val (.bool c),.val (.int .i64 e),.val (.int .i64 a)] h c (.tup []) h (GH e a) h:=by
 cases c
 ·refine Bc.mk ?_
  refine Ag.intro func282 (by decide) rfl (Bj ?_);refine Aa.Ad (Z0 ?_);refine Aa.Ar rfl ?_;refine Aa.region (Z0 ?_);simp [GH]
 ·refine Bc.mk ?_
  refine Ag.intro func282 (by decide) rfl (Bj ?_);refine Aa.Ad (Z0 ?_);refine Aa.Ax rfl ?_;refine Aa.skip (Z0 ?_);trivial
end
section
attribute [local go_sem] C5 List.take_length ntmps321
theorem Ua (s:List UInt8) (r:Cb) (hr:r.ok s):Ag prog 321 [.ptr 0 0] [.cells (C5 s r)] (fun x h'=>x = .ret (.sl false (bs (s.drop r.pos))) /\ h' = [.cells (C5 s r)]):=by
 obtain ⟨h1,h2,h3,h4⟩:=hr;refine Ag.intro func321 (by decide) rfl (Bj ?_);refine Aa.Ad (Z0 ?_);refine Aa.BQ [(0,.free),(1,.free),(2,.free),(4,.free),(5,.free),(6,.free),(7,.free),(3,.read),(8,.read),(9,.read),(10,.free),(11,.free)] mixed (by kernel_rfl) (Z0 ?_);refine Ao (Ao (Ao ?_));refine And.intro (by trivial) ?_;refine Ao (Ao (Ao ?_));exact Aa.ret (Z0 trivial)
end
def Fx (p:Nat × Nat) (b:UInt8):Nat × Nat:=if ((b.toNat:Int) == 10) = true then (p.1 + 1,1) else (p.1,p.2 + 1)
def SP (l:List UInt8) (p:Nat × Nat):Nat × Nat:=l.foldl Fx p
theorem ZN (l:List UInt8) (p:Nat × Nat) (i:Nat) (h:i < l.length):SP (l.take (i + 1)) p = Fx (SP (l.take i) p) (l.getD i 0):=by
 unfold SP;rw [List.take_add_one,List.getElem?_eq_getElem h,List.foldl_append];simp [List.getD_eq_getElem?_getD,h]
theorem UF (p:Nat × Nat) (b:UInt8):(Fx p b).1 <= p.1 + 1 /\ (Fx p b).2 <= p.2 + 1:=by
 unfold Fx
 split <;> simp
theorem abO (l:List UInt8):∀ (p:Nat × Nat),(SP l p).1 <= p.1 + l.length /\ (SP l p).2 <= p.2 + l.length:=by
 induction l with
 | nil=>intro p; simp [SP]
 | cons b l ih =>
  intro p;have h1:=ih (Fx p b);have h2:=UF p b
  show (SP l (Fx p b)).1 <= _ /\ (SP l (Fx p b)).2 <= _
  rw [List.length_cons];omega
def fwd (s:List UInt8) (r:Cb) (n:Nat):Cb:=⟨r.pos + n,(SP ((s.drop r.pos).take n) (r.line,r.col)).1,(SP ((s.drop r.pos).take n) (r.line,r.col)).2,r.name⟩
def Ep (s:List UInt8) (r:Cb) (n:Nat):List UInt8:=(s.drop r.pos).take n
section
attribute [local go_sem] C5 Hj fwd ntmps319
theorem FU (s:List UInt8) (r:Cb) (n:Nat) (hr:r.ok s) (hn:r.pos + n <= s.length):Ag prog 319 [.ptr 0 0,.val (.int .i64 (n:Nat))] [.cells (C5 s r)] (fun x h'=>x = .ret (.val (.string (Ak (Ep s r n)))) /\ h' = [.cells (C5 s (fwd s r n))]):=by
 obtain ⟨h1,h2,h3,h4⟩:=hr;have e1:((r.pos:Int) + (n:Int)).toNat = r.pos + n:=by omega
 have e2:List.drop r.pos (List.take (r.pos + n) s) = Ep s r n:=by unfold Ep; rw [List.drop_take,Nat.add_sub_cancel_left]
 have e3:(Ep s r n).length = n:=by unfold Ep; simp; omega
 refine Ag.intro func319 (by decide) rfl (Ze3 e1 e2 e3 ?_);refine Aa.Ad (Z3 e1 e2 e3 ?_);refine Aa.BQ [(0,.free),(1,.free),(2,.free),(4,.free),(5,.free),(6,.free),(7,.free),(9,.free),(10,.free),(11,.free),(12,.free),(14,.free),(3,.read),(8,.read),(13,.read),(15,.free),(16,.read),(17,.free)] mixed (by kernel_rfl) (Z3 e1 e2 e3 ?_);refine Ao (Ao (Ao (Ao (Ao ?_))));refine And.intro (by trivial) ?_;refine Ao ?_;simp -implicitDefEqProofs (dsimp:=false) (disch:=omega) only [i64_in,gd];refine Z3 e1 e2 e3 ?_;refine Ao (Ao ?_);refine Aa.seq ?_;refine Aa.Ad (Z3 e1 e2 e3 ?_);refine Aa.block ?_;refine Aa.A0 (fun i:Nat=>[(28,.val (.int .i64 (i:Nat)))]) [27,26,5,0,1] (fun i:Nat=>[.cells [.val (.int .i64 (r.pos:Nat)),.val (.int .i64 ((SP ((Ep s r n).take i) (r.line,r.col)).1:Nat)),.val (.int .i64 ((SP ((Ep s r n).take i) (r.line,r.col)).2:Nat)),.val (.string (Ak s)),.val (.int .i64 (r.name:Nat))]]) (fun i:Nat=>i <= n) (fun i:Nat=>n - i) (0) ?_ rfl ?_ ?_;omega;refine ⟨rfl,?_,?_,rfl,?_⟩;refine ME e1 e2 e3 ?_;trivial;refine ME e1 e2 e3 ?_;trivial;exact ME e1 e2 e3 trivial;rintro i hi;have f1:=ZN (Ep s r n) (r.line,r.col) i;have f2:=abO ((Ep s r n).take i) (r.line,r.col);have f3:((Ep s r n).take i).length = i:=by rw [List.length_take]; omega
 obtain ⟨f4,f5⟩:=f2;rw [f3] at f4 f5;simp only at f4 f5;refine Z3 e1 e2 e3 ?_;refine Aa.Ad (Z3 e1 e2 e3 ?_);refine Aa.seq (Aa.cond rfl (fun g5=>?_) (fun g5=>?_));have d5:=An g5;refine Aa.skip (Z4 e1 e2 e3 g5 ?_);refine Aa.seq (Aa.block ?_);refine Aa.Ad (Z4 e1 e2 e3 g5 ?_);refine Ao ?_;refine And.intro (by assumption) ?_;simp -implicitDefEqProofs (dsimp:=false) (disch:=omega) only [i64_in,gd];refine Z4 e1 e2 e3 g5 ?_;refine Aa.Ad (Z4 e1 e2 e3 g5 ?_);refine Ao (Ao (Ao (Ao ?_)));refine Aa.Ad (Z4 e1 e2 e3 g5 ?_);refine Bd ?_;refine Aa.cond rfl (fun g6=>?_) (fun g6=>?_);have d6:=AB g6;refine Aa.Ad (Z5 e1 e2 e3 g5 g6 ?_);refine Ao (Ao (Ao (Ao ?_)));refine Aa.region (Z5 e1 e2 e3 g5 g6 ?_);refine Ao (Ao ?_);refine Aa.region (Z5 e1 e2 e3 g5 g6 ?_);refine Bd ?_;refine ⟨i + 1,?_⟩;constructor;omega;constructor;omega;refine ⟨rfl,?_,?_,rfl,?_⟩;refine GO e1 e2 e3 g5 g6 ?_;trivial;refine GO e1 e2 e3 g5 g6 ?_;rotate_left;exact GO e1 e2 e3 g5 g6 trivial;have d6:=Aq g6;refine Aa.skip (Z5 e1 e2 e3 g5 g6 ?_);refine Aa.region (Z5 e1 e2 e3 g5 g6 ?_);refine Bd ?_;refine ⟨i + 1,?_⟩;constructor;omega;constructor;omega;refine ⟨rfl,?_,?_,rfl,?_⟩;refine GO e1 e2 e3 g5 g6 ?_;trivial;refine GO e1 e2 e3 g5 g6 ?_;rotate_left;exact GO e1 e2 e3 g5 g6 trivial;have d5:=Aj g5;refine Aa.exit (Z4 e1 e2 e3 g5 ?_);refine Aa.Ad (Z4 e1 e2 e3 g5 ?_);refine Ao (Ao (Ao (Ao ?_)));refine Aa.Ad (Z4 e1 e2 e3 g5 ?_);refine Aa.ret (Z4 e1 e2 e3 g5 ?_);refine Bd ?_;rotate_left
 ·rw [f1 (by omega),Fx,if_pos g6]; rfl
 ·rw [f1 (by omega),Fx,if_neg (by rw [g6]; decide)]; rfl
 ·have hin:i = n:=by have:=of_decide_eq_false g5; omega
  subst hin;have e4:(Ep s r i).take i = (s.drop r.pos).take i:=List.take_of_length_le (by omega);rw [e4,Int.natCast_add]
end
theorem Dq {s:List UInt8} {r:Cb} {n:Nat} (hr:r.ok s) (hn:r.pos + n <= s.length):(fwd s r n).ok s:=by
 obtain ⟨h1,h2,h3,h4⟩:=hr;have:=abO ((s.drop r.pos).take n) (r.line,r.col);have h5:((s.drop r.pos).take n).length = n:=by simp; omega
 rw [h5] at this;refine ⟨hn,?_,?_,h4⟩
 ·show (SP _ _).1 <= r.pos + n + 1
  have:=this.1;simp only at this;omega
 ·have:=this.2
  simp only at this
  show (SP _ _).2 <= r.pos + n + 1
  omega
def C3 (p:UInt8 -> Bool) (l:List UInt8):Nat:=(l.takeWhile p).length
theorem KE (p:UInt8 -> Bool) (l:List UInt8):C3 p l <= l.length:=(List.takeWhile_sublist p).length_le
theorem abB {p:UInt8 -> Bool} {l:List UInt8}:∀ {i:Nat},i < C3 p l -> p (l.getD i 0) = true:=by
 induction l with
 | nil=>intro i h; simp [C3] at h
 | cons b l ih =>
  intro i h;unfold C3 at h ih;rw [List.takeWhile_cons] at h
  split at h
  ·rename_i hb
   cases i with
   | zero=>exact hb
   | succ i=>simp at h; simpa using ih h
  ·simp at h
theorem aa5 {p:UInt8 -> Bool} {l:List UInt8} (h:C3 p l < l.length):p (l.getD (C3 p l) 0) = false:=by
 induction l with
 | nil=>simp at h
 | cons b l ih =>
  unfold C3 at *;rw [List.takeWhile_cons] at *
  split at h
  ·rename_i hb
   simp only [hb,if_true,List.length_cons] at *
   simpa using ih (by omega)
  ·rename_i hb
   simp [hb]
theorem Vx {p:UInt8 -> Bool} {l:List UInt8} {i:Nat} (h:i <= C3 p l) (hl:i < l.length) (hp:p (l.getD i 0) = true):i + 1 <= C3 p l:=by
 rcases Nat.lt_or_ge i (C3 p l) with h1 | h1
 ·exact h1
 ·have he:i = C3 p l:=by omega
  rw [he] at hp hl;rw [aa5 hl] at hp;cases hp
theorem Ur {p:UInt8 -> Bool} {l:List UInt8} {i:Nat} (h:i <= C3 p l) (hp:p (l.getD i 0) = false):i = C3 p l:=by
 rcases Nat.lt_or_ge i (C3 p l) with h1 | h1
 ·rw [abB h1] at hp; cases hp
 ·omega
section
attribute [local go_sem] Hj TE ntmps320
theorem T6 (l:List UInt8) (f:FuncId) (p:UInt8 -> Bool) (hl:l.length <= 1000000) (hf:∀ o ∈ l,Af prog f (b8 o :: []) (· = .val (.bool (p o)))):Af prog 320 [.sl false (bs l),.fn f []] (· = .val (.int .i64 (C3 p l:Nat))):=by
 have h1:=KE p l;refine Ag.intro func320 (by decide) rfl (Bj ?_);refine Aa.Ad (Z0 ?_);refine Aa.Ad (Z0 ?_);refine Aa.seq (Aa.block ?_);refine Aa.A0 (fun i:Nat=>[(5,.val (.int .i64 (i:Nat)))]) [0,1] (fun i:Nat=>[]) (fun i:Nat=>i <= C3 p l) (fun i:Nat=>l.length - i) (0) ?_ rfl ?_ ?_;omega;refine ⟨rfl,?_,?_,rfl,?_⟩;exact C1 trivial;exact C1 trivial;exact C1 trivial;rintro i hi;refine Z0 ?_;refine Aa.seq ?_;refine Aa.Ad (Z0 ?_);refine Ap (fun g2=>?_) (fun g2=>?_);have d2:=An g2;refine Z1 g2 ?_;refine Ao ?_;refine And.intro (by assumption) ?_;simp -implicitDefEqProofs (dsimp:=false) (disch:=omega) only [i64_in,gd];refine Z1 g2 ?_;refine Af.eq (hf _ ?_) rfl ?_;exact Bs (by omega);refine Z1 g2 ?_;refine Aa.cond rfl (fun g4=>?_) (fun g4=>?_);refine Aa.skip (Z2 g2 g4 ?_);refine Aa.block ?_;refine Aa.region (Z2 g2 g4 ?_);refine Bd ?_;refine ⟨i + 1,?_⟩;constructor;rotate_left;constructor;omega;refine ⟨rfl,?_,?_,rfl,?_⟩;exact Cv g2 g4 trivial;exact Cv g2 g4 trivial;exact Cv g2 g4 trivial;refine Aa.exit (Z2 g2 g4 ?_);refine Aa.Ad (Z2 g2 g4 ?_);refine Aa.ret (Z2 g2 g4 ?_);refine Ae rfl ?_;rotate_left;have d2:=Aj g2;refine Z1 g2 ?_;refine Aa.Ax rfl ?_;refine Aa.exit (Z1 g2 ?_);refine Aa.Ad (Z1 g2 ?_);refine Aa.ret (Z1 g2 ?_);refine Ae rfl ?_;rotate_left
 ·exact Vx hi (by omega) g4
 ·rw [Ur hi g4]
 ·have:=of_decide_eq_false g2
  have hin:i = C3 p l:=by omega
  rw [hin]
end
end Go.Proofs.Tryz

namespace Go.Proofs.Tryz
open Go.PM
theorem Sr (s:List UInt8) (r:Cb):(C5 s r).length = 5:=rfl
theorem agI (s:List UInt8) (r:Cb):(C5 s r).getD 0 .dead = .val (.int .i64 (r.pos:Nat)):=rfl
theorem ae9 (s:List UInt8) (r:Cb):(C5 s r).getD 3 .dead = .val (.string (Ak s)):=rfl
theorem ae3 (s:List UInt8) (r:Cb):(C5 s r).getD 4 .dead = .val (.int .i64 (r.name:Nat)):=rfl
attribute [go_sem] Sr agI ae9 ae3
def Gq (s:List UInt8) (r:Cb) (n:Nat):Nat:=if ((ahead s r n).toNat:Int) == 58 then 1 else 0
theorem QD (s:List UInt8) (r:Cb) (n:Nat):colonI s r n = ((Gq s r n:Nat):Int):=by unfold colonI Gq; split <;> rfl
theorem K7 {s:List UInt8} {r:Cb} {n:Nat} (h:ahead s r n ≠ 0):r.pos + n < s.length:=by
 unfold ahead at h
 split at h
 ·assumption
 ·exact absurd rfl h
theorem Hz (s:List UInt8) (r:Cb) (n:Nat) (h:r.pos + n <= s.length):Gq s r n <= 1 /\ r.pos + (n + Gq s r n) <= s.length:=by
 unfold Gq
 split
 ·rename_i hc
  have:r.pos + n < s.length:=K7 fun he=>by rw [he] at hc; cases hc
  omega
 ·omega
def Fh (s:List UInt8) (r:Cb):Nat:=C3 Dj (s.drop r.pos)
theorem CW (p:UInt8 -> Bool) (s:List UInt8) (r:Cb) (h:r.pos <= s.length):r.pos + C3 p (s.drop r.pos) <= s.length:=by
 have:=KE p (s.drop r.pos);rw [List.length_drop] at this;omega
def E2 (s:List UInt8) (r:Cb):Bool:=decide ((Fh s r:Int) <= 24) && (isSmall (ahead s r 0) || colonI s r (Fh s r) == 1)
def G0 (s:List UInt8) (r:Cb):Int:=if isLarge (ahead s r 0) then 3 else 1 + colonI s r (Fh s r)
def DQ (s:List UInt8) (r:Cb):Nat:=Fh s r + Gq s r (Fh s r)
def FG (s:List UInt8) (r:Cb):Cb:=if G0 s r == 1 then { fwd s r (DQ s r) with name:=(fwd s r (DQ s r)).pos } else fwd s r (DQ s r)
section
attribute [local go_sem] ntmps308
theorem ajH (s:List UInt8) (r:Cb) (hr:r.ok s):Bc prog 308 [.ptr 0 0] [.cells (C5 s r)] (E2 s r) (.tup [.val (.int .i64 (G0 s r)),.val (.string (Ak (Ep s r (DQ s r))))]) [.cells (C5 s (FG s r))] (GH 12 r.pos) [.cells (C5 s r)]:=by
 obtain ⟨h1,h2,h3,h4⟩:=id hr;have hw:(s.drop r.pos).length <= 1000000:=by simp; omega
 have hn:=CW Dj s r h1;have hn2:Fh s r <= 20000:=by unfold Fh; omega
 obtain ⟨hc1,hc2⟩:=Hz s r (Fh s r) hn;have e1:((Fh s r:Nat):Int) + ((Gq s r (Fh s r):Nat):Int) = ((DQ s r:Nat):Int):=rfl;have e2:C3 Dj (s.drop r.pos) = Fh s r:=rfl;have e3:=QD s r (Fh s r);have hL:DQ s r <= 30000:=by unfold DQ; omega
 refine Bc.mk ?_;refine Ag.intro func308 (by decide) rfl (VY e2 e3 ?_);refine Aa.Ad (Z2 e2 e3 ?_);refine Aa.Ad (Z2 e2 e3 ?_);refine Ag.eq (Ua s r hr) (Z2 e2 e3 ?_);refine Af.eq (T6 (s.drop r.pos) 341 Dj hw (fun o _=>ag5 o)) rfl (Z2 e2 e3 ?_);refine Aa.Ad (Z2 e2 e3 ?_);refine Ag.eq (ae8 s r (Fh s r) hr (by omega)) (Z2 e2 e3 ?_);refine Aa.ZY [(0,.free),(1,.free),(2,.free),(3,.free),(11,.free),(12,.free),(13,.free),(14,.free),(4,.read),(5,.free),(6,.free),(7,.free),(8,.free),(9,.free),(10,.free),(15,.read)] 16 mixed (by kernel_rfl) (Z2 e2 e3 ?_);refine Ap (fun g8=>?_) (fun g8=>?_);have d8:=An g8;refine Z3 e2 e3 g8 ?_;refine Ao (Ao ?_);refine He.one (Kx s r 0 hr (by omega)) rfl rfl rfl (Z3 e2 e3 g8 ?_);refine AI.go (aeY _) rfl (Z3 e2 e3 g8 ?_);refine Ap (fun g9=>?_) (fun g9=>?_);refine Z4 e2 e3 g8 g9 ?_;refine Bc.go (Ie _ _ _ _) (fun g10=>?_) (fun g10=>?_);clear g10;refine Z4 e2 e3 g8 g9 ?_;refine Aa.Ad (Z4 e2 e3 g8 g9 ?_);refine Aa.seq ?_;refine Aa.Ad (Z4 e2 e3 g8 g9 ?_);refine Ag.eq (Kx s r 0 hr (by omega)) (Z4 e2 e3 g8 g9 ?_);refine Af.eq (aby _) rfl (Z4 e2 e3 g8 g9 ?_);refine Bd ?_;refine Aa.cond rfl (fun g13=>?_) (fun g13=>?_);refine Aa.region (Z5 e2 e3 g8 g9 g13 ?_);refine Aa.Ad (Z5 e2 e3 g8 g9 g13 ?_);refine Bd ?_;refine Ag.eq (FU s r (DQ s r) hr hc2) (Z5 e2 e3 g8 g9 g13 ?_);refine Aa.seq ?_;refine Aa.Ad (Z5 e2 e3 g8 g9 g13 ?_);refine Aa.Ax rfl ?_;refine Aa.skip (Z5 e2 e3 g8 g9 g13 ?_);refine Aa.Ad (Z5 e2 e3 g8 g9 g13 ?_);refine Aa.ret (Z5 e2 e3 g8 g9 g13 ?_)
 simp [E2,G0,FG,DQ,e3,g8,g9,g13];refine Aa.skip (Z5 e2 e3 g8 g9 g13 ?_);refine Aa.Ad (Z5 e2 e3 g8 g9 g13 ?_);refine Bd ?_;refine Ag.eq (FU s r (DQ s r) hr hc2) (Z5 e2 e3 g8 g9 g13 ?_);refine Aa.seq ?_;refine Aa.Ad (Z5 e2 e3 g8 g9 g13 ?_);refine Aa.cond rfl (fun g16=>?_) (fun g16=>?_);have d16:=AB g16;refine Aa.region (Z6 e2 e3 g8 g9 g13 g16 ?_);refine Ao (Ao (Ao ?_));refine Aa.Ad (Z6 e2 e3 g8 g9 g13 g16 ?_);refine Aa.ret (Z6 e2 e3 g8 g9 g13 g16 ?_);rotate_left;have d16:=Aq g16;refine Aa.skip (Z6 e2 e3 g8 g9 g13 g16 ?_);refine Aa.Ad (Z6 e2 e3 g8 g9 g13 g16 ?_);refine Aa.ret (Z6 e2 e3 g8 g9 g13 g16 ?_);simp [E2,G0,FG,DQ,e3,g8,g9,g13,g16]
 cases g10
 refine Z4 e2 e3 g8 g9 ?_;refine Bc.go (Ie _ _ _ _) (fun g17=>?_) (fun g17=>?_);have d17:=AB g17;refine Z5 e2 e3 g8 g9 g17 ?_;refine Aa.Ad (Z5 e2 e3 g8 g9 g17 ?_);refine Aa.seq ?_;refine Aa.Ad (Z5 e2 e3 g8 g9 g17 ?_);refine Ag.eq (Kx s r 0 hr (by omega)) (Z5 e2 e3 g8 g9 g17 ?_);refine Af.eq (aby _) rfl (Z5 e2 e3 g8 g9 g17 ?_);refine Bd ?_;refine Aa.cond rfl (fun g20=>?_) (fun g20=>?_);refine Aa.region (Z6 e2 e3 g8 g9 g17 g20 ?_);refine Aa.Ad (Z6 e2 e3 g8 g9 g17 g20 ?_);refine Bd ?_;refine Ag.eq (FU s r (DQ s r) hr hc2) (Z6 e2 e3 g8 g9 g17 g20 ?_);refine Aa.seq ?_;refine Aa.Ad (Z6 e2 e3 g8 g9 g17 g20 ?_);refine Aa.Ax rfl ?_;refine Aa.skip (Z6 e2 e3 g8 g9 g17 g20 ?_);refine Aa.Ad (Z6 e2 e3 g8 g9 g17 g20 ?_);refine Aa.ret (Z6 e2 e3 g8 g9 g17 g20 ?_);simp [E2,G0,FG,DQ,e3,g8,g9,g17,g20];refine Aa.skip (Z6 e2 e3 g8 g9 g17 g20 ?_);refine Aa.Ad (Z6 e2 e3 g8 g9 g17 g20 ?_);refine Bd ?_;refine Ag.eq (FU s r (DQ s r) hr hc2) (Z6 e2 e3 g8 g9 g17 g20 ?_);refine Aa.seq ?_;refine Aa.Ad (Z6 e2 e3 g8 g9 g17 g20 ?_);refine Aa.cond rfl (fun g23=>?_) (fun g23=>?_);have d23:=AB g23
 (exfalso; omega)
 have d23:=Aq g23;refine Aa.skip (Z7 e2 e3 g8 g9 g17 g20 g23 ?_);refine Aa.Ad (Z7 e2 e3 g8 g9 g17 g20 g23 ?_);refine Aa.ret (Z7 e2 e3 g8 g9 g17 g20 g23 ?_);simp [E2,G0,FG,DQ,e3,g8,g9,g17,g20,g23];have d17:=Aq g17;refine Z5 e2 e3 g8 g9 g17 ?_;simp [E2,G0,FG,DQ,e3,g8,g9,g17];have d8:=Aj g8;refine Z3 e2 e3 g8 ?_;refine Ao (Ao ?_);refine Bc.go (Ie _ _ _ _) (fun g24=>?_) (fun g24=>?_)
 cases g24
 clear g24;refine Z3 e2 e3 g8 ?_;simp [E2,G0,FG,DQ,e3,g8]
 ·have hk:G0 s r = 1 + ((Gq s r (Fh s r):Nat):Int):=by unfold G0; rw [g13,e3]; rfl
  have hr':FG s r = { fwd s r (DQ s r) with name:=(fwd s r (DQ s r)).pos }:=by unfold FG; rw [hk,g16]; rfl
  exact .inl ⟨by simp [E2,g8,g9],by rw [hk],by rw [hr']; rfl⟩
end
def GF (s:List UInt8) (r:Cb):Nat:=C3 Dj ((s.drop r.pos).drop 1)
def Hd (s:List UInt8) (r:Cb):Bool:=(decide ((GF s r:Int) >= 1) && decide ((GF s r:Int) <= 24)) && isLarge (ahead s r 1)
def KT (s:List UInt8) (r:Cb):Nat:=1 + GF s r + Gq s r (1 + GF s r)
section
attribute [local go_sem] Hj Zt aap ntmps310
theorem ahp (s:List UInt8) (r:Cb) (hr:r.ok s) (hp:r.pos < s.length):Bc prog 310 [.ptr 0 0] [.cells (C5 s r)] (Hd s r) (.tup [.val (.int .i64 4),.val (.string (Ak (Ep s r (KT s r))))]) [.cells (C5 s (fwd s r (KT s r)))] (GH 12 r.pos) [.cells (C5 s r)]:=by
 obtain ⟨h1,h2,h3,h4⟩:=id hr;have hw:((s.drop r.pos).drop 1).length <= 1000000:=by simp; omega
 have hl:(s.drop r.pos).length = s.length - r.pos:=List.length_drop;have ht:(s.drop r.pos).take (s.length - r.pos) = s.drop r.pos:=List.take_of_length_le (by rw [hl]; exact Nat.le_refl _);have hn:r.pos + 1 + GF s r <= s.length:=by
  have:=KE Dj ((s.drop r.pos).drop 1);rw [List.length_drop,hl] at this
  show r.pos + 1 + C3 _ _ <= _
  omega
 have hn2:GF s r <= 20000:=by omega
 obtain ⟨hc1,hc2⟩:=Hz s r (1 + GF s r) (by omega);have e2:C3 Dj ((s.drop r.pos).drop 1) = GF s r:=rfl;have e3:=QD s r (1 + GF s r);refine Bc.mk ?_;refine Ag.intro func310 (by decide) rfl (Zs hl ht e2 e3 ?_);refine Aa.Ad (Z4 hl ht e2 e3 ?_);refine Aa.Ad (Z4 hl ht e2 e3 ?_);refine Ag.eq (Ua s r hr) (Z4 hl ht e2 e3 ?_);refine And.intro (by exact acY _) ?_;refine Ao (Ao ?_);refine Af.eq (T6 ((s.drop r.pos).drop 1) 341 Dj hw (fun o _=>ag5 o)) rfl (Z4 hl ht e2 e3 ?_);refine Aa.ZY [(0,.free),(1,.free),(2,.free),(3,.free),(4,.free),(5,.free),(6,.free),(7,.free),(11,.free),(12,.free),(13,.free),(14,.free),(8,.read),(9,.free),(10,.free),(15,.read)] 16 mixed (by kernel_rfl) (Z4 hl ht e2 e3 ?_);refine Ap (fun g7=>?_) (fun g7=>?_);have d7:=An g7;refine Z5 hl ht e2 e3 g7 ?_;refine Ap (fun g8=>?_) (fun g8=>?_);have d8:=An g8;refine Z6 hl ht e2 e3 g7 g8 ?_;refine Ao (Ao ?_);refine He.one (Kx s r 1 hr (by omega)) rfl rfl rfl (Z6 hl ht e2 e3 g7 g8 ?_);refine AI.go (aby _) rfl (Z6 hl ht e2 e3 g7 g8 ?_);refine Bc.go (Ie _ _ _ _) (fun g9=>?_) (fun g9=>?_);refine Z7 hl ht e2 e3 g7 g8 g9 ?_;refine Aa.Ad (Z7 hl ht e2 e3 g7 g8 g9 ?_);refine Bd ?_;refine Ag.eq (ae8 s r (1 + GF s r) hr (by omega)) (Z7 hl ht e2 e3 g7 g8 g9 ?_);refine Bd ?_;refine Ag.eq (FU s r (KT s r) hr hc2) (Z7 hl ht e2 e3 g7 g8 g9 ?_);refine Aa.ret (Z7 hl ht e2 e3 g7 g8 g9 ?_);simp [Hd,e3,g7,g8,g9];refine Z7 hl ht e2 e3 g7 g8 g9 ?_;simp [Hd,e3,g7,g8,g9];have d8:=Aj g8
 refine Z6 hl ht e2 e3 g7 g8 ?_;refine Ao (Ao ?_);refine Bc.go (Ie _ _ _ _) (fun g12=>?_) (fun g12=>?_)
 cases g12
 clear g12;refine Z6 hl ht e2 e3 g7 g8 ?_;simp [Hd,e3,g7,g8];have d7:=Aj g7;refine Z5 hl ht e2 e3 g7 ?_;refine Ao (Ao ?_);refine Bc.go (Ie _ _ _ _) (fun g13=>?_) (fun g13=>?_)
 cases g13
 clear g13;refine Z5 hl ht e2 e3 g7 ?_;simp [Hd,e3,g7]
end
def Kg (s:List UInt8) (r:Cb):Nat:=C3 isDigit (s.drop r.pos)
def J2 (s:List UInt8) (r:Cb):Bool:=decide ((Kg s r:Int) <= 400) && ((Kg s r:Int) == 1 || ((ahead s r 0).toNat:Int) != 48)
section
attribute [local go_sem] ntmps312
theorem aib (s:List UInt8) (r:Cb) (hr:r.ok s):Bc prog 312 [.ptr 0 0] [.cells (C5 s r)] (J2 s r) (.tup [.val (.int .i64 5),.val (.string (Ak (Ep s r (Kg s r))))]) [.cells (C5 s (fwd s r (Kg s r)))] (GH 12 r.pos) [.cells (C5 s r)]:=by
 obtain ⟨h1,h2,h3,h4⟩:=id hr;have hw:(s.drop r.pos).length <= 1000000:=by simp; omega
 have hn:r.pos + Kg s r <= s.length:=CW isDigit s r h1;have hn2:Kg s r <= 20000:=by omega
 have e2:C3 isDigit (s.drop r.pos) = Kg s r:=rfl;refine Bc.mk ?_;refine Ag.intro func312 (by decide) rfl (D5 e2 ?_);refine Aa.Ad (Z1 e2 ?_);refine Aa.Ad (Z1 e2 ?_);refine Ag.eq (Ua s r hr) (Z1 e2 ?_);refine Af.eq (T6 (s.drop r.pos) 311 isDigit hw (fun o _=>acP o)) rfl (Z1 e2 ?_);refine Aa.ZY [(0,.free),(1,.free),(2,.free),(3,.free),(4,.free),(5,.free),(6,.free),(11,.free),(12,.free),(13,.free),(14,.free),(7,.read),(8,.free),(9,.free),(10,.free),(15,.read)] 16 mixed (by kernel_rfl) (Z1 e2 ?_);refine Ap (fun g7=>?_) (fun g7=>?_);have d7:=An g7;refine Z2 e2 g7 ?_;refine Ap (fun g8=>?_) (fun g8=>?_);have d8:=AB g8;refine Z3 e2 g7 g8 ?_;refine Ao (Ao ?_);refine Bc.go (Ie _ _ _ _) (fun g9=>?_) (fun g9=>?_);clear g9;refine Z3 e2 g7 g8 ?_;refine Aa.Ad (Z3 e2 g7 g8 ?_);refine Ag.eq (FU s r (Kg s r) hr hn) (Z3 e2 g7 g8 ?_);refine Aa.ret (Z3 e2 g7 g8 ?_);simp [J2,g7,g8]
 cases g9
 have d8:=Aq g8;refine Z3 e2 g7 g8 ?_;refine Ao (Ao ?_);refine He.one (Kx s r 0 hr (by omega)) rfl rfl rfl (Z3 e2 g7 g8 ?_);refine Bc.go (Ie _ _ _ _) (fun g11=>?_) (fun g11=>?_);have d11:=BT g11;refine Z4 e2 g7 g8 g11 ?_;refine Aa.Ad (Z4 e2 g7 g8 g11 ?_);refine Ag.eq (FU s r (Kg s r) hr hn) (Z4 e2 g7 g8 g11 ?_);refine Aa.ret (Z4 e2 g7 g8 g11 ?_);simp [J2,g7,g8,g11];have d11:=Bt g11;refine Z4 e2 g7 g8 g11 ?_;simp [J2,g7,g8,g11];have d7:=Aj g7;refine Z2 e2 g7 ?_;refine Ao (Ao ?_);refine Bc.go (Ie _ _ _ _) (fun g13=>?_) (fun g13=>?_)
 cases g13
 clear g13;refine Z2 e2 g7 ?_;simp [J2,g7]
end
def VA (s:List UInt8) (r:Cb):Nat:=C3 isOp (s.drop r.pos)
section
attribute [local go_sem] ntmps316
theorem aiy (s:List UInt8) (r:Cb) (hr:r.ok s):Bc prog 316 [.ptr 0 0] [.cells (C5 s r)] (decide ((VA s r:Int) <= 3)) (.tup [.val (.int .i64 7),.val (.string (Ak (Ep s r (VA s r))))]) [.cells (C5 s (fwd s r (VA s r)))] (GH 12 r.pos) [.cells (C5 s r)]:=by
 obtain ⟨h1,h2,h3,h4⟩:=id hr;have hw:(s.drop r.pos).length <= 1000000:=by simp; omega
 have hn:r.pos + VA s r <= s.length:=CW isOp s r h1;have hn2:VA s r <= 20000:=by omega
 have e2:C3 isOp (s.drop r.pos) = VA s r:=rfl;refine Bc.mk ?_;refine Ag.intro func316 (by decide) rfl (D5 e2 ?_);refine Aa.Ad (Z1 e2 ?_);refine Aa.Ad (Z1 e2 ?_);refine Ag.eq (Ua s r hr) (Z1 e2 ?_);refine Af.eq (T6 (s.drop r.pos) 315 isOp hw (fun o _=>adi o)) rfl (Z1 e2 ?_);refine Aa.Ad (Z1 e2 ?_);refine Ao (Ao ?_);refine Bc.go (Ie _ _ _ _) (fun g7=>?_) (fun g7=>?_);have d7:=An g7;refine Z2 e2 g7 ?_;refine Aa.Ad (Z2 e2 g7 ?_);refine Ag.eq (FU s r (VA s r) hr hn) (Z2 e2 g7 ?_);refine Aa.ret (Z2 e2 g7 ?_);exact .inl trivial;have d7:=Aj g7;refine Z2 e2 g7 ?_;exact .inr trivial
end
end Go.Proofs.Tryz

namespace Go.Proofs.Tryz
open Go.PM
def JN (s:List UInt8) (r:Cb):Int:=if ((((ahead s r 0).toNat:Int) == 46 && decide ((r.pos:Int) > 0)) && ((r.name:Int) == (r.pos:Int))) && (F4 (ahead s r 1) || isOp (ahead s r 1)) then 9 else 8
section
attribute [local go_sem] ntmps318
theorem aiM (s:List UInt8) (r:Cb) (hr:r.ok s) (hp:r.pos < s.length):Ag prog 318 [.ptr 0 0] [.cells (C5 s r)] (fun x h'=>x = .ret (.tup [.val (.int .i64 (JN s r)),.val (.string (Ak (Ep s r 1)))]) /\ h' = [.cells (C5 s (fwd s r 1))]):=by
 obtain ⟨h1,h2,h3,h4⟩:=id hr;refine Ag.intro func318 (by decide) rfl (Bj ?_);refine Aa.Ad (Z0 ?_);refine Aa.Ad (Z0 ?_);refine Aa.seq ?_;refine Aa.Ad (Z0 ?_);refine Ag.eq (Kx s r 1 hr (by omega)) (Z0 ?_);refine Aa.BQ [(0,.free),(1,.read),(2,.free),(3,.free),(4,.free),(5,.free),(6,.free),(7,.free),(8,.read),(9,.free),(10,.free),(11,.free),(12,.free),(13,.free),(14,.free),(16,.free),(17,.free),(18,.free),(19,.free),(15,.read),(20,.read),(21,.free),(22,.free),(23,.free),(24,.free),(25,.free),(26,.free),(27,.free),(28,.free),(29,.free),(30,.free)] mixed (by kernel_rfl) ?_;refine Az.cut [(0,.free),(1,.read),(2,.free),(3,.free),(4,.free),(5,.free),(6,.free),(7,.free)] [(8,.read),(9,.free),(10,.free),(11,.free),(12,.free),(13,.free),(14,.free),(16,.free),(17,.free),(18,.free),(19,.free),(15,.read),(20,.read),(21,.free),(22,.free),(23,.free),(24,.free),(25,.free),(26,.free),(27,.free),(28,.free),(29,.free),(30,.free)] rfl ?_;refine Z0 ?_;refine He.one (Kx s r 0 hr (by omega)) rfl rfl rfl (Z0 ?_);refine Ap (fun g6=>?_) (fun g6=>?_);have d6:=AB g6;refine Z1 g6 ?_;refine Ao (Ao ?_);refine Au.mk ?_;refine Az.cut [(8,.read),(9,.free),(10,.free),(11,.free),(12,.free),(13,.free),(14,.free),(16,.free)] [(17,.free),(18,.free),(19,.free),(15,.read),(20,.read),(21,.free),(22,.free),(23,.free),(24,.free),(25,.free),(26,.free),(27,.free),(28,.free),(29,.free),(30,.free)] rfl (Z1 g6 ?_)
 refine Ap (fun g7=>?_) (fun g7=>?_);have d7:=An g7;refine Z2 g6 g7 ?_;refine Ao ?_;refine Au.mk ?_;refine Az.cut [(17,.free),(18,.free),(19,.free),(15,.read),(20,.read),(21,.free),(22,.free),(23,.free)] [(24,.free),(25,.free),(26,.free),(27,.free),(28,.free),(29,.free),(30,.free)] rfl (Z2 g6 g7 ?_);refine Ao (Ao ?_);refine Au.mk (Z2 g6 g7 ?_);refine Ap (fun g8=>?_) (fun g8=>?_);have d8:=AB g8;refine Z3 g6 g7 g8 ?_;refine AI.go (ac5 _) rfl (Z3 g6 g7 g8 ?_);refine Ap (fun g9=>?_) (fun g9=>?_);refine Z4 g6 g7 g8 g9 ?_;refine Aa.Ar rfl ?_;refine Aa.region (Z4 g6 g7 g8 g9 ?_);refine Aa.Ad (Z4 g6 g7 g8 g9 ?_);refine Ag.eq (FU s r 1 hr hp) (Z4 g6 g7 g8 g9 ?_);refine Aa.ret (Z4 g6 g7 g8 g9 ?_);simp only [JN,Bool.true_and,Bool.false_and,Bool.and_true,Bool.and_false,Bool.true_or,Bool.false_or,g6,g7,g8,g9,bo,↓reduceIte];refine Z4 g6 g7 g8 g9 ?_;refine AI.go (adi _) rfl (Z4 g6 g7 g8 g9 ?_);refine Aa.cond rfl (fun g11=>?_) (fun g11=>?_);refine Aa.region (Z5 g6 g7 g8 g9 g11 ?_);refine Aa.Ad (Z5 g6 g7 g8 g9 g11 ?_);refine Ag.eq (FU s r 1 hr hp) (Z5 g6 g7 g8 g9 g11 ?_);refine Aa.ret (Z5 g6 g7 g8 g9 g11 ?_);simp only [JN,Bool.true_and,Bool.false_and,Bool.and_true,Bool.and_false,Bool.true_or,Bool.false_or,g6,g7,g8,g9,g11,bo,↓reduceIte];refine Aa.skip (Z5 g6 g7 g8 g9 g11 ?_);refine Aa.Ad (Z5 g6 g7 g8 g9 g11 ?_);refine Ag.eq (FU s r 1 hr hp) (Z5 g6 g7 g8 g9 g11 ?_);refine Aa.ret (Z5 g6 g7 g8 g9 g11 ?_);simp only [JN,Bool.true_and,Bool.false_and,Bool.and_true,Bool.and_false,Bool.true_or,Bool.false_or,g6,g7,g8,g9,g11,bo,↓reduceIte]
 have d8:=Aq g8;refine Z3 g6 g7 g8 ?_;refine Aa.Ax rfl ?_;refine Aa.skip (Z3 g6 g7 g8 ?_);refine Aa.Ad (Z3 g6 g7 g8 ?_);refine Ag.eq (FU s r 1 hr hp) (Z3 g6 g7 g8 ?_);refine Aa.ret (Z3 g6 g7 g8 ?_);simp only [JN,Bool.true_and,Bool.false_and,Bool.and_true,Bool.and_false,Bool.true_or,Bool.false_or,g6,g7,g8,bo,↓reduceIte];have d7:=Aj g7;refine Z2 g6 g7 ?_;refine Au.mk ?_;refine Az.cut [(17,.free),(18,.free),(19,.free),(15,.read),(20,.read),(21,.free),(22,.free),(23,.free)] [(24,.free),(25,.free),(26,.free),(27,.free),(28,.free),(29,.free),(30,.free)] rfl (Z2 g6 g7 ?_);refine Au.mk (Z2 g6 g7 ?_);refine Aa.Ax rfl ?_;refine Aa.skip (Z2 g6 g7 ?_);refine Aa.Ad (Z2 g6 g7 ?_);refine Ag.eq (FU s r 1 hr hp) (Z2 g6 g7 ?_);refine Aa.ret (Z2 g6 g7 ?_);simp only [JN,Bool.true_and,Bool.false_and,Bool.and_true,Bool.and_false,Bool.true_or,Bool.false_or,g6,g7,bo,↓reduceIte];have d6:=Aq g6;refine Z1 g6 ?_;refine Au.mk ?_;refine Az.cut [(8,.read),(9,.free),(10,.free),(11,.free),(12,.free),(13,.free),(14,.free),(16,.free)] [(17,.free),(18,.free),(19,.free),(15,.read),(20,.read),(21,.free),(22,.free),(23,.free),(24,.free),(25,.free),(26,.free),(27,.free),(28,.free),(29,.free),(30,.free)] rfl (Z1 g6 ?_);refine Au.mk ?_;refine Az.cut [(17,.free),(18,.free),(19,.free),(15,.read),(20,.read),(21,.free),(22,.free),(23,.free)] [(24,.free),(25,.free),(26,.free),(27,.free),(28,.free),(29,.free),(30,.free)] rfl (Z1 g6 ?_)
 refine Au.mk (Z1 g6 ?_);refine Aa.Ax rfl ?_;refine Aa.skip (Z1 g6 ?_);refine Aa.Ad (Z1 g6 ?_);refine Ag.eq (FU s r 1 hr hp) (Z1 g6 ?_);refine Aa.ret (Z1 g6 ?_);simp only [JN,Bool.true_and,Bool.false_and,Bool.and_true,Bool.and_false,Bool.true_or,Bool.false_or,g6,bo,↓reduceIte]
end
theorem Y5 {l:List UInt8} {c:UInt8} (h:Lib.indexByte l c >= 0):(Lib.indexByte l c).toNat < l.length:=by
 induction l with
 | nil=>simp [Lib.indexByte] at h
 | cons b l ih =>
  simp only [Lib.indexByte] at h ⊢
  by_cases hb:b == c
  ·simp [hb]
  ·simp only [hb,Bool.false_eq_true,if_false] at h ⊢
   by_cases h1:Lib.indexByte l c == -1
   ·simp [h1] at h
   ·simp only [h1,Bool.false_eq_true,if_false] at h ⊢
    have h2:=Lib.indexByte_ge l c;have h3:Lib.indexByte l c ≠ -1:=by simpa using h1
    have:=ih (by omega);simp only [List.length_cons];omega
def B8 (s:List UInt8) (r:Cb):Cb:=fwd s r (C3 EP (s.drop r.pos))
def DS (s:List UInt8) (r:Cb):Int:=Lib.indexByte (s.drop (r.pos + 1)) 34
def I9 (s:List UInt8):Nat -> Cb -> Bool × Cb
 | 0,r=>(true,r)
 | k + 1,r=>if (((ahead s (B8 s r) 0).toNat:Int) != 34) = true then (true,B8 s r)
  else if decide (DS s (B8 s r) >= 0) = true then I9 s k (fwd s (B8 s r) ((DS s (B8 s r)).toNat + 2)) else (false,B8 s r)
def AQ (s:List UInt8) (r:Cb):Bool × Cb:=I9 s (s.length + 1) r
theorem M8 {s:List UInt8} {r:Cb} (hr:r.ok s):(B8 s r).ok s /\ r.pos <= (B8 s r).pos:=⟨Dq hr (CW EP s r hr.1),by unfold B8 fwd; simp⟩
theorem L4 {s:List UInt8} {r:Cb} (hr:r.pos < s.length) (h:DS s r >= 0):r.pos + ((DS s r).toNat + 2) <= s.length:=by
 have:=Y5 h;rw [List.length_drop] at this;unfold DS;omega
theorem Ev {s:List UInt8} {r:Cb} {n:Nat} {k:Int} (hk:k ≠ 0) (h:¬ (((ahead s r n).toNat:Int) != k) = true):r.pos + n < s.length:=K7 fun he=>by
 rw [he] at h;exact h (by simpa using fun e:(0:Int) = k=>hk e.symm)
theorem T5 (a:Nat):((a:Int) + 1).toNat = a + 1:=by omega
attribute [go_sem] T5
section
attribute [local go_sem] List.take_length ntmps284 Nat.le_refl List.length_cons List.length_append List.length_nil
theorem ajF (s:List UInt8) (r:Cb) (hr:r.ok s):Bc prog 284 [.ptr 0 0] [.cells (C5 s r)] (AQ s r).1 (.tup []) [.cells (C5 s (AQ s r).2)] (GH 11 (AQ s r).2.pos) [.cells (C5 s (AQ s r).2)]:=by
 refine Bc.mk ?_;have e34:(Nat.toUInt8 34) = 34:=rfl;refine Ag.intro func284 (by decide) rfl (D5 e34 ?_);refine Aa.scp ?_;refine Aa.seq (Aa.label ?_);refine Z1 e34 ?_;refine Aa.block ?_;refine Aa.A0 (fun x:Nat × Cb=>[]) [0] (fun x:Nat × Cb=>[.cells (C5 s x.2)]) (fun x:Nat × Cb=>x.2.ok s /\ s.length - x.2.pos < x.1 /\ I9 s x.1 x.2 = AQ s r) (fun x:Nat × Cb=>x.1) ((s.length + 1,r)) ?_ rfl ?_ ?_;refine Z1 e34 ?_;rotate_left;refine ⟨rfl,?_,?_,rfl,?_⟩;refine Mr e34 ?_;trivial;refine Mr e34 ?_;trivial;exact Mr e34 trivial;rintro ⟨k,q⟩ hx;obtain ⟨hq,hk,he⟩:=hx;simp only at hq hk he;obtain ⟨k,rfl⟩:∃ j,k = j + 1:=⟨k - 1,by omega⟩
 obtain ⟨hb,hbp⟩:=M8 hq;have hw:(s.drop q.pos).length <= 1000000:=by have:=hq.2.2.2; simp; omega
 refine Z1 e34 ?_;refine Aa.block ?_;refine Aa.Ad (Z1 e34 ?_);refine Ag.eq (Ua s q hq) (Z1 e34 ?_);refine Af.eq (T6 (s.drop q.pos) 322 EP hw (fun o _=>ahN o)) rfl (Z1 e34 ?_);refine Ag.eq (FU s q (C3 EP (s.drop q.pos)) hq (CW EP s q hq.1)) (Z1 e34 ?_);refine Aa.seq ?_;refine Aa.Ad (Z1 e34 ?_);refine Ag.eq (Kx s (B8 s q) 0 hb (by omega)) (Z1 e34 ?_);refine Aa.cond rfl (fun g5=>?_) (fun g5=>?_);have d5:=BT g5;refine Aa.exit (Z2 e34 g5 ?_);rotate_left;have d5:=Bt g5;refine Aa.skip (Z2 e34 g5 ?_);have hlt:(B8 s q).pos + 0 < s.length:=Ev (k:=34) (by decide) (by rw [g5]; decide);have hs:=hb.2.2.2;refine Aa.BQ [(0,.free),(1,.free),(2,.free),(4,.free),(5,.free),(6,.free),(7,.free),(3,.read),(8,.read),(9,.free),(10,.read),(11,.free),(12,.free)] mixed (by kernel_rfl) (Z2 e34 g5 ?_);refine Ao (Ao (Ao ?_));refine And.intro (by trivial) ?_;simp -implicitDefEqProofs (dsimp:=false) (disch:=omega) only [i64_in,gd];refine Z2 e34 g5 ?_;refine Ao (Ao (Ao ?_));refine AI.go (adG (s.drop ((B8 s q).pos + 1)) 34) rfl (Z2 e34 g5 ?_);refine Aa.Ad (Z2 e34 g5 ?_);refine Ao (Ao ?_);refine Bc.go (Ie _ _ _ _) (fun g6=>?_) (fun g6=>?_);have d6:=An g6;refine Z3 e34 g5 g6 ?_;have e7:Lib.indexByte (List.drop ((B8 s q).pos + 1) s) 34 = (((DS s (B8 s q)).toNat:Nat):Int):=by unfold DS; omega
 have hqf:(B8 s q).pos + ((DS s (B8 s q)).toNat + 2) <= s.length:=L4 hlt (by unfold DS; omega);simp only [e7];refine Aa.region (Z3 e34 g5 g6 ?_);refine Bd ?_;refine Ag.eq (FU s (B8 s q) ((DS s (B8 s q)).toNat + 2) hb hqf) (Z3 e34 g5 g6 ?_);refine ⟨(k,fwd s (B8 s q) ((DS s (B8 s q)).toNat + 2)),?_⟩;constructor;constructor;refine Z3 e34 g5 g6 ?_;rotate_left;constructor;refine Z3 e34 g5 g6 ?_;rotate_left;refine Z3 e34 g5 g6 ?_;rotate_left;constructor;omega;refine ⟨rfl,?_,?_,rfl,?_⟩;refine ME e34 g5 g6 ?_;trivial;refine ME e34 g5 g6 ?_;trivial;exact ME e34 g5 g6 trivial;have d6:=Aj g6;refine Z3 e34 g5 g6 ?_;rotate_left
 ·exact ⟨hr,by omega,rfl⟩
 ·rw [<- he]
  simp only [I9,g5,if_true];exact .inl ⟨trivial,trivial⟩
 ·exact Dq hb hqf
 ·show s.length - ((B8 s q).pos + _) < k
  omega
 ·rw [<- he]
  have g6':decide (DS s (B8 s q) >= 0) = true:=g6;simp only [I9,g5,g6',if_true,Bool.false_eq_true,if_false]
 ·rw [<- he]
  have g6':decide (DS s (B8 s q) >= 0) = false:=g6;simp only [I9,g5,g6',Bool.false_eq_true,if_false];exact .inr ⟨trivial,trivial,trivial⟩
end
theorem Xr {s:List UInt8}:∀ (k:Nat) (r:Cb),r.ok s -> (I9 s k r).2.ok s /\ r.pos <= (I9 s k r).2.pos:=by
 intro k
 induction k with
 | zero=>exact fun r hr=>⟨hr,Nat.le_refl _⟩
 | succ k ih =>
  intro r hr;obtain ⟨hb,hbp⟩:=M8 hr;unfold I9
  split
  ·exact ⟨hb,hbp⟩
  ·rename_i h1
   split
   ·rename_i h2
    have h3:DS s (B8 s r) >= 0:=of_decide_eq_true h2;have hlt:(B8 s r).pos + 0 < s.length:=Ev (k:=34) (by decide) h1;obtain ⟨k1,k2⟩:=ih _ (Dq hb (L4 hlt h3));exact ⟨k1,Nat.le_trans (Nat.le_trans hbp (by unfold fwd; simp)) k2⟩
   ·exact ⟨hb,hbp⟩
theorem XW {s:List UInt8} {r:Cb} (hr:r.ok s):(AQ s r).2.ok s /\ r.pos <= (AQ s r).2.pos:=Xr _ r hr
end Go.Proofs.Tryz

namespace Go.Proofs.Tryz
open Go.PM
attribute [local irreducible] BM BP Bq Ci AU AO Az
def Km (s:List UInt8) (r:Cb):Cb:=fwd s r (C3 EX (s.drop r.pos))
def G4 (s:List UInt8) (r:Cb):Cb:=fwd s (Km s r) 1
def T1 (s:List UInt8) (r:Cb):Cb:=fwd s (G4 s r) 1
def U1 (s:List UInt8) (r:Cb) (t:List UInt8):List UInt8:=t ++ Ep s r (C3 EX (s.drop r.pos))
def NZ (s:List UInt8):Nat -> Cb -> List UInt8 -> Bool × Cb × List UInt8
 | 0,r,t=>(true,r,t)
 | k + 1,r,t=>if (((ahead s (Km s r) 0).toNat:Int) == 39) = true then
   if (((ahead s (G4 s r) 0).toNat:Int) != 39) = true then (true,G4 s r,U1 s r t) else NZ s k (T1 s r) (U1 s r t ++ Ep s (G4 s r) 1)
  else (false,Km s r,U1 s r t)
def MF (s:List UInt8) (r:Cb):Bool × Cb × List UInt8:=NZ s (s.length + 1) (fwd s r 1) []
theorem IC {s:List UInt8} {r:Cb} {n:Nat} {k:Int} (hk:k ≠ 0) (h:(((ahead s r n).toNat:Int) == k) = true):r.pos + n < s.length:=K7 fun he=>by
 rw [he] at h;exact hk (by simpa using (beq_iff_eq.1 h).symm)
theorem Tg (s:List UInt8) (r:Cb) (n:Nat):(Ep s r n).length <= n:=by unfold Ep; rw [List.length_take]; omega
theorem PG (s:List UInt8) (r:Cb):(T1 s r).pos = r.pos + C3 EX (s.drop r.pos) + 1 + 1:=rfl
section
attribute [local go_sem] ntmps314
theorem ai1 (s:List UInt8) (r:Cb) (hr:r.ok s) (hp:r.pos < s.length):Bc prog 314 [.ptr 0 0] [.cells (C5 s r)] (MF s r).1 (.tup [.val (.int .i64 6),.val (.string (Ak (MF s r).2.2))]) [.cells (C5 s (MF s r).2.1)] (GH 11 r.pos) [.cells (C5 s (MF s r).2.1)]:=by
 refine Bc.mk ?_;have hr1:(fwd s r 1).ok s:=Dq hr hp;refine Ag.intro func314 (by decide) rfl (Bj ?_);refine Aa.Ad (Z0 ?_);refine Aa.Ad (Z0 ?_);refine Ao (Ao ?_);refine Aa.Ad (Z0 ?_);refine Ag.eq (FU s r 1 hr hp) (Z0 ?_);refine Aa.Ad (Z0 ?_);refine Aa.block ?_;refine Aa.A0 (fun x:Nat × Cb × List UInt8=>[(5,.val (.string (Ak x.2.2)))]) [4,0] (fun x:Nat × Cb × List UInt8=>[.cells (C5 s x.2.1)]) (fun x:Nat × Cb × List UInt8=>x.2.1.ok s /\ s.length - x.2.1.pos < x.1 /\ x.2.2.length <= x.2.1.pos /\ NZ s x.1 x.2.1 x.2.2 = MF s r) (fun x:Nat × Cb × List UInt8=>x.1) ((s.length + 1,fwd s r 1,[])) ?_ rfl ?_ ?_;refine Z0 ?_;rotate_left;refine ⟨rfl,?_,?_,rfl,?_⟩;refine C1 ?_;trivial;refine C1 ?_;trivial;exact C1 trivial;rintro ⟨k,q,tx⟩ hx;obtain ⟨hq,hk,hx,he⟩:=hx;simp only at hq hk hx he;have hs:=hq.2.2.2;have hq1:=hq.1;have ht1:=Tg s q (C3 EX (s.drop q.pos));have ht2:=Tg s (G4 s q) 1;have hrf:=CW EX s q hq.1;obtain ⟨k,rfl⟩:∃ j,k = j + 1:=⟨k - 1,by omega⟩
 have ha:(Km s q).ok s:=Dq hq (CW EX s q hq.1);have hw:(s.drop q.pos).length <= 1000000:=by have:=hq.2.2.2; simp; omega
 refine Z0 ?_;refine Aa.block ?_;refine Aa.Ad (Z0 ?_);refine Ag.eq (Ua s q hq) (Z0 ?_);refine Af.eq (T6 (s.drop q.pos) 343 EX hw (fun o _=>ahf o)) rfl (Z0 ?_);refine Aa.Ad (Z0 ?_);refine Ag.eq (FU s q (C3 EX (s.drop q.pos)) hq (CW EX s q hq.1)) (Z0 ?_);refine Ao ?_;refine Aa.Ad (Z0 ?_);refine Ag.eq (Kx s (Km s q) 0 ha (by omega)) (Z0 ?_);refine Bc.go (Ie _ _ _ _) (fun g6=>?_) (fun g6=>?_);have d6:=AB g6;refine Z1 g6 ?_;have hl1:(Km s q).pos + 1 <= s.length:=by first | exact IC (k:=39) (n:=0) (by decide) g6 | exact IC (k:=39) (n:=0) (by decide) g5 | exact IC (k:=39) (n:=0) (by decide) g7
 have hc:(G4 s q).ok s:=Dq ha hl1;refine Aa.Ad (Z1 g6 ?_);refine Ag.eq (FU s (Km s q) 1 ha hl1) (Z1 g6 ?_);refine Aa.seq ?_;refine Aa.Ad (Z1 g6 ?_);refine Ag.eq (Kx s (G4 s q) 0 hc (by omega)) (Z1 g6 ?_);refine Aa.cond rfl (fun g9=>?_) (fun g9=>?_);have d9:=BT g9;refine Aa.Ad (Z2 g6 g9 ?_);refine Aa.ret (Z2 g6 g9 ?_);rotate_left;have d9:=Bt g9;refine Aa.skip (Z2 g6 g9 ?_);have hl2:(G4 s q).pos + 1 <= s.length:=by first | exact Ev (k:=39) (n:=0) (by decide) (by rw [g10]; decide) | exact Ev (k:=39) (n:=0) (by decide) (by rw [g9]; decide) | exact Ev (k:=39) (n:=0) (by decide) (by rw [g11]; decide) | exact Ev (k:=39) (n:=0) (by decide) (by rw [g8]; decide) | exact Ev (k:=39) (n:=0) (by decide) (by rw [g7]; decide)
 refine Aa.region (Z2 g6 g9 ?_);refine Ag.eq (FU s (G4 s q) 1 hc hl2) (Z2 g6 g9 ?_);constructor;rotate_left;refine ⟨(k,T1 s q,U1 s q tx ++ Ep s (G4 s q) 1),?_⟩;constructor;constructor;simp -implicitDefEqProofs (dsimp:=false) only [go_sem,simprocAttr,g6,g9,Nat.le_refl,List.length_cons,List.length_append,List.length_nil];rotate_left;constructor;simp -implicitDefEqProofs (dsimp:=false) only [go_sem,simprocAttr,g6,g9,Nat.le_refl,List.length_cons,List.length_append,List.length_nil];rotate_left;constructor;simp -implicitDefEqProofs (dsimp:=false) only [go_sem,simprocAttr,g6,g9,Nat.le_refl,List.length_cons,List.length_append,List.length_nil];rotate_left;simp -implicitDefEqProofs (dsimp:=false) only [go_sem,simprocAttr,g6,g9,Nat.le_refl,List.length_cons,List.length_append,List.length_nil];rotate_left;constructor;omega;refine ⟨rfl,?_,?_,rfl,?_⟩;refine Cv g6 g9 ?_;constructor;trivial;trivial;refine Cv g6 g9 ?_;constructor;trivial;trivial;exact Cv g6 g9 trivial;have d6:=Aq g6;refine Z1 g6 ?_;rotate_left
 ·exact ⟨hr1,by show s.length - (r.pos + 1) < _; omega,Nat.zero_le _,rfl⟩
 ·rw [<- he]
  simp only [NZ,g6,g9,if_true];exact .inl ⟨trivial,rfl,trivial⟩
 ·simp only [List.length_append]
  omega
 ·exact Dq hc hl2
 ·have hcp:(G4 s q).pos = q.pos + C3 EX (s.drop q.pos) + 1:=rfl
  rw [PG]; omega
 ·rw [PG]
  unfold U1;simp only [List.length_append];omega
 ·rw [<- he]
  simp only [NZ,g6,g9,if_true,Bool.false_eq_true,if_false]
 ·rw [<- he]
  simp only [NZ,g6,Bool.false_eq_true,if_false];exact .inr ⟨trivial,trivial⟩
end
theorem aam {s:List UInt8}:∀ (k:Nat) (r:Cb) (t:List UInt8),r.ok s -> (NZ s k r t).2.1.ok s /\ r.pos <= (NZ s k r t).2.1.pos:=by
 intro k
 induction k with
 | zero=>exact fun r t hr=>⟨hr,Nat.le_refl _⟩
 | succ k ih =>
  intro r t hr;have ha:(Km s r).ok s:=Dq hr (CW EX s r hr.1);have hap:r.pos <= (Km s r).pos:=by unfold Km fwd; simp
  unfold NZ
  split
  ·rename_i h1
   have hl1:(Km s r).pos + 1 <= s.length:=IC (k:=39) (n:=0) (by decide) h1;have hc:(G4 s r).ok s:=Dq ha hl1;have hcp:(Km s r).pos <= (G4 s r).pos:=by unfold G4 fwd; simp
   split
   ·exact ⟨hc,Nat.le_trans hap hcp⟩
   ·rename_i h2
    have hl2:(G4 s r).pos + 1 <= s.length:=Ev (k:=39) (n:=0) (by decide) h2;obtain ⟨k1,k2⟩:=ih (T1 s r) (U1 s r t ++ Ep s (G4 s r) 1) (Dq hc hl2);have hdp:(G4 s r).pos <= (T1 s r).pos:=by unfold T1 fwd; simp
    exact ⟨k1,by omega⟩
  ·exact ⟨ha,hap⟩
theorem aaG {s:List UInt8} {r:Cb} (hr:r.ok s) (hp:r.pos < s.length):(MF s r).2.1.ok s /\ r.pos + 1 <= (MF s r).2.1.pos:=aam _ _ _ (Dq hr hp)
end Go.Proofs.Tryz

namespace Go.Proofs.Tryz
open Go.PM
attribute [local irreducible] BM BP Bq Ci AU AO Az
def clv (c:Nat × Nat):AV:=.agg [.fn c.1 [],.fn c.2 []]
def Kh:List (Nat × Nat):=[(307,308),(309,310),(311,312),(313,314),(315,316),(317,318)]
theorem Yu (h:List Ah) (f:FuncId) (K:AV -> List Ah -> Prop):Ef h (.fn f []) K = K (.fn f []) h:=by simp [Ef,AV.BK,CB]
section
attribute [local go_sem] Yu ntmps283
theorem ah0:Af prog 283 [] (· = .sl true (Kh.map clv)):=by
 refine Ag.intro func283 (by decide) rfl (Bj ?_);refine Aa.Ad (Z0 ?_);refine Aa.Ad (Z0 ?_);refine And.intro (by trivial) ?_;refine Aa.ret (Z0 ?_);refine Ae rfl ?_;trivial
end
def Kf (i:Nat) (b:UInt8):Bool:=match i with
 | 0=>F4 b
 | 1=>(b.toNat:Int) == 95
 | 2=>isDigit b
 | 3=>(b.toNat:Int) == 39
 | 4=>isOp b
 | _=>Ra b
theorem aiH (i:Nat) (h:i < 6) (b:UInt8):Af prog (Kh.getD i (0,0)).1 [b8 b] (· = .val (.bool (Kf i b))) :=
 match i,h with
 | 0,_=>ac5 b
 | 1,_=>ahK b
 | 2,_=>acP b
 | 3,_=>aje b
 | 4,_=>adi b
 | 5,_=>ai8 b
section
attribute [local go_sem] ntmps286
theorem ajM (s:List UInt8) (r:Cb) (hr:r.ok s) (f g:FuncId) (p:Bool) (hf:Af prog f [b8 (ahead s r 0)] (· = .val (.bool p))) :
  Ag prog 286 [.agg [.fn f [],.fn g []],.ptr 1 0] [.cells (C5 s r),.cells [.ptr 0 0]] (fun x h'=>x = .ret (.val (.bool p)) /\ h' = [.cells (C5 s r),.cells [.ptr 0 0]]):=by
 refine Ag.less ?_;refine Ag.intro func286 (by decide) rfl (Bj ?_);refine Aa.Ad (Z0 ?_);refine Aa.BQ [(0,.free),(1,.read),(2,.read),(3,.read),(4,.free),(5,.free)] mixed (by kernel_rfl) (Z0 ?_);refine Ao ?_;refine He.one (Kx s r 0 hr (by omega)) rfl rfl rfl (Z0 ?_);refine AI.go (hf) rfl (Z0 ?_);refine Aa.ret (Z0 ?_);rotate_left
 ·refine ⟨[.cells (C5 s r),.cells [.ptr 0 0]],?_,Nat.le_refl _,rfl,rfl⟩
  simp [BI,Ah.under,AZ,AV.under,C5]
end
def HF (b:UInt8):Nat:=if Kf 0 b then 0 else if Kf 1 b then 1 else if Kf 2 b then 2 else if Kf 3 b then 3 else if Kf 4 b then 4 else if Kf 5 b then 5 else 6
theorem Yo {b:UInt8} {i:Nat} (h:i < 6) (h0:∀ j,j < i -> Kf j b = false) (h1:Kf i b = true):HF b = i:=by
 unfold HF
 match i,h with
 | 0,_=>simp [h1]
 | 1,_=>simp [h1,h0 0 (by omega)]
 | 2,_=>simp [h1,h0 0 (by omega),h0 1 (by omega)]
 | 3,_=>simp [h1,h0 0 (by omega),h0 1 (by omega),h0 2 (by omega)]
 | 4,_=>simp [h1,h0 0 (by omega),h0 1 (by omega),h0 2 (by omega),h0 3 (by omega)]
 | 5,_=>simp [h1,h0 0 (by omega),h0 1 (by omega),h0 2 (by omega),h0 3 (by omega),h0 4 (by omega)]
theorem UZ {b:UInt8} (h0:∀ j,j < 6 -> Kf j b = false):HF b = 6:=by
 unfold HF;simp [h0 0 (by omega),h0 1 (by omega),h0 2 (by omega),h0 3 (by omega),h0 4 (by omega),h0 5 (by omega)]
def EA (b:UInt8):Int:=if HF b < 6 then (HF b:Nat) else -1
theorem Iv {i:Nat} (h:i < 6):(Kh.map clv).getD i .dead = .agg [.fn (Kh.getD i (0,0)).1 [],.fn (Kh.getD i (0,0)).2 []]:=by
 match i,h with
 | 0,_=>rfl
 | 1,_=>rfl
 | 2,_=>rfl
 | 3,_=>rfl
 | 4,_=>rfl
 | 5,_=>rfl
theorem Lz:(Kh.map clv).length = 6:=rfl
section
attribute [local go_sem] Lz ntmps285
theorem ajD (s:List UInt8) (r:Cb) (hr:r.ok s) :
  Ag prog 285 [.sl true (Kh.map clv),.fn 286 [.ptr 1 0]] [.cells (C5 s r),.cells [.ptr 0 0]] (fun x h'=>x = .ret (.val (.int .i64 (EA (ahead s r 0)))) /\ h' = [.cells (C5 s r),.cells [.ptr 0 0]]):=by
 refine Ag.intro func285 (by decide) rfl (Bj ?_);refine Aa.Ad (Z0 ?_);refine Aa.seq ?_;refine Aa.Ad (Z0 ?_);refine Aa.block ?_;refine Aa.A0 (fun i:Nat=>[(8,.val (.int .i64 (i:Nat)))]) [7,0,1] (fun i:Nat=>[.cells (C5 s r),.cells [.ptr 0 0]]) (fun i:Nat=>i <= 6 /\ ∀ j,j < i -> Kf j (ahead s r 0) = false) (fun i:Nat=>6 - i) (0) ?_ rfl ?_ ?_;refine ⟨?_,?_⟩ <;> omega
 refine ⟨rfl,?_,?_,rfl,?_⟩;refine C1 ?_;trivial;refine C1 ?_;constructor;trivial;trivial;exact C1 trivial;rintro i hj;obtain ⟨hi,hn⟩:=hj;refine Z0 ?_;refine Aa.Ad (Z0 ?_);refine Aa.seq (Aa.cond rfl (fun g1=>?_) (fun g1=>?_));have d1:=An g1;refine Aa.skip (Z1 g1 ?_);refine Aa.seq (Aa.block ?_);refine Aa.Ad (Z1 g1 ?_);refine Aa.Ad (Z1 g1 ?_);refine Ao ?_;refine And.intro (by assumption) ?_;simp -implicitDefEqProofs (dsimp:=false) (disch:=omega) only [i64_in,gd,i64_in,Iv];refine Z1 g1 ?_;refine Ag.eq (ajM s r hr (Kh.getD i (0,0)).1 (Kh.getD i (0,0)).2 (Kf i (ahead s r 0)) (aiH i (by omega) _)) (Z1 g1 ?_);refine Aa.cond rfl (fun g3=>?_) (fun g3=>?_);refine Aa.Ad (Z2 g1 g3 ?_);refine Aa.ret (Z2 g1 g3 ?_);rotate_left;refine Aa.skip (Z2 g1 g3 ?_);refine Aa.region (Z2 g1 g3 ?_);simp -implicitDefEqProofs (dsimp:=false) (disch:=omega) only [i64_in,gd,i64_in,Iv];refine ⟨i + 1,?_⟩;constructor;constructor;omega;rotate_left;constructor;omega;refine ⟨rfl,?_,?_,rfl,?_⟩;refine Cv g1 g3 ?_;trivial;refine Cv g1 g3 ?_;constructor;trivial;trivial;exact Cv g1 g3 trivial;have d1:=Aj g1;refine Aa.exit (Z1 g1 ?_);refine Aa.Ad (Z1 g1 ?_);refine Aa.ret (Z1 g1 ?_);rotate_left
 ·have hc:=Yo (by omega) hn g3
  unfold EA;rw [hc,if_pos (by omega)]
 ·intro j hj
  rcases Nat.lt_or_ge j i with h | h
  ·exact hn j h
  ·have:j = i:=by omega
   rw [this]; exact g3
 ·have:i = 6:=by have:=of_decide_eq_false g1; omega
  subst this;unfold EA;rw [UZ hn];rfl
end
structure Tk where
 ok:Bool
 kind:Int
 text:List UInt8
 rd:Cb
 err:Int
 at':Int
def JJ (s:List UInt8) (r:Cb) (i:Nat):Tk:=match i with
 | 0=>⟨E2 s r,G0 s r,Ep s r (DQ s r),if E2 s r then FG s r else r,12,r.pos⟩
 | 1=>⟨Hd s r,4,Ep s r (KT s r),if Hd s r then fwd s r (KT s r) else r,12,r.pos⟩
 | 2=>⟨J2 s r,5,Ep s r (Kg s r),if J2 s r then fwd s r (Kg s r) else r,12,r.pos⟩
 | 3=>⟨(MF s r).1,6,(MF s r).2.2,(MF s r).2.1,11,r.pos⟩
 | 4=>⟨decide ((VA s r:Int) <= 3),7,Ep s r (VA s r),if decide ((VA s r:Int) <= 3) then fwd s r (VA s r) else r,12,r.pos⟩
 | _=>⟨true,JN s r,Ep s r 1,fwd s r 1,12,r.pos⟩
theorem IM {P:Program} {f:FuncId} {args:List AV} {h:List Ah} {c:Bool} {v x:AV} {h1 h2:List Ah} (hc:Bc P f args h c v h1 x h2):Bc P f args h c v (if c = true then h1 else h2) x (if c = true then h1 else h2) :=
 ⟨fun e=>by rw [if_pos e]; exact hc.1 e,fun e=>by rw [if_neg (by rw [e]; decide)]; exact hc.2 e⟩
theorem KL (s:List UInt8) (c:Bool) (a b:Cb):[Ah.cells (C5 s (if c = true then a else b))] = if c = true then [Ah.cells (C5 s a)] else [Ah.cells (C5 s b)]:=by cases c <;> rfl
theorem ahY (s:List UInt8) (r:Cb) (hr:r.ok s) (hp:r.pos < s.length) (i:Nat) (h:i < 6) :
  Bc prog (Kh.getD i (0,0)).2 [.ptr 0 0] [.cells (C5 s r)] (JJ s r i).ok (.tup [.val (.int .i64 (JJ s r i).kind),.val (.string (Ak (JJ s r i).text))]) [.cells (C5 s (JJ s r i).rd)] (GH (JJ s r i).err (JJ s r i).at') [.cells (C5 s (JJ s r i).rd)]:=by
 match i,h with
 | 0,_=>have:=IM (ajH s r hr); rw [<- KL] at this; exact this
 | 1,_=>have:=IM (ahp s r hr hp); rw [<- KL] at this; exact this
 | 2,_=>have:=IM (aib s r hr); rw [<- KL] at this; exact this
 | 3,_=>exact ai1 s r hr hp
 | 4,_=>have:=IM (aiy s r hr); rw [<- KL] at this; exact this
 | 5,_=>exact Bc.mk (Ag.mono (aiM s r hr hp) fun x h' ⟨h1,h2⟩=>.inl ⟨rfl,h1,h2⟩)
end Go.Proofs.Tryz

namespace Go.Proofs.Tryz
open Go.PM
attribute [local irreducible] BM BP Bq Ci AU AO Az
structure Pc where
 kind:Int
 text:List UInt8
 line:Nat
 col:Nat
 frm:Nat
 to':Nat
def YO (p:Pc):AV:=.agg [.val (.int .i64 p.kind),.val (.string (Ak p.text)),.val (.int .i64 (p.line:Nat)),.val (.int .i64 (p.col:Nat)),.val (.int .i64 (p.frm:Nat)),.val (.int .i64 (p.to':Nat))]
def Dz (s:List UInt8) (r:Cb):Tk:=JJ s r (HF (ahead s r 0))
def BG (s:List UInt8):Nat -> Nat -> Cb -> List Pc × Option (Int × Int)
 | 0,_,_=>([],none)
 | k + 1,m,r=>if (AQ s r).1 = true then
   if ((AQ s r).2.pos:Int) == (s.length:Int) then ([],none)
   else if decide (EA (ahead s (AQ s r).2 0) >= 0) = true then
    if (Dz s (AQ s r).2).ok = true then
     if decide ((m:Int) < 6000) = true then
      (⟨(Dz s (AQ s r).2).kind,(Dz s (AQ s r).2).text,(AQ s r).2.line,(AQ s r).2.col,(AQ s r).2.pos,(Dz s (AQ s r).2).rd.pos⟩ :: (BG s k (m + 1) (Dz s (AQ s r).2).rd).1,(BG s k (m + 1) (Dz s (AQ s r).2).rd).2)
     else ([],some (2,(AQ s r).2.pos))
    else ([],some ((Dz s (AQ s r).2).err,(Dz s (AQ s r).2).at'))
   else ([],some (10,(AQ s r).2.pos))
  else ([],some (11,(AQ s r).2.pos))
def Iq (s:List UInt8):List Pc × Option (Int × Int):=if decide ((s.length:Int) <= 20000) = true then BG s 6001 0 ⟨0,1,1,0⟩ else ([],some (2,0))
theorem WK {s:List UInt8} {r:Cb} (hr:r.ok s) (hp:r.pos < s.length) (hc:HF (ahead s r 0) < 6):(Dz s r).rd.ok s:=by
 unfold Dz;generalize HF (ahead s r 0) = i at hc;have hw:(FG s r).ok s:=by
  have h1:=Dq hr (Hz s r (Fh s r) (CW Dj s r hr.1)).2;unfold FG
  split
  ·exact h1
  ·exact h1
 have hn:r.pos + KT s r <= s.length:=by
  have h2:=KE Dj ((s.drop r.pos).drop 1);rw [List.length_drop,List.length_drop] at h2;have h3:r.pos + (1 + GF s r) <= s.length:=by show r.pos + (1 + C3 _ _) <= _; omega
  have h4:=(Hz s r (1 + GF s r) h3).2;exact h4
 match i,hc with
 | 0,_=>show (if E2 s r then FG s r else r).ok s; split <;> first | exact hw | exact hr
 | 1,_=>show (if Hd s r then fwd s r (KT s r) else r).ok s; split <;> first | exact Dq hr hn | exact hr
 | 2,_=>show (if J2 s r then fwd s r (Kg s r) else r).ok s; split <;> first | exact Dq hr (CW isDigit s r hr.1) | exact hr
 | 3,_=>exact (aaG hr hp).1
 | 4,_=>show (if decide ((VA s r:Int) <= 3) then fwd s r (VA s r) else r).ok s; split <;> first | exact Dq hr (CW isOp s r hr.1) | exact hr
 | 5,_=>exact Dq hr hp
def ai7:Option (Int × Int) -> Option AV
 | none=>none
 | some (e,a)=>some (GH e a)
theorem JU (b:Ah) (n k:Nat) (h:b.under n = true) (hk:n <= k):b.under k = true:=Ah.CG hk b h
theorem rdI {P:Program} {f:FuncId} {s:List UInt8} {r r1 r2:Cb} {c:Bool} {v x:AV} (hc:Bc P f [.ptr 0 0] [.cells (C5 s r)] c v [.cells (C5 s r1)] x [.cells (C5 s r2)]) {pre:List Ah} (ext:List Ah) {n:Nat} (hn:pre.length = n) (hu:Aw pre) (hv:v.shift n = v) (hx:x.shift n = x) :
  Bc P f [.ptr n 0] (pre ++ .cells (C5 s r) :: ext) c v (pre ++ .cells (C5 s r1) :: ext) x (pre ++ .cells (C5 s r2) :: ext):=by
 subst hn;have hb:Aw (pre ++ [Ah.cells (C5 s r)].map (Ah.shift pre.length)):=HR hu (fun b hb=>by
  simp only [List.map_cons,List.map_nil,List.mem_singleton] at hb;subst hb;rfl) JU
 have ha:AZ (pre ++ [Ah.cells (C5 s r)].map (Ah.shift pre.length)).length ([AV.ptr 0 0].map (AV.shift pre.length)) = true:=by simp [AZ,AV.under,AV.shift]
 have hf:∀ b ∈ [Ah.cells (C5 s r)],b.Of = true:=fun b hb=>by simp only [List.mem_singleton] at hb; subst hb; rfl
 have e:∀ q:Cb,pre ++ [Ah.cells (C5 s q)].map (Ah.shift pre.length) ++ ext = pre ++ .cells (C5 s q) :: ext:=fun q=>by rw [List.append_assoc]; rfl
 refine ⟨fun e1=>?_,fun e1=>?_⟩
 ·have:=Ag.aeF pre ext (hc.1 e1) rfl hu hf hb ha
  rw [e,e] at this;refine this.mono fun q h' ⟨h1,h2⟩=>⟨by rw [h1]; exact congrArg AE.ret hv,h2⟩
 ·have:=Ag.aeF pre ext (hc.2 e1) rfl hu hf hb ha
  rw [e,e] at this;refine this.mono fun q h' ⟨h1,h2⟩=>⟨by rw [h1]; exact congrArg AE.panic hx,h2⟩
theorem agR (s:List UInt8) (r:Cb) (hr:r.ok s) {pre:List Ah} (ext:List Ah) {n:Nat} (hn:pre.length = n) (hu:Aw pre) :
  Ag prog 285 [.sl true (Kh.map clv),.fn 286 [.ptr (n + 1) 0]] (pre ++ .cells (C5 s r) :: .cells [.ptr n 0] :: ext) (fun x h'=>x = .ret (.val (.int .i64 (EA (ahead s r 0)))) /\ h' = pre ++ .cells (C5 s r) :: .cells [.ptr n 0] :: ext):=by
 subst hn;have hb:Aw (pre ++ [Ah.cells (C5 s r),.cells [.ptr 0 0]].map (Ah.shift pre.length)):=HR hu (fun b hb=>by
  simp only [List.map_cons,List.map_nil,List.mem_cons,List.not_mem_nil,or_false] at hb
  rcases hb with rfl | rfl
  ·rfl
  ·simp [Ah.shift,CS,AV.shift,Ah.under,AZ,AV.under]) JU
 have ha:AZ (pre ++ [Ah.cells (C5 s r),.cells [.ptr 0 0]].map (Ah.shift pre.length)).length ([AV.sl true (Kh.map clv),.fn 286 [.ptr 1 0]].map (AV.shift pre.length)) = true:=by simp [AZ,AV.under,AV.shift,CS]
 have hf:∀ b ∈ [Ah.cells (C5 s r),.cells [.ptr 0 0]],b.Of = true:=fun b hb=>by
  simp only [List.mem_cons,List.not_mem_nil,or_false] at hb
  rcases hb with rfl | rfl <;> rfl
 have e:pre ++ [Ah.cells (C5 s r),.cells [.ptr 0 0]].map (Ah.shift pre.length) ++ ext = pre ++ .cells (C5 s r) :: .cells [.ptr pre.length 0] :: ext:=by rw [List.append_assoc]; rfl
 have:=Ag.aeF pre ext (ajD s r hr) rfl hu hf hb ha;rw [e] at this;exact this
theorem Nq {n:Nat} {hc:List Ah} {s:List UInt8} {q:Cb} (hlen:hc.length = n) (hu:Aw hc):∀ b ∈ D4 n hc ++ [Ah.cells (C5 s q),.cells [.ptr n 0]],b.under (n + 2) = true:=by
 rw [DD hlen];intro b hb
 rcases List.mem_append.1 hb with h | h
 ·exact Ah.CG (by omega) b (hu b h)
 ·simp only [List.mem_cons,List.not_mem_nil,or_false] at h
  rcases h with rfl | rfl
  ·rfl
  ·simp [Ah.under,AZ,AV.under]
theorem Ug {b:UInt8} (h:EA b >= 0):HF b < 6 /\ EA b = ((HF b:Nat):Int):=by
 unfold EA at h ⊢
 split at h
 ·rename_i h1
  exact ⟨h1,if_pos h1⟩
 ·omega
theorem Wv {n:Nat} {hc:List Ah} {s:List UInt8} {q:Cb} {b:Ah} (hlen:hc.length = n) (hu:Aw hc):BI (n + 2) (D4 n hc ++ [Ah.cells (C5 s q),.cells [.ptr n 0],b]) (D4 n hc ++ [Ah.cells (C5 s q),.cells [.ptr n 0]]):=by
 have:=Cc [b] (Nq (s:=s) (q:=q) hlen hu);rw [List.append_assoc] at this;exact this
theorem Zu {P:Program} {l n:Nat} {args:List AV} {hc:List Ah} {R:AE -> List Ah -> Prop} (ext:List Ah) (hlen:hc.length = n) (hu:Aw hc) (ha:AZ n args = true) (hR:∀ r h',R r h' -> h'.length = n) (hy:Bl P l args hc R) :
  Bl P l args (D4 n hc ++ ext) (fun r h'=>∃ hc2,R r hc2 /\ hc2.length = n /\ h' = D4 n hc2 ++ ext):=by
 rw [DD hlen];refine Bl.mono (Bl.pre ext hu (by rw [hlen]; exact ha) (fun r h' h=>(hR r h' h).trans hlen.symm) hy) ?_;rintro r h' ⟨h1,h2,rfl⟩;exact ⟨h1,h2,hR r h1 h2,by rw [DD (hR r h1 h2)]⟩
def afw (s:List UInt8) (r:Cb):Pc:=⟨(Dz s (AQ s r).2).kind,(Dz s (AQ s r).2).text,(AQ s r).2.line,(AQ s r).2.col,(AQ s r).2.pos,(Dz s (AQ s r).2).rd.pos⟩
section
variable {s:List UInt8} {m:Nat} {r:Cb} (hm:m <= 6000)
include hm
theorem Qe (g3:(AQ s r).1 = false):BG s (6001 - m) m r = (([],some (11,((AQ s r).2.pos:Int))):List Pc × Option (Int × Int)):=by
 rw [show 6001 - m = (6000 - m) + 1 by omega];simp only [BG,g3,Bool.false_eq_true,if_false]
theorem Sl (g3:(AQ s r).1 = true) (g4:(((AQ s r).2.pos:Int) == (s.length:Int)) = true):BG s (6001 - m) m r = ([],none):=by
 rw [show 6001 - m = (6000 - m) + 1 by omega];simp only [BG,g3,g4,if_true]
theorem Rh (g3:(AQ s r).1 = true) (g4:(((AQ s r).2.pos:Int) == (s.length:Int)) = false) (g6:decide (EA (ahead s (AQ s r).2 0) >= 0) = false):BG s (6001 - m) m r = (([],some (10,((AQ s r).2.pos:Int))):List Pc × Option (Int × Int)):=by
 rw [show 6001 - m = (6000 - m) + 1 by omega];simp only [BG,g3,g4,g6,if_true,Bool.false_eq_true,if_false]
theorem R7 (g3:(AQ s r).1 = true) (g4:(((AQ s r).2.pos:Int) == (s.length:Int)) = false) (g6:decide (EA (ahead s (AQ s r).2 0) >= 0) = true) (g7:(JJ s (AQ s r).2 (HF (ahead s (AQ s r).2 0))).ok = false) :
  BG s (6001 - m) m r = ([],some ((JJ s (AQ s r).2 (HF (ahead s (AQ s r).2 0))).err,(JJ s (AQ s r).2 (HF (ahead s (AQ s r).2 0))).at')):=by
 rw [show 6001 - m = (6000 - m) + 1 by omega];have g7':(Dz s (AQ s r).2).ok = false:=g7;simp only [BG,g3,g4,g6,g7',if_true,Bool.false_eq_true,if_false];rfl
theorem Ql (g3:(AQ s r).1 = true) (g4:(((AQ s r).2.pos:Int) == (s.length:Int)) = false) (g6:decide (EA (ahead s (AQ s r).2 0) >= 0) = true) (g7:(JJ s (AQ s r).2 (HF (ahead s (AQ s r).2 0))).ok = true) (g8:decide ((m:Int) < 6000) = false) :
  BG s (6001 - m) m r = (([],some (2,((AQ s r).2.pos:Int))):List Pc × Option (Int × Int)):=by
 rw [show 6001 - m = (6000 - m) + 1 by omega];have g7':(Dz s (AQ s r).2).ok = true:=g7;simp only [BG,g3,g4,g6,g7',g8,if_true,Bool.false_eq_true,if_false]
theorem VQ (g3:(AQ s r).1 = true) (g4:(((AQ s r).2.pos:Int) == (s.length:Int)) = false) (g6:decide (EA (ahead s (AQ s r).2 0) >= 0) = true) (g7:(JJ s (AQ s r).2 (HF (ahead s (AQ s r).2 0))).ok = true) (g8:decide ((m:Int) < 6000) = true) :
  BG s (6001 - m) m r = (afw s r :: (BG s (6000 - m) (m + 1) (Dz s (AQ s r).2).rd).1,(BG s (6000 - m) (m + 1) (Dz s (AQ s r).2).rd).2):=by
 rw [show 6001 - m = (6000 - m) + 1 by omega];have g7':(Dz s (AQ s r).2).ok = true:=g7;simp only [BG,g3,g4,g6,g7',g8,if_true,Bool.false_eq_true,if_false];rfl
end
theorem Zz {α:Type} {l t:List α} {m:Nat} {x:α} (h:l.drop m = x :: t):l[m]? = some x:=by
 have:=List.getElem?_drop (xs:=l) (i:=m) (j:=0);rw [h] at this
 simpa using this.symm
theorem L3 {s:List UInt8} {m n:Nat} {hc ext:List Ah} {J:Nat -> List Ah -> Prop} {x:AE} (Q:Prop) (hQ:Q) (hlen:hc.length = n) (hu:Aw hc) (hJm:J m hc) (hml:m <= (Iq s).1.length) (hd:(Iq s).1.drop m = []) (hx:∀ k,x.under k = true) :
  ∃ h'',BI h''.length (D4 n hc ++ ext) h'' /\ n <= h''.length /\ x.under h''.length = true /\ Q /\ J (List.map (fun p=>[YO p]) (Iq s).1).length h'':=by
 refine ⟨hc,?_,by omega,hx _,hQ,?_⟩
 ·rw [DD hlen]
  exact Cc ext hu
 ·rw [List.length_map]
  have:=List.drop_eq_nil_iff.1 hd;have he:(Iq s).1.length = m:=by omega
  rw [he];exact hJm
section
attribute [local go_sem] List.append_assoc De N4 PH N8 P8 List.length_append Lz ntmps281
theorem acx (s:List UInt8) (hs:(s.length:Int) <= 20000):ag3 prog 281 [.cptr [.val (.string (Ak s))]] ((Iq s).1.map fun p=>[YO p]) (ai7 (Iq s).2):=by
 intro l J hc0 hJ hl hy h0;generalize hn:hc0.length = n at hl;obtain ⟨_,hu0⟩:=hJ 0 hc0 h0;have r0:(⟨0,1,1,0⟩:Cb).ok s:=⟨Nat.zero_le _,Nat.le_refl _,Nat.le_refl _,by omega⟩
 have hpc:Iq s = BG s 6001 0 ⟨0,1,1,0⟩:=if_pos (decide_eq_true hs);have hp0:=DD hn;rw [<- hp0];refine Ag.less ?_;refine Ag.intro func281 (by decide) rfl (Bj ?_);refine Aa.Ad (Z0 ?_);refine Bc.go (Ie _ _ _ _) (fun g1=>?_) (fun g1=>?_);have d1:=An g1;refine Z1 g1 ?_;refine Aa.Ad (Z1 g1 ?_);refine Aa.Ad (Z1 g1 ?_);refine Af.eq (ah0) rfl (Z1 g1 ?_);refine Aa.Ad (Z1 g1 ?_);refine Aa.block ?_;refine Aa.A0 (fun x:Nat × Cb × List Ah=>[(5,.val (.int .i64 (x.1:Nat)))]) [4,3,0,1] (fun x:Nat × Cb × List Ah=>D4 n x.2.2 ++ [.cells (C5 s x.2.1),.cells [.ptr n 0]]) (fun x:Nat × Cb × List Ah=>x.2.2.length = n /\ J x.1 x.2.2 /\ x.2.1.ok s /\ x.1 <= 6000 /\ x.1 <= (Iq s).1.length /\ (Iq s).1.drop x.1 = (BG s (6001 - x.1) x.1 x.2.1).1 /\ (Iq s).2 = (BG s (6001 - x.1) x.1 x.2.1).2) (fun x:Nat × Cb × List Ah=>6001 - x.1) ((0,⟨0,1,1,0⟩,hc0)) ?_ rfl ?_ ?_;refine Z1 g1 ?_;rotate_left;refine ⟨rfl,?_,?_,rfl,?_⟩;refine Mr g1 ?_;constructor;exact decide_eq_true (by omega);exact decide_eq_true (by omega);refine Mr g1 ?_;rotate_left;exact Mr g1 trivial;rintro ⟨m,r,hc⟩ hx;obtain ⟨hlen,hJm,hr,hm,hml,hd,hf⟩:=hx;simp only at hlen hJm hr hm hml hd hf;obtain ⟨hp,hpp⟩:=XW hr;have hu:Aw (D4 n hc):=by rw [DD hlen]; exact (hJ m hc hJm).2
 refine Z1 g1 ?_;refine Aa.seq (Aa.block ?_);refine Aa.Ad (Z1 g1 ?_);refine Bc.go (rdI (ajF s r hr) _ (De n hc) hu rfl rfl) (fun g3=>?_) (fun g3=>?_);refine Z2 g1 g3 ?_;refine Aa.seq ?_;refine Aa.BQ [(0,.read),(1,.free),(2,.free),(3,.free),(4,.read),(5,.read),(6,.read),(7,.free)] mixed (by kernel_rfl) (Z2 g1 g3 ?_);refine Ao (Ao ?_);refine And.intro (by trivial) ?_;refine Aa.cond rfl (fun g4=>?_) (fun g4=>?_);have d4:=AB g4;refine Aa.ret (Z3 g1 g3 g4 ?_);rotate_left;have d4:=Aq g4;refine Aa.skip (Z3 g1 g3 g4 ?_);refine Aa.Ad (Z3 g1 g3 g4 ?_);refine Ag.eq (agR s (AQ s r).2 hp _ (De n hc) hu) (Z3 g1 g3 g4 ?_);refine Aa.Ad (Z3 g1 g3 g4 ?_);refine Ao (Ao ?_);refine Bc.go (Ie _ _ _ _) (fun g6=>?_) (fun g6=>?_);have d6:=An g6;refine Z4 g1 g3 g4 g6 ?_;refine Aa.Ad (Z4 g1 g3 g4 g6 ?_);refine Ao ?_;refine And.intro (by trivial) ?_;refine And.intro (by trivial) ?_;obtain ⟨hc6,e10⟩:=Ug (of_decide_eq_true g6);have hlt:(AQ s r).2.pos < s.length:=by have h8:=hp.1; have h9:=Aq g4; omega
 have hT:=rdI (ahY s (AQ s r).2 hp hlt _ hc6) [.cells [.ptr n 0],.cells [.val (.int .i64 ((AQ s r).2.pos:Nat)),.val (.int .i64 ((AQ s r).2.line:Nat)),.val (.int .i64 ((AQ s r).2.col:Nat))]] (De n hc) hu rfl rfl;simp only [e10];refine Aa.agf [(0,.free),(1,.free),(2,.read),(3,.free),(4,.read),(5,.read)] 6 [(7,.free),(8,.free),(9,.free),(10,.free),(11,.free)] mixed (by kernel_rfl) (Z4 g1 g3 g4 g6 ?_);refine Ao (Ao ?_);simp -implicitDefEqProofs (dsimp:=false) (disch:=omega) only [i64_in,gd,i64_in,Iv];refine Z4 g1 g3 g4 g6 ?_;refine Ao ?_;refine Bc.go (hT) (fun g7=>?_) (fun g7=>?_);refine Z5 g1 g3 g4 g6 g7 ?_;refine Aa.Ad (Z5 g1 g3 g4 g6 g7 ?_);refine Ao ?_;refine Bc.go (Ie _ _ _ _) (fun g8=>?_) (fun g8=>?_);have d8:=An g8;refine Z6 g1 g3 g4 g6 g7 g8 ?_;have hz:=VQ hm g3 g4 g6 g7 g8;have hd2:=hd.trans (congrArg Prod.fst hz);have hf2:=hf.trans (congrArg Prod.snd hz);have hI:((Iq s).1.map fun p=>[YO p])[m]? = some [YO (afw s r)]:=by rw [List.getElem?_map,Zz hd2]; rfl
 refine Aa.agf [(0,.free),(1,.free),(2,.free),(3,.free),(5,.free),(8,.free),(4,.read),(6,.read),(7,.free),(9,.read),(10,.read),(11,.free),(12,.free),(13,.free),(14,.read),(15,.free)] 16 [(17,.free)] mixed (by kernel_rfl) (Z6 g1 g3 g4 g6 g7 g8 ?_);refine Ao (Ao (Ao (Ao (Ao ?_))));refine Bl.mono (Zu _ hlen (hJ m hc hJm).2 rfl (fun r h' hh=>((hJ _ _ hh.2).1).trans hn) (hy m hc _ hJm hI)) ?_;rintro r2 h2 ⟨hc2,⟨rfl,hJ2⟩,hlen2,rfl⟩;refine Z6 g1 g3 g4 g6 g7 g8 ?_;refine Aa.Ax rfl ?_;refine Aa.skip (Z6 g1 g3 g4 g6 g7 g8 ?_);refine Aa.region (Z6 g1 g3 g4 g6 g7 g8 ?_);simp -implicitDefEqProofs (dsimp:=false) (disch:=omega) only [i64_in,gd,i64_in,Iv];refine ⟨(m + 1,(Dz s (AQ s r).2).rd,hc2),?_⟩;constructor;constructor
 assumption
 constructor
 assumption
 constructor;simp -implicitDefEqProofs (dsimp:=false) only [go_sem,simprocAttr,g1,g3,g4,g6,g7,g8,Nat.le_refl,List.length_cons,List.length_nil];rotate_left;constructor;omega;constructor;simp -implicitDefEqProofs (dsimp:=false) only [go_sem,simprocAttr,g1,g3,g4,g6,g7,g8,Nat.le_refl,List.length_cons,List.length_nil];rotate_left;constructor;simp -implicitDefEqProofs (dsimp:=false) only [go_sem,simprocAttr,g1,g3,g4,g6,g7,g8,Nat.le_refl,List.length_cons,List.length_nil];rotate_left;simp -implicitDefEqProofs (dsimp:=false) only [go_sem,simprocAttr,g1,g3,g4,g6,g7,g8,Nat.le_refl,List.length_cons,List.length_nil]
 assumption
 constructor;omega;constructor;omega;refine ⟨rfl,?_,?_,rfl,?_⟩;refine JB g1 g3 g4 g6 g7 g8 ?_;constructor;exact decide_eq_true (by omega);exact decide_eq_true (by omega);refine JB g1 g3 g4 g6 g7 g8 ?_;rotate_left;exact JB g1 g3 g4 g6 g7 g8 trivial;have d8:=Aj g8;refine Z6 g1 g3 g4 g6 g7 g8 ?_;rotate_left;refine Z5 g1 g3 g4 g6 g7 ?_;rotate_left;have d6:=Aj g6;refine Z4 g1 g3 g4 g6 ?_;rotate_left;refine Z2 g1 g3 ?_;rotate_left;have d1:=Aj g1
 (exfalso; omega)
 ·refine ⟨hn,h0,r0,?_⟩
  rw [hpc];simp
 ·exact Fu (Nq (s:=s) (q:=⟨0,1,1,0⟩) hn hu0)
 ·have hz:=Sl hm g3 g4
  refine L3 _ ?_ hlen (hJ m hc hJm).2 hJm hml (hd.trans (congrArg Prod.fst hz)) (fun _=>rfl);rw [hf.trans (congrArg Prod.snd hz)];exact ⟨_,rfl⟩
 ·exact WK hp hlt hc6
 ·have:=congrArg List.length hd2
  rw [List.length_drop,List.length_cons] at this;omega
 ·have:(Iq s).1.drop (m + 1) = ((Iq s).1.drop m).drop 1:=by rw [List.drop_drop]
  rw [this,hd2];rfl
 ·exact Wv (s:=s) (q:=(Dz s (AQ s r).2).rd) hlen2 (hJ _ hc2 hJ2).2
 ·have hz:=Ql hm g3 g4 g6 g7 g8
  refine L3 _ ?_ hlen (hJ m hc hJm).2 hJm hml (hd.trans (congrArg Prod.fst hz)) (fun _=>rfl);rw [hf.trans (congrArg Prod.snd hz)];exact (rfl:AE.panic _ = AE.panic _)
 ·have hz:=R7 hm g3 g4 g6 g7
  refine L3 _ ?_ hlen (hJ m hc hJm).2 hJm hml (hd.trans (congrArg Prod.fst hz)) (fun _=>rfl);rw [hf.trans (congrArg Prod.snd hz)];exact (rfl:AE.panic _ = AE.panic _)
 ·have hz:=Rh hm g3 g4 g6
  refine L3 _ ?_ hlen (hJ m hc hJm).2 hJm hml (hd.trans (congrArg Prod.fst hz)) (fun _=>rfl);rw [hf.trans (congrArg Prod.snd hz)];exact (rfl:AE.panic _ = AE.panic _)
 ·have hz:=Qe hm g3
  refine L3 _ ?_ hlen (hJ m hc hJm).2 hJm hml (hd.trans (congrArg Prod.fst hz)) (fun _=>rfl);rw [hf.trans (congrArg Prod.snd hz)];exact (rfl:AE.panic _ = AE.panic _)
end
end Go.Proofs.Tryz

namespace Go.Proofs.Tryz
open Go.PM
attribute [local irreducible] BM BP Bq Ci AU AO Az
section
attribute [local go_sem] ntmps256
theorem aiB (s:List UInt8):Af prog 256 [.val (.string (Ak s))] (· = .fn 281 [.cptr [.val (.string (Ak s))]]):=by
 refine Ag.intro func256 (by decide) rfl (Bj ?_);refine Aa.Ad (Z0 ?_);refine Aa.freeze 1 (Z0 ?_);refine Aa.Ad (Z0 ?_);refine Aa.ret (Z0 ?_);exact Ae rfl (Z0 trivial)
end
def Zl (s:List UInt8):List Pc:=match (Iq s).2 with
 | none=>(Iq s).1
 | some _=>[]
def ZJ (s:List UInt8):Int:=match (Iq s).2 with
 | none=>0
 | some x=>x.1
def adL (s:List UInt8):Int:=match (Iq s).2 with
 | none=>0
 | some x=>x.2
section
attribute [local go_sem] F1 underlying20 ntmps255
theorem agE (h:List Ah) (K:Option AV -> List Ah -> Prop) (hk:K none h) (a b c:Nat):Kt prog 255 [.ptr a 0,.ptr b 0,.ptr c 0] none h K:=by
 refine Kt.recover func255 (by decide) rfl rfl (D5 hk ?_);refine Aa.block ?_;refine Aa.Ad (Z1 hk ?_);refine Aa.Ar rfl ?_;exact Aa.region (Z1 hk trivial)
end
end Go.Proofs.Tryz

namespace Go.Proofs.Tryz
open Go.PM
attribute [local irreducible] BM BP Bq Ci AU AO Az
section
attribute [local go_sem] F1 underlying20 GH ntmps255
theorem aeR (x y z:AV) (B3 B4 B5:Ah) (e at':Int) (K:Option AV -> List Ah -> Prop) (hk:K none [.cells [.sl true []],.cells [.val (.int .i64 e)],.cells [.val (.int .i64 at')],B3,B4,B5,.cells [.val (.int .i64 e),.val (.int .i64 at')]]):Kt prog 255 [.ptr 0 0,.ptr 1 0,.ptr 2 0] (some (GH e at')) [.cells [x],.cells [y],.cells [z],B3,B4,B5] K:=by
 refine Kt.recover func255 (by decide) rfl rfl (D5 hk ?_);refine Aa.block ?_;refine Aa.Ad (Z1 hk ?_);refine Aa.Ax rfl ?_;refine Aa.Qa (Z1 hk ?_);refine Aa.Ar rfl ?_;refine Aa.Ad (Z1 hk ?_);refine Aa.BS [(0,.free),(2,.free),(1,.look [0,1,2]),(3,.look [0,1,2]),(4,.wr 0),(5,.wr 1),(6,.wr 2)] mixed (by kernel_rfl) (Z1 hk ?_);refine Ao (Ao ?_);refine And.intro (by trivial) ?_;trivial
end
theorem Mo (s:List UInt8):∀ (k m:Nat) (r:Cb),(BG s k m r).1.length <= k:=by
 intro k
 induction k with
 | zero=>intro m r; simp [BG]
 | succ k ih =>
  intro m r;simp only [BG]
  repeat' split
  all_goals try (simp; done)
  simp only [List.length_cons];have:=ih (m + 1) (Dz s (AQ s r).2).rd;omega
theorem SK (s:List UInt8):(Iq s).1.length <= 6001:=by
 unfold Iq
 split
 ·exact Mo s _ _ _
 ·simp
section
attribute [local go_sem] YO ntmps222
theorem c222 (s:List UInt8) (hs:(s.length:Int) <= 20000):Af prog 222 [.val (.string (Ak s))] (· = .tup [.sl false ((Zl s).map YO),.val (.int .i64 (ZJ s)),.val (.int .i64 (adL s))]):=by
 refine Ag.I7 ?_;refine Ag.res ?_;refine Ag.intro func222 (by decide) rfl (Bj ?_);refine Aa.Ad (Z0 ?_);refine Aa.Qa (Z0 ?_);refine Aa.seq ?_;refine Aa.Da 0 0 6 rfl rfl (Z0 ?_);refine Aa.Ad (Z0 ?_);refine Af.eq (aiB _) rfl (Z0 ?_);refine Aa.block ?_;rotate_left
 ·refine Aa.adY rfl (acx s hs) (fun k=>[.cells [.hsl 3 k 0 k],.cells [.val (.int .i64 0)],.cells [.val (.int .i64 0)],.row true k 6 (((Iq s).1.take k).map YO)]) rfl (fun _=>rfl) (fun k x hx=>?_) rfl (fun args ha=>?_) (fun k args fn hk=>?_) (fun hf fn=>?_) (fun x hf fn=>?_)
  ·simp at hx
   rcases hx with rfl | rfl | rfl | rfl <;> rfl
  ·obtain ⟨p,_,rfl⟩:=List.mem_map.1 ha
   rfl
  ·rw [List.getElem?_map,Option.map_eq_some_iff] at hk
   obtain ⟨p,hk,rfl⟩:=hk;have hlt:k < (Iq s).1.length:=(List.getElem?_eq_some_iff.1 hk).1;have hkl:(((Iq s).1.take k).map YO).length = k:=by simp; omega
   have hle:=SK s;have hts:(Iq s).1.take (k + 1) = (Iq s).1.take k ++ [p]:=by rw [List.take_add_one,hk]; rfl
   refine Aa.region (Z0 ?_);refine ⟨_,rfl,?_⟩;refine Aa.block ?_;refine Aa.region (Z0 ?_);refine And.intro (by trivial) ?_;constructor;rotate_left;refine Ao (Ao ?_);rotate_left
   ·intro c hc
    simp only [List.mem_singleton] at hc;subst hc;rfl
   ·rw [hts,List.map_append,hkl]
    exact ⟨_,rfl⟩
  ·have hk0:(Iq s).1.take ((Iq s).1.map fun p=>[YO p]).length = (Iq s).1:=by simp
   have hn:(Iq s).2 = none:=by
    cases hp:(Iq s).2 with
    | none=>rfl
    | some x=>rw [hp] at hf; cases hf
   refine Z1 hk0 ?_;refine Aa.Ad (Z1 hk0 ?_);refine Aa.ret (Z1 hk0 ?_);refine agE _ _ ?_ _ _ _;refine Z1 hk0 ?_;constructor;rotate_left;refine Ae rfl ?_;rotate_left
   ·simp
   ·rw [List.take_of_length_le (by simp),IW YO (fun _=>rfl)]
    simp [Zl,ZJ,adL,hn]
  ·rcases hp:(Iq s).2 with _ | ⟨e,a⟩
   ·rw [hp] at hf; cases hf
   ·rw [hp] at hf
    cases hf;refine Z0 ?_;refine aeR _ _ _ _ _ _ e a _ (Z0 ?_);refine Ae rfl ?_;rotate_left
    all_goals simp [Zl,ZJ,adL,hp]
end
end Go.Proofs.Tryz

namespace Go.Proofs.Tryz
open Go.PM
def Tu:List UInt8:=[115,101,108,102]
def KO:List UInt8:=[114,101,115,101,110,100]
def tkv (k:Int) (s:List UInt8):AV:=.agg [.val (.int .i64 k),.val (.string (Ak s)),.val (.int .i64 0),.val (.int .i64 0)]
def MX (k:Int) (s:List UInt8):Bool:=(k == 1 && !(s == Tu)) && !(s == KO)
def PQ (k:Int) (s:List UInt8):Bool:=(k == 7 && !(s == [61])) && !(s == [60,45])
section
attribute [local go_sem] tkv ntmps221
theorem ahZ (k:Int) (s:List UInt8):Af prog 221 [tkv k s] (· = .val (.bool (MX k s))):=by
 refine Ag.intro func221 (by decide) rfl (Bj ?_);refine Aa.Ad (Z0 ?_);refine Aa.Ad (Z0 ?_);refine Ao ?_;refine Ap (fun g1=>?_) (fun g1=>?_);have d1:=AB g1;refine Z1 g1 ?_;refine Ao ?_;refine Ap (fun g2=>?_) (fun g2=>?_);refine Z2 g1 g2 ?_;refine Ao ?_;refine Aa.ret (Z2 g1 g2 ?_);refine Ae rfl ?_;simp only [MX,Tu,KO,Bool.true_and,Bool.false_and,Bool.and_true,Bool.and_false,g1,g2,bo,↓reduceIte];refine Z2 g1 g2 ?_;refine Aa.ret (Z2 g1 g2 ?_);refine Ae rfl ?_;simp only [MX,Tu,KO,Bool.true_and,Bool.false_and,Bool.and_true,Bool.and_false,g1,g2,bo,↓reduceIte];have d1:=Aq g1;refine Z1 g1 ?_;refine Aa.ret (Z1 g1 ?_);refine Ae rfl ?_;simp only [MX,Tu,KO,Bool.true_and,Bool.false_and,Bool.and_true,Bool.and_false,g1,bo,↓reduceIte]
end
section
attribute [local go_sem] tkv ntmps177
theorem ahC (k:Int) (s:List UInt8):Af prog 177 [tkv k s] (· = .val (.bool (PQ k s))):=by
 refine Ag.intro func177 (by decide) rfl (Bj ?_);refine Aa.Ad (Z0 ?_);refine Aa.Ad (Z0 ?_);refine Ao ?_;refine Ap (fun g1=>?_) (fun g1=>?_);have d1:=AB g1;refine Z1 g1 ?_;refine Ao ?_;refine Ap (fun g2=>?_) (fun g2=>?_);refine Z2 g1 g2 ?_;refine Ao ?_;refine Aa.ret (Z2 g1 g2 ?_);refine Ae rfl ?_;simp only [PQ,Bool.true_and,Bool.false_and,Bool.and_true,Bool.and_false,g1,g2,bo,↓reduceIte];refine Z2 g1 g2 ?_;refine Aa.ret (Z2 g1 g2 ?_);refine Ae rfl ?_;simp only [PQ,Bool.true_and,Bool.false_and,Bool.and_true,Bool.and_false,g1,g2,bo,↓reduceIte];have d1:=Aq g1;refine Z1 g1 ?_;refine Aa.ret (Z1 g1 ?_);refine Ae rfl ?_;simp only [PQ,Bool.true_and,Bool.false_and,Bool.and_true,Bool.and_false,g1,bo,↓reduceIte]
end
end Go.Proofs.Tryz

namespace Go.Proofs.Tryz
open Go.PM
attribute [local irreducible] BM BP Bq Ci AU AO Az
def HT (s:List UInt8):Int:=match Zl s with
 | [p]=>if (ZJ s == 0 && ((p.frm:Int) == 0 && (p.to':Int) == s.length)) = true then p.kind else 0
 | _=>0
section
attribute [local go_sem] ntmps178 YO
theorem Y8 (s:List UInt8) (hs:(s.length:Int) <= 20000):Af prog 178 [.val (.string (Ak s))] (· = .val (.int .i64 (HT s))):=by
 have h0:=c222 s hs;unfold HT
 rcases hd:Zl s with _ | ⟨p,_ | ⟨q,r⟩⟩ <;> rw [hd] at h0
 ·refine Ag.intro func178 (by decide) rfl (Bj ?_)
  refine Aa.Ad (Z0 ?_);refine Aa.Ad (Z0 ?_);refine Af.eq (h0) rfl (Z0 ?_);refine Aa.seq ?_;refine Aa.Ad (Z0 ?_);refine Ap (fun g2=>?_) (fun g2=>?_);have d2:=BT g2;refine Z1 g2 ?_;refine Aa.Ar rfl ?_;refine Aa.Ad (Z1 g2 ?_);refine Aa.ret (Z1 g2 ?_);exact Ae rfl (Z1 g2 trivial);have d2:=Bt g2;refine Z1 g2 ?_;refine Aa.Ar rfl ?_;refine Aa.Ad (Z1 g2 ?_);refine Aa.ret (Z1 g2 ?_);exact Ae rfl (Z1 g2 trivial)
 ·refine Ag.intro func178 (by decide) rfl (Bj ?_)
  refine Aa.Ad (Z0 ?_);refine Aa.Ad (Z0 ?_);refine Af.eq (h0) rfl (Z0 ?_);refine Aa.seq ?_;refine Aa.Ad (Z0 ?_);refine Ap (fun g2=>?_) (fun g2=>?_);have d2:=BT g2;refine Z1 g2 ?_;refine Aa.Ar rfl ?_;refine Aa.Ad (Z1 g2 ?_);refine Aa.ret (Z1 g2 ?_);refine Ae rfl ?_;rotate_left;have d2:=Bt g2;refine Z1 g2 ?_;refine Ao ?_;refine Ap (fun g3=>?_) (fun g3=>?_);have d3:=BT g3;refine Z2 g2 g3 ?_;refine Aa.Ar rfl ?_;refine Aa.Ad (Z2 g2 g3 ?_);refine Aa.ret (Z2 g2 g3 ?_);refine Ae rfl ?_;rotate_left;have d3:=Bt g3;refine Z2 g2 g3 ?_;refine Ao ?_;refine Aa.cond rfl (fun g4=>?_) (fun g4=>?_);have d4:=BT g4;refine Aa.Ad (Z3 g2 g3 g4 ?_);refine Aa.ret (Z3 g2 g3 g4 ?_);refine Ae rfl ?_;rotate_left;have d4:=Bt g4;refine Aa.skip (Z3 g2 g3 g4 ?_);refine Aa.Ad (Z3 g2 g3 g4 ?_);refine Ao (Ao ?_);refine Aa.ret (Z3 g2 g3 g4 ?_);refine Ae rfl ?_;rotate_left
  all_goals simp_all [bne]
 ·refine Ag.intro func178 (by decide) rfl (Bj ?_)
  refine Aa.Ad (Z0 ?_);refine Aa.Ad (Z0 ?_);refine Af.eq (h0) rfl (Z0 ?_);refine Aa.seq ?_;refine Aa.Ad (Z0 ?_);refine Ap (fun g2=>?_) (fun g2=>?_);have d2:=BT g2;refine Z1 g2 ?_;refine Aa.Ar rfl ?_;refine Aa.Ad (Z1 g2 ?_);refine Aa.ret (Z1 g2 ?_);exact Ae rfl (Z1 g2 trivial);have d2:=Bt g2;refine Z1 g2 ?_;refine Ap (fun g3=>?_) (fun g3=>?_);have d3:=BT g3;refine Z2 g2 g3 ?_;refine Aa.Ar rfl ?_;refine Aa.Ad (Z2 g2 g3 ?_);refine Aa.ret (Z2 g2 g3 ?_);exact Ae rfl (Z2 g2 g3 trivial);have d3:=Bt g3
  (exfalso; omega)
end
section
attribute [local go_sem] ntmps176
theorem ahB (s:List UInt8) (hs:(s.length:Int) <= 20000):Af prog 176 [.val (.string (Ak s))] (· = .val (.bool (MX (HT s) s))):=by
 refine Ag.intro func176 (by decide) rfl (Bj ?_);refine Aa.Ad (Z0 ?_);refine Aa.Ad (Z0 ?_);refine Af.eq (Y8 s hs) rfl (Z0 ?_);refine Af.eq (ahZ (HT s) s) rfl (Z0 ?_);refine Aa.ret (Z0 ?_);exact Ae rfl (Z0 trivial)
end
def Qf (s:List UInt8):List (List UInt8):=(Dr s 58).take ((Dr s 58).length - 1)
def Wb (s:List UInt8):Bool:=(Dr s 58).getD ((Dr s 58).length - 1) [] == []
section
attribute [local go_sem] ntmps223
theorem aiX (s:List UInt8) (hs:(s.length:Int) <= 20000):Af prog 223 [.val (.string (Ak s))] (· = .tup [.sl false (strs (Qf s)),.val (.bool (Wb s))]):=by
 have h0:=ah1 s 58 (by omega);have hp:=RI s 58;have hq:=HJ s 58;refine Ag.intro func223 (by decide) rfl (Bj ?_);refine Aa.Ad (Z0 ?_);refine Aa.Ad (Z0 ?_);refine Af.eq (h0) rfl (Z0 ?_);refine Aa.Ad (Z0 ?_);refine Aa.BQ [(0,.free),(1,.free),(3,.free),(4,.free),(2,.read),(8,.free),(5,.read),(6,.read),(7,.free),(9,.free)] mixed (by kernel_rfl) (Z0 ?_);refine And.intro (by trivial) ?_;refine And.intro (by exact Qg _) ?_;simp -implicitDefEqProofs (dsimp:=false) (disch:=omega) only [i64_in,gd];refine Z0 ?_;refine Ao (Ao (Ao (Ao ?_)));refine Aa.ret (Z0 ?_);refine Ae rfl ?_;rotate_left;have ht:((Dr s 58).length - 1:Int).toNat = (Dr s 58).length - 1:=by omega
 rw [ht];simp [Qf,Wb,strs,List.map_take]
end
def Ou:List UInt8:=[73,102,70,97,105,108,58]
def U5 (s:List UInt8):Bool:=!(HT s == 3) || s == Ou
section
attribute [local go_sem] ntmps224
theorem ajv (s:List UInt8) (hs:(s.length:Int) <= 20000):Af prog 224 [.val (.string (Ak s))] (· = .val (.bool (U5 s))):=by
 refine Ag.intro func224 (by decide) rfl (Bj ?_);refine Aa.Ad (Z0 ?_);refine Aa.Ad (Z0 ?_);refine Af.eq (Y8 s hs) rfl (Z0 ?_);refine Ap (fun g2=>?_) (fun g2=>?_);have d2:=BT g2;refine Z1 g2 ?_;refine Aa.ret (Z1 g2 ?_);refine Ae rfl ?_;simp [U5,Ou,Bool.true_or,Bool.false_or, *];have d2:=Bt g2;refine Z1 g2 ?_;refine Aa.ret (Z1 g2 ?_);refine Ae rfl ?_;simp [U5,Ou,Bool.true_or,Bool.false_or, *]
end
theorem abj {s x:List UInt8} (h:x ∈ Qf s):x.length <= s.length:=Up (List.mem_of_mem_take h)
theorem O3 (s:List UInt8):(Qf s).length <= s.length:=by
 have:=HJ s 58;unfold Qf;rw [List.length_take];omega
def JX (s:List UInt8) (k:Int):Int :=
 if Wb s = true then match Qf s with
  | []=>0
  | x :: l=>if (decide (((x :: l).length:Int) <= 8) && HT x == k) = true then (if l.any U5 = true then 0 else ((x :: l).length:Nat)) else 0
 else 0
theorem Uo (x:List UInt8) (l:List (List UInt8)):strs (x :: l) = .val (.string (Ak x)) :: strs l:=rfl
theorem WC (l:List (List UInt8)):(strs l).take l.length = strs l:=List.take_of_length_le (by simp [strs])
section
attribute [local go_sem] Ce Uo WC ntmps179
theorem acA (s:List UInt8) (k:Int) (hs:(s.length:Int) <= 20000):Af prog 179 [.val (.string (Ak s)),.val (.int .i64 k)] (· = .val (.int .i64 (JX s k))):=by
 have h0:=aiX s hs;have hlen:=O3 s;have hle:∀ x ∈ Qf s,x.length <= s.length:=fun x hx=>abj hx;unfold JX
 rcases hd:Qf s with _ | ⟨x,l⟩ <;> rw [hd] at h0
 ·refine Ag.intro func179 (by decide) rfl (Bj ?_)
  refine Aa.Ad (Z0 ?_);refine Aa.Ad (Z0 ?_);refine Af.eq (h0) rfl (Z0 ?_);refine Aa.seq ?_;refine Aa.Ad (Z0 ?_);refine Ap (fun g2=>?_) (fun g2=>?_);refine Z1 g2 ?_;refine Aa.Ar rfl ?_;refine Aa.Ad (Z1 g2 ?_);refine Aa.ret (Z1 g2 ?_);refine Ae rfl ?_;rotate_left;refine Z1 g2 ?_;refine Aa.Ar rfl ?_;refine Aa.Ad (Z1 g2 ?_);refine Aa.ret (Z1 g2 ?_);refine Ae rfl ?_;rotate_left
  all_goals simp
 ·have hx:=hle x (by rw [hd]; exact List.mem_cons_self)
  have hm:∀ o ∈ l,Af prog 224 [.val (.string (Ak o))] (· = .val (.bool (U5 o))):=fun o ho=>ajv o (by have:=hle o (by rw [hd]; exact List.mem_cons_of_mem _ ho); omega);rw [hd] at hlen;refine Ag.intro func179 (by decide) rfl (Bj ?_);refine Aa.Ad (Z0 ?_);refine Aa.Ad (Z0 ?_);refine Af.eq (h0) rfl (Z0 ?_);refine Aa.seq ?_;refine Aa.Ad (Z0 ?_);refine Ap (fun g2=>?_) (fun g2=>?_);refine Z1 g2 ?_;refine Aa.Ar rfl ?_;refine Aa.Ad (Z1 g2 ?_);refine Aa.ret (Z1 g2 ?_);refine Ae rfl ?_;rotate_left;refine Z1 g2 ?_;refine Ap (fun g3=>?_) (fun g3=>?_);have d3:=AB g3
  (exfalso; omega)
  have d3:=Aq g3;refine Z2 g2 g3 ?_;refine Ap (fun g4=>?_) (fun g4=>?_);have d4:=An g4;refine Z3 g2 g3 g4 ?_;refine Aa.Ar rfl ?_;refine Aa.Ad (Z3 g2 g3 g4 ?_);refine Aa.ret (Z3 g2 g3 g4 ?_);refine Ae rfl ?_;rotate_left;have d4:=Aj g4;refine Z3 g2 g3 g4 ?_;refine Ao ?_;refine Af.eq (Y8 x (by omega)) rfl (Z3 g2 g3 g4 ?_);refine Aa.cond rfl (fun g6=>?_) (fun g6=>?_);have d6:=BT g6;refine Aa.Ad (Z4 g2 g3 g4 g6 ?_);refine Aa.ret (Z4 g2 g3 g4 g6 ?_);refine Ae rfl ?_;rotate_left;have d6:=Bt g6;refine Aa.skip (Z4 g2 g3 g4 g6 ?_);refine Aa.seq ?_;refine Aa.Ad (Z4 g2 g3 g4 g6 ?_);constructor;rotate_left;refine Ao (Ao ?_);refine Af.eq (c157 l 224 [] rfl U5 hm (by simp at hlen; omega)) rfl (Z4 g2 g3 g4 g6 ?_);refine Aa.cond rfl (fun g8=>?_) (fun g8=>?_);refine Aa.Ad (Z5 g2 g3 g4 g6 g8 ?_);refine Aa.ret (Z5 g2 g3 g4 g6 g8 ?_);refine Ae rfl ?_;rotate_left;refine Aa.skip (Z5 g2 g3 g4 g6 g8 ?_);refine Aa.Ad (Z5 g2 g3 g4 g6 g8 ?_);refine Aa.ret (Z5 g2 g3 g4 g6 g8 ?_);refine Ae rfl ?_;rotate_left
  all_goals try exact Qg (x :: l)
  all_goals simp_all [bne]
  all_goals omega
end
def LC (s:List UInt8):Int :=
 if decide ((s.length:Int) > 80) = true then -1 else if MX (HT s) s = true then 0 else if PQ (HT s) s = true then 1 else if decide (JX s 2 > 0) = true then JX s 2 else -1
section
attribute [local go_sem] ntmps140
theorem aip (s:List UInt8):Af prog 140 [.val (.string (Ak s))] (· = .val (.int .i64 (LC s))):=by
 unfold LC;refine Ag.intro func140 (by decide) rfl (Bj ?_);refine Aa.Ad (Z0 ?_);refine Aa.seq (Aa.block ?_);refine Aa.Ad (Z0 ?_);refine Aa.cond rfl (fun g1=>?_) (fun g1=>?_);have d1:=An g1;refine Aa.Ad (Z1 g1 ?_);refine Aa.ret (Z1 g1 ?_);exact Ae rfl (Z1 g1 trivial);have d1:=Aj g1;refine Aa.Ad (Z1 g1 ?_);refine Af.eq (ahB _ ?_) rfl ?_;omega;refine Z1 g1 ?_;refine Aa.cond rfl (fun g3=>?_) (fun g3=>?_);refine Aa.Ad (Z2 g1 g3 ?_);refine Aa.ret (Z2 g1 g3 ?_);exact Ae rfl (Z2 g1 g3 trivial);refine Aa.Ad (Z2 g1 g3 ?_);refine Af.eq (Y8 _ ?_) rfl ?_;omega;refine Z2 g1 g3 ?_;refine Af.eq (ahC (HT s) s) rfl (Z2 g1 g3 ?_);refine Aa.cond rfl (fun g6=>?_) (fun g6=>?_);refine Aa.Ad (Z3 g1 g3 g6 ?_);refine Aa.ret (Z3 g1 g3 g6 ?_);exact Ae rfl (Z3 g1 g3 g6 trivial);refine Aa.skip (Z3 g1 g3 g6 ?_);refine Aa.seq ?_;refine Aa.Ad (Z3 g1 g3 g6 ?_);refine Af.eq (acA _ _ ?_) rfl ?_;omega;refine Z3 g1 g3 g6 ?_;refine Aa.Ad (Z3 g1 g3 g6 ?_);refine Aa.cond rfl (fun g8=>?_) (fun g8=>?_);have d8:=An g8;refine Aa.Ad (Z4 g1 g3 g6 g8 ?_);refine Aa.ret (Z4 g1 g3 g6 g8 ?_);exact Ae rfl (Z4 g1 g3 g6 g8 trivial);have d8:=Aj g8;refine Aa.skip (Z4 g1 g3 g6 g8 ?_);refine Aa.Ad (Z4 g1 g3 g6 g8 ?_);refine Aa.ret (Z4 g1 g3 g6 g8 ?_);exact Ae rfl (Z4 g1 g3 g6 g8 trivial)
end
def NR (s:List UInt8):Int :=
 if decide ((s.length:Int) > 80) = true then -1 else if (HT s == 4 && !Dh s [58]) = true then 0 else if decide (JX s 4 > 0) = true then JX s 4 else -1
section
attribute [local go_sem] ntmps141
theorem c141 (s:List UInt8):Af prog 141 [.val (.string (Ak s))] (· = .val (.int .i64 (NR s))):=by
 unfold NR;refine Ag.intro func141 (by decide) rfl (Bj ?_);refine Aa.Ad (Z0 ?_);refine Aa.seq ?_;refine Aa.Ad (Z0 ?_);refine Aa.cond rfl (fun g1=>?_) (fun g1=>?_);have d1:=An g1;refine Aa.Ad (Z1 g1 ?_);refine Aa.ret (Z1 g1 ?_);exact Ae rfl (Z1 g1 trivial);have d1:=Aj g1;refine Aa.skip (Z1 g1 ?_);refine Aa.seq ?_;refine Aa.Ad (Z1 g1 ?_);refine Af.eq (Y8 _ ?_) rfl ?_;omega;refine Z1 g1 ?_;refine Ap (fun g3=>?_) (fun g3=>?_);have d3:=AB g3;refine Z2 g1 g3 ?_;refine Af.eq (ahX _ _ ?_ ?_) rfl ?_;omega;trivial;refine Z2 g1 g3 ?_;refine Aa.cond rfl (fun g5=>?_) (fun g5=>?_);refine Aa.Ad (Z3 g1 g3 g5 ?_);refine Aa.ret (Z3 g1 g3 g5 ?_);exact Ae rfl (Z3 g1 g3 g5 trivial);refine Aa.skip (Z3 g1 g3 g5 ?_);refine Aa.seq ?_;refine Aa.Ad (Z3 g1 g3 g5 ?_);refine Af.eq (acA _ _ ?_) rfl ?_;omega;refine Z3 g1 g3 g5 ?_;refine Aa.Ad (Z3 g1 g3 g5 ?_);refine Aa.cond rfl (fun g7=>?_) (fun g7=>?_);have d7:=An g7;refine Aa.Ad (Z4 g1 g3 g5 g7 ?_);refine Aa.ret (Z4 g1 g3 g5 g7 ?_);exact Ae rfl (Z4 g1 g3 g5 g7 trivial);have d7:=Aj g7;refine Aa.skip (Z4 g1 g3 g5 g7 ?_);refine Aa.Ad (Z4 g1 g3 g5 g7 ?_);refine Aa.ret (Z4 g1 g3 g5 g7 ?_);exact Ae rfl (Z4 g1 g3 g5 g7 trivial);have d3:=Aq g3;refine Z2 g1 g3 ?_;refine Aa.Ax rfl ?_;refine Aa.skip (Z2 g1 g3 ?_);refine Aa.seq ?_;refine Aa.Ad (Z2 g1 g3 ?_);refine Af.eq (acA _ _ ?_) rfl ?_;omega;refine Z2 g1 g3 ?_;refine Aa.Ad (Z2 g1 g3 ?_);refine Aa.cond rfl (fun g9=>?_) (fun g9=>?_);have d9:=An g9;refine Aa.Ad (Z3 g1 g3 g9 ?_);refine Aa.ret (Z3 g1 g3 g9 ?_)
 exact Ae rfl (Z3 g1 g3 g9 trivial);have d9:=Aj g9;refine Aa.skip (Z3 g1 g3 g9 ?_);refine Aa.Ad (Z3 g1 g3 g9 ?_);refine Aa.ret (Z3 g1 g3 g9 ?_);exact Ae rfl (Z3 g1 g3 g9 trivial)
end
def Li (s:List UInt8):Int:=if decide (LC s >= 0) = true then LC s else NR s
section
attribute [local go_sem] ntmps113
theorem afr (s:List UInt8):Af prog 113 [.val (.string (Ak s))] (· = .val (.int .i64 (Li s))):=by
 refine Ag.intro func113 (by decide) rfl (Bj ?_);refine Aa.Ad (Z0 ?_);refine Aa.seq ?_;refine Aa.Ad (Z0 ?_);refine Af.eq (aip _) rfl (Z0 ?_);refine Aa.Ad (Z0 ?_);refine Aa.cond rfl (fun g2=>?_) (fun g2=>?_);have d2:=An g2;refine Aa.Ad (Z1 g2 ?_);refine Aa.ret (Z1 g2 ?_);refine Ae rfl ?_;simp only [Li,g2,bo,↓reduceIte];have d2:=Aj g2;refine Aa.skip (Z1 g2 ?_);refine Aa.Ad (Z1 g2 ?_);refine Af.eq (c141 _) rfl (Z1 g2 ?_);refine Aa.ret (Z1 g2 ?_);refine Ae rfl ?_;simp only [Li,g2,bo,↓reduceIte]
end
def Bu (s:List UInt8):Int:=if JE s [95] = true then -1 else Li s
section
attribute [local go_sem] ntmps75
theorem c75 (s:List UInt8):Af prog 75 [.val (.string (Ak s))] (· = .val (.int .i64 (Bu s))):=by
 refine Ag.intro func75 (by decide) rfl (Bj ?_);refine Aa.Ad (Z0 ?_);refine Aa.seq ?_;refine Aa.Ad (Z0 ?_);refine Af.eq (agN s [95]) rfl (Z0 ?_);refine Aa.cond rfl (fun g2=>?_) (fun g2=>?_);refine Aa.Ad (Z1 g2 ?_);refine Aa.ret (Z1 g2 ?_);refine Ae rfl ?_;simp only [Bu,g2,bo,↓reduceIte];refine Aa.skip (Z1 g2 ?_);refine Aa.Ad (Z1 g2 ?_);refine Af.eq (afr _) rfl (Z1 g2 ?_);refine Aa.ret (Z1 g2 ?_);refine Ae rfl ?_;simp only [Bu,g2,bo,↓reduceIte]
end
def JL (s:List UInt8):Int:=if JE s [95] = true then Li s else -1
section
attribute [local go_sem] ntmps209
theorem aiS (s:List UInt8):Af prog 209 [.val (.string (Ak s))] (· = .val (.int .i64 (JL s))):=by
 refine Ag.intro func209 (by decide) rfl (Bj ?_);refine Aa.Ad (Z0 ?_);refine Aa.seq ?_;refine Aa.Ad (Z0 ?_);refine Af.eq (agN s [95]) rfl (Z0 ?_);refine Aa.cond rfl (fun g2=>?_) (fun g2=>?_);refine Aa.Ad (Z1 g2 ?_);refine Aa.ret (Z1 g2 ?_);refine Ae rfl ?_;rotate_left;refine Aa.skip (Z1 g2 ?_);refine Aa.Ad (Z1 g2 ?_);refine Af.eq (afr _) rfl (Z1 g2 ?_);refine Aa.ret (Z1 g2 ?_);refine Ae rfl ?_;rotate_left
 all_goals simp_all [JL]
end
section
attribute [local go_sem] ntmps158
theorem agU (s:List UInt8):Af prog 158 [.val (.string (Ak s))] (· = .val (.bool (Bu s != 0))):=by
 refine Ag.intro func158 (by decide) rfl (Bj ?_);refine Aa.Ad (Z0 ?_);refine Aa.Ad (Z0 ?_);refine Af.eq (c75 _) rfl (Z0 ?_);refine Aa.ret (Z0 ?_);exact Ae rfl (Z0 trivial)
end
end Go.Proofs.Tryz

namespace Go.Proofs.Tryz
open Go.PM
attribute [local irreducible] BM BP Bq Ci AU AO Az
def Cn (n:Int):Prop:=-9223372036854775808 <= n /\ n <= 9223372036854775807
structure P5 (x:Hm):Prop where
 op:Cn x.op
 a:Cn x.a
 b:Cn x.b
 c:Cn x.c
def Ke (c:Cd) (l:List Cd) (at':Int):List AV:=O0 c ++ [.sl false (LQ l),.val (.int .i64 at')]
section
attribute [local go_sem] Ke O0 Cx ntmps199
theorem ahI (c:Cd) (l:List Cd) (at':Int) (x:Hm):Af prog 199 [.cptr (Ke c l at'),Cx x] (· = .val (.bool (AH c.lits.length x.a && (x.b == 0 && x.c == 0)))):=by
 refine Ag.intro func199 (by decide) rfl (Bj ?_);refine Aa.Ad (Z0 ?_);refine Aa.BQ [(0,.free),(1,.free),(2,.free),(3,.free),(5,.free),(4,.read),(6,.read),(7,.free),(8,.free),(9,.free),(10,.read),(11,.free),(12,.free),(13,.free),(14,.free),(15,.read),(16,.free),(17,.free),(18,.free)] mixed (by kernel_rfl) (Z0 ?_);refine Ao (Ao (Ao ?_));refine AI.go (aif c.lits x.a) rfl (Z0 ?_);refine Ap (fun g1=>?_) (fun g1=>?_);refine Z1 g1 ?_;refine Ao ?_;refine Ap (fun g2=>?_) (fun g2=>?_);have d2:=AB g2;refine Z2 g1 g2 ?_;refine Ao ?_;refine Aa.ret (Z2 g1 g2 ?_);exact Ae rfl (Z2 g1 g2 trivial);have d2:=Aq g2;refine Z2 g1 g2 ?_;refine Aa.ret (Z2 g1 g2 ?_);exact Ae rfl (Z2 g1 g2 trivial);refine Z1 g1 ?_;refine Aa.ret (Z1 g1 ?_);exact Ae rfl (Z1 g1 trivial)
end
def FA (c:Cd) (x:Hm) (ar:List UInt8 -> Int):Bool:=AH c.sels.length x.a && (decide (x.b >= 0) && ar (c.sels.getD x.a.toNat []) == x.b)
theorem ER {n:Nat} {i:Int} (h:AH n i = true):0 <= i /\ i < (n:Nat):=by
 unfold AH at h
 simpa using h
section
attribute [local go_sem] Ke O0 Cx Ce ntmps204
theorem YM (c:Cd) (l:List Cd) (at':Int) (x:Hm) (f:FuncId) (ar:List UInt8 -> Int) (hf:∀ s:List UInt8,Af prog f [.val (.string (Ak s))] (· = .val (.int .i64 (ar s)))):Af prog 204 [.cptr (Ke c l at'),Cx x,.fn f []] (· = .val (.bool (FA c x ar))):=by
 cases hi:AH c.sels.length x.a with
 | false =>
  refine Ag.intro func204 (by decide) rfl (D5 hi ?_);refine Aa.Ad (Z1 hi ?_);refine Aa.BQ [(0,.free),(1,.free),(2,.free),(3,.free),(5,.free),(4,.read),(6,.read),(7,.free),(8,.free),(9,.free),(10,.read),(11,.free),(12,.free),(13,.free),(14,.free),(15,.free),(16,.free),(17,.free),(18,.free),(20,.free),(25,.free),(19,.read),(21,.read),(22,.read),(23,.read),(24,.free),(26,.read),(27,.free),(28,.free),(29,.free)] mixed (by kernel_rfl) ?_;refine Z1 hi ?_;refine Ao (Ao (Ao ?_));refine AI.go (ZL c.sels x.a) rfl (Z1 hi ?_);refine Aa.ret (Z1 hi ?_);refine Ae rfl ?_;simp only [FA,hi,Bool.true_and,Bool.false_and,bo,↓reduceIte]
 | true =>
  have hlt:=ER hi;refine Ag.intro func204 (by decide) rfl (D5 hi ?_);refine Aa.Ad (Z1 hi ?_);refine Aa.BQ [(0,.free),(1,.free),(2,.free),(3,.free),(5,.free),(4,.read),(6,.read),(7,.free),(8,.free),(9,.free),(10,.read),(11,.free),(12,.free),(13,.free),(14,.free),(15,.free),(16,.free),(17,.free),(18,.free),(20,.free),(25,.free),(19,.read),(21,.read),(22,.read),(23,.read),(24,.free),(26,.read),(27,.free),(28,.free),(29,.free)] mixed (by kernel_rfl) ?_;refine Z1 hi ?_;refine Ao (Ao (Ao ?_));refine AI.go (ZL c.sels x.a) rfl (Z1 hi ?_);refine Ao ?_;refine Ap (fun g1=>?_) (fun g1=>?_);have d1:=An g1;refine Z2 hi g1 ?_;refine Ao (Ao (Ao (Ao (Ao (Ao ?_)))));simp -implicitDefEqProofs (dsimp:=false) (disch:=omega) only [i64_in,gd];refine Z2 hi g1 ?_;refine AI.go (hf _) rfl (Z2 hi g1 ?_);refine Aa.ret (Z2 hi g1 ?_);refine Ae rfl ?_;simp only [FA,hi,Bool.true_and,Bool.false_and,g1,bo,↓reduceIte];have d1:=Aj g1;refine Z2 hi g1 ?_;refine Aa.ret (Z2 hi g1 ?_);refine Ae rfl ?_;simp only [FA,hi,Bool.true_and,Bool.false_and,g1,bo,↓reduceIte]
end
section
attribute [local go_sem] Cx ntmps203
theorem c203 (c:Cd) (l:List Cd) (at':Int) (x:Hm):Af prog 203 [.cptr (Ke c l at'),Cx x] (· = .val (.bool (FA c x Bu && x.c == 0))):=by
 refine Ag.intro func203 (by decide) rfl (Bj ?_);refine Aa.Ad (Z0 ?_);refine Aa.Ad (Z0 ?_);refine Af.eq (YM c l at' x 75 Bu c75) rfl (Z0 ?_);refine Ap (fun g2=>?_) (fun g2=>?_);refine Z1 g2 ?_;refine Ao ?_;refine Aa.ret (Z1 g2 ?_);exact Ae rfl (Z1 g2 trivial);refine Z1 g2 ?_;refine Aa.ret (Z1 g2 ?_);exact Ae rfl (Z1 g2 trivial)
end
section
attribute [local go_sem] Cx ntmps205
theorem ah5 (c:Cd) (l:List Cd) (at':Int) (x:Hm):Af prog 205 [.cptr (Ke c l at'),Cx x] (· = .val (.bool (FA c x Bu && x.c == 0))):=by
 refine Ag.intro func205 (by decide) rfl (Bj ?_);refine Aa.Ad (Z0 ?_);refine Aa.Ad (Z0 ?_);refine Af.eq (YM c l at' x 75 Bu c75) rfl (Z0 ?_);refine Ap (fun g2=>?_) (fun g2=>?_);refine Z1 g2 ?_;refine Ao ?_;refine Aa.ret (Z1 g2 ?_);exact Ae rfl (Z1 g2 trivial);refine Z1 g2 ?_;refine Aa.ret (Z1 g2 ?_);exact Ae rfl (Z1 g2 trivial)
end
section
attribute [local go_sem] Cx ntmps208
theorem c208 (c:Cd) (l:List Cd) (at':Int) (x:Hm):Af prog 208 [.cptr (Ke c l at'),Cx x] (· = .val (.bool (FA c x JL && (x.c == 0 || x.c == 1)))):=by
 refine Ag.intro func208 (by decide) rfl (Bj ?_);refine Aa.Ad (Z0 ?_);refine Aa.Ad (Z0 ?_);refine Af.eq (YM c l at' x 209 JL aiS) rfl (Z0 ?_);refine Ap (fun g2=>?_) (fun g2=>?_);refine Z1 g2 ?_;refine Ao ?_;refine Ap (fun g3=>?_) (fun g3=>?_);have d3:=AB g3;refine Z2 g2 g3 ?_;refine Aa.ret (Z2 g2 g3 ?_);refine Ae rfl ?_;trivial;have d3:=Aq g3;refine Z2 g2 g3 ?_;refine Ao ?_;refine Aa.ret (Z2 g2 g3 ?_);refine Ae rfl ?_;trivial;refine Z1 g2 ?_;refine Aa.ret (Z1 g2 ?_);exact Ae rfl (Z1 g2 trivial)
end
def Gf (c:Cd) (x:Hm):Bool:=FA c x Bu && (x.c == 0 || (AH c.sels.length (IntKind.i64.wrap (x.c - 1)) && Bu (c.sels.getD (IntKind.i64.wrap (x.c - 1)).toNat []) == 0))
section
attribute [local go_sem] Ke O0 Cx Ce ntmps206
theorem c206 (c:Cd) (l:List Cd) (at':Int) (x:Hm):Af prog 206 [.cptr (Ke c l at'),Cx x] (· = .val (.bool (Gf c x))):=by
 cases hi:AH c.sels.length (IntKind.i64.wrap (x.c - 1)) with
 | false =>
  refine Ag.intro func206 (by decide) rfl (D5 hi ?_);refine Aa.Ad (Z1 hi ?_);refine Aa.BQ [(0,.free),(1,.read),(2,.free),(3,.free),(4,.free),(5,.read),(6,.free),(7,.free),(8,.free),(9,.free),(10,.free),(11,.free),(13,.free),(12,.read),(14,.read),(15,.free),(16,.free),(17,.free),(18,.free),(19,.free),(20,.free),(21,.free),(23,.free),(22,.read),(24,.read),(25,.free),(26,.read),(27,.read),(28,.free),(29,.free),(30,.free),(31,.free),(32,.free),(33,.free)] mixed (by kernel_rfl) ?_;refine Az.cut [(0,.free),(1,.read),(2,.free),(3,.free),(4,.free),(5,.read),(6,.free),(7,.free)] [(8,.free),(9,.free),(10,.free),(11,.free),(13,.free),(12,.read),(14,.read),(15,.free),(16,.free),(17,.free),(18,.free),(19,.free),(20,.free),(21,.free),(23,.free),(22,.read),(24,.read),(25,.free),(26,.read),(27,.read),(28,.free),(29,.free),(30,.free),(31,.free),(32,.free),(33,.free)] rfl ?_;refine Z1 hi ?_;refine AI.go (YM c l at' x 75 Bu c75) rfl (Z1 hi ?_);refine Ap (fun g1=>?_) (fun g1=>?_);refine Z2 hi g1 ?_;refine Ao ?_;refine Au.mk ?_;refine Az.cut [(8,.free),(9,.free),(10,.free),(11,.free),(13,.free),(12,.read),(14,.read),(15,.free)] [(16,.free),(17,.free),(18,.free),(19,.free),(20,.free),(21,.free),(23,.free),(22,.read),(24,.read),(25,.free),(26,.read),(27,.read),(28,.free),(29,.free),(30,.free),(31,.free),(32,.free),(33,.free)] rfl (Z2 hi g1 ?_)
  refine Ap (fun g2=>?_) (fun g2=>?_);have d2:=AB g2;refine Z3 hi g1 g2 ?_;refine Au.mk ?_;refine Az.cut [(16,.free),(17,.free),(18,.free),(19,.free),(20,.free),(21,.free),(23,.free),(22,.read)] [(24,.read),(25,.free),(26,.read),(27,.read),(28,.free),(29,.free),(30,.free),(31,.free),(32,.free),(33,.free)] rfl (Z3 hi g1 g2 ?_);refine Au.mk (Z3 hi g1 g2 ?_);refine Aa.ret (Z3 hi g1 g2 ?_);refine Ae rfl ?_;simp only [Gf,hi,Bool.true_and,Bool.false_and,Bool.true_or,Bool.false_or,g1,g2,bo,↓reduceIte];have d2:=Aq g2;refine Z3 hi g1 g2 ?_;refine Ao (Ao (Ao ?_));refine Au.mk ?_;refine Az.cut [(16,.free),(17,.free),(18,.free),(19,.free),(20,.free),(21,.free),(23,.free),(22,.read)] [(24,.read),(25,.free),(26,.read),(27,.read),(28,.free),(29,.free),(30,.free),(31,.free),(32,.free),(33,.free)] rfl (Z3 hi g1 g2 ?_);refine AI.go (ZL c.sels (IntKind.i64.wrap (x.c - 1))) rfl (Z3 hi g1 g2 ?_);refine Au.mk (Z3 hi g1 g2 ?_);refine Aa.ret (Z3 hi g1 g2 ?_);refine Ae rfl ?_;simp only [Gf,hi,Bool.true_and,Bool.false_and,Bool.true_or,Bool.false_or,g1,g2,bo,↓reduceIte];refine Z2 hi g1 ?_;refine Au.mk ?_;refine Az.cut [(8,.free),(9,.free),(10,.free),(11,.free),(13,.free),(12,.read),(14,.read),(15,.free)] [(16,.free),(17,.free),(18,.free),(19,.free),(20,.free),(21,.free),(23,.free),(22,.read),(24,.read),(25,.free),(26,.read),(27,.read),(28,.free),(29,.free),(30,.free),(31,.free),(32,.free),(33,.free)] rfl (Z2 hi g1 ?_)
  refine Au.mk ?_;refine Az.cut [(16,.free),(17,.free),(18,.free),(19,.free),(20,.free),(21,.free),(23,.free),(22,.read)] [(24,.read),(25,.free),(26,.read),(27,.read),(28,.free),(29,.free),(30,.free),(31,.free),(32,.free),(33,.free)] rfl (Z2 hi g1 ?_);refine Au.mk (Z2 hi g1 ?_);refine Aa.ret (Z2 hi g1 ?_);refine Ae rfl ?_;simp only [Gf,hi,Bool.true_and,Bool.false_and,Bool.true_or,Bool.false_or,g1,bo,↓reduceIte]
 | true =>
  have hlt:=ER hi;refine Ag.intro func206 (by decide) rfl (D5 hi ?_);refine Aa.Ad (Z1 hi ?_);refine Aa.BQ [(0,.free),(1,.read),(2,.free),(3,.free),(4,.free),(5,.read),(6,.free),(7,.free),(8,.free),(9,.free),(10,.free),(11,.free),(13,.free),(12,.read),(14,.read),(15,.free),(16,.free),(17,.free),(18,.free),(19,.free),(20,.free),(21,.free),(23,.free),(22,.read),(24,.read),(25,.free),(26,.read),(27,.read),(28,.free),(29,.free),(30,.free),(31,.free),(32,.free),(33,.free)] mixed (by kernel_rfl) ?_;refine Az.cut [(0,.free),(1,.read),(2,.free),(3,.free),(4,.free),(5,.read),(6,.free),(7,.free)] [(8,.free),(9,.free),(10,.free),(11,.free),(13,.free),(12,.read),(14,.read),(15,.free),(16,.free),(17,.free),(18,.free),(19,.free),(20,.free),(21,.free),(23,.free),(22,.read),(24,.read),(25,.free),(26,.read),(27,.read),(28,.free),(29,.free),(30,.free),(31,.free),(32,.free),(33,.free)] rfl ?_;refine Z1 hi ?_;refine AI.go (YM c l at' x 75 Bu c75) rfl (Z1 hi ?_);refine Ap (fun g1=>?_) (fun g1=>?_);refine Z2 hi g1 ?_;refine Ao ?_;refine Au.mk ?_;refine Az.cut [(8,.free),(9,.free),(10,.free),(11,.free),(13,.free),(12,.read),(14,.read),(15,.free)] [(16,.free),(17,.free),(18,.free),(19,.free),(20,.free),(21,.free),(23,.free),(22,.read),(24,.read),(25,.free),(26,.read),(27,.read),(28,.free),(29,.free),(30,.free),(31,.free),(32,.free),(33,.free)] rfl (Z2 hi g1 ?_)
  refine Ap (fun g2=>?_) (fun g2=>?_);have d2:=AB g2;refine Z3 hi g1 g2 ?_;refine Au.mk ?_;refine Az.cut [(16,.free),(17,.free),(18,.free),(19,.free),(20,.free),(21,.free),(23,.free),(22,.read)] [(24,.read),(25,.free),(26,.read),(27,.read),(28,.free),(29,.free),(30,.free),(31,.free),(32,.free),(33,.free)] rfl (Z3 hi g1 g2 ?_);refine Au.mk (Z3 hi g1 g2 ?_);refine Aa.ret (Z3 hi g1 g2 ?_);refine Ae rfl ?_;simp only [Gf,hi,Bool.true_and,Bool.false_and,Bool.true_or,Bool.false_or,g1,g2,bo,↓reduceIte];have d2:=Aq g2;refine Z3 hi g1 g2 ?_;refine Ao (Ao (Ao ?_));refine Au.mk ?_;refine Az.cut [(16,.free),(17,.free),(18,.free),(19,.free),(20,.free),(21,.free),(23,.free),(22,.read)] [(24,.read),(25,.free),(26,.read),(27,.read),(28,.free),(29,.free),(30,.free),(31,.free),(32,.free),(33,.free)] rfl (Z3 hi g1 g2 ?_);refine AI.go (ZL c.sels (IntKind.i64.wrap (x.c - 1))) rfl (Z3 hi g1 g2 ?_);refine Ao (Ao (Ao ?_));refine Au.mk (Z3 hi g1 g2 ?_);refine Ao (Ao ?_);simp -implicitDefEqProofs (dsimp:=false) (disch:=omega) only [i64_in,gd];refine Z3 hi g1 g2 ?_;refine AI.go (c75 _) rfl (Z3 hi g1 g2 ?_);refine Aa.ret (Z3 hi g1 g2 ?_);refine Ae rfl ?_;simp only [Gf,hi,Bool.true_and,Bool.false_and,Bool.true_or,Bool.false_or,g1,g2,bo,↓reduceIte];refine Z2 hi g1 ?_;refine Au.mk ?_;refine Az.cut [(8,.free),(9,.free),(10,.free),(11,.free),(13,.free),(12,.read),(14,.read),(15,.free)] [(16,.free),(17,.free),(18,.free),(19,.free),(20,.free),(21,.free),(23,.free),(22,.read),(24,.read),(25,.free),(26,.read),(27,.read),(28,.free),(29,.free),(30,.free),(31,.free),(32,.free),(33,.free)] rfl (Z2 hi g1 ?_)
  refine Au.mk ?_;refine Az.cut [(16,.free),(17,.free),(18,.free),(19,.free),(20,.free),(21,.free),(23,.free),(22,.read)] [(24,.read),(25,.free),(26,.read),(27,.read),(28,.free),(29,.free),(30,.free),(31,.free),(32,.free),(33,.free)] rfl (Z2 hi g1 ?_);refine Au.mk (Z2 hi g1 ?_);refine Aa.ret (Z2 hi g1 ?_);refine Ae rfl ?_;simp only [Gf,hi,Bool.true_and,Bool.false_and,Bool.true_or,Bool.false_or,g1,bo,↓reduceIte]
end
def Hs (c:Cd) (l:List Cd) (at':Int) (x:Hm):Bool:=AH l.length x.a && ((l.getD x.a.toNat default).block && ((l.getD x.a.toNat default).outer == at' && (x.b == 0 && x.c == 0)))
section
attribute [local go_sem] Ke O0 Cx Cl SS ntmps210
theorem c210 (c:Cd) (l:List Cd) (at':Int) (x:Hm):Af prog 210 [.cptr (Ke c l at'),Cx x] (· = .val (.bool (Hs c l at' x))):=by
 cases hi:AH l.length x.a with
 | false =>
  refine Ag.intro func210 (by decide) rfl (D5 hi ?_);refine Aa.Ad (Z1 hi ?_);refine Aa.BQ [(0,.free),(1,.free),(2,.free),(3,.read),(4,.free),(5,.read),(6,.free),(7,.free),(8,.free),(9,.free),(10,.free),(11,.read),(12,.free),(13,.read),(14,.read),(15,.free),(16,.read),(17,.free),(18,.free),(19,.free),(20,.free),(21,.free),(22,.read),(23,.free),(24,.read),(25,.read),(26,.free),(27,.read),(28,.free),(29,.free),(30,.free),(31,.read),(32,.free),(33,.free),(34,.free),(35,.free),(36,.read),(37,.free),(38,.free),(39,.free),(40,.free),(41,.read),(42,.free),(43,.free),(44,.free)] mixed (by kernel_rfl) ?_;refine Az.cut [(0,.free),(1,.free),(2,.free),(3,.read),(4,.free),(5,.read),(6,.free),(7,.free)] [(8,.free),(9,.free),(10,.free),(11,.read),(12,.free),(13,.read),(14,.read),(15,.free),(16,.read),(17,.free),(18,.free),(19,.free),(20,.free),(21,.free),(22,.read),(23,.free),(24,.read),(25,.read),(26,.free),(27,.read),(28,.free),(29,.free),(30,.free),(31,.read),(32,.free),(33,.free),(34,.free),(35,.free),(36,.read),(37,.free),(38,.free),(39,.free),(40,.free),(41,.read),(42,.free),(43,.free),(44,.free)] rfl ?_;refine Z1 hi ?_;refine Ao (Ao ?_);refine AI.go (agu l x.a) rfl (Z1 hi ?_);refine Au.mk ?_;refine Az.cut [(8,.free),(9,.free),(10,.free),(11,.read),(12,.free),(13,.read),(14,.read),(15,.free)] [(16,.read),(17,.free),(18,.free),(19,.free),(20,.free),(21,.free),(22,.read),(23,.free),(24,.read),(25,.read),(26,.free),(27,.read),(28,.free),(29,.free),(30,.free),(31,.read),(32,.free),(33,.free),(34,.free),(35,.free),(36,.read),(37,.free),(38,.free),(39,.free),(40,.free),(41,.read),(42,.free),(43,.free),(44,.free)] rfl ?_
  refine Z1 hi ?_;refine Au.mk ?_;refine Az.cut [(16,.read),(17,.free),(18,.free),(19,.free),(20,.free),(21,.free),(22,.read),(23,.free)] [(24,.read),(25,.read),(26,.free),(27,.read),(28,.free),(29,.free),(30,.free),(31,.read),(32,.free),(33,.free),(34,.free),(35,.free),(36,.read),(37,.free),(38,.free),(39,.free),(40,.free),(41,.read),(42,.free),(43,.free),(44,.free)] rfl ?_;refine Z1 hi ?_;refine Au.mk ?_;refine Az.cut [(24,.read),(25,.read),(26,.free),(27,.read),(28,.free),(29,.free),(30,.free),(31,.read)] [(32,.free),(33,.free),(34,.free),(35,.free),(36,.read),(37,.free),(38,.free),(39,.free),(40,.free),(41,.read),(42,.free),(43,.free),(44,.free)] rfl (Z1 hi ?_);refine Au.mk ?_;refine Az.cut [(32,.free),(33,.free),(34,.free),(35,.free),(36,.read),(37,.free),(38,.free),(39,.free)] [(40,.free),(41,.read),(42,.free),(43,.free),(44,.free)] rfl (Z1 hi ?_);refine Au.mk (Z1 hi ?_);refine Aa.ret (Z1 hi ?_);refine Ae rfl ?_;simp only [Hs,hi,Bool.true_and,Bool.false_and,bo,↓reduceIte]
 | true =>
  have hlt:=ER hi;have h9:=FH (l:=l) (i:=x.a.toNat) (by omega);have h8:(0 <= x.a) = True:=eq_true hlt.1;have h7:(x.a < (l.length:Int)) = True:=eq_true hlt.2;refine Ag.intro func210 (by decide) rfl (Zs hi h9 h8 h7 ?_);refine Aa.Ad (Z4 hi h9 h8 h7 ?_);refine Aa.BQ [(0,.free),(1,.free),(2,.free),(3,.read),(4,.free),(5,.read),(6,.free),(7,.free),(8,.free),(9,.free),(10,.free),(11,.read),(12,.free),(13,.read),(14,.read),(15,.free),(16,.read),(17,.free),(18,.free),(19,.free),(20,.free),(21,.free),(22,.read),(23,.free),(24,.read),(25,.read),(26,.free),(27,.read),(28,.free),(29,.free),(30,.free),(31,.read),(32,.free),(33,.free),(34,.free),(35,.free),(36,.read),(37,.free),(38,.free),(39,.free),(40,.free),(41,.read),(42,.free),(43,.free),(44,.free)] mixed (by kernel_rfl) ?_;refine Az.cut [(0,.free),(1,.free),(2,.free),(3,.read),(4,.free),(5,.read),(6,.free),(7,.free)] [(8,.free),(9,.free),(10,.free),(11,.read),(12,.free),(13,.read),(14,.read),(15,.free),(16,.read),(17,.free),(18,.free),(19,.free),(20,.free),(21,.free),(22,.read),(23,.free),(24,.read),(25,.read),(26,.free),(27,.read),(28,.free),(29,.free),(30,.free),(31,.read),(32,.free),(33,.free),(34,.free),(35,.free),(36,.read),(37,.free),(38,.free),(39,.free),(40,.free),(41,.read),(42,.free),(43,.free),(44,.free)] rfl ?_;refine Z4 hi h9 h8 h7 ?_
  refine Ao (Ao ?_);refine AI.go (agu l x.a) rfl (Z4 hi h9 h8 h7 ?_);refine Au.mk ?_;refine Az.cut [(8,.free),(9,.free),(10,.free),(11,.read),(12,.free),(13,.read),(14,.read),(15,.free)] [(16,.read),(17,.free),(18,.free),(19,.free),(20,.free),(21,.free),(22,.read),(23,.free),(24,.read),(25,.read),(26,.free),(27,.read),(28,.free),(29,.free),(30,.free),(31,.read),(32,.free),(33,.free),(34,.free),(35,.free),(36,.read),(37,.free),(38,.free),(39,.free),(40,.free),(41,.read),(42,.free),(43,.free),(44,.free)] rfl ?_;refine Z4 hi h9 h8 h7 ?_;refine Ao (Ao (Ao ?_));refine Au.mk ?_;refine Az.cut [(16,.read),(17,.free),(18,.free),(19,.free),(20,.free),(21,.free),(22,.read),(23,.free)] [(24,.read),(25,.read),(26,.free),(27,.read),(28,.free),(29,.free),(30,.free),(31,.read),(32,.free),(33,.free),(34,.free),(35,.free),(36,.read),(37,.free),(38,.free),(39,.free),(40,.free),(41,.read),(42,.free),(43,.free),(44,.free)] rfl ?_;refine Z4 hi h9 h8 h7 ?_;refine Ap (fun g10=>?_) (fun g10=>?_);refine Z5 hi h9 h8 h7 g10 ?_;refine Ao (Ao ?_);refine Au.mk ?_;refine Az.cut [(24,.read),(25,.read),(26,.free),(27,.read),(28,.free),(29,.free),(30,.free),(31,.read)] [(32,.free),(33,.free),(34,.free),(35,.free),(36,.read),(37,.free),(38,.free),(39,.free),(40,.free),(41,.read),(42,.free),(43,.free),(44,.free)] rfl (Z5 hi h9 h8 h7 g10 ?_);refine Ao (Ao ?_)
  refine Au.mk ?_;refine Az.cut [(32,.free),(33,.free),(34,.free),(35,.free),(36,.read),(37,.free),(38,.free),(39,.free)] [(40,.free),(41,.read),(42,.free),(43,.free),(44,.free)] rfl (Z5 hi h9 h8 h7 g10 ?_);refine Ap (fun g11=>?_) (fun g11=>?_);have d11:=AB g11;refine Z6 hi h9 h8 h7 g10 g11 ?_;refine Ao ?_;refine Au.mk (Z6 hi h9 h8 h7 g10 g11 ?_);refine Ap (fun g12=>?_) (fun g12=>?_);have d12:=AB g12;refine Z7 hi h9 h8 h7 g10 g11 g12 ?_;refine Ao ?_;refine Aa.ret (Z7 hi h9 h8 h7 g10 g11 g12 ?_);refine Ae rfl ?_;simp only [Hs,hi,Bool.true_and,Bool.false_and,g10,g11,g12,bo,↓reduceIte];have d12:=Aq g12;refine Z7 hi h9 h8 h7 g10 g11 g12 ?_;refine Aa.ret (Z7 hi h9 h8 h7 g10 g11 g12 ?_);refine Ae rfl ?_;simp only [Hs,hi,Bool.true_and,Bool.false_and,g10,g11,g12,bo,↓reduceIte];have d11:=Aq g11;refine Z6 hi h9 h8 h7 g10 g11 ?_;refine Au.mk (Z6 hi h9 h8 h7 g10 g11 ?_);refine Aa.ret (Z6 hi h9 h8 h7 g10 g11 ?_);refine Ae rfl ?_;simp only [Hs,hi,Bool.true_and,Bool.false_and,g10,g11,bo,↓reduceIte];refine Z5 hi h9 h8 h7 g10 ?_;refine Au.mk ?_;refine Az.cut [(24,.read),(25,.read),(26,.free),(27,.read),(28,.free),(29,.free),(30,.free),(31,.read)] [(32,.free),(33,.free),(34,.free),(35,.free),(36,.read),(37,.free),(38,.free),(39,.free),(40,.free),(41,.read),(42,.free),(43,.free),(44,.free)] rfl (Z5 hi h9 h8 h7 g10 ?_);refine Au.mk ?_;refine Az.cut [(32,.free),(33,.free),(34,.free),(35,.free),(36,.read),(37,.free),(38,.free),(39,.free)] [(40,.free),(41,.read),(42,.free),(43,.free),(44,.free)] rfl (Z5 hi h9 h8 h7 g10 ?_)
  refine Au.mk (Z5 hi h9 h8 h7 g10 ?_);refine Aa.ret (Z5 hi h9 h8 h7 g10 ?_);refine Ae rfl ?_;simp only [Hs,hi,Bool.true_and,Bool.false_and,g10,bo,↓reduceIte]
end
section
attribute [local go_sem] Ke O0 Cx ntmps212
theorem c212 (c:Cd) (l:List Cd) (at':Int) (x:Hm):Af prog 212 [.cptr (Ke c l at'),Cx x] (· = .val (.bool (LP x && c.block))):=by
 refine Ag.intro func212 (by decide) rfl (Bj ?_);refine Aa.Ad (Z0 ?_);refine Aa.Ad (Z0 ?_);refine Af.eq (c201 (.cptr (Ke c l at')) x) rfl (Z0 ?_);refine Ap (fun g2=>?_) (fun g2=>?_);refine Z1 g2 ?_;refine Ao (Ao ?_);refine Aa.ret (Z1 g2 ?_);exact Ae rfl (Z1 g2 trivial);refine Z1 g2 ?_;refine Aa.ret (Z1 g2 ?_);exact Ae rfl (Z1 g2 trivial)
end
end Go.Proofs.Tryz

namespace Go.Proofs.Tryz
open Go.PM
attribute [local irreducible] BM BP Bq Ci AU AO Az
theorem acM:∃ F:List Int -> Int,∀ d,F2 d -> (F d <= 400 /\ Af prog 249 [.sl false (is d)] (· = .val (.int .i64 (F d)))) :=
 HP (D:=F2) (Q:=fun d r=>r <= 400 /\ Af prog 249 [.sl false (is d)] (· = .val (.int .i64 r))) fun d ⟨T,hT,hd⟩=>by
  obtain ⟨v,⟨r,rfl,hr⟩,hc⟩:=ajE T d hT hd;exact ⟨r,hr,hc⟩
noncomputable def XM:List Int -> Int:=acM.choose
theorem agp (d:List Int) (hd:F2 d):Af prog 249 [.sl false (is d)] (· = .val (.int .i64 (XM d))):=(acM.choose_spec d hd).2
theorem Yy {d:List Int} (hd:F2 d):XM d <= 400:=(acM.choose_spec d hd).1
theorem agQ:prog.keyTypeAt 20 28 = true:=by kernel_rfl
theorem ahi:prog.eqGuardType prog.depth 28 = false:=by kernel_rfl
theorem aii:Hv prog 28 = true:=by kernel_rfl
theorem ad4:prog.cellsOf 28 = 3:=by kernel_rfl
theorem co3:prog.cellsOf 3 = 1:=by kernel_rfl
theorem co9:prog.cellsOf 9 = 1:=by kernel_rfl
structure Cm (v:Vl):Prop where
 t:v.t.length <= 1048576
 n:Cn v.n
 k:Cn v.k
def YQ (v:Vl):List Lit:=[.int .i64 v.k,.int .i64 v.n,.string v.t]
theorem Yj (v:Vl) (h:Cm v):Nl prog 28 [.val (.int .i64 v.k),.val (.int .i64 v.n),.val (.string (Ak v.t))] = some (YQ v):=by
 have w:∀ n:Int,Cn n -> (Lit.int .i64 n).wf = true:=by
  intro n hn;simp [Lit.wf,IntKind.min,IntKind.max,IntKind.signed,IntKind.bits];unfold Cn at hn;omega
 have u3:∀ (d:Nat) (n:Int),Cn n -> prog.keyLits (d + 1) 3 [.int .i64 n] = some [.int .i64 n]:=by
  intro d n hn;simp only [Program.keyLits,underlying3,w n hn,and_self,if_true]
 have u9:∀ (d:Nat) (l:List UInt8),l.length <= maxLen -> prog.keyLits (d + 1) 9 [.string (Ak l)] = some [.string l]:=by
  intro d l hl;have:(Ak l).size <= maxLen:=hl;simp only [Program.keyLits,underlying9,this,if_true];rfl
 unfold Nl;simp only [List.mapM_cons,List.mapM_nil,Go.PM.valOf,bind,Option.bind_some,pure];unfold Program.keyLits;have hl:v.t.length <= maxLen:=by have:=h.t; unfold maxLen; omega
 simp [underlying28,ad4,co3,co9,u3 18 _ h.k,u3 18 _ h.n,u9 18 _ hl,YQ]
attribute [go_sem] agQ ahi aii
attribute [go_sem ↓] GW
theorem V9 {s:List UInt8} {n:Int} (h:Lib.parseIntB 64 s = .ok n):Cn n:=by
 have e:(2:Nat) ^ (64 - 1) = 9223372036854775808:=by decide
 unfold Lib.parseIntB at h;unfold Cn;rw [e] at h
 cases s with
 | nil=>cases h
 | cons c r =>
  simp only at h;generalize Lib.parseUintB 64 _ = z at h
  cases z
  case ok u =>
   simp only at h
   by_cases hn:c.toNat = 45
   ·simp only [hn,not_true_eq_false,false_and,if_false,true_and,if_true] at h
    split at h
    ·cases h
    ·cases h; omega
   ·simp only [hn,not_false_eq_true,true_and,if_true,false_and,if_false] at h
    split at h
    ·cases h
    ·cases h; omega
  all_goals cases h
section
attribute [local go_sem] MH F1 underlying268 Cy G2 ntmps219
theorem ahq (d:List Int) (neg:Bool) (hd:F2 d):B9 prog 219 [MH d neg] (fun v=>∃ x:Vl,v = Cy x /\ Cm x):=by
 have hs:=Yy hd;have h2:=ahJ (GC d neg) (by have:=Pu d neg hd; omega);obtain ⟨n,e,hp,he⟩:∃ n e,Fi (GC d neg) = .tup [.val (.int .i64 n),e] /\ (e = .val .nilIface /\ Cn n \/ ∃ why,e = G2 (GC d neg) why):=by
  unfold Fi
  split
  ·rename_i v hv
   exact ⟨_,_,rfl,.inl ⟨rfl,V9 hv⟩⟩
  ·exact ⟨_,_,rfl,.inr ⟨_,rfl⟩⟩
  ·exact ⟨_,_,rfl,.inr ⟨_,rfl⟩⟩
 rw [hp] at h2;have hd':decide (XM d > 400) = false:=decide_eq_false (by omega)
 rcases he with ⟨rfl,hn⟩ | ⟨why,rfl⟩
 ·refine B9.of (DX.intro (fun R=>R) (fun _ h=>h) func219 (by decide) rfl ?_)
  refine D5 hd' ?_;refine Ab.Am ?_;apply Pr.run;intro Ψ3 hΨ3;refine Aa.region (Z1 hd' ?_);exact hΨ3.out;refine Pr.done ?_;refine Ab.seq ?_;refine Ab.Am ?_;apply Pr.run;intro Ψ4 hΨ4;refine Aa.region (Z1 hd' ?_);refine Ao ?_;refine Af.eq (agp d hd) rfl (Z1 hd' ?_);exact hΨ4.out;refine Pr.done ?_;refine Ab.Ax rfl ?_;refine Ab.skip (Z1 hd' ?_);refine Ab.Am ?_;apply Pr.run;intro Ψ6 hΨ6;refine Aa.region (Z1 hd' ?_);refine Af.eq (agd d neg hd) rfl (Z1 hd' ?_);exact hΨ6.out;refine Pr.done ?_;refine Ab.Am ?_;apply Pr.run;intro Ψ8 hΨ8;refine Aa.region (Z1 hd' ?_);refine Af.eq (h2) rfl (Z1 hd' ?_);exact hΨ8.out;refine Pr.done ?_;refine Ab.seq ?_;refine Ab.Am ?_;apply Pr.run;intro Ψ10 hΨ10;refine Aa.region (Z1 hd' ?_);exact hΨ10.out;refine Pr.done ?_;refine Ab.Ax rfl ?_;refine Ab.skip (Z1 hd' ?_);refine Ab.Am ?_;apply Pr.run;intro Ψ11 hΨ11;refine Aa.region (Z1 hd' ?_);exact hΨ11.out;refine Pr.done ?_;refine Ab.ret ?_;apply AP.i;intro Ψ12 hΨ12;refine Z1 hd' ?_;exact hΨ12.out;refine ⟨_,rfl,rfl,?_⟩;rotate_left;exact ⟨⟨1,n,[]⟩,rfl,by simp,hn,by unfold Cn; simp only; omega⟩
 ·refine B9.of (DX.intro (fun R=>R) (fun _ h=>h) func219 (by decide) rfl ?_)
  refine D5 hd' ?_;refine Ab.Am ?_;apply Pr.run;intro Ψ3 hΨ3;refine Aa.region (Z1 hd' ?_);exact hΨ3.out;refine Pr.done ?_;refine Ab.seq ?_;refine Ab.Am ?_;apply Pr.run;intro Ψ4 hΨ4;refine Aa.region (Z1 hd' ?_);refine Ao ?_;refine Af.eq (agp d hd) rfl (Z1 hd' ?_);exact hΨ4.out;refine Pr.done ?_;refine Ab.Ax rfl ?_;refine Ab.skip (Z1 hd' ?_);refine Ab.Am ?_;apply Pr.run;intro Ψ6 hΨ6;refine Aa.region (Z1 hd' ?_);refine Af.eq (agd d neg hd) rfl (Z1 hd' ?_);exact hΨ6.out;refine Pr.done ?_;refine Ab.Am ?_;apply Pr.run;intro Ψ8 hΨ8;refine Aa.region (Z1 hd' ?_);refine Af.eq (h2) rfl (Z1 hd' ?_);exact hΨ8.out;refine Pr.done ?_;refine Ab.seq ?_;refine Ab.Am ?_;apply Pr.run;intro Ψ10 hΨ10;refine Aa.region (Z1 hd' ?_);exact hΨ10.out;refine Pr.done ?_;refine Ab.Ar rfl ?_;refine Ab.Am ?_;apply Pr.run;intro Ψ11 hΨ11;refine Aa.region (Z1 hd' ?_);exact hΨ11.out;refine Pr.done ?_;refine Ab.ret (Z1 hd' ?_);apply AP.i;intro Ψ12 hΨ12;refine Z1 hd' ?_;exact hΨ12.out;refine ⟨_,rfl,rfl,?_⟩;rotate_left;exact ⟨⟨2,0,GC d neg⟩,rfl,Nat.le_trans (Pu d neg hd) (by omega),by unfold Cn; simp only; omega,by unfold Cn; simp only; omega⟩
end
theorem aea:∃ F:List Int × Bool -> Vl,∀ a,F2 a.1 -> (Cm (F a) /\ Af prog 219 [MH a.1 a.2] (· = Cy (F a))) :=
 HP (D:=fun a:List Int × Bool=>F2 a.1) (Q:=fun a x=>Cm x /\ Af prog 219 [MH a.1 a.2] (· = Cy x)) fun a hd=>by
  obtain ⟨v,⟨x,rfl,hx⟩,hc⟩:=ahq a.1 a.2 hd;exact ⟨x,hx,hc⟩
noncomputable def ac4 (d:List Int) (neg:Bool):Vl:=aea.choose (d,neg)
theorem ajN (d:List Int) (neg:Bool) (hd:F2 d):Af prog 219 [MH d neg] (· = Cy (ac4 d neg)):=(aea.choose_spec (d,neg) hd).2
theorem aaS {d:List Int} {neg:Bool} (hd:F2 d):Cm (ac4 d neg):=(aea.choose_spec (d,neg) hd).1
theorem Xz:∃ F:List UInt8 -> List Int × Bool × Bool,∀ s,s.length <= 1048576 -> (F2 (F s).1 /\ Af prog 217 [.val (.string (Ak s))] (· = .tup [MH (F s).1 (F s).2.1,.val (.bool (F s).2.2)])) :=
 HP (D:=fun s:List UInt8=>s.length <= 1048576) (Q:=fun (s:List UInt8) (x:List Int × Bool × Bool)=>F2 x.1 /\ Af prog 217 [.val (.string (Ak s))] (· = .tup [MH x.1 x.2.1,.val (.bool x.2.2)])) fun s hs=>by
  obtain ⟨v,⟨d,neg,ok,T,rfl,hT,hd⟩,hc⟩:=aiF s hs;exact ⟨(d,neg,ok),⟨T,hT,hd⟩,hc⟩
noncomputable def SQ (s:List UInt8):List Int:=(Xz.choose s).1
noncomputable def Yc (s:List UInt8):Bool:=(Xz.choose s).2.1
noncomputable def agB (s:List UInt8):Bool:=(Xz.choose s).2.2
theorem agW (s:List UInt8) (hs:s.length <= 1048576):Af prog 217 [.val (.string (Ak s))] (· = .tup [MH (SQ s) (Yc s),.val (.bool (agB s))]):=(Xz.choose_spec s hs).2
theorem Hc {s:List UInt8} (hs:s.length <= 1048576):F2 (SQ s):=(Xz.choose_spec s hs).1
theorem Mq:F2 []:=⟨0,by omega,fun i hi=>absurd hi (Nat.not_lt_zero i)⟩
section
attribute [local go_sem] MH Cy Iy ntmps172
theorem ajk (v:Vl) (hv:Cm v):B9 prog 172 [Cy v] (fun x=>∃ (d:List Int) (neg ok:Bool),x = .tup [MH d neg,.val (.bool ok)] /\ F2 d /\ (v.k = 1 -> v.t = [] -> ok = true)):=by
 have h1:=abA v.n hv.n.1 hv.n.2;have h2:=Yj v hv;have h3:=Yj (ac4 (SQ v.t) (Yc v.t)) (aaS (Hc hv.t));refine B9.of (DX.intro (fun R r h=>R r.lax h) (fun _ h=>Ag.I7 h) func172 (by decide) rfl ?_);refine VY h2 h3 ?_;refine Ab.Am ?_;apply Pr.run;intro Ψ4 hΨ4;refine Aa.region (Z2 h2 h3 ?_);exact hΨ4.out;refine Pr.done ?_;refine Ab.seq (Ab.block ?_);refine Ab.Am ?_;apply Pr.run;intro Ψ5 hΨ5;refine Aa.region (Z2 h2 h3 ?_);refine Ao ?_;exact hΨ5.out;refine Pr.CH (fun g6=>?_) (fun g6=>?_);have d6:=AB g6;apply Pr.run;intro Ψ7 hΨ7;refine Z3 h2 h3 g6 ?_;refine Ao ?_;exact hΨ7.out;refine Pr.done ?_;refine Ab.cond rfl (fun g8=>?_) (fun g8=>?_);refine Ab.Am ?_;apply Pr.run;intro Ψ9 hΨ9;refine Aa.region (Z4 h2 h3 g6 g8 ?_);refine Ao ?_;refine Af.eq (c218 v.n hv.n.1 hv.n.2) rfl (Z4 h2 h3 g6 g8 ?_);refine Af.eq (agW (Lib.itoa v.n) h1) rfl (Z4 h2 h3 g6 g8 ?_);exact hΨ9.out;refine Pr.done ?_;refine Ab.Am ?_;apply Pr.run;intro Ψ12 hΨ12;refine Aa.region (Z4 h2 h3 g6 g8 ?_);exact hΨ12.out;refine Pr.done ?_;refine Ab.ret (Z4 h2 h3 g6 g8 ?_);apply AP.i;intro Ψ13 hΨ13;refine Z4 h2 h3 g6 g8 ?_;exact hΨ13.out;refine ⟨_,rfl,rfl,?_⟩;rotate_left;refine Ab.Am ?_;apply Pr.run;intro Ψ14 hΨ14;refine Aa.region (Z4 h2 h3 g6 g8 ?_);refine Ao ?_;exact hΨ14.out;refine Pr.CH (fun g15=>?_) (fun g15=>?_);have d15:=BT g15;apply Pr.run;intro Ψ16 hΨ16;refine Z5 h2 h3 g6 g8 g15 ?_;exact hΨ16.out;refine Pr.done ?_;refine Ab.Ar rfl ?_;refine Ab.Am ?_;apply Pr.run;intro Ψ17 hΨ17;refine Aa.region (Z5 h2 h3 g6 g8 g15 ?_)
 exact hΨ17.out;refine Pr.done ?_;refine Ab.ret (Z5 h2 h3 g6 g8 g15 ?_);apply AP.i;intro Ψ18 hΨ18;refine Z5 h2 h3 g6 g8 g15 ?_;exact hΨ18.out;refine ⟨_,rfl,rfl,?_⟩;rotate_left;have d15:=Bt g15
 (exfalso; omega)
 have d6:=Aq g6;apply Pr.run;intro Ψ19 hΨ19;refine Z3 h2 h3 g6 ?_;exact hΨ19.out;refine Pr.done ?_;refine Ab.Ax rfl ?_;refine Ab.Am ?_;apply Pr.run;intro Ψ20 hΨ20;refine Aa.region (Z3 h2 h3 g6 ?_);refine Ao ?_;exact hΨ20.out;refine Pr.CH (fun g21=>?_) (fun g21=>?_);have d21:=BT g21;apply Pr.run;intro Ψ22 hΨ22;refine Z4 h2 h3 g6 g21 ?_;exact hΨ22.out;refine Pr.done ?_;refine Ab.Ar rfl ?_;refine Ab.Am ?_;apply Pr.run;intro Ψ23 hΨ23;refine Aa.region (Z4 h2 h3 g6 g21 ?_);exact hΨ23.out;refine Pr.done ?_;refine Ab.ret (Z4 h2 h3 g6 g21 ?_);apply AP.i;intro Ψ24 hΨ24;refine Z4 h2 h3 g6 g21 ?_;exact hΨ24.out;refine ⟨_,rfl,rfl,?_⟩;rotate_left;have d21:=Bt g21;apply Pr.run;intro Ψ25 hΨ25;refine Z4 h2 h3 g6 g21 ?_;refine Ao ?_;exact hΨ25.out;refine Pr.done ?_;refine Ab.cond rfl (fun g26=>?_) (fun g26=>?_);have d26:=BT g26;refine Ab.Am ?_;apply Pr.run;intro Ψ27 hΨ27;refine Aa.region (Z5 h2 h3 g6 g21 g26 ?_);exact hΨ27.out;refine Pr.done ?_;refine Ab.ret (Z5 h2 h3 g6 g21 g26 ?_);apply AP.i;intro Ψ28 hΨ28;refine Z5 h2 h3 g6 g21 g26 ?_;exact hΨ28.out;refine ⟨_,rfl,rfl,?_⟩;rotate_left;have d26:=Bt g26;refine Ab.skip (Z5 h2 h3 g6 g21 g26 ?_);refine Ab.Am ?_;apply Pr.run;intro Ψ29 hΨ29;refine Aa.region (Z5 h2 h3 g6 g21 g26 ?_);refine Ao ?_;refine Af.eq (agW v.t hv.t) rfl (Z5 h2 h3 g6 g21 g26 ?_);exact hΨ29.out;refine Pr.done ?_;refine Ab.Am ?_;apply Pr.run;intro Ψ31 hΨ31;refine Aa.BS [(1,.free),(2,.free),(0,.look [1]),(3,.look [1]),(4,.free),(5,.look [1]),(6,.free),(7,.free),(8,.wr 1),(9,.free)] mixed (by kernel_rfl) (Z5 h2 h3 g6 g21 g26 ?_)
 refine And.intro (by trivial) ?_;exact hΨ31.out;refine Pr.CH (fun g32=>?_) (fun g32=>?_);apply Pr.run;intro Ψ33 hΨ33;refine Z6 h2 h3 g6 g21 g26 g32 ?_;refine And.intro (by trivial) ?_;refine AI.go (ajN (SQ v.t) (Yc v.t) (Hc hv.t)) rfl (Z6 h2 h3 g6 g21 g26 g32 ?_);refine And.intro (by trivial) ?_;exact hΨ33.out;refine Pr.done ?_;refine Ab.ret ?_;apply AP.i;intro Ψ34 hΨ34;refine Z6 h2 h3 g6 g21 g26 g32 ?_;exact hΨ34.out;refine ⟨_,rfl,rfl,?_⟩;rotate_left;apply Pr.run;intro Ψ35 hΨ35;refine Z6 h2 h3 g6 g21 g26 g32 ?_;exact hΨ35.out;refine Pr.done ?_;refine Ab.ret ?_;apply AP.i;intro Ψ36 hΨ36;refine Z6 h2 h3 g6 g21 g26 g32 ?_;exact hΨ36.out;refine ⟨_,rfl,rfl,?_⟩;rotate_left
 ·exact ⟨_,_,_,rfl,Hc h1,fun _ _=>rfl⟩
 ·exact ⟨[],_,_,rfl,Mq,fun e1 e2=>by rw [e2] at g8; cases g8⟩
 ·exact ⟨[],_,_,rfl,Mq,fun e1 e2=>by rw [e1] at g6; cases g6⟩
 ·exact ⟨[],_,_,rfl,Mq,fun e1 e2=>by rw [e1] at g6; cases g6⟩
 ·exact ⟨_,_,_,rfl,Hc hv.t,fun e1 e2=>by rw [e1] at g6; cases g6⟩
 ·exact ⟨_,_,_,rfl,Hc hv.t,fun e1 e2=>by rw [e1] at g6; cases g6⟩
end
theorem Zc:∃ F:Vl -> List Int × Bool × Bool,∀ v,Cm v -> (F2 (F v).1 /\ (v.k = 1 -> v.t = [] -> (F v).2.2 = true) /\ Af prog 172 [Cy v] (· = .tup [MH (F v).1 (F v).2.1,.val (.bool (F v).2.2)])) :=
 HP (D:=Cm) (Q:=fun (v:Vl) (x:List Int × Bool × Bool)=>F2 x.1 /\ (v.k = 1 -> v.t = [] -> x.2.2 = true) /\ Af prog 172 [Cy v] (· = .tup [MH x.1 x.2.1,.val (.bool x.2.2)])) fun v hv=>by
  obtain ⟨x,⟨d,neg,ok,rfl,hd,h1⟩,hc⟩:=ajk v hv;exact ⟨(d,neg,ok),hd,h1,hc⟩
noncomputable def okV (v:Vl):Bool:=(Zc.choose v).2.2
theorem aiL (v:Vl) (hv:Cm v):Af prog 172 [Cy v] (· = .tup [MH (Zc.choose v).1 (Zc.choose v).2.1,.val (.bool (okV v))]):=(Zc.choose_spec v hv).2.2
theorem ZV {v:Vl} (hv:Cm v) (h1:v.k = 1) (h2:v.t = []):okV v = true:=(Zc.choose_spec v hv).2.1 h1 h2
section
attribute [local go_sem] MH Cy ntmps134
theorem afa (v:Vl) (hv:Cm v):Af prog 134 [Cy v] (· = .val (.int .i64 (if okV v = true then 0 else 31))):=by
 refine Ag.intro func134 (by decide) rfl (Bj ?_);refine Aa.Ad (Z0 ?_);refine Aa.seq ?_;refine Aa.Ad (Z0 ?_);refine Af.eq (aiL v hv) rfl (Z0 ?_);refine Aa.Ad (Z0 ?_);refine Aa.cond rfl (fun g2=>?_) (fun g2=>?_);refine Aa.Ad (Z1 g2 ?_);refine Aa.ret (Z1 g2 ?_);refine Ae rfl ?_;rotate_left;refine Aa.skip (Z1 g2 ?_);refine Aa.Ad (Z1 g2 ?_);refine Aa.ret (Z1 g2 ?_);refine Ae rfl ?_;rotate_left
 all_goals (cases hk:okV v <;> simp_all)
end
noncomputable def CA (v:Vl):Bool :=
 if (v.k == 1 || v.k == 2) = true then okV v
 else if (v.k == 3) = true then (v.n == 0 && (decide ((v.t.length:Int) <= 20000) && !v.t.any fun b=>decide ((b.toNat:Int) < 32) || decide ((b.toNat:Int) > 126)))
 else (v.k == 4 && (decide (v.n >= 1) && (decide (v.n <= 1099511627776) && v.t == [])))
section
attribute [local go_sem] Cy ntmps105
theorem c105 (v:Vl) (hv:Cm v):Af prog 105 [Cy v] (· = .val (.int .i64 (if CA v = true then 0 else 1))):=by
 unfold CA;refine Ag.intro func105 (by decide) rfl (Bj ?_);refine Aa.Ad (Z0 ?_);refine Aa.seq ?_;refine Aa.Ad (Z0 ?_);refine Ao ?_;refine Aa.block ?_;refine Aa.seq ?_;refine Aa.Ad (Z0 ?_);refine Aa.cond rfl (fun g1=>?_) (fun g1=>?_);have d1:=AB g1;refine Aa.skip (Z1 g1 ?_);refine Aa.Ar rfl ?_;refine Aa.Ad (Z1 g1 ?_);refine Af.eq (afa v hv) rfl (Z1 g1 ?_);refine Aa.cond rfl (fun g3=>?_) (fun g3=>?_);have d3:=AB g3;refine Aa.Ad (Z2 g1 g3 ?_);refine Aa.ret (Z2 g1 g3 ?_);refine Ae rfl ?_;rotate_left;have d3:=Aq g3;refine Aa.skip (Z2 g1 g3 ?_);refine Aa.Ad (Z2 g1 g3 ?_);refine Aa.ret (Z2 g1 g3 ?_);refine Ae rfl ?_;rotate_left;have d1:=Aq g1;refine Aa.region (Z1 g1 ?_);refine Aa.cond rfl (fun g4=>?_) (fun g4=>?_);have d4:=AB g4;refine Aa.Ad (Z2 g1 g4 ?_);refine Af.eq (afa v hv) rfl (Z2 g1 g4 ?_);refine Aa.cond rfl (fun g6=>?_) (fun g6=>?_);have d6:=AB g6;refine Aa.Ad (Z3 g1 g4 g6 ?_);refine Aa.ret (Z3 g1 g4 g6 ?_);refine Ae rfl ?_;rotate_left;have d6:=Aq g6;refine Aa.skip (Z3 g1 g4 g6 ?_);refine Aa.Ad (Z3 g1 g4 g6 ?_);refine Aa.ret (Z3 g1 g4 g6 ?_);refine Ae rfl ?_;rotate_left;have d4:=Aq g4;refine Aa.Ad (Z2 g1 g4 ?_);refine Aa.cond rfl (fun g7=>?_) (fun g7=>?_);have d7:=AB g7;refine Aa.Ad (Z3 g1 g4 g7 ?_);refine Ao ?_;refine Ap (fun g8=>?_) (fun g8=>?_);have d8:=AB g8;refine Z4 g1 g4 g7 g8 ?_;refine Ao ?_;refine Ap (fun g9=>?_) (fun g9=>?_);have d9:=An g9;refine Z5 g1 g4 g7 g8 g9 ?_;refine Ao ?_;refine Af.eq (aju v.t 136 [] rfl _ (fun b _=>ajo b) (by have:=hv.t; omega)) rfl (Z5 g1 g4 g7 g8 g9 ?_)
 refine Aa.cond rfl (fun g11=>?_) (fun g11=>?_);refine Aa.Ad (Z6 g1 g4 g7 g8 g9 g11 ?_);refine Aa.ret (Z6 g1 g4 g7 g8 g9 g11 ?_);refine Ae rfl ?_;trivial;refine Aa.skip (Z6 g1 g4 g7 g8 g9 g11 ?_);refine Aa.Ad (Z6 g1 g4 g7 g8 g9 g11 ?_);refine Aa.ret (Z6 g1 g4 g7 g8 g9 g11 ?_);refine Ae rfl ?_;trivial;have d9:=Aj g9;refine Z5 g1 g4 g7 g8 g9 ?_;refine Aa.Ax rfl ?_;refine Aa.skip (Z5 g1 g4 g7 g8 g9 ?_);refine Aa.Ad (Z5 g1 g4 g7 g8 g9 ?_);refine Aa.ret (Z5 g1 g4 g7 g8 g9 ?_);refine Ae rfl ?_;trivial;have d8:=Aq g8;refine Z4 g1 g4 g7 g8 ?_;refine Aa.Ax rfl ?_;refine Aa.skip (Z4 g1 g4 g7 g8 ?_);refine Aa.Ad (Z4 g1 g4 g7 g8 ?_);refine Aa.ret (Z4 g1 g4 g7 g8 ?_);refine Ae rfl ?_;trivial;have d7:=Aq g7;refine Aa.Ad (Z3 g1 g4 g7 ?_);refine Aa.cond rfl (fun g12=>?_) (fun g12=>?_);have d12:=AB g12;refine Aa.Ad (Z4 g1 g4 g7 g12 ?_);refine Ao ?_;refine Ap (fun g13=>?_) (fun g13=>?_);have d13:=An g13;refine Z5 g1 g4 g7 g12 g13 ?_;refine Ao ?_;refine Ap (fun g14=>?_) (fun g14=>?_);have d14:=An g14;refine Z6 g1 g4 g7 g12 g13 g14 ?_;refine Ao ?_;refine Aa.cond rfl (fun g15=>?_) (fun g15=>?_);refine Aa.Ad (Z7 g1 g4 g7 g12 g13 g14 g15 ?_);refine Aa.ret (Z7 g1 g4 g7 g12 g13 g14 g15 ?_);refine Ae rfl ?_;trivial;refine Aa.skip (Z7 g1 g4 g7 g12 g13 g14 g15 ?_);refine Aa.Ad (Z7 g1 g4 g7 g12 g13 g14 g15 ?_);refine Aa.ret (Z7 g1 g4 g7 g12 g13 g14 g15 ?_);refine Ae rfl ?_;trivial;have d14:=Aj g14;refine Z6 g1 g4 g7 g12 g13 g14 ?_;refine Aa.Ax rfl ?_;refine Aa.skip (Z6 g1 g4 g7 g12 g13 g14 ?_)
 refine Aa.Ad (Z6 g1 g4 g7 g12 g13 g14 ?_);refine Aa.ret (Z6 g1 g4 g7 g12 g13 g14 ?_);refine Ae rfl ?_;trivial;have d13:=Aj g13;refine Z5 g1 g4 g7 g12 g13 ?_;refine Aa.Ax rfl ?_;refine Aa.skip (Z5 g1 g4 g7 g12 g13 ?_);refine Aa.Ad (Z5 g1 g4 g7 g12 g13 ?_);refine Aa.ret (Z5 g1 g4 g7 g12 g13 ?_);refine Ae rfl ?_;trivial;have d12:=Aq g12;refine Aa.skip (Z4 g1 g4 g7 g12 ?_);refine Aa.Ad (Z4 g1 g4 g7 g12 ?_);refine Aa.ret (Z4 g1 g4 g7 g12 ?_);refine Ae rfl ?_;trivial
 all_goals (cases hk:okV v <;> simp_all)
end
section
attribute [local go_sem] Cy ntmps155
theorem aab (v:Vl) (hv:Cm v):Af prog 155 [Cy v] (· = .val (.bool (!CA v))):=by
 refine Ag.intro func155 (by decide) rfl (Bj ?_);refine Aa.Ad (Z0 ?_);refine Aa.Ad (Z0 ?_);refine Af.eq (c105 v hv) rfl (Z0 ?_);refine Aa.ret (Z0 ?_);refine Ae rfl ?_;rotate_left
 cases hk:CA v <;> simp [hk]
end
theorem Rg {n:Int} (h:Cn n):CA ⟨1,n,[]⟩ = true:=by
 unfold CA;simp only [beq_self_eq_true,Bool.true_or,if_true];exact ZV ⟨by simp,h,by unfold Cn; simp only; omega⟩ rfl rfl
end Go.Proofs.Tryz
