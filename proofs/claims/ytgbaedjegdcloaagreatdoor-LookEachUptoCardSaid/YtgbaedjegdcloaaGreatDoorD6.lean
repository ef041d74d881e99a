/- A part of the proof: see the last text. -/
import Derived.Test.YtgbaedjegdcloaaGreatDoorD5
set_option linter.unusedVariables false
set_option linter.unusedSimpArgs false
set_option linter.unusedSectionVars false
set_option linter.defProp false
set_option maxRecDepth 100000
set_option maxHeartbeats 4000000
namespace Go.PM
variable [AA]
theorem cells_retell {F:Nat -> Prop} {M:Mem} {hb:List HB} {h:List Ah} (H:AR F M hb h) {id j:Nat} {cs:List AV} {x x':AV} (hh:h[id]? = some (.cells cs)) (hx:cs[j]? = some x) (h1:x'.single = true)
  (hv:∀ v,Al M hb x v -> Al M hb x' v):AR F M hb (h.set id (.cells (cs.set j x'))):=by
 obtain ⟨e,he⟩:∃ e,hb[id]? = some e:=by
  have:id < hb.length:=by rw [H.len]; exact (List.getElem?_eq_some_iff.1 hh).1
  exact ⟨_,List.getElem?_eq_getElem this⟩
 obtain ⟨q1,q2,c,q3,q4⟩:=H.box id _ e hh he;have:=H.update (M':=M) (b':=.cells (cs.set j x')) (e':=e) hh he (.refl M) (Nat.le_refl _) (Bf.set he (Nat.le_refl _) rfl (fun _=>rfl) (fun _=>rfl)) (fun _ _ _=>⟨rfl,rfl⟩)
  ⟨q1,q2,c,q3,by rw [List.length_set]; exact q4.1,fun k y hy=>by
   rw [Cp he]
   by_cases hkj:j = k
   ·subst hkj
    have hjl:=(List.getElem?_eq_some_iff.1 hx).1;simp [hjl] at hy;subst hy;exact ⟨h1,hv _ (q4.2 j x hx).2⟩
   ·rw [List.getElem?_set_ne hkj] at hy
    exact q4.2 k y hy⟩ (fun _=>.inl ⟨rfl,rfl⟩)
 rwa [Cp he] at this
end Go.PM

namespace Go.PM
theorem Zl10 {A1 A2 A3 A4 A5 A6 A7 A8 A9 A10 P Q:Prop} (a1:A1) (a2:A2) (a3:A3) (a4:A4) (a5:A5) (a6:A6) (a7:A7) (a8:A8) (a9:A9) (a10:A10) (k:Q) (h:A1 -> A2 -> A3 -> A4 -> A5 -> A6 -> A7 -> A8 -> A9 -> A10 -> P = Q:=by intro a1 a2 a3 a4 a5 a6 a7 a8 a9 a10; try simp -implicitDefEqProofs (dsimp:=false) only [go_sem,simprocAttr,or_true,true_or,false_or,or_false,implies_true,Int.natCast_add,Int.cast_ofNat_Int,B7,a1,a2,a3,a4,a5,a6,a7,a8,a9,a10]; try exact rfl):P:=(h a1 a2 a3 a4 a5 a6 a7 a8 a9 a10).mpr k
theorem Zl11 {A1 A2 A3 A4 A5 A6 A7 A8 A9 A10 A11 P Q:Prop} (a1:A1) (a2:A2) (a3:A3) (a4:A4) (a5:A5) (a6:A6) (a7:A7) (a8:A8) (a9:A9) (a10:A10) (a11:A11) (k:Q) (h:A1 -> A2 -> A3 -> A4 -> A5 -> A6 -> A7 -> A8 -> A9 -> A10 -> A11 -> P = Q:=by intro a1 a2 a3 a4 a5 a6 a7 a8 a9 a10 a11; try simp -implicitDefEqProofs (dsimp:=false) only [go_sem,simprocAttr,or_true,true_or,false_or,or_false,implies_true,Int.natCast_add,Int.cast_ofNat_Int,B7,a1,a2,a3,a4,a5,a6,a7,a8,a9,a10,a11]; try exact rfl):P:=(h a1 a2 a3 a4 a5 a6 a7 a8 a9 a10 a11).mpr k
theorem Zl12 {A1 A2 A3 A4 A5 A6 A7 A8 A9 A10 A11 A12 P Q:Prop} (a1:A1) (a2:A2) (a3:A3) (a4:A4) (a5:A5) (a6:A6) (a7:A7) (a8:A8) (a9:A9) (a10:A10) (a11:A11) (a12:A12) (k:Q) (h:A1 -> A2 -> A3 -> A4 -> A5 -> A6 -> A7 -> A8 -> A9 -> A10 -> A11 -> A12 -> P = Q:=by intro a1 a2 a3 a4 a5 a6 a7 a8 a9 a10 a11 a12; try simp -implicitDefEqProofs (dsimp:=false) only [go_sem,simprocAttr,or_true,true_or,false_or,or_false,implies_true,Int.natCast_add,Int.cast_ofNat_Int,B7,a1,a2,a3,a4,a5,a6,a7,a8,a9,a10,a11,a12]; try exact rfl):P:=(h a1 a2 a3 a4 a5 a6 a7 a8 a9 a10 a11 a12).mpr k
theorem Zl13 {A1 A2 A3 A4 A5 A6 A7 A8 A9 A10 A11 A12 A13 P Q:Prop} (a1:A1) (a2:A2) (a3:A3) (a4:A4) (a5:A5) (a6:A6) (a7:A7) (a8:A8) (a9:A9) (a10:A10) (a11:A11) (a12:A12) (a13:A13) (k:Q) (h:A1 -> A2 -> A3 -> A4 -> A5 -> A6 -> A7 -> A8 -> A9 -> A10 -> A11 -> A12 -> A13 -> P = Q:=by intro a1 a2 a3 a4 a5 a6 a7 a8 a9 a10 a11 a12 a13; try simp -implicitDefEqProofs (dsimp:=false) only [go_sem,simprocAttr,or_true,true_or,false_or,or_false,implies_true,Int.natCast_add,Int.cast_ofNat_Int,B7,a1,a2,a3,a4,a5,a6,a7,a8,a9,a10,a11,a12,a13]; try exact rfl):P:=(h a1 a2 a3 a4 a5 a6 a7 a8 a9 a10 a11 a12 a13).mpr k
end Go.PM
