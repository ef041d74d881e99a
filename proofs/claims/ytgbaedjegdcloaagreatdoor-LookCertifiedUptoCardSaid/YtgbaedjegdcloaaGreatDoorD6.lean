/- A part of the proof: see the last text. -/
import Derived.Test.YtgbaedjegdcloaaGreatDoorD5
set_option linter.unusedVariables false
set_option linter.unusedSimpArgs false
set_option linter.unusedSectionVars false
set_option linter.defProp false
set_option maxRecDepth 100000
set_option maxHeartbeats 4000000
namespace Go.Proofs.Tryz
open Go.PM
theorem fold_self (l:List Int):∀ (a:List Int),(a ++ l).Nodup -> l.foldl (fun a x=>if x ∈ a then a else a ++ [x]) a = a ++ l:=by
 induction l with
 | nil=>intro a _; simp
 | cons y l ih =>
  intro a h;have hy:y ∉ a:=fun hy=>(List.nodup_append.1 h).2.2 y hy y List.mem_cons_self rfl;rw [List.foldl_cons,if_neg hy,ih _ (by simpa using h)];simp
theorem dedup_self {l:List Int} (h:l.Nodup):AF l = l:=by
 unfold AF;rw [fold_self l [] (by simpa using h)];rfl
def noneP (f:GS):Prop:=f.holder = 0 /\ f.slot = 0 /\ f.set = false /\ f.path = []
def KindP (w:Wd) (sel:List UInt8) (x:Int) (n:Nat) (f:GS):Prop :=
 (f.kind = 0 /\ n = 0 /\ noneP f /\ XK f) \/
 (f.kind = 1 /\ n = 1 /\ G1 w sel x f.path f.holder f.slot = some f.set /\ XK f) \/
 (f.kind = 2 /\ G1 w sel x f.path f.holder f.slot = some f.set /\ (∃ b,G1 w sel x f.path2 f.holder2 f.slot2 = some b) /\ f.holder ≠ f.holder2)
def CheckP (w:Wd) (sel:List UInt8) (x:Int) (l:List Int) (f:GS):Prop:=DC w sel x l /\ KindP w sel x (Oc w sel l) f
theorem pathE_rch {w:Wd} {sel:List UInt8} {S:Int -> Prop}:∀ (p:List Int) {x e:Int},Kb (Gk w sel) S x -> C9 w sel x p = some e -> Kb (Gk w sel) S e
 | [],_,_,h,he=>by cases he; exact h
 | i :: p,x,e,h,he=>by
  rw [C9] at he
  split at he
  ·rename_i hc
   obtain ⟨⟨h1,h2,h3⟩,h4⟩:=hc;refine pathE_rch p (.step (i:=i.toNat) h h1 ?_) he;exact Eh.2 ⟨by omega,h4,rfl⟩
  ·cases he
theorem pathS_some {w:Wd} {sel:List UInt8} {x:Int} {path:List Int} {oid slot:Int} {b:Bool} (h:G1 w sel x path oid slot = some b):C9 w sel x path = some oid /\ ∃ p,AN (AJ w oid) sel = some p /\ (p.1:Int) = slot /\ p.2 = b:=by
 unfold G1 at h
 split at h
 ·cases h
 ·rename_i e he
  split at h
  ·rename_i p hp
   split at h
   ·rename_i hc
    obtain ⟨rfl,h2⟩:=hc;exact ⟨he,p,hp,h2,by injection h⟩
   ·cases h
  ·cases h
theorem seen_first (w:Wd) (sel:List UInt8) (x:Int):x ∈ (seen w sel x).1:=((Jo w sel x).met x).2 (.base rfl)
theorem check_alike {w:Wd} {sel:List UInt8} {x:Int} {l:List Int} {f:GS} (h:CheckP w sel x l f):ED (Bo (seen w sel x).2) f = true:=by
 obtain ⟨⟨h1,h2,h3⟩,hk⟩:=h;have D:=Jo w sel x;generalize hs:seen w sel x = s at D ⊢;have hin:∀ y,Kb (Gk w sel) (· = x) y -> y ∈ l:=fun y hy=>by
  induction hy with
  | base e=>rw [e]; exact h2
  | step _ m p ih=>exact h3 _ ih m _ p
 have hit:∀ y,y ∈ s.2.map (·.oid) -> y ∈ (AF l).filter fun y=>(AN (AJ w y) sel).isSome:=fun y hy=>by
  obtain ⟨h4,h5⟩:=(D.hit y).1 hy;exact List.mem_filter.2 ⟨Ej.2 (hin y h4),h5⟩
 have hof:∀ {path oid slot b},G1 w sel x path oid slot = some b -> oid ∈ s.2.map (·.oid):=fun hp=>by
  obtain ⟨h4,p,h5,_⟩:=pathS_some hp;exact (D.hit _).2 ⟨pathE_rch _ (.base rfl) h4,by show (AN _ sel).isSome = true; rw [h5]; rfl⟩
 rcases hk with ⟨k0,k1,_⟩ | ⟨k0,k1,k2,_⟩ | ⟨k0,k1,⟨b,k2⟩,k3⟩
 ·have hn:s.2 = []:=by
   rcases hs2:s.2 with _ | ⟨a,t⟩
   ·rfl
   ·have:=hit a.oid (by rw [hs2]; simp)
    have h0:=List.length_pos_of_mem this;unfold Oc at k1;omega
  rw [hn];simp only [Bo,ED,k0];rfl
 ·have h4:=hof k2
  have h5:=hit _ h4;have hle:=C0 D.Zb hit;rw [List.length_map] at hle;unfold Oc at k1;rw [k1] at hle
  rcases hs2:s.2 with _ | ⟨a,_ | ⟨a',t⟩⟩
  ·rw [hs2] at h4; cases h4
  ·rw [hs2] at h4
   have e:f.holder = a.oid:=by simpa using h4
   obtain ⟨_,p,p1,p2,p3⟩:=pathS_some k2;obtain ⟨q,q1,q2,q3⟩:=D.vis.ok a (by rw [hs2]; simp);have q1':AN (AJ w a.oid) sel = some q:=q1;rw [e,q1'] at p1
   cases p1
   simp [Bo,ED,k0,e,q2,q3,p2,p3]
  ·rw [hs2] at hle
   simp at hle
 ·have h4:=hof k1
  have h5:=hof k2
  rcases hs2:s.2 with _ | ⟨a,_ | ⟨a',t⟩⟩
  ·rw [hs2] at h4; cases h4
  ·rw [hs2] at h4 h5
   have e:f.holder = a.oid:=by simpa using h4
   have e':f.holder2 = a.oid:=by simpa using h5
   exact absurd (e.trans e'.symm) k3
  ·simp [Bo,ED,k0]
theorem check_self {w:Wd} (hv:B6 w) {sel:List UInt8} {x:Int} (hx:(Bi w x).isSome = true):CheckP w sel x (seen w sel x).1 (Bo (seen w sel x).2):=by
 have D:=Jo w sel x;have hc:Oc w sel (seen w sel x).1 = (seen w sel x).2.length:=by
  have:=congrArg List.length D.vis.hits;rw [List.length_map] at this;unfold Oc;rw [dedup_self D.vis.nodup,this];rfl
 refine ⟨⟨fun y hy=>Oi hv (fun z e=>by rw [e]; exact hx) ((D.met y).1 hy),seen_first w sel x,fun y hy hm p hp=>(D.met _).2 (.step (i:=p.1) ((D.met y).1 hy) hm hp)⟩,?_⟩;rw [hc];have hnd:=D.Zb;have hp:∀ h ∈ (seen w sel x).2,G1 w sel x h.path h.oid h.slot = some h.set:=fun h hh=>Uc hh
 rcases hs2:(seen w sel x).2 with _ | ⟨a,_ | ⟨a',t⟩⟩
 ·exact .inl ⟨rfl,rfl,⟨rfl,rfl,rfl,rfl⟩,rfl,rfl,rfl⟩
 ·rw [hs2] at hp
  exact .inr (.inl ⟨rfl,rfl,hp a (by simp),rfl,rfl,rfl⟩)
 ·rw [hs2] at hp hnd
  refine .inr (.inr ⟨rfl,hp a (by simp),⟨_,hp a' (by simp)⟩,?_⟩);simp only [List.map_cons,List.nodup_cons,List.mem_cons] at hnd;exact fun e=>hnd.1 (.inl e)
end Go.Proofs.Tryz

namespace Go.Proofs.Tryz
open Go.PM Go.RowKit
variable {H:Type} {enc:TypeId × Value -> H} {W:World}
theorem opensInts:O9 enc W 29 (fun l:List Int=>AV.sl false (is l)) (fun l=>(∀ a ∈ l,Cn a) /\ l.length <= 1048576):=CR (sz:=1) DH underlying29 (by kernel_rfl) (by decide) (fun _=>rfl) BD
structure fdZ (f:GS):Prop where
 p:f.path.length <= 1048576
 p2:f.path2.length <= 1048576
theorem opensFnd:O9 enc W 31 HG fdZ :=
 ((Cs DH underlying31 (by kernel_rfl) (Av rfl (by kernel_rfl) rfl BD (fun _=>rfl) (Av rfl (by kernel_rfl) rfl BD (fun _=>rfl) (Av rfl (by kernel_rfl) rfl BD (fun _=>rfl) (Av rfl (by kernel_rfl) rfl opensInts (fun _=>rfl) (Av rfl (by kernel_rfl) rfl Nb (fun _=>rfl) (Av rfl (by kernel_rfl) rfl BD (fun _=>rfl) (Av rfl (by kernel_rfl) rfl BD (fun _=>rfl) (Av rfl (by kernel_rfl) rfl opensInts (fun _=>rfl) Db))))))))).map (f':=HG) (fun x=>(⟨x.1,x.2.1,x.2.2.1,x.2.2.2.1,x.2.2.2.2.1,x.2.2.2.2.2.1,x.2.2.2.2.2.2.1,x.2.2.2.2.2.2.2.1⟩:GS)) (fun _=>rfl)).mono
  fun o ⟨x,h,e⟩=>e ▸ ⟨h.2.2.2.1.2,h.2.2.2.2.2.2.2.1.2⟩
end Go.Proofs.Tryz
