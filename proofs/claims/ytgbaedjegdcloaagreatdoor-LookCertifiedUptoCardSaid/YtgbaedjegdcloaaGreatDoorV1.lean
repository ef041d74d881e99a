/- A part of the proof: see the last text. -/
import Derived.KernelRfl
import Derived.Laws.Cells
import Derived.Laws.CopyRow
import Derived.Laws.MakeOwn
import Derived.Laws.OwnMore
import Derived.Laws.Slices
import Derived.RangeFuncBound
import Derived.RangeFuncRecord
import Derived.Laws.BitsAllLaws
import Derived.Laws.Concat
import Derived.Laws.StructEq
import Derived.Laws.BytesArg
import Derived.Laws.BytesString
import Derived.DeepKeys
import Derived.Laws.AppendOwn
import Derived.Laws.IdiomStrings
set_option linter.unusedVariables false
set_option linter.unusedSimpArgs false
set_option linter.unusedSectionVars false
set_option linter.defProp false
set_option maxRecDepth 100000
set_option maxHeartbeats 4000000
namespace Go.PM
theorem Ao {p q:Prop} (k:q) (h:p:=by omega):p /\ q:=⟨h,k⟩
theorem bo:(∀ b:Bool,(true && b) = b) /\ (∀ b:Bool,(false && b) = false) /\ (∀ b:Bool,(b && true) = b) /\ (∀ b:Bool,(b && false) = false) /\ (∀ b:Bool,(true || b) = true) /\ (∀ b:Bool,(false || b) = b) /\ (∀ b:Bool,(b || true) = true) /\ (∀ b:Bool,(b || false) = b) /\ (!true) = false /\ (!false) = true /\ (false = true) = False:=by simp
def plain:Value -> Bool
 | .bool _ | .int _ _ | .float _ _ | .complex _ _ _ | .string _ | .nilFunc | .nilIface=>true
 | .pointer none | .map none | .chan none=>true
 | .func (.func _) a b=>a.isEmpty && b.isEmpty
 | _=>false
inductive AV where
 | dead
 | val (v:Value)
 | sl (full:Bool) (es:List AV)
 | hsl (id ver off len:Nat)
 | ptr (id off:Nat)
 | eptr (id ver i off:Nat)
 | cptr (cs:List AV)
 | fn (f:FuncId) (caps:List AV)
 | yld (id:Nat)
 | iface (t:TypeId) (x:AV)
 | agg (cs:List AV)
 | tup (vs:List AV)
 | mp (id:Nat)
 | bnd (f:FuncId) (first:List AV)
 | cmp (kvs:List (AV × AV))
 deriving Inhabited
def AV.cells:AV -> List AV
 | .agg cs=>cs
 | x=>[x]
def AV.single:AV -> Bool
 | .agg _ | .tup _ | .dead=>false
 | _=>true
structure Mem where
 w:World
 lo:Nat -> Nat
def Mem.get (M:Mem) (b o:Nat):Value:=(M.w.cell? ⟨b,o,none⟩).getD undef
def Mem.QM (M:Mem) (b o:Nat):Prop:=o < M.lo b /\ (M.w.cell? ⟨b,o,none⟩).isSome = true
theorem Mem.cell {M:Mem} {b o:Nat} (h:M.QM b o):M.w.cell? ⟨b,o,none⟩ = some (M.get b o):=by
 obtain ⟨_,h⟩:=h;unfold Mem.get
 cases hc:M.w.cell? ⟨b,o,none⟩ with
 | none=>rw [hc] at h; simp at h
 | some v=>rfl
structure HB where
 blk:Nat
 sz:Nat
 lim:Nat
 ver:Nat
 real:Bool
 fix:Bool
def HB.slice (e:HB) (off len:Nat) (v:Value):Prop :=
 ∃ A cap,v = .slice A len cap /\ len <= cap /\ (cap = 0 \/ (e.real = true /\ A = some ⟨e.blk,off * e.sz,none⟩ /\ off + cap <= e.lim))
def Mem.Ma (M:Mem) (b:Nat):Prop:=0 < M.lo b /\ ∃ es c,M.w.heap[b]? = some (.map es c)
def Mem.adR (M:Mem) (b:Nat):Prop:=∃ c ty l,M.w.heap[b]? = some (.cells c ty l) /\ c.size <= M.lo b /\ 0 < c.size
def HI (es:Array MapEntry) (i:Nat):MapEntry:=(es[i]?).getD default
inductive Al (M:Mem):List HB -> AV -> Value -> Prop
 | dead {hb v}:Al M hb .dead v
 | val {hb v}:plain v = true -> Al M hb (.val v) v
 | nil {hb full}:Al M hb (.sl full []) (.slice none 0 0)
 | sl {hb full es a cap} (sz:Nat):(a.spot = none \/ cap = 0) -> es.length <= cap -> (full = true -> cap = es.length) ->
   (∀ e:AV,e ∈ es -> e.cells.length = sz) ->
   (∀ (i:Nat) (e:AV) (j:Nat) (c:AV),es[i]? = some e -> e.cells[j]? = some c -> M.QM a.block (a.off + i * sz + j) /\ c.single = true) ->
   (∀ (i:Nat) (e:AV) (j:Nat) (c:AV),es[i]? = some e -> e.cells[j]? = some c -> Al M [] c (M.get a.block (a.off + i * sz + j))) ->
   Al M hb (.sl full es) (.slice (some a) es.length cap)
 | hsl {hb id ver off len v} (e:HB):hb[id]? = some e -> e.fix = false -> ver <= e.ver -> v.oneCell' = true -> (e.ver = ver -> e.slice off len v) -> Al M hb (.hsl id ver off len) v
 | ptr {hb id off} (e:HB):hb[id]? = some e -> e.fix = true -> Al M hb (.ptr id off) (.pointer (some ⟨e.blk,off,none⟩))
 | eptr {hb id ver i off v} (e:HB):hb[id]? = some e -> e.fix = false -> ver <= e.ver -> v.oneCell' = true -> (e.ver = ver -> e.real = true /\ v = .pointer (some ⟨e.blk,i * e.sz + off,none⟩)) -> Al M hb (.eptr id ver i off) v
 | cptr {hb cs a}:a.spot = none -> (∀ (j:Nat) (c:AV),cs[j]? = some c -> M.QM a.block (a.off + j) /\ c.single = true) ->
   (∀ (j:Nat) (c:AV),cs[j]? = some c -> Al M [] c (M.get a.block (a.off + j))) -> Al M hb (.cptr cs) (.pointer (some a))
 | fn {hb f caps vs}:caps.length = vs.size -> (∀ (i:Nat) (c:AV),caps[i]? = some c -> Al M hb c (vs.getD i undef)) -> Al M hb (.fn f caps) (.func (.func f) #[] vs)
 | yld {hb id} (e:HB):hb[id]? = some e -> e.fix = true -> Al M hb (.yld id) (.func (.yield e.blk) #[] #[])
 | iface {hb t x v}:Al M hb x v -> Al M hb (.iface t x) (.iface t v)
 | agg {hb cs vs}:cs.length = vs.size -> (∀ (i:Nat) (c:AV),cs[i]? = some c -> c.single = true) -> (∀ (i:Nat) (c:AV),cs[i]? = some c -> Al M hb c (vs.getD i undef)) -> Al M hb (.agg cs) (.agg vs)
 | tup {hb cs vs}:cs.length = vs.size -> (∀ (i:Nat) (c:AV),cs[i]? = some c -> Al M hb c (vs.getD i undef)) -> Al M hb (.tup cs) (.tuple vs)
 | mp {hb id} (e:HB):hb[id]? = some e -> e.fix = true -> Al M hb (.mp id) (.map (some e.blk))
 | bnd {hb f first vs}:first.length = vs.size -> (∀ (i:Nat) (c:AV),first[i]? = some c -> Al M hb c (vs.getD i undef)) -> Al M hb (.bnd f first) (.func (.func f) vs #[])
 | cmp {hb kvs b es c}:0 < M.lo b -> M.w.heap[b]? = some (.map es c) -> es.size = kvs.length -> (es.toList.map (·.key)).Nodup ->
   (∀ (i:Nat) (k x:AV),kvs[i]? = some (k,x) -> Al M [] k (HI es i).key) -> (∀ (i:Nat) (k x:AV),kvs[i]? = some (k,x) -> Al M [] x (HI es i).val) -> Al M hb (.cmp kvs) (.map (some b))
structure Mem.Le (M M':Mem):Prop where
 c:∀ b o,M.QM b o -> M'.QM b o /\ M'.get b o = M.get b o
 m:∀ b,M.Ma b -> 0 < M'.lo b /\ M'.w.heap[b]? = M.w.heap[b]?
 k:∀ b,M.adR b -> M.lo b <= M'.lo b /\ M'.w.heap[b]? = M.w.heap[b]?
theorem Mem.Le.refl (M:Mem):M.Le M:=⟨fun _ _ h=>⟨h,rfl⟩,fun _ h=>⟨h.1,rfl⟩,fun _ _=>⟨Nat.le_refl _,rfl⟩⟩
theorem Mem.Le.trans {M M' M'':Mem} (h:M.Le M') (h':M'.Le M''):M.Le M'':=⟨fun b o hi=>by
 obtain ⟨h1,h2⟩:=h.c b o hi;obtain ⟨h3,h4⟩:=h'.c b o h1;exact ⟨h3,h4.trans h2⟩,fun b hb=>by
 obtain ⟨h1,h2⟩:=h.m b hb;obtain ⟨_,es,c,h0⟩:=hb;obtain ⟨h3,h4⟩:=h'.m b ⟨h1,es,c,h2.trans h0⟩;exact ⟨h3,h4.trans h2⟩,fun b hb=>by
 obtain ⟨h1,h2⟩:=h.k b hb;obtain ⟨c,ty,l,h0,hs,hp⟩:=hb;obtain ⟨h3,h4⟩:=h'.k b ⟨c,ty,l,h2.trans h0,Nat.le_trans hs h1,hp⟩;exact ⟨Nat.le_trans h1 h3,h4.trans h2⟩⟩
theorem Al.mem {M M':Mem} (hM:M.Le M') {hb:List HB} {a:AV} {v:Value} (h:Al M hb a v):Al M' hb a v:=by
 induction h with
 | dead=>exact .dead
 | val h=>exact .val h
 | nil=>exact .nil
 | @sl hb full es a cap sz h1 h2 h3 h4 h5 h6 ih =>
  refine .sl sz h1 h2 h3 h4 (fun i e j c he hc=>?_) (fun i e j c he hc=>?_)
  ·exact ⟨(hM.c _ _ (h5 i e j c he hc).1).1,(h5 i e j c he hc).2⟩
  ·rw [(hM.c _ _ (h5 i e j c he hc).1).2]; exact ih i e j c he hc
 | hsl e h1 h2 h3 h4 h5=>exact .hsl e h1 h2 h3 h4 h5
 | ptr e h1 h2=>exact .ptr e h1 h2
 | eptr e h1 h2 h3 h4 h5=>exact .eptr e h1 h2 h3 h4 h5
 | cptr h1 h2 h3 ih =>
  refine .cptr h1 (fun j c hc=>⟨(hM.c _ _ (h2 j c hc).1).1,(h2 j c hc).2⟩) (fun j c hc=>?_);rw [(hM.c _ _ (h2 j c hc).1).2]; exact ih j c hc
 | fn h1 h2 ih=>exact .fn h1 ih
 | yld e h1 h2=>exact .yld e h1 h2
 | iface h ih=>exact .iface ih
 | agg h1 h2 h3 ih=>exact .agg h1 h2 ih
 | tup h1 h2 ih=>exact .tup h1 ih
 | mp e h1 h2=>exact .mp e h1 h2
 | bnd h1 h2 ih=>exact .bnd h1 ih
 | cmp h1 h2 h3 h4 h5 h6 ih1 ih2 =>
  obtain ⟨g1,g2⟩:=hM.m _ ⟨h1,_,_,h2⟩;exact .cmp g1 (g2.trans h2) h3 h4 ih1 ih2
def Bf (hb hb':List HB):Prop:=∀ (i:Nat) (e:HB),hb[i]? = some e -> ∃ e':HB,hb'[i]? = some e' /\ e.ver <= e'.ver /\ e'.fix = e.fix /\ (e.fix = true -> e' = e) /\ (e'.ver = e.ver -> e' = e)
theorem Bf.refl (hb:List HB):Bf hb hb:=fun i e h=>⟨e,h,Nat.le_refl _,rfl,fun _=>rfl,fun _=>rfl⟩
theorem Bf.trans {a b c:List HB} (h:Bf a b) (h':Bf b c):Bf a c:=fun i e he=>by
 obtain ⟨e1,h1,h2,h3,h4,h5⟩:=h i e he;obtain ⟨e2,g1,g2,g3,g4,g5⟩:=h' i e1 h1;refine ⟨e2,g1,Nat.le_trans h2 g2,g3.trans h3,fun hf=>?_,fun hv=>?_⟩
 ·rw [g4 (h3.trans hf),h4 hf]
 ·have e1v:e1.ver = e.ver:=by omega
  rw [g5 (hv.trans e1v.symm),h5 e1v]
theorem Bf.nil (hb:List HB):Bf [] hb:=fun i e h=>by simp at h
theorem Bf.append (hb l:List HB):Bf hb (hb ++ l):=fun i e h=>by
 refine ⟨e,?_,Nat.le_refl _,rfl,fun _=>rfl,fun _=>rfl⟩;have hi:i < hb.length:=by
  rcases Nat.lt_or_ge i hb.length with h' | h'
  ·exact h'
  ·simp [List.getElem?_eq_none h'] at h
 rw [List.getElem?_append_left hi]; exact h
theorem Al.hb {M:Mem} {hb hb':List HB} {a:AV} {v:Value} (h:Al M hb a v):Bf hb hb' -> Al M hb' a v:=by
 induction h with
 | dead=>exact fun _=>.dead
 | val h=>exact fun _=>.val h
 | nil=>exact fun _=>.nil
 | sl sz h1 h2 h3 h4 h5 h6 _=>exact fun _=>.sl sz h1 h2 h3 h4 h5 h6
 | hsl e h1 h2 h3 h4 h5 =>
  intro hl;obtain ⟨e',g1,g2,g3,g4,g5⟩:=hl _ e h1;refine .hsl e' g1 (g3.trans h2) (Nat.le_trans h3 g2) h4 (fun hv=>?_);have hev:e'.ver = e.ver:=by omega
  rw [g5 hev] at hv ⊢;exact h5 hv
 | ptr e h1 h2 =>
  intro hl;obtain ⟨e',g1,g2,g3,g4,g5⟩:=hl _ e h1;rw [g4 h2] at g1;exact .ptr e g1 h2
 | eptr e h1 h2 h3 h4 h5 =>
  intro hl;obtain ⟨e',g1,g2,g3,g4,g5⟩:=hl _ e h1;refine .eptr e' g1 (g3.trans h2) (Nat.le_trans h3 g2) h4 (fun hv=>?_);have hev:e'.ver = e.ver:=by omega
  rw [g5 hev] at hv ⊢;exact h5 hv
 | cptr h1 h2 h3 _=>exact fun _=>.cptr h1 h2 h3
 | fn h1 h2 ih=>exact fun hl=>.fn h1 (fun i c hc=>ih i c hc hl)
 | yld e h1 h2 =>
  intro hl;obtain ⟨e',g1,g2,g3,g4,g5⟩:=hl _ e h1;rw [g4 h2] at g1;exact .yld e g1 h2
 | iface h ih=>exact fun hl=>.iface (ih hl)
 | agg h1 h2 h3 ih=>exact fun hl=>.agg h1 h2 (fun i c hc=>ih i c hc hl)
 | tup h1 h2 ih=>exact fun hl=>.tup h1 (fun i c hc=>ih i c hc hl)
 | mp e h1 h2 =>
  intro hl;obtain ⟨e',g1,g2,g3,g4,g5⟩:=hl _ e h1;rw [g4 h2] at g1;exact .mp e g1 h2
 | bnd h1 h2 ih=>exact fun hl=>.bnd h1 (fun i c hc=>ih i c hc hl)
 | cmp h1 h2 h3 h4 h5 h6 _ _=>exact fun _=>.cmp h1 h2 h3 h4 h5 h6
theorem Al.pure {M:Mem} {hb:List HB} {a:AV} {v:Value} (h:Al M [] a v):Al M hb a v:=h.hb (Bf.nil hb)
theorem Al.OA {M:Mem} {hb:List HB} {a:AV} {v:Value} (h:Al M hb a v) (h1:a.single = true):v.oneCell' = true:=by
 cases h with
 | dead=>simp [AV.single] at h1
 | val h=>cases h':v <;> simp_all [plain,Value.oneCell']
 | hsl e _ _ _ h4=>exact h4
 | eptr e _ _ _ h4=>exact h4
 | agg=>simp [AV.single] at h1
 | tup=>simp [AV.single] at h1
 | _=>rfl
end Go.PM

namespace Go.PM
structure Tm where
 n:Nat
 l:List (Nat × AV)
 deriving Inhabited
def look:List (Nat × AV) -> Nat -> AV
 | [],_=>.dead
 | (k,v) :: l,i=>match Nat.beq k i with
  | true=>v
  | false=>look l i
def Tm.get (t:Tm) (i:Nat):AV:=look t.l i
def Tm.put (t:Tm) (d:Nat) (v:AV):Tm:=match Nat.blt d t.n with
 | true=>⟨t.n,(d,v) :: t.l⟩
 | false=>t
inductive Ah where
 | dead
 | cells (cs:List AV)
 | row (mt:Bool) (ver sz:Nat) (es:List AV)
 | loop (fn:FuncId) (t:Tm) (ps:List Tmp) (assign body:Code) (state:LoopState) (pending:Option Code)
 | defer
 | map (kvs:List (AV × AV)) (bs:List Nat) (clock:Nat)
 | iter (Jb since:Nat) (seen:List Nat) (step:Nat)
 | siter (s:ByteArray) (pos:Nat)
 deriving Inhabited
def Jv (b:Ah):Nat:=match b with
 | .map kvs _ _=>kvs.length
 | _=>0
def V7 (b:Ah):List (AV × AV):=match b with
 | .map kvs _ _=>kvs
 | _=>[]
def isMap (b:Ah):Prop:=∃ kvs bs c,b = .map kvs bs c
def Ah.owns (b:Ah) (e:HB):Bool :=
 match b with
 | .dead=>false
 | .row ..=>e.real
 | _=>true
def BE (M:Mem) (hb:List HB) (cs:List AV) (c:Array Value):Prop :=
 c.size = cs.length /\ ∀ (j:Nat) (x:AV),cs[j]? = some x -> x.single = true /\ Al M hb x (c.getD j undef)
def Br (M:Mem) (sz:Nat) (es:List AV) (c:Array Value):Prop :=
 ∀ (i:Nat) (x:AV),es[i]? = some x -> x.cells.length = sz /\ ∀ (j:Nat) (y:AV),x.cells[j]? = some y -> y.single = true /\ Al M [] y (c.getD (i * sz + j) undef)
def Bv (M:Mem) (hb:List HB) (t:Tm) (tmps:Array Value):Prop :=
 t.n = tmps.size /\ ∀ i:Nat,Al M hb (t.get i) (tmps.getD i undef)
def Mem.opn (M:Mem) (b:Nat) (c:Array Value):Prop :=
 ∃ ty,M.w.heap[b]? = some (.cells c ty (0,0))
def Cr (M:Mem) (hb:List HB) (b:Ah) (e:HB):Prop :=
 match b with
 | .dead=>True
 | .cells cs=>e.fix = true /\ M.lo e.blk = 0 /\ ∃ c,M.opn e.blk c /\ BE M hb cs c
 | .row mt ver sz es=>e.fix = false /\ e.ver = ver /\ e.sz = sz /\ es.length <= e.lim /\ (e.real = false -> es = [] /\ e.lim = 0) /\
   (e.real = true -> (M.lo e.blk = if mt = true then 0 else es.length * sz) /\ ∃ c,M.opn e.blk c /\ e.lim * sz <= c.size /\ Br M sz es c)
 | .loop fn t ps assign body state pending=>e.fix = true /\ ∃ r:Loop,M.w.heap[e.blk]? = some (.loop r) /\ r.fn = fn /\ Bv M hb t r.tmps /\ r.params.toList = ps /\ r.assign = assign /\ r.body = body /\ r.state = state /\ r.pending = pending
 | .defer=>e.fix = true /\ M.w.heap[e.blk]? = some (.deferred (some []))
 | .iter Jb since seen step=>e.fix = true /\ ∃ em:HB,hb[Jb]? = some em /\ em.fix = true /\ M.w.heap[e.blk]? = some (.mapIter (some em.blk) since seen.reverse.toArray step)
 | .siter s pos=>e.fix = true /\ M.w.heap[e.blk]? = some (.stringIter s pos)
 | .map kvs bs clock=>e.fix = true /\ M.lo e.blk = 0 /\ ∃ (es:Array MapEntry),M.w.heap[e.blk]? = some (.map es clock) /\ es.toList.map (·.born) = bs /\ es.size = kvs.length /\
   (∀ b,b ∈ bs -> b < clock) /\ bs.Nodup /\ (es.toList.map (·.key)).Nodup /\
   ∀ (i:Nat) (k x:AV),kvs[i]? = some (k,x) -> ∃ m:MapEntry,es[i]? = some m /\ Al M [] k m.key /\ Al M hb x m.val
structure Cz (F:Nat -> Prop) (M:Mem):Prop where
 top:∀ b:Nat,M.w.heap.size <= b -> M.lo b = 0
 fr:∀ b:Nat,F b -> b < M.w.heap.size
class AA where
 get:Nat -> Option (List AV)
variable [AA]
def HS (M:Mem) (g:Nat) (cs:List AV):Prop:=Al M [] (.cptr cs) (.pointer (some ⟨g,0,none⟩)) /\ M.adR g /\ ∃ c ty l,M.w.heap[g]? = some (.cells c ty l) /\ c.size = cs.length
theorem HS.mem {M M':Mem} {g:Nat} {cs:List AV} (h:HS M g cs) (hM:M.Le M'):HS M' g cs:=by
 obtain ⟨h1,h2,c,ty,l,h3,h4⟩:=h;have hk:=hM.k g h2;obtain ⟨c',ty',l',h5,h6,h7⟩:=h2;exact ⟨h1.mem hM,⟨c',ty',l',hk.2.trans h5,Nat.le_trans h6 hk.1,h7⟩,c,ty,l,hk.2.trans h3,h4⟩
structure AR (F:Nat -> Prop) (M:Mem) (hb:List HB) (h:List Ah):Prop where
 len:hb.length = h.length
 gl:∀ (g:Nat) (cs:List AV),AA.get g = some cs -> HS M g cs
 box:∀ (i:Nat) (b:Ah) (e:HB),h[i]? = some b -> hb[i]? = some e -> Cr M hb b e
 own:∀ (i:Nat) (b:Ah) (e:HB),h[i]? = some b -> hb[i]? = some e -> b.owns e = true -> e.blk < M.w.heap.size /\ ¬ F e.blk
 dis:∀ (i j:Nat) (b b':Ah) (e e':HB),h[i]? = some b -> hb[i]? = some e -> h[j]? = some b' -> hb[j]? = some e' -> b.owns e = true -> b'.owns e' = true -> e.blk = e'.blk -> i = j
structure Gu (F:Nat -> Prop) (M M':Mem):Prop where
 size:M.w.heap.size <= M'.w.heap.size
 os:M'.w.os = M.w.os
 tape:M'.w.tape = M.w.tape
 out:M'.w.output = M.w.output
 le:M.Le M'
 fr:∀ b:Nat,F b -> M'.w.heap[b]? = M.w.heap[b]? /\ M'.lo b = M.lo b
theorem Gu.refl (F:Nat -> Prop) (M:Mem):Gu F M M:=⟨Nat.le_refl _,rfl,rfl,rfl,.refl M,fun _ _=>⟨rfl,rfl⟩⟩
theorem Gu.trans {F:Nat -> Prop} {M M' M'':Mem} (h:Gu F M M') (h':Gu F M' M''):Gu F M M'' :=
 ⟨Nat.le_trans h.size h'.size,h'.os.trans h.os,h'.tape.trans h.tape,h'.out.trans h.out,h.le.trans h'.le,
  fun b hb=>⟨((h'.fr b hb).1).trans (h.fr b hb).1,((h'.fr b hb).2).trans (h.fr b hb).2⟩⟩
theorem Gu.less {F F':Nat -> Prop} {M M':Mem} (h:Gu F M M') (hf:∀ b,F' b -> F b):Gu F' M M' :=
 ⟨h.size,h.os,h.tape,h.out,h.le,fun b hb=>h.fr b (hf b hb)⟩
theorem BE.mono {M M':Mem} {hb hb':List HB} {cs:List AV} {c:Array Value} (h:BE M hb cs c) (hM:M.Le M') (hh:Bf hb hb'):BE M' hb' cs c :=
 ⟨h.1,fun j x hx=>⟨(h.2 j x hx).1,((h.2 j x hx).2.mem hM).hb hh⟩⟩
theorem Br.mono {M M':Mem} {sz:Nat} {es:List AV} {c:Array Value} (h:Br M sz es c) (hM:M.Le M'):Br M' sz es c :=
 fun i x hx=>⟨(h i x hx).1,fun j y hy=>⟨((h i x hx).2 j y hy).1,((h i x hx).2 j y hy).2.mem hM⟩⟩
theorem Bv.mono {M M':Mem} {hb hb':List HB} {t:Tm} {c:Array Value} (h:Bv M hb t c) (hM:M.Le M') (hh:Bf hb hb'):Bv M' hb' t c :=
 ⟨h.1,fun i=>((h.2 i).mem hM).hb hh⟩
theorem Cr.mono {M M':Mem} {hb hb':List HB} {b:Ah} {e:HB} (h:Cr M hb b e) (hM:M.Le M') (hh:Bf hb hb')
  (hs:b.owns e = true -> M'.w.heap[e.blk]? = M.w.heap[e.blk]? /\ M'.lo e.blk = M.lo e.blk):Cr M' hb' b e:=by
 have hop:b.owns e = true -> ∀ c,M.opn e.blk c -> M'.opn e.blk c:=by
  intro ho c hc;obtain ⟨ty,h1⟩:=hc;exact ⟨ty,(hs ho).1.trans h1⟩
 cases b with
 | dead=>trivial
 | cells cs =>
  obtain ⟨h1,h2,c,h3,h4⟩:=h;exact ⟨h1,(hs rfl).2.trans h2,c,hop rfl c h3,h4.mono hM hh⟩
 | row mt ver sz es =>
  obtain ⟨h1,h2,h3,h4,h5,h6⟩:=h;refine ⟨h1,h2,h3,h4,h5,fun hr=>?_⟩;obtain ⟨h7,c,h8,h9,h10⟩:=h6 hr;exact ⟨(hs hr).2.trans h7,c,hop hr c h8,h9,h10.mono hM⟩
 | loop fn t ps assign body state pending =>
  obtain ⟨h1,r,h2,h3,h4,h5⟩:=h;exact ⟨h1,r,(hs rfl).1.trans h2,h3,h4.mono hM hh,h5⟩
 | defer =>
  obtain ⟨h1,h2⟩:=h;exact ⟨h1,(hs rfl).1.trans h2⟩
 | iter Jb since seen step =>
  obtain ⟨h1,em,h2,h3,h4⟩:=h;obtain ⟨e',g1,g2,g3,g4,g5⟩:=hh Jb em h2;rw [g4 h3] at g1;exact ⟨h1,em,g1,h3,(hs rfl).1.trans h4⟩
 | siter s pos =>
  obtain ⟨h1,h2⟩:=h;exact ⟨h1,(hs rfl).1.trans h2⟩
 | map kvs bs clock =>
  obtain ⟨h1,h0,es,h2,h2',h3,hb1,hb2,hb3,h4⟩:=h;refine ⟨h1,(hs rfl).2.trans h0,es,(hs rfl).1.trans h2,h2',h3,hb1,hb2,hb3,fun i k x hx=>?_⟩;obtain ⟨m,g1,g2,g3⟩:=h4 i k x hx;exact ⟨m,g1,g2.mem hM,(g3.mem hM).hb hh⟩
def Ii (hb:List HB) (h:List Ah) (b:Nat):Prop:=∃ (i:Nat) (x:Ah) (e:HB),h[i]? = some x /\ hb[i]? = some e /\ x.owns e = true /\ e.blk = b
theorem AR.OC {F:Nat -> Prop} {M:Mem} {hb:List HB} {h:List Ah} (H:AR F M hb h) {b:Nat} (hh:Ii hb h b):b < M.w.heap.size /\ ¬ F b:=by
 obtain ⟨i,x,e,h1,h2,h3,rfl⟩:=hh;exact H.own i x e h1 h2 h3
theorem AR.frame {F:Nat -> Prop} {M M':Mem} {hb:List HB} {h:List Ah} (H:AR F M hb h) (hg:Gu (fun b=>F b \/ Ii hb h b) M M'):AR F M' hb h where
 len:=H.len
 gl:=fun g cs h=>(H.gl g cs h).mem hg.le
 box:=fun i b e h1 h2=>(H.box i b e h1 h2).mono hg.le (Bf.refl hb) (fun ho=>hg.fr _ (.inr ⟨i,b,e,h1,h2,ho,rfl⟩))
 own:=fun i b e h1 h2 h3=>⟨Nat.lt_of_lt_of_le (H.own i b e h1 h2 h3).1 hg.size,(H.own i b e h1 h2 h3).2⟩
 dis:=H.dis
inductive AD where
 | mark (id:Nat)
 | call (f:FuncId) (args caps:List AV)
def AW (M:Mem) (hb:List HB) (l:List AV) (c:Array Value):Prop:=l.length = c.size /\ ∀ (i:Nat) (x:AV),l[i]? = some x -> Al M hb x (c.getD i undef)
theorem AW.mono {M M':Mem} {hb hb':List HB} {l:List AV} {c:Array Value} (h:AW M hb l c) (hM:M.Le M') (hh:Bf hb hb'):AW M' hb' l c :=
 ⟨h.1,fun i x hx=>((h.2 i x hx).mem hM).hb hh⟩
def V4 (M:Mem) (hb:List HB):AD -> Deferred -> Prop
 | .mark id,d=>∃ e:HB,hb[id]? = some e /\ e.fix = true /\ d = { target:=.collected e.blk,args:=#[] }
 | .call f args caps,d=>∃ a c:Array Value,d = { target:=.fn (.func f) c,args:=a } /\ AW M hb args a /\ AW M hb caps c
theorem V4.mono {M M':Mem} {hb hb':List HB} {x:AD} {d:Deferred} (h:V4 M hb x d) (hM:M.Le M') (hh:Bf hb hb'):V4 M' hb' x d:=by
 cases x with
 | mark id =>
  obtain ⟨e,h1,h2,h3⟩:=h;obtain ⟨e',g1,g2,g3,g4,g5⟩:=hh id e h1;rw [g4 h2] at g1;exact ⟨e,g1,h2,h3⟩
 | call f args caps =>
  obtain ⟨a,c,h1,h2,h3⟩:=h;exact ⟨a,c,h1,h2.mono hM hh,h3.mono hM hh⟩
def Gz (M:Mem) (hb:List HB):List AD -> List Deferred -> Prop
 | [],[]=>True
 | x :: xs,d :: ds=>V4 M hb x d /\ Gz M hb xs ds
 | _,_=>False
theorem Gz.mono {M M':Mem} {hb hb':List HB} (hM:M.Le M') (hh:Bf hb hb'):∀ {xs:List AD} {ds:List Deferred},Gz M hb xs ds -> Gz M' hb' xs ds
 | [],[],_=>trivial
 | _ :: _,_ :: _,h=>⟨h.1.mono hM hh,Gz.mono hM hh h.2⟩
structure St where
 t:Tm
 h:List Ah
 d:List AD:=[]
structure BR (F:Nat -> Prop) (M:Mem) (hb:List HB) (s:St) (a:Act):Prop where
 tm:Bv M hb s.t a.tmps
 df:Gz M hb s.d a.defers
 hp:AR F M hb s.h
 ok:Cz F M
def Tm.BZ (t:Tm) (d:Option Tmp) (v:AV):Tm :=
 match d with
 | some i=>t.put i v
 | none=>t
def St.put (s:St) (d:Option Tmp) (v:AV):St:=⟨s.t.BZ d v,s.h,s.d⟩
theorem Tm.Fo (t:Tm) (d:Nat) (v:AV) (i:Nat):(t.put d v).get i = if d = i /\ d < t.n then v else t.get i:=by
 unfold Tm.put
 cases hb:Nat.blt d t.n with
 | true =>
  have hlt:d < t.n:=Nat.le_of_ble_eq_true hb;simp only [Tm.get,look,hlt,and_true]
  cases he:Nat.beq d i with
  | true=>rw [if_pos (Nat.eq_of_beq_eq_true he)]
  | false=>rw [if_neg (Nat.ne_of_beq_eq_false he)]
 | false =>
  have hlt:¬ d < t.n:=fun h=>by
   have:=Nat.ble_eq_true_of_le h;rw [Nat.blt,this] at hb; cases hb
  simp [hlt]
theorem Tm.Iz (t:Tm) (d:Nat) (v:AV):(t.put d v).n = t.n:=by
 unfold Tm.put
 cases Nat.blt d t.n <;> rfl
theorem Bv.set {M:Mem} {hb:List HB} {t:Tm} {tmps:Array Value} (h:Bv M hb t tmps) (d:Nat) {x:AV} {v:Value} (hv:Al M hb x v):Bv M hb (t.put d x) (tmps.setIfInBounds d v):=by
 refine ⟨by simp [Tm.Iz,h.1],fun i=>?_⟩;have hi:=h.2 i;rw [Tm.Fo]
 by_cases hd:d = i
 ·subst hd
  rcases Nat.lt_or_ge d t.n with hlt | hge
  ·have hlt':d < tmps.size:=h.1 ▸ hlt
   simp [hlt,Array.getD_eq_getD_getElem?,hlt'];exact hv
  ·have hge':tmps.size <= d:=h.1 ▸ hge
   simpa [Array.getD_eq_getD_getElem?,Nat.not_lt.2 hge,Nat.not_lt.2 hge'] using hi
 ·simpa [hd,Array.getD_eq_getD_getElem?,Array.getElem?_setIfInBounds_ne hd] using hi
theorem BR.put {F:Nat -> Prop} {M:Mem} {hb:List HB} {s:St} {a:Act} (h:BR F M hb s a) (d:Option Tmp) {x:AV} {v:Value} (hv:Al M hb x v):BR F M hb (s.put d x) (a.put d v):=by
 cases d with
 | none=>exact h
 | some i=>exact ⟨h.tm.set i hv,h.df,h.hp,h.ok⟩
theorem BR.move {F:Nat -> Prop} {M M':Mem} {hb hb':List HB} {s:St} {a:Act} {h':List Ah} (h:BR F M hb s a) (hM:M.Le M') (hh:Bf hb hb') (H:AR F M' hb' h') (ok:Cz F M'):BR F M' hb' { s with h:=h' } a :=
 ⟨h.tm.mono hM hh,h.df.mono hM hh,H,ok⟩
def JK (v:Value):AV:=if plain v = true then .val v else match v with | .slice none 0 0=>.sl true [] | _=>.dead
def G3 (v:Value):AV :=
 match v with
 | .agg cs=>if cs.all (fun c=>(JK c).single) then .agg (cs.toList.map JK) else .dead
 | v=>JK v
theorem LL (M:Mem) (hb:List HB) (v:Value):Al M hb (JK v) v:=by
 unfold JK
 split
 ·rename_i h; exact .val h
 ·split
  ·exact .nil
  ·exact .dead
theorem ES (M:Mem) (hb:List HB) (v:Value):Al M hb (G3 v) v:=by
 unfold G3
 split
 ·rename_i cs
  split
  ·rename_i hall
   refine .agg (by simp) (fun i c hc=>?_) (fun i c hc=>?_)
   ·simp only [List.getElem?_map,Option.map_eq_some_iff] at hc
    obtain ⟨x,hx,rfl⟩:=hc;simp only [Array.all_eq_true'] at hall;exact hall x (by have:=List.mem_of_getElem? hx; simpa using this)
   ·simp only [List.getElem?_map,Option.map_eq_some_iff] at hc
    obtain ⟨x,hx,rfl⟩:=hc;have hx':cs[i]? = some x:=by simpa using hx
    simp [Array.getD_eq_getD_getElem?,hx'];exact LL M hb x
  ·exact .dead
 ·exact LL M hb v
def St.ev (s:St):Operand -> AV
 | .tmp i=>s.t.get i
 | .const v=>G3 v
 | .global g=>match AA.get g with
  | some cs=>.cptr cs
  | none=>.dead
 | .func f=>.fn f []
theorem BR.ev {F:Nat -> Prop} {M:Mem} {hb:List HB} {s:St} {a:Act} (h:BR F M hb s a) (x:Operand):Al M hb (s.ev x) (a.eval x):=by
 cases x with
 | tmp i=>exact h.tm.2 i
 | const v=>exact ES M hb v
 | global g =>
  show Al M hb (match AA.get g with | some cs=>.cptr cs | none=>.dead) _
  cases hg:AA.get g with
  | none=>exact .dead
  | some cs=>exact (h.hp.gl g cs hg).1.pure
 | func f=>exact .fn rfl (fun i c hc=>by simp at hc)
end Go.PM

namespace Go.PM
variable [AA]
structure Ty where
 size:Nat
 bytes:Nat
 zero:Value
 und:TypeDesc
def Ty.isAgg (T:Ty):Bool:=match T.und with | .struct _ | .array _ _=>true | _=>false
def Ba (P:Program) (t:TypeId):Option Ty :=
 match P.info? t,P.underlying t with
 | some i,some u=>i.zero.map fun z=>⟨i.size,i.bytes,z,u⟩
 | _,_=>none
theorem Hy {P:Program} {t:TypeId} {T:Ty} (h:Ba P t = some T):∃ i,P.info? t = some i /\ P.underlying t = some T.und /\ i.size = T.size /\ i.bytes = T.bytes /\ i.zero = some T.zero:=by
 unfold Ba at h
 split at h
 ·rename_i i u hi hu
  obtain ⟨z,hz,rfl⟩:=Option.map_eq_some_iff.1 h;exact ⟨i,hi,hu,rfl,rfl,hz⟩
 ·cases h
section
variable {P:Program} {t:TypeId} {T:Ty} (h:Ba P t = some T) (w:World)
include h
theorem Ez:∃ i,P.info? t = some i /\ i.size = T.size /\ i.bytes = T.bytes /\ i.zero = some T.zero /\ (typeInfo t).run P w = .ok i w:=by
 obtain ⟨i,h1,h2,h3,h4,h5⟩:=Hy h;exact ⟨i,h1,h3,h4,h5,by simp [typeInfo,h1]⟩
theorem DV:(underlying t).run P w = .ok T.und w:=by
 obtain ⟨i,h1,h2,h3,h4,h5⟩:=Hy h;simp [underlying,h2]
theorem AK:(sizeOf t).run P w = .ok T.size w:=by
 obtain ⟨i,h1,h3,h4,h5,h6⟩:=Ez h w;simp [sizeOf,h6,h3]
theorem BN:(zeroValue t).run P w = .ok T.zero w:=by
 obtain ⟨i,h1,h3,h4,h5,h6⟩:=Ez h w;simp [zeroValue,h6,h5]
theorem EF:(isAgg t).run P w = .ok T.isAgg w:=by
 simp only [isAgg,Sem.run_bind,DV h,Result.andThen_ok,Ty.isAgg]
 cases T.und <;> rfl
end
def AG (P:Program) (s:TypeId) (f:Nat):Option (Nat × Ty) :=
 match P.underlying s with
 | some (.struct fields)=>match fields[f]? with
  | some fd=>(Ba P fd.type).map fun T=>(fd.offset,T)
  | none=>none
 | _=>none
theorem Ld {P:Program} {s:TypeId} {f off:Nat} {T:Ty} (h:AG P s f = some (off,T)):∃ fields fd,P.underlying s = some (.struct fields) /\ fields[f]? = some fd /\ fd.offset = off /\ Ba P fd.type = some T:=by
 unfold AG at h
 split at h
 ·rename_i fields hu
  split at h
  ·rename_i fd hf
   obtain ⟨T',hT,he⟩:=Option.map_eq_some_iff.1 h;cases he;exact ⟨fields,fd,hu,hf,rfl,hT⟩
  ·cases h
 ·cases h
def Bk (P:Program) (t:TypeId):Option (TypeId × Ty) :=
 match P.underlying t with
 | some (.slice e)=>(Ba P e).map fun T=>(e,T)
 | _=>none
theorem Be {P:Program} {t e:TypeId} {T:Ty} (h:Bk P t = some (e,T)):P.underlying t = some (.slice e) /\ Ba P e = some T:=by
 unfold Bk at h
 split at h
 ·rename_i e' hu
  obtain ⟨T',hT,he⟩:=Option.map_eq_some_iff.1 h;cases he;exact ⟨hu,hT⟩
 ·cases h
def OO (u:Option TypeDesc) (op:BinOp) (x y:Value) (K:Value -> Prop):Prop :=
 match op,x,y with
 | .shl,.int k a,.int _ b=>0 <= b /\ K (.int k (k.wrap (a * 2 ^ (min b.toNat k.bits))))
 | .shr,.int k a,.int _ b=>0 <= b /\ K (.int k (a.fdiv (2 ^ (min b.toNat k.bits))))
 | .add,.int k a,.int k' b=>k = k' /\ K (.int k (k.wrap (a + b)))
 | .sub,.int k a,.int k' b=>k = k' /\ K (.int k (k.wrap (a - b)))
 | .mul,.int k a,.int k' b=>k = k' /\ K (.int k (k.wrap (a * b)))
 | .quo,.int k a,.int k' b=>k = k' /\ b ≠ 0 /\ K (.int k (k.wrap (a.tdiv b)))
 | .rem,.int k a,.int k' b=>k = k' /\ b ≠ 0 /\ K (.int k (a.tmod b))
 | .and,.int k a,.int k' b=>k = k' /\ K (.int k (k.wrap (BitVec.ofInt k.bits a &&& BitVec.ofInt k.bits b).toNat))
 | .or,.int k a,.int k' b=>k = k' /\ K (.int k (k.wrap (BitVec.ofInt k.bits a ||| BitVec.ofInt k.bits b).toNat))
 | .xor,.int k a,.int k' b=>k = k' /\ K (.int k (k.wrap (BitVec.ofInt k.bits a ^^^ BitVec.ofInt k.bits b).toNat))
 | .eql,.int k a,.int k' b=>k = k' /\ K (.bool (a == b))
 | .neq,.int k a,.int k' b=>k = k' /\ K (.bool (a != b))
 | .lss,.int k a,.int k' b=>k = k' /\ K (.bool (a < b))
 | .leq,.int k a,.int k' b=>k = k' /\ K (.bool (a <= b))
 | .gtr,.int k a,.int k' b=>k = k' /\ K (.bool (a > b))
 | .geq,.int k a,.int k' b=>k = k' /\ K (.bool (a >= b))
 | .add,.string a,.string b=>a.size + b.size <= 9223372036854775807 /\ K (.string (a ++ b))
 | .eql,.string a,.string b=>K (.bool (a == b))
 | .neq,.string a,.string b=>K (.bool (!(a == b)))
 | .lss,.string a,.string b=>K (.bool (Op.bytesLess a.toList b.toList))
 | .eql,.bool a,.bool b=>u = some .bool /\ K (.bool (a == b))
 | .neq,.bool a,.bool b=>u = some .bool /\ K (.bool (!(a == b)))
 | _,_,_=>False
theorem run_equalIn_bool {P:Program} {t:TypeId} (hu:P.underlying t = some .bool) (d:Nat) (a b:Bool) (w:World):(Op.equalIn (d + 1) t (.bool a) (.bool b)).run P w = .ok (a == b) w:=by
 simp [Op.equalIn,underlying,hu]
theorem run_equal_bool {P:Program} {t:TypeId} (hu:P.underlying t = some .bool) (a b:Bool) (w:World):(Op.equal t (.bool a) (.bool b)).run P w = .ok (a == b) w:=run_equalIn_bool hu 9999 a b w
theorem Q2 {P:Program} {t:TypeId} {op:BinOp} {x y:Value} {K:Value -> Prop} (ox oy:Operand) (w:World) (h:OO (P.underlying t) op x y K) :
  ∃ v,K v /\ plain v = true /\ (do eqGuard op t ox oy x y; binOp op t x y:Sem Value).run P w = .ok v w:=by
 unfold OO at h
 split at h
 ·obtain ⟨h1,h2⟩:=h
  exact ⟨_,h2,rfl,by simp [eqGuard,binOp,Op.shift,Int.not_lt.2 h1]⟩
 ·obtain ⟨h1,h2⟩:=h
  exact ⟨_,h2,rfl,by simp [eqGuard,binOp,Op.shift,Int.not_lt.2 h1]⟩
 ·obtain ⟨rfl,h2⟩:=h
  exact ⟨_,h2,rfl,by simp [eqGuard,binOp,Op.intArith]⟩
 ·obtain ⟨rfl,h2⟩:=h
  exact ⟨_,h2,rfl,by simp [eqGuard,binOp,Op.intArith]⟩
 ·obtain ⟨rfl,h2⟩:=h
  exact ⟨_,h2,rfl,by simp [eqGuard,binOp,Op.intArith]⟩
 ·obtain ⟨rfl,h1,h2⟩:=h
  exact ⟨_,h2,rfl,by simp [eqGuard,binOp,Op.intDiv,h1]⟩
 ·obtain ⟨rfl,h1,h2⟩:=h
  exact ⟨_,h2,rfl,by simp [eqGuard,binOp,Op.intDiv,h1]⟩
 ·obtain ⟨rfl,h2⟩:=h
  exact ⟨_,h2,rfl,by simp [eqGuard,binOp,Op.intBits]⟩
 ·obtain ⟨rfl,h2⟩:=h
  exact ⟨_,h2,rfl,by simp [eqGuard,binOp,Op.intBits]⟩
 ·obtain ⟨rfl,h2⟩:=h
  exact ⟨_,h2,rfl,by simp [eqGuard,binOp,Op.intBits]⟩
 ·obtain ⟨rfl,h2⟩:=h
  exact ⟨_,h2,rfl,by simp [eqGuard,binOp,Op.intCmp]⟩
 ·obtain ⟨rfl,h2⟩:=h
  exact ⟨_,h2,rfl,by simp [eqGuard,binOp,Op.intCmp]⟩
 ·obtain ⟨rfl,h2⟩:=h
  exact ⟨_,h2,rfl,by simp [eqGuard,binOp,Op.intCmp]⟩
 ·obtain ⟨rfl,h2⟩:=h
  exact ⟨_,h2,rfl,by simp [eqGuard,binOp,Op.intCmp]⟩
 ·obtain ⟨rfl,h2⟩:=h
  exact ⟨_,h2,rfl,by simp [eqGuard,binOp,Op.intCmp]⟩
 ·obtain ⟨rfl,h2⟩:=h
  exact ⟨_,h2,rfl,by simp [eqGuard,binOp,Op.intCmp]⟩
 ·rename_i a b
  obtain ⟨h1,h2⟩:=h;refine ⟨_,h2,rfl,?_⟩;have:=run_string_add_sum (P:=P) w a b (by omega);simp only [eqGuard,binOp,Sem.run_bind]
  simpa using this
 ·exact ⟨_,h,rfl,by simp [eqGuard,binOp,Op.stringOp,beq_toListBytes]⟩
 ·exact ⟨_,h,rfl,by simp [eqGuard,binOp,Op.stringOp,beq_toListBytes]⟩
 ·exact ⟨_,h,rfl,by simp [eqGuard,binOp,Op.stringOp]⟩
 ·obtain ⟨hu,h2⟩:=h
  exact ⟨_,h2,rfl,by simp [eqGuard,binOp,run_equal_bool hu]⟩
 ·obtain ⟨hu,h2⟩:=h
  exact ⟨_,h2,rfl,by simp [eqGuard,binOp,run_equal_bool hu]⟩
 ·exact h.elim
end Go.PM

namespace Go.PM
variable [AA]
theorem Dy (b o n:Nat):(⟨b,o,none⟩:Addr).add n = ⟨b,o + n,none⟩:=by
 unfold Addr.add; split <;> simp_all
theorem FW {a:Addr} (h:a.spot = none) (n:Nat):a.add n = ⟨a.block,a.off + n,none⟩:=by
 cases a; simp only at h; subst h; exact Dy _ _ n
theorem I1 {a:Addr} (h:a.spot = none):a = ⟨a.block,a.off,none⟩:=by cases a; simp only at h; subst h; rfl
def View (M:Mem) (hb:List HB) (b o:Nat) (cs:List AV):Prop :=
 ∀ (j:Nat) (c:AV),cs[j]? = some c -> c.single = true /\ ∃ v,M.w.cell? ⟨b,o + j,none⟩ = some v /\ Al M hb c v
theorem View.drop {M:Mem} {hb:List HB} {b o:Nat} {cs:List AV} (h:View M hb b o cs) (n:Nat):View M hb b (o + n) (cs.drop n):=by
 intro j c hc;rw [List.getElem?_drop] at hc;have:=h (n + j) c hc
 rwa [show o + (n + j) = o + n + j by omega] at this
theorem View.take {M:Mem} {hb:List HB} {b o:Nat} {cs:List AV} (h:View M hb b o cs) (n:Nat):View M hb b o (cs.take n):=by
 intro j c hc;refine h j c ?_;rw [List.getElem?_take] at hc
 split at hc
 ·exact hc
 ·cases hc
theorem View.load {P:Program} {M:Mem} {hb:List HB} {b o:Nat} {cs:List AV} (h:View M hb b o cs) :
  ∃ vs:Array Value,vs.size = cs.length /\ (loadCells ⟨b,o,none⟩ cs.length).run P M.w = .ok vs M.w /\ ∀ (j:Nat) (c:AV),cs[j]? = some c -> c.single = true /\ Al M hb c (vs.getD j undef):=by
 have hex:∀ j:Nat,j < cs.length -> ∃ v,M.w.cell? ⟨b,o + j,none⟩ = some v /\ Al M hb cs[j]! v:=by
  intro j hj;obtain ⟨_,v,h1,h2⟩:=h j cs[j]! (by simp [hj]);exact ⟨v,h1,h2⟩
 have hr:=run_loadCells (P:=P) M.w ⟨b,o,none⟩ cs.length (fun j=>(M.w.cell? ⟨b,o + j,none⟩).getD undef) (fun j hj=>by
  obtain ⟨v,h1,_⟩:=hex j hj;rw [Dy,h1]; rfl)
 refine ⟨_,by simp,hr,fun j c hc=>?_⟩;have hj:j < cs.length:=(List.getElem?_eq_some_iff.1 hc).1;obtain ⟨h1,v,h2,h3⟩:=h j c hc;refine ⟨h1,?_⟩;simp [Array.getD_eq_getD_getElem?,hj,h2];exact h3
def Gh (T:Ty) (cs:List AV) (off:Nat) (K:AV -> Prop):Prop :=
 off + T.size <= cs.length /\ if T.isAgg = true then K (.agg ((cs.drop off).take T.size)) else T.size = 1 /\ K (cs.getD off .dead)
theorem Gn {P:Program} {M:Mem} {hb:List HB} {b o:Nat} {cs:List AV} (h:View M hb b o cs) {t:TypeId} {T:Ty} (hT:Ba P t = some T) {off:Nat} {K:AV -> Prop} (hk:Gh T cs off K) :
  ∃ x v,K x /\ (loadVar t ⟨b,o + off,none⟩).run P M.w = .ok v M.w /\ Al M hb x v:=by
 obtain ⟨hl,hk⟩:=hk
 by_cases ha:T.isAgg = true
 ·rw [if_pos ha] at hk
  obtain ⟨vs,h1,h2,h3⟩:=((h.drop off).take T.size).load (P:=P);have hlen:((cs.drop off).take T.size).length = T.size:=by simp; omega
  rw [hlen] at h1 h2;refine ⟨_,.agg vs,hk,?_,.agg (by rw [hlen,h1]) (fun i c hc=>(h3 i c hc).1) (fun i c hc=>(h3 i c hc).2)⟩;simp [loadVar,EF hT,AK hT,ha,h2]
 ·rw [if_neg ha] at hk
  obtain ⟨h1,hk⟩:=hk;have hlt:off < cs.length:=by omega
  obtain ⟨_,v,h2,h3⟩:=h off cs[off] (by simp);refine ⟨_,v,hk,?_,?_⟩
  ·simp [loadVar,EF hT,ha,h2]
  ·simpa [List.getD_eq_getElem?_getD,hlt] using h3
theorem Cq {w:World} {b:Nat} {c:Array Value} {ty:TypeId} {fr:Nat × Nat} (h:w.heap[b]? = some (.cells c ty fr)) (o:Nat):w.cell? ⟨b,o,none⟩ = c[o]?:=by
 simp [World.cell?,h]
theorem RH {M:Mem} {hb:List HB} {cs:List AV} {e:HB} (h:Cr M hb (.cells cs) e):View M hb e.blk 0 cs:=by
 obtain ⟨_,_,c,⟨ty,hc⟩,hs,hr⟩:=h;intro j x hx;have hj:j < cs.length:=(List.getElem?_eq_some_iff.1 hx).1;obtain ⟨h1,h2⟩:=hr j x hx;refine ⟨h1,c.getD j undef,?_,h2⟩;rw [Cq hc];simp [Array.getD_eq_getD_getElem?,show j < c.size by omega]
theorem UM {M:Mem} {hb:List HB} {cs:List AV} {v:Value} (h:Al M hb (.cptr cs) v):∃ a:Addr,v = .pointer (some a) /\ a.spot = none /\ View M hb a.block a.off cs:=by
 cases h with
 | @cptr _ _ a h1 h2 h3 =>
  refine ⟨a,rfl,h1,fun j c hc=>⟨(h2 j c hc).2,M.get a.block (a.off + j),?_,(h3 j c hc).pure⟩⟩;exact Mem.cell (h2 j c hc).1
theorem Ue {M:Mem} {hb:List HB} {mt:Bool} {ver sz:Nat} {es:List AV} {e:HB} (h:Cr M hb (.row mt ver sz es) e) (hr:e.real = true) {i:Nat} {x:AV} (hx:es[i]? = some x):View M hb e.blk (i * sz) x.cells:=by
 obtain ⟨_,_,_,hl,_,h6⟩:=h;obtain ⟨_,c,⟨ty,hc⟩,h9,h10⟩:=h6 hr;obtain ⟨g1,g2⟩:=h10 i x hx;intro j y hy;obtain ⟨k1,k2⟩:=g2 j y hy;refine ⟨k1,c.getD (i * sz + j) undef,?_,k2.pure⟩;have hi:i < es.length:=(List.getElem?_eq_some_iff.1 hx).1;have hj:j < sz:=by have:=(List.getElem?_eq_some_iff.1 hy).1; omega
 have hlt:i * sz + j < c.size:=by
  have h1:(i + 1) * sz <= e.lim * sz:=Nat.mul_le_mul_right _ (by omega);rw [Nat.add_mul] at h1;omega
 rw [Cq hc];simp [Array.getD_eq_getD_getElem?,hlt]
def DN (P:Program) (h:List Ah) (t:TypeId) (p:AV) (K:AV -> Prop):Prop :=
 match Ba P t with
 | none=>False
 | some T=>match p with
  | .ptr id off=>match h[id]? with
   | some (.cells cs)=>Gh T cs off K
   | _=>False
  | .eptr id ver i off=>match h[id]? with
   | some (.row _ ver' _ es)=>ver = ver' /\ i < es.length /\ Gh T (es.getD i .dead).cells off K
   | _=>False
  | .cptr cs=>Gh T cs 0 K
  | _=>False
theorem JZ {P:Program} {F:Nat -> Prop} {M:Mem} {hb:List HB} {h:List Ah} (H:AR F M hb h) {t:TypeId} {p:AV} {v:Value} (hv:Al M hb p v) {K:AV -> Prop} (hk:DN P h t p K) :
  ∃ x u,K x /\ (Instr.loadAt t v).run P M.w = .ok u M.w /\ Al M hb x u:=by
 unfold DN at hk
 cases hT:Ba P t with
 | none=>rw [hT] at hk; exact hk.elim
 | some T =>
  rw [hT] at hk;simp only at hk
  split at hk
  ·rename_i id off
   split at hk
   ·rename_i cs hh
    cases hv with
    | ptr e h1 h2 =>
     obtain ⟨x,u,k1,k2,k3⟩:=Gn (RH (H.box id _ e hh h1)) hT hk;rw [Nat.zero_add] at k2;exact ⟨x,u,k1,by simp [Instr.loadAt,Instr.sureAddr,k2],k3⟩
   ·exact hk.elim
  ·rename_i id ver i off
   split at hk
   ·rename_i mt ver' sz es hh
    obtain ⟨rfl,hi,hk⟩:=hk
    cases hv with
    | eptr e h1 h2 h3 h4 h5 =>
     have hB:=H.box id _ e hh h1;have hx:es[i]? = some (es.getD i .dead):=by simp [List.getD_eq_getElem?_getD,hi]
     obtain ⟨hre,rfl⟩:=h5 hB.2.1;obtain ⟨x,u,k1,k2,k3⟩:=Gn (Ue hB hre hx) hT hk;refine ⟨x,u,k1,?_,k3⟩;rw [show e.sz = sz from hB.2.2.1];simp [Instr.loadAt,Instr.sureAddr,k2]
   ·exact hk.elim
  ·rename_i cs
   obtain ⟨a,rfl,ha,hV⟩:=UM hv;obtain ⟨x,u,k1,k2,k3⟩:=Gn hV hT hk;refine ⟨x,u,k1,?_,k3⟩;rw [Nat.add_zero,<- I1 ha] at k2;simp [Instr.loadAt,Instr.sureAddr,k2]
  ·exact hk.elim
def CT (P:Program) (st:TypeId) (p:AV) (f:Nat) (K:AV -> Prop):Prop :=
 match AG P st f with
 | none=>False
 | some (off,T)=>T.size ≠ 0 /\ match p with
  | .ptr id o=>K (.ptr id (o + off))
  | .eptr id ver i o=>K (.eptr id ver i (o + off))
  | .cptr cs=>K (.cptr (cs.drop off))
  | _=>False
theorem G9 {P:Program} {st:TypeId} {f off:Nat} {T:Ty} (hf:AG P st f = some (off,T)) (h0:T.size ≠ 0) (a:Addr) (w:World):(Instr.fieldAt st (.pointer (some a)) f).run P w = .ok (.pointer (some (a.add off))) w:=by
 obtain ⟨fields,fd,h1,h2,h3,h4⟩:=Ld hf;simp [Instr.fieldAt,run_underlying h1,h2,Instr.sureAddr,fieldPlace,AK h4,h0,h3]
theorem JD {P:Program} {M:Mem} {hb:List HB} {st:TypeId} {p:AV} {v:Value} {f:Nat} (hv:Al M hb p v) {K:AV -> Prop} (hk:CT P st p f K) (hlive:∀ id ver i o,p = .eptr id ver i o -> ∃ e:HB,hb[id]? = some e /\ e.ver = ver) :
  ∃ x u,K x /\ (Instr.fieldAt st v f).run P M.w = .ok u M.w /\ Al M hb x u:=by
 unfold CT at hk
 split at hk
 ·exact hk.elim
 ·rename_i off T hf
  obtain ⟨h0,hk⟩:=hk
  split at hk
  ·rename_i id o
   cases hv with
   | ptr e h1 h2=>exact ⟨_,_,hk,by rw [G9 hf h0,Dy],.ptr e h1 h2⟩
  ·rename_i id ver i o
   cases hv with
   | eptr e h1 h2 h3 h4 h5 =>
    obtain ⟨e',g1,g2⟩:=hlive id ver i o rfl;rw [h1] at g1; cases g1;obtain ⟨h6,rfl⟩:=h5 g2;exact ⟨_,_,hk,by rw [G9 hf h0,Dy],.eptr e h1 h2 h3 rfl (fun _=>⟨h6,by rw [Nat.add_assoc]⟩)⟩
  ·rename_i cs
   cases hv with
   | @cptr _ _ a h1 h2 h3 =>
    refine ⟨_,_,hk,G9 hf h0 a _,?_⟩;rw [FW h1];refine .cptr rfl (fun j c hc=>?_) (fun j c hc=>?_)
    ·rw [List.getElem?_drop] at hc
     have:=h2 _ c hc
     rwa [<- Nat.add_assoc] at this
    ·rw [List.getElem?_drop] at hc
     have:=h3 _ c hc
     rwa [<- Nat.add_assoc] at this
  ·exact hk.elim
def BW (P:Program) (h:List Ah) (t:TypeId) (p i:AV) (K:AV -> Prop):Prop :=
 match i with
 | .val (.int _ n)=>match p with
  | .sl _ es=>match Bk P t with
   | some (_,T)=>0 <= n /\ n < es.length /\ (es.getD n.toNat .dead).cells.length = T.size /\ K (.cptr (es.getD n.toNat .dead).cells)
   | none=>False
  | .hsl id ver off len=>match Bk P t,h[id]? with
   | some (_,T),some (.row _ ver' sz es)=>ver = ver' /\ sz = T.size /\ 0 <= n /\ n < len /\ off + len <= es.length /\ K (.eptr id ver (off + n.toNat) 0)
   | _,_=>False
  | .ptr id o=>match P.underlying t with
   | some (.array len e)=>match Ba P e with
    | some T=>0 <= n /\ n < len /\ K (.ptr id (o + n.toNat * T.size))
    | none=>False
   | _=>False
  | .cptr cs=>match P.underlying t with
   | some (.array len e)=>match Ba P e with
    | some T=>0 <= n /\ n < len /\ K (.cptr (cs.drop (n.toNat * T.size)))
    | none=>False
   | _=>False
  | _=>False
 | _=>False
theorem Jl {P:Program} {F:Nat -> Prop} {M:Mem} {hb:List HB} {h:List Ah} (H:AR F M hb h) {t:TypeId} {p i:AV} {v vi:Value} (hv:Al M hb p v) (hi:Al M hb i vi) {K:AV -> Prop} (hk:BW P h t p i K) :
  ∃ x u,K x /\ (Instr.indexAt t v vi).run P M.w = .ok u M.w /\ Al M hb x u:=by
 unfold BW at hk
 split at hk
 ·rename_i k n
  cases hi
  split at hk
  ·rename_i full es
   split at hk
   ·rename_i e T hE
    obtain ⟨hu,hT⟩:=Be hE;obtain ⟨h0,h1,h2,hk⟩:=hk
    cases hv with
    | nil=>simp at h1; omega
    | @sl _ _ _ a cap sz g1 g2 g3 g4 g5 g6 =>
     have hlt:n.toNat < es.length:=by omega
     have hx:es[n.toNat]? = some (es.getD n.toNat .dead):=by simp [List.getD_eq_getElem?_getD,hlt]
     have hsz:sz = T.size:=by rw [<- h2]; exact (g4 _ (List.mem_of_getElem? hx)).symm
     subst hsz;refine ⟨_,_,hk,by simp [Instr.indexAt,run_underlying hu,asIntOf,h0,h1,AK hT]; rfl,?_⟩;rw [FW (g1.resolve_right (by omega))];exact .cptr rfl (fun j c hc=>g5 _ _ j c hx hc) (fun j c hc=>g6 _ _ j c hx hc)
   ·exact hk.elim
  ·rename_i id ver off len
   split at hk
   ·rename_i e T mt ver' sz es hE hh
    obtain ⟨hu,hT⟩:=Be hE;obtain ⟨rfl,rfl,h0,h1,h2,hk⟩:=hk
    cases hv with
    | hsl eb q1 q2 q3 q4 q5 =>
     have hB:=H.box id _ eb hh q1;obtain ⟨A,cap,rfl,r2,r3⟩:=q5 hB.2.1;have hcap:cap ≠ 0:=by omega
     obtain ⟨r4,rfl,r5⟩:=r3.resolve_left hcap;refine ⟨_,_,hk,by simp [Instr.indexAt,run_underlying hu,asIntOf,h0,h1,AK hT]; rfl,?_⟩;rw [Dy];refine .eptr eb q1 q2 q3 rfl (fun _=>⟨r4,?_⟩);have hsz:eb.sz = T.size:=hB.2.2.1;rw [<- hsz,Nat.add_zero,<- Nat.add_mul]
   ·exact hk.elim
  ·rename_i id o
   split at hk
   ·rename_i len e hu
    split at hk
    ·rename_i T hT
     obtain ⟨h0,h1,hk⟩:=hk
     cases hv with
     | ptr eb q1 q2 =>
      exact ⟨_,_,hk,by simp [Instr.indexAt,run_underlying hu,asIntOf,Instr.sureAddr,h0,h1,AK hT]; rfl,by rw [Dy]; exact .ptr eb q1 q2⟩
    ·exact hk.elim
   ·exact hk.elim
  ·rename_i cs
   split at hk
   ·rename_i len e hu
    split at hk
    ·rename_i T hT
     obtain ⟨h0,h1,hk⟩:=hk
     cases hv with
     | @cptr _ _ a q1 q2 q3 =>
      refine ⟨_,_,hk,by simp [Instr.indexAt,run_underlying hu,asIntOf,Instr.sureAddr,h0,h1,AK hT]; rfl,?_⟩;rw [FW q1];refine .cptr rfl (fun j c hc=>?_) (fun j c hc=>?_)
      ·rw [List.getElem?_drop] at hc
       have:=q2 _ c hc
       rwa [<- Nat.add_assoc] at this
      ·rw [List.getElem?_drop] at hc
       have:=q3 _ c hc
       rwa [<- Nat.add_assoc] at this
    ·exact hk.elim
   ·exact hk.elim
  ·exact hk.elim
 ·exact hk.elim
def Xt (s:ByteArray) (n:Int):Int:=((s.data.toList.getD n.toNat 0).toNat:Int)
def F6 (P:Program) (t:TypeId) (p i:AV) (K:AV -> Prop):Prop :=
 match i with
 | .val (.int _ n)=>match p with
  | .val (.string s)=>P.underlying t = some .string /\ 0 <= n /\ n < s.size /\ K (.val (.int .u8 (Xt s n)))
  | .agg cs=>match P.underlying t with
   | some (.array len e)=>match Ba P e with
    | some T=>0 <= n /\ n < len /\ n.toNat * T.size + T.size <= cs.length /\ (if T.isAgg = true then K (.agg ((cs.drop (n.toNat * T.size)).take T.size)) else T.size = 1 /\ K (cs.getD (n.toNat * T.size) .dead))
    | none=>False
   | _=>False
  | _=>False
 | _=>False
theorem L5 {P:Program} {M:Mem} {hb:List HB} {cs:List AV} {vs:Array Value} (h:Al M hb (.agg cs) (.agg vs)) {t:TypeId} {T:Ty} (hT:Ba P t = some T) {off:Nat} {K:AV -> Prop}
  (hl:off + T.size <= cs.length) (hk:if T.isAgg = true then K (.agg ((cs.drop off).take T.size)) else T.size = 1 /\ K (cs.getD off .dead)) (w:World) :
  ∃ x u,K x /\ (part t vs off).run P w = .ok u w /\ Al M hb x u:=by
 cases h with
 | agg h1 h2 h3 =>
  by_cases ha:T.isAgg = true
  ·rw [if_pos ha] at hk
   refine ⟨_,.agg (vs.extract off (off + T.size)),hk,by simp [part,EF hT,AK hT,ha],.agg (by simp; omega) (fun i c hc=>?_) (fun i c hc=>?_)⟩
   ·rw [List.getElem?_take] at hc
    split at hc
    ·rw [List.getElem?_drop] at hc
     exact h2 _ c hc
    ·cases hc
   ·rw [List.getElem?_take] at hc
    split at hc
    ·rename_i hi
     rw [List.getElem?_drop] at hc;have:=h3 _ c hc;have hlt:off + i < vs.size:=by have:=(List.getElem?_eq_some_iff.1 hc).1; omega
     simpa [Array.getD_eq_getD_getElem?,Array.getElem?_extract,hlt,hi,show i < min (off + T.size) vs.size - off by omega] using this
    ·cases hc
  ·rw [if_neg ha] at hk
   have hlt:off < cs.length:=by omega
   have hlt':off < vs.size:=by omega
   refine ⟨_,vs.getD off undef,hk.2,?_,?_⟩
   ·simp [part,EF hT,ha,Array.getD_eq_getD_getElem?,hlt']
   ·have:=h3 off (cs.getD off .dead) (by simp [List.getD_eq_getElem?_getD,hlt])
    exact this
theorem Oh {P:Program} {M:Mem} {hb:List HB} {t:TypeId} {p i:AV} {v vi:Value} (hv:Al M hb p v) (hi:Al M hb i vi) {K:AV -> Prop} (hk:F6 P t p i K) :
  ∃ x u,K x /\ (Instr.index t v vi).run P M.w = .ok u M.w /\ Al M hb x u:=by
 unfold F6 at hk
 split at hk
 ·rename_i k n
  cases hi
  split at hk
  ·rename_i s
   obtain ⟨hu,h0,h1,hk⟩:=hk;cases hv;refine ⟨_,_,hk,?_,.val rfl⟩;have hlt:n.toNat < s.size:=by omega
   have hlt':n.toNat < s.data.size:=hlt;simp [Instr.index,run_underlying hu,asIntOf,h0,ByteArray.getElem?_lt' s n.toNat hlt,Xt,List.getD_eq_getElem?_getD];rw [Array.getElem?_eq_getElem hlt'];rfl
  ·rename_i cs
   split at hk
   ·rename_i len e hu
    split at hk
    ·rename_i T hT
     obtain ⟨h0,h1,h2,hk⟩:=hk
     cases hv with
     | @agg _ _ vs g1 g2 g3 =>
      obtain ⟨x,u,k1,k2,k3⟩:=L5 (Al.agg g1 g2 g3) hT h2 hk M.w;refine ⟨x,u,k1,?_,k3⟩;simp [Instr.index,run_underlying hu,asIntOf,h0,h1,AK hT,k2]
    ·exact hk.elim
   ·exact hk.elim
  ·exact hk.elim
 ·exact hk.elim
def Ha (P:Program) (t:TypeId) (x:AV) (f:Nat) (K:AV -> Prop):Prop :=
 match x with
 | .agg cs=>match AG P t f with
  | some (off,T)=>off + T.size <= cs.length /\ (if T.isAgg = true then K (.agg ((cs.drop off).take T.size)) else T.size = 1 /\ K (cs.getD off .dead))
  | none=>False
 | _=>False
theorem Oo {P:Program} {M:Mem} {hb:List HB} {t:TypeId} {p:AV} {v:Value} (hv:Al M hb p v) {f:Nat} {K:AV -> Prop} (hk:Ha P t p f K) :
  ∃ x u,K x /\ (Instr.field t v f).run P M.w = .ok u M.w /\ Al M hb x u:=by
 unfold Ha at hk
 split at hk
 ·rename_i cs
  split at hk
  ·rename_i off T hf
   obtain ⟨fields,fd,h1,h2,h3,h4⟩:=Ld hf
   cases hv with
   | @agg _ _ vs g1 g2 g3 =>
    obtain ⟨x,u,k1,k2,k3⟩:=L5 (Al.agg g1 g2 g3) h4 hk.1 hk.2 M.w;refine ⟨x,u,k1,?_,k3⟩;simp [Instr.field,run_underlying h1,h2,asAgg,h3,k2]
  ·exact hk.elim
 ·exact hk.elim
end Go.PM

namespace Go.PM
variable [AA]
def Xn (n:Nat) (es:List AV):Prop:=∀ e:AV,e ∈ es -> e.cells.length = n
def bnd:Option AV -> Option (Option Int)
 | none=>some none
 | some (.val (.int _ n))=>some (some n)
 | _=>none
def EE (P:Program) (h:List Ah) (t:TypeId) (x:AV) (lo hi mx:Option AV) (K:AV -> Prop):Prop :=
 match bnd lo,bnd hi,bnd mx with
 | some l,some u,some m =>
  match x with
  | .sl full es=>match Bk P t with
   | some (_,T)=>Xn T.size es /\ match m,u with
    | none,_=>0 <= l.getD 0 /\ l.getD 0 <= u.getD es.length /\ u.getD es.length <= es.length /\ K (.sl (full && u.isNone) ((es.take (u.getD es.length).toNat).drop (l.getD 0).toNat))
    | some m,some u=>0 <= l.getD 0 /\ l.getD 0 <= u /\ u <= m /\ m <= es.length /\ K (.sl (u == m) ((es.take u.toNat).drop (l.getD 0).toNat))
    | _,_=>False
   | none=>False
  | .hsl id ver off len=>match Bk P t,h[id]?,m with
   | some (_,T),some (.row _ ver' sz es),none=>ver = ver' /\ sz = T.size /\ off + len <= es.length /\
     0 <= l.getD 0 /\ l.getD 0 <= u.getD len /\ u.getD len <= len /\ K (.hsl id ver (off + (l.getD 0).toNat) ((u.getD len).toNat - (l.getD 0).toNat))
   | _,_,_=>False
  | .val (.string s)=>P.underlying t = some .string /\ m = none /\ 0 <= l.getD 0 /\ l.getD 0 <= u.getD s.size /\ u.getD s.size <= s.size /\ K (.val (.string (s.extract (l.getD 0).toNat (u.getD s.size).toNat)))
  | .cptr cs=>match P.underlying t with
   | some (.array len e)=>match Ba P e with
    | some T=>l = none /\ u = none /\ m = none /\ T.isAgg = true /\ 0 < len /\ 0 < T.size /\ cs.length = len * T.size /\ K (.sl true ((List.range len).map fun i=>.agg ((cs.drop (i * T.size)).take T.size)))
    | none=>False
   | _=>False
  | _=>False
 | _,_,_=>False
theorem Ol {M:Mem} {hb:List HB} {o:Option AV} {v:Option Value} (h:match o,v with | some x,some y=>Al M hb x y | none,none=>True | _,_=>False) {b:Option Int} (hb':bnd o = some b) :
  (b = none /\ v = none) \/ ∃ k n,b = some n /\ v = some (.int k n):=by
 cases o with
 | none=>cases v with
  | none=>simp [bnd] at hb'; exact .inl ⟨hb'.symm,rfl⟩
  | some y=>exact h.elim
 | some x=>cases v with
  | none=>exact h.elim
  | some y =>
   unfold bnd at hb'
   split at hb'
   ·rename_i heq; cases heq
   ·rename_i k n heq
    cases heq;simp only at h;cases h
    cases hb'
    exact .inr ⟨k,n,rfl,rfl⟩
   ·cases hb'
theorem Hf {P:Program} (isS:Bool) (len cap:Nat) (lo hi:Option Value) (l u:Option Int) (hl:(l = none /\ lo = none) \/ ∃ k n,l = some n /\ lo = some (.int k n)) (hu:(u = none /\ hi = none) \/ ∃ k n,u = some n /\ hi = some (.int k n))
  (h0:0 <= l.getD 0) (h1:l.getD 0 <= u.getD len) (h2:u.getD len <= len) (h3:len <= cap) (w:World) :
  (Instr.sliceBounds isS len cap lo hi none).run P w = .ok ((l.getD 0).toNat,(u.getD len).toNat,cap) w:=by
 rcases hl with ⟨rfl,rfl⟩ | ⟨k,n,rfl,rfl⟩ <;> rcases hu with ⟨rfl,rfl⟩ | ⟨k',n',rfl,rfl⟩ <;> simp at h0 h1 h2 ⊢
 ·simp [Instr.sliceBounds]
 ·simp [Instr.sliceBounds,run_sliceBound w k' n' cap _ h1 (by omega)]
 ·simp [Instr.sliceBounds,run_sliceBound w k n len _ h0 h1]
 ·have:=run_sliceBound (P:=P) w k n n'.toNat .sliceB h0 (by omega)
  simp [Instr.sliceBounds,run_sliceBound w k' n' cap _ (by omega) (by omega),this]
theorem P6 {P:Program} (len cap:Nat) (lo:Option Value) (l:Option Int) (hl:(l = none /\ lo = none) \/ ∃ k n,l = some n /\ lo = some (.int k n)) (ku km:IntKind) (u m:Int)
  (h0:0 <= l.getD 0) (h1:l.getD 0 <= u) (h2:u <= m) (h3:m <= cap) (w:World) :
  (Instr.sliceBounds true len cap lo (some (.int ku u)) (some (.int km m))).run P w = .ok ((l.getD 0).toNat,u.toNat,m.toNat) w:=by
 have hm:=run_sliceBound (P:=P) w km m cap .slice3Acap (by omega) h3;have hu:=run_sliceBound (P:=P) w ku u m.toNat .slice3B (by omega) (by omega)
 rcases hl with ⟨rfl,rfl⟩ | ⟨k,n,rfl,rfl⟩ <;> simp at h0 h1 ⊢
 ·simp [Instr.sliceBounds,hm,hu]
 ·have:=run_sliceBound (P:=P) w k n u.toNat .slice3C h0 (by omega)
  simp [Instr.sliceBounds,hm,hu,this]
theorem Al.cut {M:Mem} {hb:List HB} {full:Bool} {es:List AV} {v:Value} (h:Al M hb (.sl full es) v) {s:Nat} (hu:Xn s es):∃ A cap,v = .slice A es.length cap /\ es.length <= cap /\ (full = true -> cap = es.length) /\
  ∀ (l r c:Nat) (f:Bool),l <= r -> r <= es.length -> r <= c -> c <= cap -> (f = true -> c = r) -> Al M hb (.sl f ((es.take r).drop l)) (.slice (if c = l then A else A.map (·.add (l * s))) (r - l) (c - l)):=by
 cases h with
 | nil =>
  refine ⟨none,0,rfl,Nat.le_refl _,fun _=>rfl,fun l r c f h1 h2 h3 h5 h4=>?_⟩;simp at h2;subst h2;have:l = 0:=by omega
  subst this;have hc:c = 0:=by omega
  subst hc
  simpa using Al.nil
 | @sl _ _ _ a cap sz g1 g2 g3 g4 g5 g6 =>
  refine ⟨some a,cap,rfl,g2,g3,fun l r c f h1 h2 h3 h5 h4=>?_⟩;have hlen:((es.take r).drop l).length = r - l:=by simp; omega
  have hget:∀ (i:Nat) (x:AV),((es.take r).drop l)[i]? = some x -> es[l + i]? = some x:=by
   intro i x hx;rw [List.getElem?_drop,List.getElem?_take] at hx
   split at hx
   ·exact hx
   ·cases hx
  by_cases hc:c = l
  ·rw [if_pos hc]
   have hnil:(es.take r).drop l = []:=List.eq_nil_of_length_eq_zero (by omega);have h0:r - l = 0:=by omega
   have h0':c - l = 0:=by omega
   rw [hnil,h0,h0'];exact .sl (es:=[]) (cap:=0) s (.inr rfl) (Nat.le_refl _) (fun _=>rfl) (by simp) (by simp) (by simp)
  ·rw [if_neg hc,Option.map_some,FW (g1.resolve_right (by omega))]
   rw [<- hlen];refine .sl sz (.inl rfl) (by omega) (fun hf=>by have:=h4 hf; omega) (fun e he=>g4 e (List.mem_of_mem_take (List.mem_of_mem_drop he))) (fun i e j x hi hx=>?_) (fun i e j x hi hx=>?_)
   ·have hi':=hget i e hi
    have hs:sz = s:=by rw [<- g4 e (List.mem_of_getElem? hi')]; exact hu e (List.mem_of_getElem? hi')
    have:=g5 _ e j x hi' hx;rw [hs,Nat.add_mul,<- Nat.add_assoc] at this;rw [hs];exact this
   ·have hi':=hget i e hi
    have hs:sz = s:=by rw [<- g4 e (List.mem_of_getElem? hi')]; exact hu e (List.mem_of_getElem? hi')
    have:=g6 _ e j x hi' hx;rw [hs,Nat.add_mul,<- Nat.add_assoc] at this;rw [hs];exact this
theorem OH {P:Program} {F:Nat -> Prop} {M:Mem} {hb:List HB} {h:List Ah} (H:AR F M hb h) {t:TypeId} {x:AV} {v:Value} {lo hi mx:Option AV} {vl vh vm:Option Value} (hv:Al M hb x v)
  (hl:match lo,vl with | some x,some y=>Al M hb x y | none,none=>True | _,_=>False) (hh:match hi,vh with | some x,some y=>Al M hb x y | none,none=>True | _,_=>False) (hm:match mx,vm with | some x,some y=>Al M hb x y | none,none=>True | _,_=>False)
  {K:AV -> Prop} (hk:EE P h t x lo hi mx K):∃ x u,K x /\ (Instr.sliceAt t v vl vh vm).run P M.w = .ok u M.w /\ Al M hb x u:=by
 unfold EE at hk
 split at hk
 ·rename_i l u m bl bu bm
  have hl':=Ol hl bl;have hu':=Ol hh bu;have hm':=Ol hm bm;clear hl hh hm
  split at hk
  ·rename_i full es
   split at hk
   ·rename_i e T hE
    obtain ⟨hu,hT⟩:=Be hE;have helem:P.underlying t = some (.slice (P.elem t)):=by simp [Program.elem,hu]
    have hel:P.elem t = e:=by simp [Program.elem,hu]
    obtain ⟨hun,hk⟩:=hk;obtain ⟨A,cap,rfl,hcap,hfull,hcut⟩:=hv.cut hun
    split at hk
    ·obtain ⟨h0,h1,h2,hk⟩:=hk
     rcases hm' with ⟨_,rfl⟩ | ⟨k,n,hc,_⟩
     ·refine ⟨_,_,hk,?_,hcut (l.getD 0).toNat (u.getD es.length).toNat cap (full && u.isNone) (by omega) (by omega) (by omega) (Nat.le_refl _) (fun hf=>?_)⟩
      ·rw [run_sliceAt_slice _ _ _ _ _ _ helem,run_slice_any _ _ _ _ _ helem,Hf true es.length cap vl vh l u hl' hu' h0 h1 h2 hcap]
       simp [hel,AK hT,sliced]
      ·simp only [Bool.and_eq_true] at hf
       cases u with
       | none=>simpa using hfull hf.1
       | some _=>simp at hf
     ·cases hc
    ·rename_i m u
     obtain ⟨h0,h1,h2,h3,hk⟩:=hk
     rcases hm' with ⟨hc,_⟩ | ⟨km,n,hc,rfl⟩
     ·cases hc
     ·cases hc
      rcases hu' with ⟨hc,_⟩ | ⟨ku,n',hc,rfl⟩
      ·cases hc
      ·cases hc
       refine ⟨_,_,hk,?_,hcut (l.getD 0).toNat u.toNat m.toNat (u == m) (by omega) (by omega) (by omega) (by omega) (fun hf=>?_)⟩
       ·rw [run_sliceAt_slice _ _ _ _ _ _ helem,run_slice_any _ _ _ _ _ helem,P6 es.length cap vl l hl' ku km u m h0 h1 h2 (by omega)]
        simp [hel,AK hT,sliced]
       ·simp only [beq_iff_eq] at hf; rw [hf]
    ·exact hk.elim
   ·exact hk.elim
  ·rename_i id ver off len
   split at hk
   ·rename_i e T mt ver' sz es hE hh
    obtain ⟨hu,hT⟩:=Be hE;have helem:P.underlying t = some (.slice (P.elem t)):=by simp [Program.elem,hu]
    have hel:P.elem t = e:=by simp [Program.elem,hu]
    obtain ⟨rfl,rfl,h3,h0,h1,h2,hk⟩:=hk
    cases hv with
    | hsl eb q1 q2 q3 q4 q5 =>
     have hB:=H.box id _ eb hh q1;obtain ⟨A,cap,rfl,r2,r3⟩:=q5 hB.2.1
     rcases hm' with ⟨_,rfl⟩ | ⟨k,n,hc,_⟩
     ·refine ⟨_,sliced A (l.getD 0).toNat (u.getD len).toNat cap T.size,hk,?_,.hsl eb q1 q2 q3 rfl (fun _=>?_)⟩
      ·rw [run_sliceAt_slice _ _ _ _ _ _ helem,run_slice_any _ _ _ _ _ helem,Hf true len cap vl vh l u hl' hu' h0 h1 h2 r2]
       simp [hel,AK hT]
      ·refine ⟨_,_,rfl,by omega,?_⟩
       by_cases hc:cap - (l.getD 0).toNat = 0
       ·exact .inl hc
       ·right
        obtain ⟨r4,rfl,r5⟩:=r3.resolve_left (by omega);have hsz:eb.sz = T.size:=hB.2.2.1;refine ⟨r4,?_,by omega⟩;rw [if_neg (by omega),Option.map_some,Dy,hsz,Nat.add_mul]
     ·cases hc
   ·exact hk.elim
  ·rename_i s
   obtain ⟨hu,rfl,h0,h1,h2,hk⟩:=hk;cases hv
   rcases hm' with ⟨_,rfl⟩ | ⟨k,n,hc,_⟩
   ·refine ⟨_,_,hk,?_,.val rfl⟩
    rw [run_sliceAt_string _ _ _ _ _ _ hu];have:=Hf (P:=P) false s.size s.size vl vh l u hl' hu' h0 h1 h2 (Nat.le_refl _) M.w;simp [Instr.slice,run_underlying hu,this]
   ·cases hc
  ·rename_i cs
   split at hk
   ·rename_i len e hu
    split at hk
    ·rename_i T hT
     obtain ⟨rfl,rfl,rfl,hagg,h0,h1,h2,hk⟩:=hk
     cases hv with
     | @cptr _ _ a q1 q2 q3 =>
      have el:vl = none:=by rcases hl' with ⟨_,h⟩ | ⟨k,n,h,_⟩ <;> first | exact h | cases h
      have eu:vh = none:=by rcases hu' with ⟨_,h⟩ | ⟨k,n,h,_⟩ <;> first | exact h | cases h
      have em:vm = none:=by rcases hm' with ⟨_,h⟩ | ⟨k,n,h,_⟩ <;> first | exact h | cases h
      subst el eu em;have hlen:((List.range len).map fun i=>AV.agg ((cs.drop (i * T.size)).take T.size)).length = len:=by simp
      have hget:∀ (i:Nat) (x:AV),((List.range len).map fun i=>AV.agg ((cs.drop (i * T.size)).take T.size))[i]? = some x -> i < len /\ x = .agg ((cs.drop (i * T.size)).take T.size):=by
       intro i x hx;rw [List.getElem?_map] at hx;obtain ⟨j,hj,hjx⟩:=Option.map_eq_some_iff.1 hx;obtain ⟨hj1,hj2⟩:=List.getElem?_eq_some_iff.1 hj;simp at hj1 hj2;subst hj2;exact ⟨hj1,hjx.symm⟩
      have hfit:∀ i,i < len -> i * T.size + T.size <= cs.length:=by
       intro i hi;rw [h2];have:(i + 1) * T.size <= len * T.size:=Nat.mul_le_mul_right _ hi
       rwa [Nat.add_mul,Nat.one_mul] at this
      have hcell:∀ (i j:Nat) (c:AV),i < len -> ((cs.drop (i * T.size)).take T.size)[j]? = some c -> cs[i * T.size + j]? = some c:=by
       intro i j c _ hc;rw [List.getElem?_take] at hc
       split at hc
       ·rwa [List.getElem?_drop] at hc
       ·cases hc
      refine ⟨_,.slice (some a) len len,hk,?_,?_⟩
      ·have ha:a.add 0 = a:=by rw [FW q1,Nat.add_zero,<- I1 q1]
       simp [Instr.sliceAt,run_underlying hu,Instr.sureAddr,Instr.sliceBounds,AK hT,ha]
      ·have:=Al.sl (M:=M) (hb:=hb) (full:=true) (es:=(List.range len).map fun i=>AV.agg ((cs.drop (i * T.size)).take T.size)) (a:=a) (cap:=len) T.size (.inl q1) (by rw [hlen]; exact Nat.le_refl _) (fun _=>hlen.symm)
        (fun x hx=>by
         obtain ⟨i,hi⟩:=List.getElem?_of_mem hx;obtain ⟨h5,rfl⟩:=hget i x hi;have:=hfit i h5;simp [AV.cells];omega)
        (fun i x j c hi hx=>by
         obtain ⟨h5,rfl⟩:=hget i x hi;have:=q2 _ c (hcell i j c h5 hx)
         rwa [<- Nat.add_assoc] at this)
        (fun i x j c hi hx=>by
         obtain ⟨h5,rfl⟩:=hget i x hi;have:=q3 _ c (hcell i j c h5 hx)
         rwa [<- Nat.add_assoc] at this)
       rwa [hlen] at this
    ·exact hk.elim
   ·exact hk.elim
  ·exact hk.elim
 ·exact hk.elim
def Bn:Operand -> Bool
 | .const (.slice none 0 0) | .const (.pointer none) | .const .nilFunc | .const .nilIface=>true
 | _=>false
def F1 (P:Program) (t:TypeId) (x:AV) (z:Value) (K:Bool -> Prop):Prop :=
 match x,P.underlying t,z with
 | .sl _ es,some (.slice _),.slice none 0 0=>∀ b:Bool,(es ≠ [] -> b = false) -> K b
 | .ptr _ _,some (.pointer _),.pointer none=>K false
 | .cptr _,some (.pointer _),.pointer none=>K false
 | .val (.pointer none),some (.pointer _),.pointer none=>K true
 | .fn _ _,some (.func _ _ _),.nilFunc=>K false
 | .yld _,some (.func _ _ _),.nilFunc=>K false
 | .val .nilFunc,some (.func _ _ _),.nilFunc=>K true
 | .iface _ _,some (.interface _),.nilIface=>K false
 | .val .nilIface,some (.interface _),.nilIface=>K true
 | _,_,_=>False
section
variable {P:Program} {t:TypeId} (d:Nat) (w:World)
theorem Lv {e:TypeId} (hu:P.underlying t = some (.slice e)) (a:Option Addr) (l c:Nat):(Op.equalIn (d + 1) t (.slice a l c) (.slice none 0 0)).run P w = .ok a.isNone w:=by cases a <;> simp [Op.equalIn,run_underlying hu]
theorem LI {e:TypeId} (hu:P.underlying t = some (.pointer e)) (a:Option Addr):(Op.equalIn (d + 1) t (.pointer a) (.pointer none)).run P w = .ok a.isNone w:=by cases a <;> simp [Op.equalIn,run_underlying hu]
theorem Ns {ps rs:Array TypeId} {vr:Bool} (hu:P.underlying t = some (.func ps rs vr)) (f:Fn) (a b:Array Value):(Op.equalIn (d + 1) t (.func f a b) .nilFunc).run P w = .ok false w:=by simp [Op.equalIn,run_underlying hu]
theorem OE {ps rs:Array TypeId} {vr:Bool} (hu:P.underlying t = some (.func ps rs vr)):(Op.equalIn (d + 1) t .nilFunc .nilFunc).run P w = .ok true w:=by simp [Op.equalIn,run_underlying hu]
theorem Rj {ms:Array (String × TypeId)} (hu:P.underlying t = some (.interface ms)) (u:TypeId) (x:Value):(Op.equalIn (d + 1) t (.iface u x) .nilIface).run P w = .ok false w:=by simp [Op.equalIn,run_underlying hu]
theorem MC {ms:Array (String × TypeId)} (hu:P.underlying t = some (.interface ms)):(Op.equalIn (d + 1) t .nilIface .nilIface).run P w = .ok true w:=by simp [Op.equalIn,run_underlying hu]
end
theorem Mb {P:Program} {M:Mem} {hb:List HB} {t:TypeId} {x:AV} {v z:Value} (hv:Al M hb x v) {K:Bool -> Prop} (hk:F1 P t x z K):∃ b,K b /\ (∀ w:World,(Op.equal t v z).run P w = .ok b w):=by
 unfold F1 at hk
 split at hk
 ·rename_i full es e hu
  cases hv with
  | nil=>exact ⟨true,hk true (by simp),fun w=>Lv 9999 w hu none 0 0⟩
  | sl=>exact ⟨_,hk _ (fun _=>rfl),fun w=>Lv 9999 w hu (some _) _ _⟩
 ·rename_i id off e hu
  cases hv;exact ⟨false,hk,fun w=>LI 9999 w hu (some _)⟩
 ·rename_i cs e hu
  cases hv;exact ⟨false,hk,fun w=>LI 9999 w hu (some _)⟩
 ·rename_i e hu
  cases hv;exact ⟨true,hk,fun w=>LI 9999 w hu none⟩
 ·rename_i f caps ps rs vr hu
  cases hv;exact ⟨false,hk,fun w=>Ns 9999 w hu _ _ _⟩
 ·rename_i id ps rs vr hu
  cases hv;exact ⟨false,hk,fun w=>Ns 9999 w hu _ _ _⟩
 ·rename_i ps rs vr hu
  cases hv;exact ⟨true,hk,fun w=>OE 9999 w hu⟩
 ·rename_i t' x' ms hu
  cases hv;exact ⟨false,hk,fun w=>Rj 9999 w hu _ _⟩
 ·rename_i ms hu
  cases hv;exact ⟨true,hk,fun w=>MC 9999 w hu⟩
 ·exact hk.elim
end Go.PM

namespace Go.PM
variable [AA]
theorem Sx {vs:Array Value} (h:1 = vs.size):∃ v0,vs = #[v0]:=by
 obtain ⟨l⟩:=vs;obtain ⟨a,rfl⟩:=List.length_eq_one_iff.1 h.symm;exact ⟨a,rfl⟩
theorem aal {vs:Array Value} (h:2 = vs.size):∃ v0 v1,vs = #[v0,v1]:=by
 obtain ⟨l⟩:=vs
 match l,h with
 | [a,b],_=>exact ⟨a,b,rfl⟩
theorem KX {ts:Array TypeId} {t:TypeId} (h:ts.toList = [t]):ts = #[t]:=by cases ts; simp at h; simp [h]
theorem Al.WY {M:Mem} {hb:List HB} {full:Bool} {es:List AV} {v:Value} (h:Al M hb (.sl full es) v):(v = .slice none 0 0 /\ es = []) \/
  ∃ (a:Addr) (cap sz:Nat),v = .slice (some a) es.length cap /\ (a.spot = none \/ cap = 0) /\ es.length <= cap /\ (full = true -> cap = es.length) /\ (∀ e:AV,e ∈ es -> e.cells.length = sz) /\
   (∀ (i:Nat) (e:AV),es[i]? = some e -> View M [] a.block (a.off + i * sz) e.cells) /\ (∀ (i:Nat) (e:AV) (j:Nat) (c:AV),es[i]? = some e -> e.cells[j]? = some c -> M.QM a.block (a.off + i * sz + j)):=by
 cases h with
 | nil=>exact .inl ⟨rfl,rfl⟩
 | @sl _ _ _ a cap sz g1 g2 g3 g4 g5 g6 =>
  refine .inr ⟨a,cap,sz,rfl,g1,g2,g3,g4,fun i e he j c hc=>⟨(g5 i e j c he hc).2,_,?_,g6 i e j c he hc⟩,fun i e j c he hc=>(g5 i e j c he hc).1⟩;exact Mem.cell (g5 i e j c he hc).1
def isByte:AV -> Bool
 | .val (.int .u8 _)=>true
 | _=>false
def S1:AV -> UInt8
 | .val (.int .u8 n)=>UInt8.ofNat n.toNat
 | _=>0
def strOf (es:List AV):ByteArray:=⟨(es.map S1).toArray⟩
def Gw (P:Program) (src dst:TypeId) (x:AV) (K:AV -> Prop):Prop :=
 match P.underlying src,P.underlying dst,x with
 | some _,some (.int k),.val (.int _ n)=>K (.val (.int k (k.wrap n)))
 | some .string,some .string,.val (.string s)=>K (.val (.string s))
 | some (.slice e),some .string,.sl _ es=>P.underlying e = some (.int .u8) /\ (∀ c:AV,c ∈ es -> isByte c = true) /\ K (.val (.string (strOf es)))
 | _,_,_=>False
def FN (P:Program) (src dst:TypeId) (x:AV) (K:AV -> Prop):Prop :=
 match P.underlying src,P.underlying dst,x with
 | some .string,some (.slice e),.val (.string s)=>P.underlying e = some (.int .u8) /\ K (.sl false (s.data.toList.map fun b=>.val (.int .u8 (b.toNat:Int))))
 | _,_,_=>Gw P src dst x K
theorem QE {P:Program} {src dst:TypeId} {x:AV} {K:AV -> Prop} (hk:Gw P src dst x K):FN P src dst x K:=by
 unfold FN
 split
 ·rename_i e s h1 h2
  unfold Gw at hk;rw [h1,h2] at hk;exact hk.elim
 ·exact hk
theorem Nr {P:Program} {src dst:TypeId} {x:AV} {K:AV -> Prop} (hd:∀ K,Gw P src dst x K -> ∃ v,K v /\ ∀ K':AV -> Prop,K' v -> Gw P src dst x K') (hk:FN P src dst x K):∃ v,K v /\ ∀ K':AV -> Prop,K' v -> FN P src dst x K':=by
 unfold FN at *
 split at hk
 ·exact ⟨_,hk.2,fun K' hK=>⟨hk.1,hK⟩⟩
 ·exact hd K hk
theorem QC (ns:List Int):ns.foldl (fun r n=>r.push (UInt8.ofNat n.toNat)) ByteArray.empty = ⟨(ns.map fun n=>UInt8.ofNat n.toNat).toArray⟩:=by
 have key:∀ (ns:List Int) (l:List UInt8),ns.foldl (fun r n=>r.push (UInt8.ofNat n.toNat)) (ByteArray.mk l.toArray) = ⟨(l ++ ns.map fun n=>UInt8.ofNat n.toNat).toArray⟩:=by
  intro ns
  induction ns with
  | nil=>simp
  | cons n ns ih =>
   intro l;simp only [List.foldl_cons,List.map_cons];have:(ByteArray.mk l.toArray).push (UInt8.ofNat n.toNat) = ByteArray.mk (l ++ [UInt8.ofNat n.toNat]).toArray:=by
    show ByteArray.mk (l.toArray.push _) = _
    simp
   rw [this,ih];simp
 exact key ns []
theorem JR {P:Program} {M:Mem} {hb:List HB} {src dst:TypeId} {x:AV} {v:Value} (hv:Al M hb x v) {K:AV -> Prop} (hk:Gw P src dst x K) :
  ∃ x u,K x /\ (convert src dst v).run P M.w = .ok u M.w /\ Al M hb x u:=by
 unfold Gw at hk
 split at hk
 ·rename_i d k k' n hs hd
  cases hv;exact ⟨_,_,hk,by simp [convert,run_underlying hs,run_underlying hd,Conv.intToInt],.val rfl⟩
 ·rename_i s hs hd
  cases hv;exact ⟨_,_,hk,by simp [convert,run_underlying hs,run_underlying hd],.val rfl⟩
 ·rename_i e full es hs hd
  obtain ⟨he,hby,hk⟩:=hk;have hform:∃ ns:List Int,es = ns.map fun n=>.val (.int .u8 n):=by
   clear hk hv
   induction es with
   | nil=>exact ⟨[],rfl⟩
   | cons c es ih =>
    obtain ⟨ns,hns⟩:=ih (fun c hc=>hby c (List.mem_cons_of_mem _ hc));have h1:=hby c List.mem_cons_self;unfold isByte at h1
    split at h1
    ·rename_i n
     exact ⟨n :: ns,by simp [hns]⟩
    ·cases h1
  obtain ⟨ns,rfl⟩:=hform;refine ⟨_,.string (strOf _),hk,?_,.val rfl⟩;have hstr:strOf (ns.map fun n=>.val (.int .u8 n)) = ⟨(ns.map fun n=>UInt8.ofNat n.toNat).toArray⟩:=by
   simp [strOf,Function.comp_def,S1]
  rw [hstr]
  rcases hv.WY with ⟨rfl,hnil⟩ | ⟨a,cap,sz,rfl,g1,g2,g3,g4,g5,g6⟩
  ·rw [run_convert_bytes_nil M.w src e hs he 0 0 dst hd]
   have:ns = []:=by cases ns <;> simp_all
   subst this;rfl
  ·rw [run_convert_bytes_string M.w src dst e _ _ _ hs he hd]
   have hV:View M [] a.block a.off (ns.map fun n=>.val (.int .u8 n)):=by
    intro j c hc;have hsz:sz = 1:=by rw [<- g4 c (List.mem_of_getElem? hc)]; simp only [List.getElem?_map,Option.map_eq_some_iff] at hc; obtain ⟨n,_,rfl⟩:=hc; rfl
    have hcc:c.cells[0]? = some c:=by simp only [List.getElem?_map,Option.map_eq_some_iff] at hc; obtain ⟨n,_,rfl⟩:=hc; rfl
    have h5:=g5 j c hc 0 c hcc;rw [hsz] at h5
    simpa only [Nat.mul_one,Nat.add_zero] using h5
   obtain ⟨vs,q1,q2,q3⟩:=hV.load (P:=P);have hvs:vs = (ns.map (Value.int .u8)).toArray:=by
    apply Array.ext
    ·simp [q1]
    ·intro i h1 h2
     have h3:i < ns.length:=by simpa using h2
     have:=(q3 i (.val (.int .u8 ns[i])) (by simp [h3])).2;have hget:vs.getD i undef = vs[i]:=by simp [Array.getD_eq_getD_getElem?,h1]
     rw [hget] at this;generalize vs[i] = z at this
     cases this
     simp
   rw [List.length_map] at q2 ⊢
   rcases g1 with g1 | g1
   rotate_left
   ·have hn0:ns = []:=by
     have:(ns.map fun n=>AV.val (.int .u8 n)).length <= 0:=by rw [<- g1]; exact g2
     simpa using this
    subst hn0;have:=run_bytesToString (P:=P) M.w a 0 cap [] (by simp [loadCells,loadCellsFrom]);exact this
   have ha:a = ⟨a.block,a.off,none⟩:=I1 g1;rw [ha,run_bytesToString M.w _ ns.length cap ns (by rw [q2,hvs]),QC]
 ·exact hk.elim
def Fb (P:Program) (h:List Ah) (b:Builtin) (ts:List TypeId) (xs:List AV) (K:AV -> Prop):Prop :=
 match b,ts,xs with
 | .len,[t],[.val (.string s)]=>P.underlying t = some .string /\ K (.val (.int .i64 s.size))
 | .len,[t],[.sl _ es]=>(Bk P t).isSome = true /\ K (.val (.int .i64 es.length))
 | .len,[t],[.hsl id ver _ len]=>(Bk P t).isSome = true /\ (match h[id]? with | some (.row _ ver' _ _)=>ver = ver' | _=>False) /\ K (.val (.int .i64 len))
 | .len,[t],[.ptr _ _]=>match P.underlying t with
  | some (.pointer a)=>match P.underlying a with
   | some (.array n _)=>K (.val (.int .i64 n))
   | _=>False
  | some (.array n _)=>K (.val (.int .i64 n))
  | _=>False
 | .len,[t],[.agg _]=>match P.underlying t with
  | some (.array n _)=>K (.val (.int .i64 n))
  | _=>False
 | .len,[t],[.mp id]=>match P.underlying t,h[id]? with
  | some (.map _ _),some b=>isMap b /\ K (.val (.int .i64 (Jv b)))
  | _,_=>False
 | .len,[t],[.cmp kvs]=>match P.underlying t with
  | some (.map _ _)=>K (.val (.int .i64 kvs.length))
  | _=>False
 | .min,_,[.val (.int k x),.val (.int _ y)]=>K (.val (.int k (if y < x then y else x)))
 | .max,_,[.val (.int k x),.val (.int _ y)]=>K (.val (.int k (if y > x then y else x)))
 | _,_,_=>False
theorem Pw {P:Program} {F:Nat -> Prop} {M:Mem} {hb:List HB} {h:List Ah} (H:AR F M hb h) {b:Builtin} {ts:Array TypeId} {xs:List AV} {vs:Array Value} (hl:xs.length = vs.size) (hv:∀ (i:Nat) (x:AV),xs[i]? = some x -> Al M hb x (vs.getD i undef)) {K:AV -> Prop} (hk:Fb P h b ts.toList xs K) (ty:TypeId) (cs:Array Bool) :
  ∃ x u,K x /\ (builtin b ts ty cs vs).run P M.w = .ok (.value u) M.w /\ Al M hb x u:=by
 unfold Fb at hk
 split at hk
 ·rename_i t s hts
  obtain ⟨hu,hk⟩:=hk;have h0:=hv 0 _ rfl;obtain ⟨v0,rfl⟩:=Sx hl;obtain rfl:=KX hts;simp at h0;cases h0;exact ⟨_,_,hk,by simp [builtin,Builtin.len_,run_underlying hu,goInt],.val rfl⟩
 ·rename_i t full es hts
  obtain ⟨hu,hk⟩:=hk;obtain ⟨⟨e,T⟩,hE⟩:=Option.isSome_iff_exists.1 hu;obtain ⟨hu,_⟩:=Be hE;have h0:=hv 0 _ rfl;obtain ⟨v0,rfl⟩:=Sx hl;obtain rfl:=KX hts;simp at h0;have hv0:∃ A cap,v0 = .slice A es.length cap:=by cases h0 <;> exact ⟨_,_,rfl⟩
  obtain ⟨A,cap,rfl⟩:=hv0;exact ⟨_,_,hk,by simp [builtin,Builtin.len_,run_underlying hu,goInt],.val rfl⟩
 ·rename_i t id ver off len hts
  obtain ⟨hu,hver,hk⟩:=hk;obtain ⟨⟨e,T⟩,hE⟩:=Option.isSome_iff_exists.1 hu;obtain ⟨hu,_⟩:=Be hE;have h0:=hv 0 _ rfl;obtain ⟨v0,rfl⟩:=Sx hl;obtain rfl:=KX hts;simp at h0
  split at hver
  ·rename_i mt ver' sz es hh
   subst hver
   cases h0 with
   | hsl eb q1 q2 q3 q4 q5 =>
    obtain ⟨A,cap,rfl,_⟩:=q5 (H.box id _ eb hh q1).2.1;exact ⟨_,_,hk,by simp [builtin,Builtin.len_,run_underlying hu,goInt],.val rfl⟩
  ·exact hver.elim
 ·rename_i t id off hts
  have h0:=hv 0 _ rfl;obtain ⟨v0,rfl⟩:=Sx hl;obtain rfl:=KX hts;simp at h0
  split at hk
  ·rename_i a hu
   split at hk
   ·rename_i n e hu2
    cases h0;exact ⟨_,_,hk,by simp [builtin,Builtin.len_,run_underlying hu,run_underlying hu2,goInt],.val rfl⟩
   ·exact hk.elim
  ·rename_i n e hu
   exact ⟨_,_,hk,by simp [builtin,Builtin.len_,run_underlying hu,goInt],.val rfl⟩
  ·exact hk.elim
 ·rename_i t cs' hts
  have h0:=hv 0 _ rfl;obtain ⟨v0,rfl⟩:=Sx hl;obtain rfl:=KX hts
  split at hk
  ·rename_i n e hu
   exact ⟨_,_,hk,by simp [builtin,Builtin.len_,run_underlying hu,goInt],.val rfl⟩
  ·exact hk.elim
 ·rename_i t id hts
  have h0:=hv 0 _ rfl;obtain ⟨v0,rfl⟩:=Sx hl;obtain rfl:=KX hts;simp at h0
  split at hk
  ·rename_i kt et b hu hh
   obtain ⟨⟨kvs,bs,c,rfl⟩,hk⟩:=hk
   cases h0 with
   | mp e q1 q2 =>
    obtain ⟨_,_,es,h2,h3,h4,_⟩:=H.box id _ e hh q1;refine ⟨_,_,hk,by simp [builtin,Builtin.len_,run_underlying hu,goInt,getObj,Sem.run,h2]; rfl,?_⟩;simp only [Jv,<- h4];exact .val rfl
  ·exact hk.elim
 ·rename_i t kvs hts
  have h0:=hv 0 _ rfl;obtain ⟨v0,rfl⟩:=Sx hl;obtain rfl:=KX hts;simp at h0
  split at hk
  ·rename_i kt et hu
   cases h0 with
   | @cmp _ _ b es c q1 q2 q3 q4 q5 q6 =>
    refine ⟨_,_,hk,by simp [builtin,Builtin.len_,run_underlying hu,goInt,getObj,Sem.run,q2]; rfl,?_⟩;rw [<- q3];exact .val rfl
  ·exact hk.elim
 ·rename_i k x k' y
  have h0:=hv 0 _ rfl;have h1:=hv 1 _ rfl;obtain ⟨v0,v1,rfl⟩:=aal hl;simp at h0 h1
  cases h0; cases h1
  exact ⟨_,_,hk,by simp [builtin,Builtin.min_,Builtin.min2],.val rfl⟩
 ·rename_i k x k' y
  have h0:=hv 0 _ rfl;have h1:=hv 1 _ rfl;obtain ⟨v0,v1,rfl⟩:=aal hl;simp at h0 h1
  cases h0; cases h1
  exact ⟨_,_,hk,by simp [builtin,Builtin.max_,Builtin.max2],.val rfl⟩
 ·exact hk.elim
def ajj (M:Mem) (hb:List HB) (o:Option AV) (v:Option Value):Prop:=match o,v with | some x,some y=>Al M hb x y | none,none=>True | _,_=>False
theorem Gc {F:Nat -> Prop} {M:Mem} {hb:List HB} {s:St} {a:Act} (h:BR F M hb s a) (o:Option Operand):match o.map s.ev,o.map a.eval with | some x,some y=>Al M hb x y | none,none=>True | _,_=>False:=by
 cases o with
 | none=>trivial
 | some x=>exact h.ev x
def valOf:AV -> Option Value
 | .val v=>some v
 | _=>none
def Nl (P:Program) (t:TypeId) (xs:List AV):Option (List Lit):=(xs.mapM valOf).bind fun vs=>P.keyLits 20 t vs
noncomputable def S9 (a b:List Lit):Bool:=@decide (a = b) (Classical.propDecidable _)
theorem Vf {a b:List Lit}:S9 a b = true ↔ a = b:=@decide_eq_true_iff (a = b) (Classical.propDecidable _)
def Hv (P:Program) (t:TypeId):Bool:=match P.underlying t with
 | some (.struct _)=>true
 | _=>false
def GW (P:Program) (t:TypeId) (op:BinOp) (xs ys:List AV) (K:Bool -> Prop):Prop :=
 P.eqGuardType P.depth t = false /\ P.keyTypeAt 20 t = true /\ Hv P t = true /\ match Nl P t xs,Nl P t ys with
  | some a,some b=>match op with
   | .eql=>K (S9 a b)
   | .neq=>K (!S9 a b)
   | _=>False
  | _,_=>False
theorem JW {M:Mem} {hb:List HB}:∀ {xs:List AV} {us vs:List Value},xs.mapM valOf = some us -> xs.length = vs.length -> (∀ (i:Nat) (c:AV),xs[i]? = some c -> Al M hb c (vs.getD i undef)) -> vs = us
 | [],us,vs,h,hl,_=>by
  simp at h;subst h;exact List.eq_nil_of_length_eq_zero hl.symm
 | x :: xs,us,[],h,hl,_=>by simp at hl
 | x :: xs,us,v :: vs,h,hl,hr=>by
  rw [List.mapM_cons] at h;simp only [bind,Option.bind_eq_some_iff,pure,Option.some.injEq] at h;obtain ⟨u,hu,us',h',rfl⟩:=h;have h0:=hr 0 x rfl;have e0:v = u:=by
   cases x <;> simp [valOf] at hu
   subst hu;simp only [List.getD_cons_zero] at h0;cases h0;rfl
  have:=JW h' (by simpa using hl) (fun i c hc=>by have:=hr (i + 1) c (by simpa using hc); simpa using this);rw [e0,this]
theorem LM {P:Program} {t:TypeId} {M:Mem} {hb:List HB} {xs:List AV} {vs:Array Value} {a:List Lit} (hs:Hv P t = true) (h:Nl P t xs = some a) (hl:xs.length = vs.size) (hr:∀ (i:Nat) (c:AV),xs[i]? = some c -> Al M hb c (vs.getD i undef)) :
  (Value.agg vs).formed P t = true /\ P.keyLits 20 t (Value.agg vs).cells.toList = some a:=by
 unfold Nl at h;obtain ⟨us,hu,hk⟩:=Option.bind_eq_some_iff.1 h;have e:vs.toList = us:=JW hu (by simpa using hl) (fun i c hc=>by have:=hr i c hc; simpa [Array.getD_eq_getD_getElem?,List.getD_eq_getElem?_getD] using this);subst e;refine ⟨?_,hk⟩;unfold Hv at hs
 split at hs
 ·rename_i fs hf
  unfold Program.keyLits at hk;simp only [hf] at hk
  split at hk
  ·rename_i hh
   simp only [Value.formed,hf,beq_iff_eq]
   simpa using hh.1
  ·cases hk
 ·cases hs
theorem Ow {P:Program} {M:Mem} {hb:List HB} {t:TypeId} {op:BinOp} {xs ys:List AV} {u v:Value} (hu:Al M hb (.agg xs) u) (hv:Al M hb (.agg ys) v) {K:Bool -> Prop} (ox oy:Operand) (hk:GW P t op xs ys K) :
  ∃ b,K b /\ (do eqGuard op t ox oy u v; binOp op t u v:Sem Value).run P M.w = .ok (.bool b) M.w:=by
 obtain ⟨h1,h2,h3,hk⟩:=hk
 cases hu with
 | @agg _ _ us g1 g2 g3=>cases hv with
  | @agg _ _ vs k1 k2 k3 =>
   split at hk
   ·rename_i a b ha hb
    obtain ⟨fa,la⟩:=LM h3 ha g1 g3;obtain ⟨fb,lb⟩:=LM h3 hb k1 k3;obtain ⟨r,hr,hiff⟩:=run_equalIn_deep (P:=P) 9980 20 t h2 M.w 20 20 _ _ _ _ fa fb la lb;have hrd:r = S9 a b:=Bool.eq_iff_iff.2 (hiff.trans Vf.symm)
    split at hk
    ·exact ⟨_,hk,by rw [Sem.run_bind,run_eqGuard_agg M.w _ t ox oy us vs h1,Result.andThen_ok,run_eql_struct,hr,Result.andThen_ok,hrd]⟩
    ·exact ⟨_,hk,by rw [Sem.run_bind,run_eqGuard_agg M.w _ t ox oy us vs h1,Result.andThen_ok,run_neq_struct,hr,Result.andThen_ok,hrd]⟩
    ·exact hk.elim
   ·exact hk.elim
def FB (P:Program) (s:St) (op:Op) (K:AV -> Prop):Prop :=
 match op with
 | .move x | .assign x=>K (s.ev x)
 | .pick c a b=>match s.ev c with
  | .val (.bool t)=>(t = true -> K (s.ev a)) /\ (t = false -> K (s.ev b))
  | _=>False
 | .nilCheck x=>match s.ev x with
  | .ptr id o=>K (.ptr id o)
  | .cptr cs=>K (.cptr cs)
  | .fn f caps=>K (.fn f caps)
  | .yld id=>K (.yld id)
  | _=>False
 | .binOp op t x y _ =>
  if Bn y = true then match op,y with
   | .eql,.const z=>F1 P t (s.ev x) z (fun b=>K (.val (.bool b)))
   | .neq,.const z=>F1 P t (s.ev x) z (fun b=>K (.val (.bool (!b))))
   | _,_=>False
  else match s.ev x,s.ev y with
   | .val a,.val b=>OO (P.underlying t) op a b (fun v=>K (.val v))
   | .agg xs,.agg ys=>GW P t op xs ys (fun b=>K (.val (.bool b)))
   | _,_=>False
 | .unOp op _ x=>match op,s.ev x with
  | .not,.val (.bool b)=>K (.val (.bool (!b)))
  | .neg,.val (.int k n)=>K (.val (.int k (k.wrap (0 - n))))
  | _,_=>False
 | .convert src dst x=>Gw P src dst (s.ev x) K
 | .makeInterface t x=>match P.underlying t with
  | some (.interface _)=>False
  | some _=>K (.iface t (s.ev x))
  | none=>False
 | .makeFunc (.func f) first caps=>if first.isEmpty = true then K (.fn f (caps.toList.map s.ev)) else caps.isEmpty = true /\ K (.bnd f (first.toList.map s.ev))
 | .field t x f=>Ha P t (s.ev x) f K
 | .fieldAddr t x f=>(match s.ev x with | .eptr ..=>False | _=>True) /\ CT P t (s.ev x) f K
 | .index t x i=>F6 P t (s.ev x) (s.ev i) K
 | .indexAddr t x i=>BW P s.h t (s.ev x) (s.ev i) K
 | .slice t x lo hi mx=>EE P s.h t (s.ev x) (lo.map s.ev) (hi.map s.ev) (mx.map s.ev) K
 | .load t p=>DN P s.h t (s.ev p) K
 | .extract x i=>match s.ev x with
  | .tup vs=>i < vs.length /\ K (vs.getD i .dead)
  | _=>False
 | .call c=>match c.callee with
  | .builtin b=>Fb P s.h b c.argTypes.toList (c.args.toList.map s.ev) K
  | _=>False
 | _=>False
def adD (P:Program) (M:Mem) (hb:List HB) (a:Act) (o:Oper) (K:AV -> Prop):Prop :=
 ∃ x v,K x /\ (execOp a.eval o).run P M.w = .ok (.value v) M.w /\ Al M hb x v
theorem Ni {P:Program} {t:TypeId} {x:Operand} {z v:Value} (hz:Bn (.const z) = true) {b:Bool} {w:World} (hr:(Op.equal t v z).run P w = .ok b w) :
  ((do eqGuard .eql t x (.const z) v z; binOp .eql t v z:Sem Value).run P w = .ok (.bool b) w) /\ ((do eqGuard .neq t x (.const z) v z; binOp .neq t v z:Sem Value).run P w = .ok (.bool (!b)) w):=by
 have hg:∀ op,(eqGuard op t x (.const z) v z).run P w = .ok () w:=by
  intro op;unfold Bn at hz
  split at hz <;> first | (cases hz; done) | (rename_i heq; cases heq; cases op <;> cases v <;> cases x <;> rfl)
 have he:(binOp .eql t v z).run P w = .ok (.bool b) w:=by
  unfold Bn at hz
  split at hz <;> first | (cases hz; done) | (rename_i heq; cases heq; cases v <;> simp [binOp,hr])
 have hn:(binOp .neq t v z).run P w = .ok (.bool (!b)) w:=by
  unfold Bn at hz
  split at hz <;> first | (cases hz; done) | (rename_i heq; cases heq; cases v <;> simp [binOp,hr])
 exact ⟨by simp [hg,he],by simp [hg,hn]⟩
theorem MU {P:Program} {F:Nat -> Prop} {M:Mem} {hb:List HB} {s:St} {a:Act} (hs:BR F M hb s a) {o:Oper} {K:AV -> Prop} (hk:FB P s o.op K):adD P M hb a o K:=by
 unfold adD;unfold FB at hk
 split at hk
 ·rename_i x hop
  exact ⟨_,_,hk,by simp [execOp,hop],hs.ev x⟩
 ·rename_i x hop
  exact ⟨_,_,hk,by simp [execOp,hop],hs.ev x⟩
 ·rename_i c x y hop
  split at hk
  ·rename_i t hc
   have hcv:=hs.ev c;rw [hc] at hcv;generalize hcc:a.eval c = vc at hcv;cases hcv
   cases t with
   | true=>exact ⟨_,_,hk.1 rfl,by simp [execOp,hop,hcc,asBool],hs.ev x⟩
   | false=>exact ⟨_,_,hk.2 rfl,by simp [execOp,hop,hcc,asBool],hs.ev y⟩
  ·exact hk.elim
 ·rename_i x hop
  have hx:=hs.ev x
  split at hk
  ·rename_i id off hxx
   rw [hxx] at hx;generalize hv:a.eval x = v at hx;refine ⟨_,v,hk,?_,hx⟩;cases hx;simp [execOp,hop,hv]
  ·rename_i cs hxx
   rw [hxx] at hx;generalize hv:a.eval x = v at hx;refine ⟨_,v,hk,?_,hx⟩;cases hx;simp [execOp,hop,hv]
  ·rename_i f caps hxx
   rw [hxx] at hx;generalize hv:a.eval x = v at hx;refine ⟨_,v,hk,?_,hx⟩;cases hx;simp [execOp,hop,hv]
  ·rename_i id hxx
   rw [hxx] at hx;generalize hv:a.eval x = v at hx;refine ⟨_,v,hk,?_,hx⟩;cases hx;simp [execOp,hop,hv]
  ·exact hk.elim
 ·rename_i op t x y t' hop
  have hx:=hs.ev x
  split at hk
  ·rename_i hn
   split at hk
   ·rename_i z
    obtain ⟨b,k1,k2⟩:=Mb hx hk;exact ⟨_,_,k1,by simp only [execOp,hop,show a.eval (.const z) = z from rfl]; rw [Sem.run_bind,(Ni (x:=x) hn (k2 M.w)).1]; rfl,.val rfl⟩
   ·rename_i z
    obtain ⟨b,k1,k2⟩:=Mb hx hk;exact ⟨_,_,k1,by simp only [execOp,hop,show a.eval (.const z) = z from rfl]; rw [Sem.run_bind,(Ni (x:=x) hn (k2 M.w)).2]; rfl,.val rfl⟩
   ·exact hk.elim
  ·split at hk
   ·rename_i va vb hxa hyb
    rw [hxa] at hx;have hy:=hs.ev y;rw [hyb] at hy;generalize hv:a.eval x = v at hx;generalize hv':a.eval y = v' at hy
    cases hx; cases hy
    obtain ⟨r,k1,k2,k3⟩:=Q2 (P:=P) x y M.w hk;exact ⟨_,r,k1,by simp only [execOp,hop,hv,hv']; rw [Sem.run_bind,k3]; rfl,.val k2⟩
   ·rename_i xs ys hxa hyb
    rw [hxa] at hx;have hy:=hs.ev y;rw [hyb] at hy;obtain ⟨b,k1,k2⟩:=Ow hx hy x y hk;exact ⟨_,.bool b,k1,by simp only [execOp,hop]; rw [Sem.run_bind,k2]; rfl,.val rfl⟩
   ·exact hk.elim
 ·rename_i op t x hop
  have hx:=hs.ev x
  split at hk
  ·rename_i b hxx
   rw [hxx] at hx;generalize hv:a.eval x = v at hx;cases hx;exact ⟨_,_,hk,by simp [execOp,hop,hv,Op.unary],.val rfl⟩
  ·rename_i k n hxx
   rw [hxx] at hx;generalize hv:a.eval x = v at hx;cases hx;exact ⟨_,_,hk,by simp [execOp,hop,hv,Op.unary,Op.intArith],.val rfl⟩
  ·exact hk.elim
 ·rename_i src dst x hop
  obtain ⟨x',u,k1,k2,k3⟩:=JR (hs.ev x) hk;exact ⟨x',u,k1,by simp [execOp,hop,k2],k3⟩
 ·rename_i t x hop
  split at hk
  ·exact hk.elim
  ·rename_i u hne hu
   refine ⟨_,.iface t (a.eval x),hk,?_,.iface (hs.ev x)⟩;simp only [execOp,hop,Instr.makeInterface,Sem.run_bind,run_underlying hu,Result.andThen_ok]
   cases hu':u <;> first | rfl | (exact absurd (by rw [hu,hu']) (hne _))
  ·exact hk.elim
 ·rename_i f first caps hop
  split at hk
  ·rename_i hf
   obtain rfl:first = #[]:=by simpa using hf
   refine ⟨_,.func (.func f) #[] (caps.map a.eval),hk,by simp [execOp,hop,Instr.makeFunc],.fn (by simp) (fun i c hc=>?_)⟩;simp only [List.getElem?_map,Option.map_eq_some_iff] at hc;obtain ⟨x,hx,rfl⟩:=hc;have hx':caps[i]? = some x:=by simpa using hx
   simp [Array.getD_eq_getD_getElem?,hx'];exact hs.ev x
  ·obtain ⟨hc0,hk⟩:=hk
   obtain rfl:caps = #[]:=by simpa using hc0
   refine ⟨_,.func (.func f) (first.map a.eval) #[],hk,by simp [execOp,hop,Instr.makeFunc],.bnd (by simp) (fun i c hc=>?_)⟩;simp only [List.getElem?_map,Option.map_eq_some_iff] at hc;obtain ⟨x,hx,rfl⟩:=hc;have hx':first[i]? = some x:=by simpa using hx
   simp [Array.getD_eq_getD_getElem?,hx'];exact hs.ev x
 ·rename_i t x f hop
  obtain ⟨x',u,k1,k2,k3⟩:=Oo (hs.ev x) hk;exact ⟨x',u,k1,by simp [execOp,hop,k2],k3⟩
 ·rename_i t x f hop
  obtain ⟨hne,hk⟩:=hk;obtain ⟨x',u,k1,k2,k3⟩:=JD (hs.ev x) hk (fun id ver i o he=>by rw [he] at hne; exact hne.elim);exact ⟨x',u,k1,by simp [execOp,hop,k2],k3⟩
 ·rename_i t x i hop
  obtain ⟨x',u,k1,k2,k3⟩:=Oh (hs.ev x) (hs.ev i) hk;exact ⟨x',u,k1,by simp [execOp,hop,k2],k3⟩
 ·rename_i t x i hop
  obtain ⟨x',u,k1,k2,k3⟩:=Jl hs.hp (hs.ev x) (hs.ev i) hk;exact ⟨x',u,k1,by simp [execOp,hop,k2],k3⟩
 ·rename_i t x lo hi mx hop
  obtain ⟨x',u,k1,k2,k3⟩:=OH hs.hp (hs.ev x) (Gc hs lo) (Gc hs hi) (Gc hs mx) hk;exact ⟨x',u,k1,by simp [execOp,hop,k2],k3⟩
 ·rename_i t p hop
  obtain ⟨x',u,k1,k2,k3⟩:=JZ hs.hp (hs.ev p) hk;exact ⟨x',u,k1,by simp [execOp,hop,k2],k3⟩
 ·rename_i x i hop
  have hx:=hs.ev x
  split at hk
  ·rename_i vs hxx
   rw [hxx] at hx;generalize hv:a.eval x = v at hx
   cases hx with
   | @tup _ _ us g1 g2 =>
    have hlt:i < us.size:=by omega
    refine ⟨_,us.getD i undef,hk.2,?_,g2 i _ (by simp [List.getD_eq_getElem?_getD,hk.1])⟩;simp [execOp,hop,hv,Instr.extract,Array.getD_eq_getD_getElem?,hlt]
  ·exact hk.elim
 ·rename_i c hop
  split at hk
  ·rename_i b hb'
   obtain ⟨x',u,k1,k2,k3⟩:=Pw (P:=P) (vs:=c.args.map a.eval) hs.hp (by simp) (fun i x hx=>by
    simp only [List.getElem?_map,Option.map_eq_some_iff] at hx;obtain ⟨y,hy,rfl⟩:=hx;have hy':c.args[i]? = some y:=by simpa using hy
    simp [Array.getD_eq_getD_getElem?,hy'];exact hs.ev y) hk o.type (c.args.map fun | .const _=>true | _=>false)
   exact ⟨x',u,k1,by simp only [execOp,hop,resolve,hb',invoke,Sem.run_bind,Sem.run_pure,Result.andThen_ok]; exact k2,k3⟩
  ·exact hk.elim
 ·exact hk.elim
end Go.PM

namespace Go.PM
variable [AA]
structure Ch (M M':Mem):Prop where
 size:M.w.heap.size <= M'.w.heap.size
 os:M'.w.os = M.w.os
 tape:M'.w.tape = M.w.tape
 out:M'.w.output = M.w.output
 old:∀ b:Nat,b < M.w.heap.size -> M'.w.heap[b]? = M.w.heap[b]? /\ M'.lo b = M.lo b
theorem E3 {w w':World} {b:Nat} (h:w'.heap[b]? = w.heap[b]?) (o:Nat):w'.cell? ⟨b,o,none⟩ = w.cell? ⟨b,o,none⟩:=by simp [World.cell?,h]
theorem Y6 {M:Mem} {b o:Nat} (h:M.QM b o):b < M.w.heap.size:=by
 obtain ⟨_,h⟩:=h;obtain ⟨v,hv⟩:=Option.isSome_iff_exists.1 h;exact World.block_lt_of_cell? M.w ⟨b,o,none⟩ hv
theorem aa3 {M:Mem} {b:Nat} (h:M.Ma b):b < M.w.heap.size:=by
 obtain ⟨_,es,c,h⟩:=h;exact (Array.getElem?_eq_some_iff.1 h).1
theorem Zv {M:Mem} {b:Nat} (h:M.adR b):b < M.w.heap.size:=by
 obtain ⟨c,ty,l,h,_⟩:=h;exact (Array.getElem?_eq_some_iff.1 h).1
theorem Jt {M:Mem} {b:Nat} {o:Obj} (h:M.w.heap[b]? = some o) (hn:∀ es c,o ≠ .map es c):¬ M.Ma b:=fun ⟨_,es,c,h'⟩=>by
 rw [h] at h'
 cases h'
 exact hn _ _ rfl
theorem IP {M M':Mem} {b o:Nat} (h:M.QM b o) (hh:M'.w.heap[b]? = M.w.heap[b]?) (hl:M.lo b <= M'.lo b):M'.QM b o /\ M'.get b o = M.get b o:=by
 obtain ⟨h1,h2⟩:=h;exact ⟨⟨Nat.lt_of_lt_of_le h1 hl,by rw [E3 hh]; exact h2⟩,by unfold Mem.get; rw [E3 hh]⟩
theorem Ch.gu {F:Nat -> Prop} {M M':Mem} (h:Ch M M') (ok:Cz F M):Gu F M M' :=
 ⟨h.size,h.os,h.tape,h.out,⟨fun b _ hi=>IP hi (h.old b (Y6 hi)).1 (Nat.le_of_eq (h.old b (Y6 hi)).2.symm),fun b hb=>by
  have hlt:b < M.w.heap.size:=aa3 hb;exact ⟨by rw [(h.old b hlt).2]; exact hb.1,(h.old b hlt).1⟩,fun b hb=>by
  have hlt:b < M.w.heap.size:=Zv hb;exact ⟨Nat.le_of_eq (h.old b hlt).2.symm,(h.old b hlt).1⟩⟩,fun b hb=>h.old b (ok.fr b hb)⟩
theorem Ch.refl (M:Mem):Ch M M:=⟨Nat.le_refl _,rfl,rfl,rfl,fun _ _=>⟨rfl,rfl⟩⟩
theorem Ch.trans {M M' M'':Mem} (h:Ch M M') (h':Ch M' M''):Ch M M'' :=
 ⟨Nat.le_trans h.size h'.size,h'.os.trans h.os,h'.tape.trans h.tape,h'.out.trans h.out,fun b hb=>by
  have h1:=h.old b hb;have h2:=h'.old b (Nat.lt_of_lt_of_le hb h.size);exact ⟨h2.1.trans h1.1,h2.2.trans h1.2⟩⟩
def Mem.drew (M:Mem):Mem:=⟨M.w.drew,M.lo⟩
theorem Ch.drew (M:Mem):Ch M M.drew:=⟨Nat.le_refl _,rfl,rfl,rfl,fun _ _=>⟨rfl,rfl⟩⟩
theorem Cz.drew {F:Nat -> Prop} {M:Mem} (h:Cz F M):Cz F M.drew:=⟨h.top,h.fr⟩
def Mem.new (M:Mem) (o:Obj) (n:Nat):Mem:=⟨M.w.alloc o,fun b=>if b = M.w.heap.size then n else M.lo b⟩
theorem Mem.Df (M:Mem) (o:Obj) (n:Nat):(M.new o n).w.heap[M.w.heap.size]? = some o:=World.alloc_heap_new M.w o
theorem Mem.HZ (M:Mem) (o:Obj) (n:Nat):(M.new o n).lo M.w.heap.size = n:=by simp [Mem.new]
theorem Mem.aaV (M:Mem) (o:Obj) (n:Nat) {b:Nat} (h:b < M.w.heap.size):(M.new o n).w.heap[b]? = M.w.heap[b]? /\ (M.new o n).lo b = M.lo b:=by
 refine ⟨?_,by simp [Mem.new,Nat.ne_of_lt h]⟩
 show (M.w.heap.push o)[b]? = _
 rw [Array.getElem?_push,if_neg (Nat.ne_of_lt h)]
theorem Ch.new (M:Mem) (o:Obj) (n:Nat):Ch M (M.new o n):=⟨by simp [Mem.new],rfl,rfl,rfl,fun _ h=>Mem.aaV M o n h⟩
theorem Cz.new {F:Nat -> Prop} {M:Mem} (h:Cz F M) (o:Obj) (n:Nat):Cz F (M.new o n) where
 top:=fun b hb=>by
  have hb':M.w.heap.size + 1 <= b:=by simpa [Mem.new] using hb
  have:b ≠ M.w.heap.size:=by omega
  simp only [Mem.new,if_neg this];exact h.top b (by omega)
 fr:=fun b hb=>by
  have:=h.fr b hb;simp only [Mem.new,World.size_alloc];omega
theorem Mem.DT (M:Mem) (o:Obj) (n:Nat):(M.new o n).w.heap.size = M.w.heap.size + 1:=by simp [Mem.new]
theorem AR.Lw {F:Nat -> Prop} {M M':Mem} {hb:List HB} {h:List Ah} (H:AR F M hb h) (hA:Ch M M') (ok:Cz F M):AR F M' hb h where
 len:=H.len
 gl:=fun g cs h=>(H.gl g cs h).mem (hA.gu ok).le
 box:=fun i b e h1 h2=>(H.box i b e h1 h2).mono (hA.gu ok).le (Bf.refl hb) (fun ho=>hA.old _ (H.own i b e h1 h2 ho).1)
 own:=fun i b e h1 h2 h3=>⟨Nat.lt_of_lt_of_le (H.own i b e h1 h2 h3).1 hA.size,(H.own i b e h1 h2 h3).2⟩
 dis:=H.dis
theorem BA {α:Type} {l:List α} {x y:α} {i:Nat} (h:(l ++ [x])[i]? = some y):(i < l.length /\ l[i]? = some y) \/ (i = l.length /\ y = x):=by
 rcases Nat.lt_trichotomy i l.length with hi | hi | hi
 ·rw [List.getElem?_append_left hi] at h; exact .inl ⟨hi,h⟩
 ·subst hi; simp at h; exact .inr ⟨rfl,h.symm⟩
 ·rw [List.getElem?_eq_none (by simp; omega)] at h; cases h
theorem AR.push {F:Nat -> Prop} {M M':Mem} {hb:List HB} {h:List Ah} (H:AR F M hb h) (hA:Ch M M') (ok:Cz F M) (b:Ah) (e:HB) (hB:Cr M' (hb ++ [e]) b e)
  (hown:b.owns e = true -> M.w.heap.size <= e.blk /\ e.blk < M'.w.heap.size):AR F M' (hb ++ [e]) (h ++ [b]):=by
 have hlen:=H.len;refine ⟨by simp [hlen],fun g cs h=>(H.gl g cs h).mem (hA.gu ok).le,fun i x y h1 h2=>?_,fun i x y h1 h2 h3=>?_,fun i j x x' y y' h1 h2 h3 h4 h5 h6 h7=>?_⟩
 ·rcases BA h1 with ⟨g1,g2⟩ | ⟨g1,rfl⟩
  ·rcases BA h2 with ⟨k1,k2⟩ | ⟨k1,rfl⟩
   ·exact (H.box i x y g2 k2).mono (hA.gu ok).le (Bf.append hb _) (fun ho=>hA.old _ (H.own i x y g2 k2 ho).1)
   ·omega
  ·rcases BA h2 with ⟨k1,k2⟩ | ⟨k1,rfl⟩
   ·omega
   ·exact hB
 ·rcases BA h1 with ⟨g1,g2⟩ | ⟨g1,rfl⟩
  ·rcases BA h2 with ⟨k1,k2⟩ | ⟨k1,rfl⟩
   ·exact ⟨Nat.lt_of_lt_of_le (H.own i x y g2 k2 h3).1 hA.size,(H.own i x y g2 k2 h3).2⟩
   ·omega
  ·rcases BA h2 with ⟨k1,k2⟩ | ⟨k1,rfl⟩
   ·omega
   ·exact ⟨(hown h3).2,fun hf=>by have:=ok.fr _ hf; have:=(hown h3).1; omega⟩
 ·rcases BA h1 with ⟨g1,g2⟩ | ⟨g1,rfl⟩ <;> rcases BA h2 with ⟨k1,k2⟩ | ⟨k1,rfl⟩ <;> rcases BA h3 with ⟨q1,q2⟩ | ⟨q1,rfl⟩ <;> rcases BA h4 with ⟨r1,r2⟩ | ⟨r1,rfl⟩ <;> first
   | omega
   | exact H.dis i j _ _ _ _ g2 k2 q2 r2 h5 h6 h7
   | (have:=(H.own i _ _ g2 k2 h5).1; have:=(hown h6).1; omega)
   | (have:=(H.own j _ _ q2 r2 h6).1; have:=(hown h5).1; omega)
theorem AR.update {F:Nat -> Prop} {M M':Mem} {hb:List HB} {h:List Ah} (H:AR F M hb h) {id:Nat} {b b':Ah} {e e':HB} (h1:h[id]? = some b) (h2:hb[id]? = some e)
  (hle:M.Le M') (hsize:M.w.heap.size <= M'.w.heap.size) (hhb:Bf hb (hb.set id e'))
  (hoth:∀ k:Nat,k < M.w.heap.size -> (b.owns e = true -> k ≠ e.blk) -> M'.w.heap[k]? = M.w.heap[k]? /\ M'.lo k = M.lo k)
  (hB:Cr M' (hb.set id e') b' e')
  (hown:b'.owns e' = true -> (b.owns e = true /\ e'.blk = e.blk) \/ (M.w.heap.size <= e'.blk /\ e'.blk < M'.w.heap.size /\ ¬ F e'.blk)) :
  AR F M' (hb.set id e') (h.set id b'):=by
 have hi:id < h.length:=(List.getElem?_eq_some_iff.1 h1).1;have hi':id < hb.length:=(List.getElem?_eq_some_iff.1 h2).1;refine ⟨by simp [H.len],fun g cs h=>(H.gl g cs h).mem hle,fun i x y g1 g2=>?_,fun i x y g1 g2 g3=>?_,fun i j x x' y y' g1 g2 g3 g4 g5 g6 g7=>?_⟩
 ·by_cases hii:id = i
  ·subst hii
   simp [hi] at g1; simp [hi'] at g2;subst g1; subst g2;exact hB
  ·rw [List.getElem?_set_ne hii] at g1 g2
   refine (H.box i x y g1 g2).mono hle hhb (fun ho=>hoth _ (H.own i x y g1 g2 ho).1 (fun hbo heq=>hii ?_));exact (H.dis i id _ _ _ _ g1 g2 h1 h2 ho hbo heq).symm
 ·by_cases hii:id = i
  ·subst hii
   simp [hi] at g1; simp [hi'] at g2;subst g1; subst g2
   rcases hown g3 with ⟨k1,k2⟩ | ⟨k1,k2,k3⟩
   ·rw [k2]
    have:=H.own _ _ _ h1 h2 k1;exact ⟨Nat.lt_of_lt_of_le this.1 hsize,this.2⟩
   ·exact ⟨k2,k3⟩
  ·rw [List.getElem?_set_ne hii] at g1 g2
   have:=H.own i x y g1 g2 g3;exact ⟨Nat.lt_of_lt_of_le this.1 hsize,this.2⟩
 ·by_cases hii:id = i <;> by_cases hjj:id = j
  ·omega
  ·subst hii
   simp [hi] at g1; simp [hi'] at g2;subst g1; subst g2;rw [List.getElem?_set_ne hjj] at g3 g4
   rcases hown g5 with ⟨k1,k2⟩ | ⟨k1,k2,k3⟩
   ·exact H.dis id j _ _ _ _ h1 h2 g3 g4 k1 g6 (k2.symm.trans g7)
   ·have:=(H.own j _ _ g3 g4 g6).1; omega
  ·subst hjj
   simp [hi] at g3; simp [hi'] at g4;subst g3; subst g4;rw [List.getElem?_set_ne hii] at g1 g2
   rcases hown g6 with ⟨k1,k2⟩ | ⟨k1,k2,k3⟩
   ·exact H.dis i id _ _ _ _ g1 g2 h1 h2 g5 k1 (g7.trans k2)
   ·have:=(H.own i _ _ g1 g2 g5).1; omega
  ·rw [List.getElem?_set_ne hii] at g1 g2
   rw [List.getElem?_set_ne hjj] at g3 g4;exact H.dis i j _ _ _ _ g1 g2 g3 g4 g5 g6 g7
theorem Bf.set {hb:List HB} {id:Nat} {e e':HB} (h:hb[id]? = some e) (hv:e.ver <= e'.ver) (hf:e'.fix = e.fix) (h1:e.fix = true -> e' = e) (h2:e'.ver = e.ver -> e' = e):Bf hb (hb.set id e'):=by
 intro i x hx;have hi:id < hb.length:=(List.getElem?_eq_some_iff.1 h).1
 by_cases hii:id = i
 ·subst hii
  rw [h] at hx; cases hx;exact ⟨e',by simp [hi],hv,hf,h1,h2⟩
 ·exact ⟨x,by rw [List.getElem?_set_ne hii]; exact hx,Nat.le_refl _,rfl,fun _=>rfl,fun _=>rfl⟩
theorem Cp {α:Type} {l:List α} {i:Nat} {x:α} (h:l[i]? = some x):l.set i x = l:=by
 apply List.ext_getElem?;intro j
 by_cases hij:i = j
 ·subst hij
  obtain ⟨hi,rfl⟩:=List.getElem?_eq_some_iff.1 h;simp [hi]
 ·rw [List.getElem?_set_ne hij]
end Go.PM

namespace Go.PM
variable [AA]
mutual
def AV.BK:AV -> Bool
 | .val _ | .sl _ _ | .cptr _ | .cmp _=>true
 | .fn _ caps=>CB caps
 | .iface _ x=>x.BK
 | _=>false
def CB:List AV -> Bool
 | []=>true
 | x :: xs=>x.BK && CB xs
end
theorem Nt:∀ {l:List AV} {i:Nat} {x:AV},CB l = true -> l[i]? = some x -> x.BK = true:=by
 intro l
 induction l with
 | nil=>intro i x _ h; simp at h
 | cons y l ih =>
  intro i x h hx;simp only [CB,Bool.and_eq_true] at h
  cases i with
  | zero=>simp at hx; subst hx; exact h.1
  | succ i=>exact ih h.2 (by simpa using hx)
theorem Al.IY {M:Mem} {hb:List HB} {x:AV} {v:Value} (h:Al M hb x v):x.BK = true -> Al M [] x v:=by
 induction h with
 | val h=>exact fun _=>.val h
 | nil=>exact fun _=>.nil
 | sl sz h1 h2 h3 h4 h5 h6 _=>exact fun _=>.sl sz h1 h2 h3 h4 h5 h6
 | cptr h1 h2 h3 _=>exact fun _=>.cptr h1 h2 h3
 | @fn hb f caps vs h1 h2 ih =>
  intro hp;exact .fn h1 (fun i c hc=>ih i c hc (Nt (by simpa [AV.BK] using hp) hc))
 | iface h ih=>exact fun hp=>.iface (ih hp)
 | cmp h1 h2 h3 h4 h5 h6 _ _=>exact fun _=>.cmp h1 h2 h3 h4 h5 h6
 | _=>exact fun hp=>by simp [AV.BK] at hp
def Na (b:Ah):Bool:=(V7 b).all fun p=>p.2.BK
def Ef (h:List Ah) (x:AV) (K:AV -> List Ah -> Prop):Prop :=
 match x with
 | .mp id=>match h[id]? with
  | some b=>isMap b /\ Na b = true /\ K (.cmp (V7 b)) (h.set id .dead)
  | none=>False
 | .hsl id ver off len=>match h[id]? with
  | some (.row _ ver' sz es)=>ver = ver' /\ off + len <= es.length /\ K (.sl false ((es.take (off + len)).drop off)) (h.set id (.row false ver sz es))
  | _=>False
 | x=>x.BK = true /\ K x h
theorem LW {M:Mem} {sz:Nat} {es:List AV} {c:Array Value} {b:Nat} (hc:M.opn b c) (hl:es.length * sz <= c.size) (hr:Br M sz es c) :
  ∀ (i:Nat) (x:AV) (j:Nat) (y:AV),es[i]? = some x -> x.cells[j]? = some y -> i * sz + j < c.size /\ M.w.cell? ⟨b,i * sz + j,none⟩ = some (c.getD (i * sz + j) undef) /\ y.single = true /\ Al M [] y (c.getD (i * sz + j) undef):=by
 intro i x j y hx hy;obtain ⟨ty,hc⟩:=hc;obtain ⟨g1,g2⟩:=hr i x hx;obtain ⟨k1,k2⟩:=g2 j y hy;have hi:i < es.length:=(List.getElem?_eq_some_iff.1 hx).1;have hj:j < sz:=by have:=(List.getElem?_eq_some_iff.1 hy).1; omega
 have hlt:i * sz + j < c.size:=by
  have h1:(i + 1) * sz <= es.length * sz:=Nat.mul_le_mul_right _ (by omega);rw [Nat.add_mul] at h1;omega
 refine ⟨hlt,?_,k1,k2⟩;rw [Cq hc];simp [Array.getD_eq_getD_getElem?,hlt]
theorem Rq {F:Nat -> Prop} {M:Mem} {hb:List HB} {h:List Ah} (H:AR F M hb h) (ok:Cz F M) {id ver sz:Nat} {mt:Bool} {es:List AV} (hh:h[id]? = some (.row mt ver sz es)) :
  ∃ M':Mem,M'.w = M.w /\ AR F M' hb (h.set id (.row false ver sz es)) /\ Cz F M' /\ Gu F M M' /\
   ∀ e:HB,hb[id]? = some e -> e.real = true -> ∀ (i:Nat) (x:AV) (j:Nat) (y:AV),es[i]? = some x -> x.cells[j]? = some y -> M'.QM e.blk (i * sz + j) /\ y.single = true /\ Al M' [] y (M'.get e.blk (i * sz + j)):=by
 obtain ⟨e,he⟩:∃ e,hb[id]? = some e:=by
  have:id < hb.length:=by rw [H.len]; exact (List.getElem?_eq_some_iff.1 hh).1
  exact ⟨hb[id],by simp [this]⟩
 have hB:=H.box id _ e hh he
 cases hre:e.real with
 | false =>
  refine ⟨M,rfl,?_,ok,.refl F M,fun e' he' hr'=>by rw [he] at he'; cases he'; rw [hre] at hr'; cases hr'⟩;have:=H.update (b':=.row false ver sz es) (e':=e) hh he (.refl M) (Nat.le_refl _) (Bf.set he (Nat.le_refl _) rfl (fun _=>rfl) (fun _=>rfl)) (fun k _ _=>⟨rfl,rfl⟩)
   (by
    obtain ⟨h1,h2,h3,h4,h5,h6⟩:=hB;exact ⟨h1,h2,h3,h4,h5,fun hr=>by rw [hre] at hr; cases hr⟩)
   (fun ho=>by simp only [Ah.owns,hre] at ho; cases ho)
  rwa [Cp he] at this
 | true =>
  have hB':=hB;obtain ⟨h1,h2,h3,h4,h5,h6⟩:=hB';obtain ⟨h7,c,h8,h9,h10⟩:=h6 hre;have hown:=H.own id _ e hh he hre
  let M':Mem:=⟨M.w,fun b=>if b = e.blk then es.length * sz else M.lo b⟩
  have hll:∀ b,M.lo b <= M'.lo b:=fun b=>by
   show M.lo b <= if b = e.blk then es.length * sz else M.lo b
   split
   ·rename_i hbe
    subst hbe;rw [h7]
    split
    ·exact Nat.zero_le _
    ·exact Nat.le_refl _
   ·exact Nat.le_refl _
  have hle:M.Le M':=by
   refine ⟨fun b o hi=>IP (M':=M') hi rfl (hll b),fun b hb=>⟨?_,rfl⟩,fun b _=>⟨hll b,rfl⟩⟩
   ·show 0 < if b = e.blk then es.length * sz else M.lo b
    obtain ⟨ty,h8'⟩:=h8;have hne:b ≠ e.blk:=fun hbe=>Jt h8' (fun _ _ he=>by cases he) (hbe ▸ hb);rw [if_neg hne];exact hb.1
  have hMB:Br M' sz es c:=h10.mono hle;have hop:M'.opn e.blk c:=h8;have hlo:M'.lo e.blk = es.length * sz:=by show (if e.blk = e.blk then _ else _) = _; simp
  have hg:Gu F M M':=⟨Nat.le_refl _,rfl,rfl,rfl,hle,fun b hb'=>⟨rfl,by
   show (if b = e.blk then es.length * sz else M.lo b) = M.lo b
   have hne:b ≠ e.blk:=fun hbe=>hown.2 (by rw [<- hbe]; exact hb');rw [if_neg hne]⟩⟩
  refine ⟨M',rfl,?_,⟨fun b hb'=>?_,ok.fr⟩,hg,?_⟩
  ·have:=H.update (M':=M') (b':=.row false ver sz es) (e':=e) hh he hle (Nat.le_refl _) (Bf.set he (Nat.le_refl _) rfl (fun _=>rfl) (fun _=>rfl)) (fun k _ hk=>⟨rfl,by
     show (if k = e.blk then es.length * sz else M.lo k) = M.lo k
     rw [if_neg (hk hre)]⟩)
    ⟨h1,h2,h3,h4,h5,fun _=>⟨by rw [hlo]; simp,c,hop,h9,hMB⟩⟩ (fun _=>.inl ⟨hre,rfl⟩)
   rwa [Cp he] at this
  ·show (if b = e.blk then es.length * sz else M.lo b) = 0
   have hne:b ≠ e.blk:=fun hbe=>by have:=hown.1; rw [<- hbe] at this; exact absurd hb' (Nat.not_le.2 this)
   rw [if_neg hne];exact ok.top b hb'
  ·intro e' he' _ i x j y hx hy
   rw [he] at he'; cases he';have hl:es.length * sz <= c.size:=Nat.le_trans (Nat.mul_le_mul_right _ h4) h9;obtain ⟨q1,q2,q3,q4⟩:=LW hop hl hMB i x j y hx hy;have hi:i < es.length:=(List.getElem?_eq_some_iff.1 hx).1;have hj:j < sz:=by have:=(List.getElem?_eq_some_iff.1 hy).1; have:=(h10 i x hx).1; omega
   have hlt:i * sz + j < es.length * sz:=by
    have h1:(i + 1) * sz <= es.length * sz:=Nat.mul_le_mul_right _ (by omega);rw [Nat.add_mul] at h1;omega
   refine ⟨⟨by rw [hlo]; exact hlt,by rw [q2]; rfl⟩,q3,?_⟩;unfold Mem.get;rw [q2];exact q4
theorem Rk {F:Nat -> Prop} {M:Mem} {hb:List HB} {h:List Ah} (H:AR F M hb h) (ok:Cz F M) {id:Nat} {kvs:List (AV × AV)} {bs:List Nat} {c:Nat} (hh:h[id]? = some (.map kvs bs c)) (hp:Na (.map kvs bs c) = true) {e:HB} (he:hb[id]? = some e) :
  ∃ M':Mem,M'.w = M.w /\ Al M' [] (.cmp kvs) (.map (some e.blk)) /\ AR F M' hb (h.set id .dead) /\ Cz F M' /\ Gu F M M':=by
 obtain ⟨h1,h0,es,h2,h3,h4,h5,h6,h7,h8⟩:=H.box id _ e hh he;have hown:=H.own id _ e hh he rfl
 let M':Mem:=⟨M.w,fun b=>if b = e.blk then 1 else M.lo b⟩
 have hlo:M'.lo e.blk = 1:=by show (if e.blk = e.blk then 1 else _) = 1; simp
 have hoth:∀ b,b ≠ e.blk -> M'.lo b = M.lo b:=fun b hb'=>by show (if b = e.blk then 1 else M.lo b) = M.lo b; rw [if_neg hb']
 have hle:M.Le M':=by
  have hll:∀ b,M.lo b <= M'.lo b:=fun b=>by
   by_cases hbe:b = e.blk
   ·rw [hbe,h0]; exact Nat.zero_le _
   ·rw [hoth b hbe]; exact Nat.le_refl _
  refine ⟨fun b o hi=>IP (M':=M') hi rfl (hll b),fun b hb'=>⟨?_,rfl⟩,fun b _=>⟨hll b,rfl⟩⟩
  ·by_cases hbe:b = e.blk
   ·rw [hbe,hlo]; exact Nat.one_pos
   ·rw [hoth b hbe]; exact hb'.1
 refine ⟨M',rfl,?_,?_,⟨fun b hb'=>?_,ok.fr⟩,⟨Nat.le_refl _,rfl,rfl,rfl,hle,fun b hb'=>⟨rfl,hoth b (fun hbe=>hown.2 (hbe ▸ hb'))⟩⟩⟩
 ·have hent:∀ (i:Nat) (k x:AV),kvs[i]? = some (k,x) -> Al M' [] k (HI es i).key /\ Al M' [] x (HI es i).val:=by
   intro i k x hi;obtain ⟨m,g1,g2,g3⟩:=h8 i k x hi;have hm:HI es i = m:=by simp [HI,g1]
   rw [hm];refine ⟨g2.mem hle,(g3.mem hle).IY ?_⟩;have:=List.all_eq_true.1 hp (k,x) (List.mem_of_getElem? hi);exact this
  exact .cmp (by rw [hlo]; exact Nat.one_pos) h2 h4 h7 (fun i k x hi=>(hent i k x hi).1) (fun i k x hi=>(hent i k x hi).2)
 ·have:=H.update (M':=M') (b':=.dead) (e':=e) hh he hle (Nat.le_refl _) (Bf.set he (Nat.le_refl _) rfl (fun _=>rfl) (fun _=>rfl)) (fun k _ hk=>⟨rfl,hoth k (hk rfl)⟩) trivial (fun ho=>by cases ho)
  rwa [Cp he] at this
 ·have hne:b ≠ e.blk:=fun hbe=>by have:=hown.1; rw [<- hbe] at this; exact absurd hb' (Nat.not_le.2 this)
  rw [hoth b hne];exact ok.top b hb'
theorem Gd {F:Nat -> Prop} {M:Mem} {hb:List HB} {h:List Ah} (H:AR F M hb h) (ok:Cz F M) {x:AV} {v:Value} (hv:Al M hb x v) {K:AV -> List Ah -> Prop} (hk:Ef h x K) :
  ∃ (x':AV) (h':List Ah) (M':Mem),K x' h' /\ M'.w = M.w /\ Al M' [] x' v /\ AR F M' hb h' /\ Cz F M' /\ Gu F M M' /\ (x.single = true -> x'.single = true):=by
 unfold Ef at hk
 split at hk
 ·rename_i id
  split at hk
  ·rename_i b hh
   obtain ⟨⟨kvs,bs,c,rfl⟩,hp,hk⟩:=hk
   cases hv with
   | mp e q1 q2 =>
    obtain ⟨M',g1,g2,g3,g4,g5⟩:=Rk H ok hh hp q1;exact ⟨_,_,M',hk,g1,g2,g3,g4,g5,fun _=>rfl⟩
  ·exact hk.elim
 ·rename_i id ver off len
  split at hk
  ·rename_i mt ver' sz es hh
   obtain ⟨rfl,hl,hk⟩:=hk;obtain ⟨M',g1,g2,g3,g4,g5⟩:=Rq H ok hh;refine ⟨_,_,M',hk,g1,?_,g2,g3,g4,fun _=>rfl⟩
   cases hv with
   | hsl e q1 q2 q3 q4 q5 =>
    have hB:=H.box id _ e hh q1;obtain ⟨A,cap,rfl,r2,r3⟩:=q5 hB.2.1;have hlen:((es.take (off + len)).drop off).length = len:=by simp; omega
    rcases r3 with r3 | ⟨r4,rfl,r5⟩
    ·have h0:len = 0:=by omega
     subst h0;have hnil:(es.take (off + 0)).drop off = []:=List.eq_nil_of_length_eq_zero hlen;rw [hnil];subst r3
     cases A with
     | none=>exact .nil
     | some a=>exact .sl (es:=[]) (cap:=0) 0 (.inr rfl) (Nat.le_refl _) (fun _=>rfl) (by simp) (by simp) (by simp)
    ·have hget:∀ (i:Nat) (y:AV),((es.take (off + len)).drop off)[i]? = some y -> es[off + i]? = some y:=by
      intro i y hy;rw [List.getElem?_drop,List.getElem?_take] at hy
      split at hy
      ·exact hy
      ·cases hy
     have hsz:e.sz = sz:=hB.2.2.1;have helem:∀ (i:Nat) (y:AV),es[i]? = some y -> y.cells.length = sz:=by
      obtain ⟨_,_,_,_,_,h6⟩:=hB;obtain ⟨_,c,_,_,h10⟩:=h6 r4;exact fun i y hy=>(h10 i y hy).1
     have hfin:Al M' [] (.sl false ((es.take (off + len)).drop off)) (.slice (some ⟨e.blk,off * e.sz,none⟩) ((es.take (off + len)).drop off).length cap):=?_
     ·rw [hlen] at hfin; exact hfin
     refine .sl sz (.inl rfl) (by omega) (fun hf=>by cases hf) (fun y hy=>?_) (fun i y j c hy hc=>?_) (fun i y j c hy hc=>?_)
     ·obtain ⟨i,hi⟩:=List.getElem?_of_mem hy
      exact helem _ y (hget i y hi)
     ·have:=g5 e q1 r4 (off + i) y j c (hget i y hy) hc
      rw [hsz];rw [Nat.add_mul] at this;exact ⟨this.1,this.2.1⟩
     ·have:=g5 e q1 r4 (off + i) y j c (hget i y hy) hc
      rw [hsz];rw [Nat.add_mul] at this;exact this.2.2
  ·exact hk.elim
 ·exact ⟨x,h,M,hk.2,rfl,hv.IY hk.1,H,ok,.refl F M,fun h=>h⟩
def GJ:List AV -> List Ah -> (List AV -> List Ah -> Prop) -> Prop
 | [],h,K=>K [] h
 | x :: xs,h,K=>Ef h x (fun x' h'=>GJ xs h' (fun xs' h''=>K (x' :: xs') h''))
theorem Lk {F:Nat -> Prop} {hb:List HB}:∀ (xs:List AV) {M:Mem} {h:List Ah} (_:AR F M hb h) (_:Cz F M) {vs:List Value} (_:xs.length = vs.length) (_:∀ (i:Nat) (x:AV),xs[i]? = some x -> Al M hb x (vs.getD i undef)) {K:List AV -> List Ah -> Prop} (_:GJ xs h K),
  ∃ (xs':List AV) (h':List Ah) (M':Mem),K xs' h' /\ M'.w = M.w /\ xs'.length = vs.length /\ (∀ (i:Nat) (x:AV),xs'[i]? = some x -> Al M' [] x (vs.getD i undef)) /\ AR F M' hb h' /\ Cz F M' /\ Gu F M M' /\ ((∀ x:AV,x ∈ xs -> x.single = true) -> ∀ x:AV,x ∈ xs' -> x.single = true):=by
 intro xs
 induction xs with
 | nil =>
  intro M h H ok vs hl hv K hk;exact ⟨[],h,M,hk,rfl,hl,fun i x hx=>by simp at hx,H,ok,.refl F M,fun _ x hx=>by simp at hx⟩
 | cons x xs ih =>
  intro M h H ok vs hl hv K hk
  cases vs with
  | nil=>simp at hl
  | cons v vs =>
   obtain ⟨x',h',M',k1,k2,k3,k4,k5,k6,k7⟩:=Gd H ok (hv 0 x rfl) hk;obtain ⟨xs',h'',M'',q1,q2,q3,q4,q5,q6,q7,q8⟩:=ih k4 k5 (vs:=vs) (by simpa using hl) (fun i y hy=>by
    have:=hv (i + 1) y (by simpa using hy);exact Al.mem k6.le (by simpa using this)) k1
   refine ⟨x' :: xs',h'',M'',q1,q2.trans k2,by simp [q3],fun i y hy=>?_,q5,q6,k6.trans q7,fun hs y hy=>?_⟩
   ·cases i with
    | zero=>simp at hy; subst hy; exact k3.mem q7.le
    | succ i=>simpa using q4 i y (by simpa using hy)
   ·rcases List.mem_cons.1 hy with rfl | hy
    ·exact k7 (hs x List.mem_cons_self)
    ·exact q8 (fun z hz=>hs z (List.mem_cons_of_mem _ hz)) y hy
def Jj (h:List Ah) (x:AV) (K:AV -> List Ah -> Prop):Prop :=
 match x with
 | .agg cs=>GJ cs h (fun cs' h'=>K (.agg cs') h')
 | x=>Ef h x K
theorem Lr {F:Nat -> Prop} {M:Mem} {hb:List HB} {h:List Ah} (H:AR F M hb h) (ok:Cz F M) {x:AV} {v:Value} (hv:Al M hb x v) {K:AV -> List Ah -> Prop} (hk:Jj h x K) :
  ∃ (x':AV) (h':List Ah) (M':Mem),K x' h' /\ M'.w = M.w /\ Al M' [] x' v /\ AR F M' hb h' /\ Cz F M' /\ Gu F M M':=by
 unfold Jj at hk
 split at hk
 ·rename_i cs
  cases hv with
  | @agg _ _ vs g1 g2 g3 =>
   obtain ⟨cs',h',M',k1,k2,k3,k4,k5,k6,k7,k8⟩:=Lk cs H ok (vs:=vs.toList) (by simp [g1]) (fun i c hc=>by
    have:=g3 i c hc
    simpa [Array.getD_eq_getD_getElem?,List.getD_eq_getElem?_getD] using this) hk
   refine ⟨_,h',M',k1,k2,.agg (by simpa using k3) (fun i c hc=>?_) (fun i c hc=>?_),k5,k6,k7⟩
   ·exact k8 (fun x hx=>by obtain ⟨i,hi⟩:=List.getElem?_of_mem hx; exact g2 i x hi) c (List.mem_of_getElem? hc)
   ·have:=k4 i c hc
    simpa [Array.getD_eq_getD_getElem?,List.getD_eq_getElem?_getD] using this
 ·obtain ⟨x',h',M',k1,k2,k3,k4,k5,k6,_⟩:=Gd H ok hv hk
  exact ⟨x',h',M',k1,k2,k3,k4,k5,k6⟩
end Go.PM

namespace Go.PM
variable [AA]
def Lt (F:Nat -> Prop) (M:Mem) (hb:List HB) (r:Result Value) (K:AV -> List Ah -> Prop):Prop :=
 ∃ (x:AV) (v:Value) (h':List Ah) (M':Mem) (hb':List HB),K x h' /\ r = .ok v M'.w /\ Al M' hb' x v /\ AR F M' hb' h' /\ Cz F M' /\ Gu F M M' /\ Bf hb hb'
def agw (F:Nat -> Prop) (M:Mem) (hb:List HB) (r:Result Unit) (K:List Ah -> Prop):Prop :=
 ∃ (h':List Ah) (M':Mem) (hb':List HB),K h' /\ r = .ok () M'.w /\ AR F M' hb' h' /\ Cz F M' /\ Gu F M M' /\ Bf hb hb'
theorem Dd {α:Type} (l:List α) (x:α):(l ++ [x])[l.length]? = some x:=by simp
theorem S7 {F:Nat -> Prop} {M:Mem} {hb:List HB} {h:List Ah} (H:AR F M hb h) (ok:Cz F M) {cs:List AV} {c:Array Value} (hc:BE M hb cs c) (ty:TypeId) :
  ∃ (M':Mem) (hb':List HB),M'.w = M.w.alloc (.cells c ty) /\ Al M' hb' (.ptr h.length 0) (.pointer (some ⟨M.w.heap.size,0,none⟩)) /\ AR F M' hb' (h ++ [.cells cs]) /\ Cz F M' /\ Gu F M M' /\ Bf hb hb':=by
 have hA:=Ch.new M (.cells c ty) 0
 let e:HB:=⟨M.w.heap.size,0,0,0,true,true⟩
 refine ⟨M.new (.cells c ty) 0,hb ++ [e],rfl,.ptr e (by rw [<- H.len]; exact Dd hb e) rfl,?_,ok.new _ _,hA.gu ok,.append hb _⟩;refine H.push hA ok (.cells cs) e ⟨rfl,Mem.HZ M _ _,c,⟨ty,Mem.Df M _ _⟩,hc.mono (hA.gu ok).le (.append hb _)⟩ (fun _=>⟨Nat.le_refl _,by rw [Mem.DT]; exact Nat.lt_succ_self _⟩)
def Ec (cs:List AV):Bool:=cs.all AV.single
theorem CK {M:Mem} {hb:List HB} {x:AV} {v:Value} (hv:Al M hb x v) (h1:Ec x.cells = true):BE M hb x.cells v.cells:=by
 cases hx:x with
 | agg cs =>
  subst hx
  cases hv with
  | @agg _ _ vs g1 g2 g3=>exact ⟨g1.symm,fun j y hy=>⟨g2 j y hy,g3 j y hy⟩⟩
 | dead=>subst hx; simp [Ec,AV.cells,AV.single] at h1
 | tup vs=>subst hx; simp [Ec,AV.cells,AV.single] at h1
 | _ =>
  have hs:x.single = true:=by subst hx; rfl
  have ho:=hv.OA hs;have hcs:x.cells = [x]:=by subst hx; rfl
  have hvs:v.cells = #[v]:=by cases v <;> first | rfl | (simp [Value.oneCell'] at ho)
  rw [<- hx,hcs,hvs];refine ⟨rfl,fun j y hy=>?_⟩
  cases j with
  | zero=>simp at hy; subst hy; exact ⟨hs,hv⟩
  | succ j=>simp at hy
def zeroOf (T:Ty):AV:=G3 T.zero
def DJ (T:Ty):Bool:=Ec (zeroOf T).cells && (zeroOf T).cells.length == T.size && (match T.zero with | .tuple _=>false | _=>true)
def EC (P:Program) (h:List Ah) (t:TypeId) (K:AV -> List Ah -> Prop):Prop :=
 match Ba P t with
 | some T=>DJ T = true /\ K (.ptr h.length 0) (h ++ [.cells (zeroOf T).cells])
 | none=>False
theorem OM {P:Program} {F:Nat -> Prop} {M:Mem} {hb:List HB} {h:List Ah} (H:AR F M hb h) (ok:Cz F M) {t:TypeId} {K:AV -> List Ah -> Prop} (hk:EC P h t K) :
  Lt F M hb ((Instr.alloc t true (.tuple #[])).run P M.w) K:=by
 unfold EC at hk
 split at hk
 ·rename_i T hT
  obtain ⟨hz,hk⟩:=hk;simp only [DJ,Bool.and_eq_true] at hz;obtain ⟨M',hb',g1,g2,g3,g4,g5,g6⟩:=S7 H ok (CK (ES M hb T.zero) hz.1.1) t;exact ⟨_,_,_,M',hb',hk,by simp [Instr.alloc,BN hT,newVar,newRow,g1],g2,g3,g4,g5,g6⟩
 ·exact hk.elim
def PT (h:List Ah) (x:AV) (K:AV -> List Ah -> Prop):Prop :=
 Ec x.cells = true /\ K (.ptr h.length 0) (h ++ [.cells x.cells])
theorem RC {P:Program} {F:Nat -> Prop} {M:Mem} {hb:List HB} {h:List Ah} (H:AR F M hb h) (ok:Cz F M) {t:TypeId} {x:AV} {v:Value} (hv:Al M hb x v) {K:AV -> List Ah -> Prop} (hk:PT h x K) :
  Lt F M hb ((Instr.box t v).run P M.w) K:=by
 obtain ⟨M',hb',g1,g2,g3,g4,g5,g6⟩:=S7 H ok (CK hv hk.1) t;exact ⟨_,_,_,M',hb',hk.2,by simp [Instr.box,newVar,newRow,g1],g2,g3,g4,g5,g6⟩
def putAt (cs:List AV) (off:Nat) (xs:List AV):List AV:=cs.take off ++ xs ++ cs.drop (off + xs.length)
def Gy (place:Nat -> Option (Nat × Nat)):List AV -> List (Nat × AV) -> (List AV -> Prop) -> Prop
 | cells,[],K=>K cells
 | cells,(i,x) :: rest,K=>match place i with
  | some (off,size)=>x.cells.length = size /\ Ec x.cells = true /\ off + size <= cells.length /\ Gy place (putAt cells off x.cells) rest K
  | none=>False
theorem NJ (vs:List Value):∀ (c:Array Value) (off k:Nat),off + k + vs.length <= c.size ->
  ((vs.zipIdx k).foldl (fun cs (v,j)=>cs.setIfInBounds (off + j) v) c).size = c.size /\
  ∀ j:Nat,((vs.zipIdx k).foldl (fun cs (v,j)=>cs.setIfInBounds (off + j) v) c)[j]? = if off + k <= j /\ j < off + k + vs.length then vs[j - (off + k)]? else c[j]?:=by
 induction vs with
 | nil=>intro c off k h; simp; intro j h1 h2; omega
 | cons v vs ih =>
  intro c off k h;simp only [List.length_cons] at h;obtain ⟨g1,g2⟩:=ih (c.setIfInBounds (off + k) v) off (k + 1) (by simp; omega);simp only [List.zipIdx_cons,List.foldl_cons];refine ⟨by rw [g1]; simp,fun j=>?_⟩;rw [g2 j];simp only [List.length_cons]
  by_cases hj:j = off + k
  ·subst hj
   rw [if_neg (by omega),if_pos (by omega)];simp [show off + k < c.size by omega]
  ·by_cases hr:off + (k + 1) <= j /\ j < off + (k + 1) + vs.length
   ·rw [if_pos hr,if_pos (by omega)]
    rw [show j - (off + k) = (j - (off + (k + 1))) + 1 by omega];simp
   ·rw [if_neg hr,if_neg (by omega)]
    rw [Array.getElem?_setIfInBounds_ne (Ne.symm hj)]
theorem GV {cs xs:List AV} {off:Nat} (h:off + xs.length <= cs.length) (j:Nat):(putAt cs off xs)[j]? = if off <= j /\ j < off + xs.length then xs[j - off]? else cs[j]?:=by
 unfold putAt
 by_cases h1:j < off
 ·rw [if_neg (by omega),List.append_assoc,List.getElem?_append_left (by simp; omega),List.getElem?_take,if_pos h1]
 ·by_cases h2:j < off + xs.length
  ·rw [if_pos (by omega),List.append_assoc,List.getElem?_append_right (by simp; omega),List.getElem?_append_left (by simp; omega)]
   simp [Nat.min_eq_left (show off <= cs.length by omega)]
  ·rw [if_neg (by omega),List.getElem?_append_right (by simp; omega),List.getElem?_drop]
   congr 1
   simp;omega
theorem ID {cs xs:List AV} {off:Nat} (h:off + xs.length <= cs.length):(putAt cs off xs).length = cs.length:=by unfold putAt; simp; omega
theorem BE.putAt {M:Mem} {hb:List HB} {cs xs:List AV} {c d:Array Value} (hc:BE M hb cs c) (hx:BE M hb xs d) {off:Nat} (hl:off + xs.length <= cs.length) {c':Array Value} (hs:c'.size = c.size)
  (hg:∀ j:Nat,c'[j]? = if off <= j /\ j < off + d.size then d[j - off]? else c[j]?):BE M hb (putAt cs off xs) c':=by
 refine ⟨by rw [hs,hc.1,ID hl],fun j y hy=>?_⟩;rw [GV hl] at hy;have hd:=hx.1;rw [Array.getD_eq_getD_getElem?,hg j,hd]
 split at hy
 ·rename_i hr
  rw [if_pos hr];have:=hx.2 _ y hy
  rwa [Array.getD_eq_getD_getElem?] at this
 ·rename_i hr
  rw [if_neg hr];have:=hc.2 _ y hy
  rwa [Array.getD_eq_getD_getElem?] at this
theorem QW {M:Mem} {hb:List HB} {place:Nat -> Option (Nat × Nat)}:∀ (ps:List (Nat × AV)) (qs:List (Nat × Value)) (cells:List AV) (c:Array Value),BE M hb cells c -> ps.length = qs.length ->
  (∀ (k:Nat) (i:Nat) (x:AV),ps[k]? = some (i,x) -> ∃ v,qs[k]? = some (i,v) /\ Al M hb x v) -> ∀ {K:List AV -> Prop},Gy place cells ps K ->
  ∃ (cells':List AV) (c':Array Value),K cells' /\ Instr.fill place c qs = some c' /\ BE M hb cells' c':=by
 intro ps
 induction ps with
 | nil =>
  intro qs cells c hc hl hq K hk
  cases qs with
  | nil=>exact ⟨cells,c,hk,rfl,hc⟩
  | cons=>simp at hl
 | cons p ps ih =>
  intro qs cells c hc hl hq K hk;obtain ⟨i,x⟩:=p
  cases qs with
  | nil=>simp at hl
  | cons q qs =>
   obtain ⟨v,hqv,hv⟩:=hq 0 i x rfl;simp at hqv;subst hqv;unfold Gy at hk
   split at hk
   ·rename_i off size hp
    obtain ⟨h1,h2,h3,hk⟩:=hk;subst h1;have hx:=CK hv h2;have hsz:v.cells.size = x.cells.length:=hx.1;have hput:=NJ v.cells.toList c off 0 (by rw [hc.1]; simp [hsz]; omega);have hc':BE M hb (Go.PM.putAt cells off x.cells) ((v.cells.toList.zipIdx 0).foldl (fun cs (v,j)=>cs.setIfInBounds (off + j) v) c) :=
     hc.putAt hx h3 hput.1 (fun j=>by
      rw [hput.2 j];simp)
    obtain ⟨cells',c',k1,k2,k3⟩:=ih qs _ _ hc' (by simpa using hl) (fun k i' y hy=>by
     have:=hq (k + 1) i' y (by simpa using hy)
     simpa using this) hk
    refine ⟨cells',c',k1,?_,k3⟩;unfold Instr.fill;simp only [hp];rw [if_neg]
    ·rw [<- k2]
     congr 1
     have:v.cells.zipIdx = (v.cells.toList.zipIdx 0).toArray:=by
      apply Array.ext';simp
     rw [this];simp
    ·simp only [Bool.or_eq_true,decide_eq_true_eq,hsz,hc.1,ne_eq]
     simp;omega
   ·exact hk.elim
def placeOf (P:Program) (t:TypeId):Option (Nat -> Option (Nat × Nat)) :=
 match P.underlying t with
 | some (.struct fields)=>some fun i=>match fields[i]? with
  | some f=>(Ba P f.type).map fun T=>(f.offset,T.size)
  | none=>none
 | some (.array _ e)=>(Ba P e).map fun T=>fun i=>some (i * T.size,T.size)
 | _=>none
def AM (P:Program) (t:TypeId):Bool :=
 match P.underlying t with
 | some (.struct fields)=>fields.all fun f=>(Ba P f.type).isSome
 | _=>true
def Ea (P:Program) (t:TypeId) (parts:List (Nat × AV)) (K:AV -> Prop):Prop :=
 match Ba P t,placeOf P t with
 | some T,some place=>DJ T = true /\ T.isAgg = true /\ AM P t = true /\ Gy place (zeroOf T).cells parts (fun cs=>K (.agg cs))
 | _,_=>False
theorem adp {M:Mem} {hb:List HB} {cs:List AV} {c:Array Value} (h:BE M hb cs c):Al M hb (.agg cs) (.agg c):=.agg h.1.symm (fun i x hx=>(h.2 i x hx).1) (fun i x hx=>(h.2 i x hx).2)
theorem R0 {place place':Nat -> Option (Nat × Nat)}:∀ (qs:List (Nat × Value)) (c c':Array Value),(∀ i,(place i).isSome = true -> place' i = place i) -> Instr.fill place c qs = some c' -> Instr.fill place' c qs = some c':=by
 intro qs
 induction qs with
 | nil=>intro c c' _ h; exact h
 | cons q qs ih =>
  intro c c' hp h;obtain ⟨i,v⟩:=q;unfold Instr.fill at h ⊢
  split at h
  ·cases h
  ·rename_i off size hpi
   rw [hp i (by rw [hpi]; rfl),hpi];simp only
   split at h
   ·cases h
   ·rename_i hc
    rw [if_neg hc];exact ih _ _ hp h
theorem Kp {P:Program} (w:World):∀ (fs:List Field),(∀ f:Field,f ∈ fs -> (Ba P f.type).isSome = true) ->
  (fs.mapM (fun f=>do pure (f.offset,<- sizeOf f.type):Field -> Sem (Nat × Nat))).run P w = .ok (fs.map fun f=>(f.offset,((Ba P f.type).map (·.size)).getD 0)) w:=by
 intro fs
 induction fs with
 | nil=>intro _; simp
 | cons f fs ih =>
  intro h;obtain ⟨T,hT⟩:=Option.isSome_iff_exists.1 (h f List.mem_cons_self);have:=ih (fun g hg=>h g (List.mem_cons_of_mem _ hg));simp only [List.mapM_cons,Sem.run_bind,AK hT,Result.andThen_ok,Sem.run_pure,this,List.map_cons,hT,Option.map_some,Option.getD_some]
theorem Oz {P:Program} {M:Mem} {hb:List HB} {t:TypeId} {ps:List (Nat × AV)} {qs:Array (Nat × Value)} (hl:ps.length = qs.size) (hq:∀ (k:Nat) (i:Nat) (x:AV),ps[k]? = some (i,x) -> ∃ v,qs[k]? = some (i,v) /\ Al M hb x v) {K:AV -> Prop} (hk:Ea P t ps K) :
  ∃ x v,K x /\ (Instr.build t qs).run P M.w = .ok v M.w /\ Al M hb x v:=by
 unfold Ea at hk
 split at hk
 ·rename_i T place hT hplace
  obtain ⟨hz,ha,hfk,hk⟩:=hk;simp only [DJ,Bool.and_eq_true] at hz;have hz0:=CK (ES M hb T.zero) hz.1.1;obtain ⟨cells',c',k1,k2,k3⟩:=QW ps qs.toList _ _ hz0 (by simpa using hl) (fun k i x hx=>by
   obtain ⟨v,h1,h2⟩:=hq k i x hx;exact ⟨v,by simpa using h1,h2⟩) hk
  refine ⟨_,_,k1,?_,adp k3⟩;unfold placeOf at hplace;obtain ⟨i0,hi0,hu0,_⟩:=Hy hT
  split at hplace
  ·rename_i fields hu
   cases hplace;have hall:∀ f:Field,f ∈ fields.toList -> (Ba P f.type).isSome = true:=by
    unfold AM at hfk;rw [hu] at hfk;intro f hf;have:=Array.all_eq_true'.1 hfk f (by simpa using hf);exact this
   have hm:=Kp (P:=P) M.w fields.toList hall;have hund:T.und = .struct fields:=by rw [hu] at hu0; exact (Option.some.inj hu0).symm
   have hmA:(fields.mapM (fun f=>do pure (f.offset,<- sizeOf f.type):Field -> Sem (Nat × Nat))).run P M.w = .ok (fields.toList.map fun f=>(f.offset,((Ba P f.type).map (·.size)).getD 0)).toArray M.w:=by
    rw [Array.mapM_eq_mapM_toList];simp only [Sem.run_map,hm,Result.andThen_ok]
   have hfill:=R0 (place':=fun i=>(fields.toList.map fun f=>(f.offset,((Ba P f.type).map (·.size)).getD 0)).toArray[i]?) qs.toList _ c' (fun i hi=>by
    cases hf:fields[i]? with
    | none=>rw [hf] at hi; simp at hi
    | some f =>
     obtain ⟨Tf,hTf⟩:=Option.isSome_iff_exists.1 (hall f (by have:=Array.mem_of_getElem? hf; simpa using this));simp [hf,hTf]) k2
   simp only [Instr.build,Sem.run_bind,BN hT,DV hT,hund,Result.andThen_ok,hmA,hfill,Sem.run_pure]
  ·rename_i n e hu
   obtain ⟨Te,hTe,rfl⟩:=Option.map_eq_some_iff.1 hplace;have hund:T.und = .array n e:=by rw [hu] at hu0; exact (Option.some.inj hu0).symm
   simp only [Instr.build,Sem.run_bind,BN hT,DV hT,hund,Result.andThen_ok,AK hTe,k2,Sem.run_pure]
  ·cases hplace
 ·exact hk.elim
end Go.PM

namespace Go.PM
variable [AA]
def Mem.row (M:Mem) (g:Nat) (c:Array Value) (n:Nat):Mem:=⟨M.w.setRow g c,fun b=>if b = g then n else M.lo b⟩
theorem Mem.Dk (M:Mem) (g:Nat) (c:Array Value) (n:Nat) {k:Nat} (h:k ≠ g):(M.row g c n).w.heap[k]? = M.w.heap[k]? /\ (M.row g c n).lo k = M.lo k :=
 ⟨setRow_other M.w g k c h,by simp [Mem.row,h]⟩
theorem Mem.KI {M:Mem} {g:Nat} {cur:Array Value} (h:M.opn g cur) (c:Array Value) (n:Nat):(M.row g c n).opn g c:=by
 obtain ⟨ty,h⟩:=h;exact ⟨ty,setRow_heap M.w g cur c ty _ h⟩
theorem Mem.Jn (M:Mem) (g:Nat) (c:Array Value) (n:Nat):(M.row g c n).lo g = n:=by simp [Mem.row]
theorem Mem.EY (M:Mem) (g:Nat) (c:Array Value) (n:Nat):(M.row g c n).w.heap.size = M.w.heap.size:=by simp [Mem.row]
theorem Mem.Oe {M:Mem} {g:Nat} {cur c:Array Value} (h:M.opn g cur) {n:Nat} (hn:M.lo g <= n) (hc:∀ o:Nat,o < M.lo g -> o < cur.size -> c[o]? = cur[o]?) (hs:c.size = cur.size):M.Le (M.row g c n):=by
 refine ⟨fun b o hi=>?_,fun b hb=>?_,fun b hb=>?_⟩;rotate_left
 ·have hne:b ≠ g:=fun hbe=>by
   obtain ⟨ty,h⟩:=h;exact Jt h (fun _ _ he=>by cases he) (hbe ▸ hb)
  have:=Mem.Dk M g c n hne;exact ⟨by rw [this.2]; exact hb.1,this.1⟩
 ·by_cases hbe:b = g
  ·subst hbe
   obtain ⟨ty,h⟩:=h;obtain ⟨c',ty',l,h1,h2,h3⟩:=hb;rw [h] at h1;cases h1;have hcc:c = cur:=by
    apply Array.ext hs;intro i hi1 hi2;have:=hc i (Nat.lt_of_lt_of_le hi2 h2) hi2;rw [Array.getElem?_eq_getElem hi1,Array.getElem?_eq_getElem hi2] at this;exact Option.some.inj this
   refine ⟨by rw [Mem.Jn]; exact hn,?_⟩;rw [h,hcc];exact setRow_heap M.w b cur cur ty _ h
  ·have:=Mem.Dk M g c n hbe
   exact ⟨by rw [this.2]; exact Nat.le_refl _,this.1⟩
 by_cases hb:b = g
 ·subst hb
  obtain ⟨ty,h⟩:=h;obtain ⟨h1,h2⟩:=hi;rw [Cq h] at h2;obtain ⟨v,hv⟩:=Option.isSome_iff_exists.1 h2;have hlt:o < cur.size:=(Array.getElem?_eq_some_iff.1 hv).1;have hcell:(M.row b c n).w.cell? ⟨b,o,none⟩ = c[o]?:=Cq (setRow_heap M.w b cur c ty _ h) o;refine ⟨⟨by rw [Mem.Jn]; omega,by rw [hcell,hc o h1 hlt,hv]; rfl⟩,?_⟩;unfold Mem.get;rw [hcell,hc o h1 hlt,Cq h]
 ·have:=Mem.Dk M g c n hb
  exact IP hi this.1 (Nat.le_of_eq this.2.symm)
theorem Mem.Ox {F:Nat -> Prop} {M:Mem} {g:Nat} {c:Array Value} {n:Nat} (hle:M.Le (M.row g c n)) (hF:¬ F g):Gu F M (M.row g c n) :=
 ⟨by rw [Mem.EY]; exact Nat.le_refl _,rfl,rfl,rfl,hle,fun b hb=>Mem.Dk M g c n (fun h=>hF (h ▸ hb))⟩
theorem Cz.row {F:Nat -> Prop} {M:Mem} (ok:Cz F M) {g:Nat} (hg:g < M.w.heap.size) (c:Array Value) (n:Nat):Cz F (M.row g c n) where
 top:=fun b hb=>by
  rw [Mem.EY] at hb;rw [(Mem.Dk M g c n (show b ≠ g by omega)).2];exact ok.top b hb
 fr:=fun b hb=>by rw [Mem.EY]; exact ok.fr b hb
def Hq (e:AV) (off:Nat) (x:AV):AV:=match e with
 | .agg cs=>.agg (putAt cs off x.cells)
 | _=>x
theorem MA {e:AV} {off:Nat} {x:AV} (h:off + x.cells.length <= e.cells.length) (h1:0 < x.cells.length):(Hq e off x).cells = putAt e.cells off x.cells:=by
 have hc:(∃ cs,e = .agg cs) \/ (e.cells = [e] /\ Hq e off x = x):=by
  cases e <;> first | exact .inl ⟨_,rfl⟩ | exact .inr ⟨rfl,rfl⟩
 rcases hc with ⟨cs,rfl⟩ | ⟨h2,h3⟩
 ·rfl
 ·rw [h2,List.length_singleton] at h
  have ho:off = 0:=by omega
  have hx:x.cells.length = 1:=by omega
  subst ho;rw [h3,h2];simp [putAt,hx]
def DE (P:Program) (h:List Ah) (t:TypeId) (p x:AV) (K:List Ah -> Prop):Prop :=
 match Ba P t with
 | none=>False
 | some T=>x.cells.length = T.size /\ Ec x.cells = true /\ match p with
  | .ptr id off=>match h[id]? with
   | some (.cells cs)=>off + T.size <= cs.length /\ K (h.set id (.cells (putAt cs off x.cells)))
   | _=>False
  | .eptr id ver i off=>match h[id]? with
   | some (.row true ver' sz es)=>ver = ver' /\ i < es.length /\ 0 < T.size /\ x.cells.all AV.BK = true /\ off + T.size <= sz /\ K (h.set id (.row true ver sz (es.set i (Hq (es.getD i .dead) off x))))
   | _=>False
  | _=>False
theorem IA {P:Program} {t:TypeId} {T:Ty} (hT:Ba P t = some T) {g o:Nat} {v:Value} {cur:Array Value} {ty:TypeId} {w:World} (hg:w.heap[g]? = some (.cells cur ty (0,0))) (hs:v.cells.size = T.size) (hl:o + v.cells.size <= cur.size) (h1:∀ x,x ∈ v.cells.toList -> x.oneCell' = true) :
  (storeVar t ⟨g,o,none⟩ v).run P w = .ok () (w.setRow g (cur.toList.take o ++ v.cells.toList ++ cur.toList.drop (o + v.cells.size)).toArray):=by
 have:=run_storeCells_at P g o ty v.cells.toList 0 cur w hg (by simpa using hl) h1;simp only [storeVar,Sem.run_bind,AK hT,Result.andThen_ok,hs,ne_eq,not_true_eq_false,if_false]
 simpa [hs] using this
theorem DB {cur d:Array Value} {o:Nat} (h:o + d.size <= cur.size) (j:Nat):(cur.toList.take o ++ d.toList ++ cur.toList.drop (o + d.size)).toArray[j]? = if o <= j /\ j < o + d.size then d[j - o]? else cur[j]?:=by
 simp only [List.getElem?_toArray]
 by_cases h1:j < o
 ·rw [if_neg (by omega),List.append_assoc,List.getElem?_append_left (by simp; omega),List.getElem?_take,if_pos h1]; simp
 ·by_cases h2:j < o + d.size
  ·rw [if_pos (by omega),List.append_assoc,List.getElem?_append_right (by simp; omega),List.getElem?_append_left (by simp; omega)]
   simp [Nat.min_eq_left (show o <= cur.size by omega)]
  ·rw [if_neg (by omega),List.getElem?_append_right (by simp; omega),List.getElem?_drop]
   simp
   congr 1
   omega
theorem Et {cur d:Array Value} {o:Nat} (h:o + d.size <= cur.size):(cur.toList.take o ++ d.toList ++ cur.toList.drop (o + d.size)).toArray.size = cur.size:=by
 simp; omega
theorem BE.afu {M:Mem} {hb:List HB} {cs:List AV} {c:Array Value} (h:BE M hb cs c):∀ v,v ∈ c.toList -> v.oneCell' = true:=by
 intro v hv;obtain ⟨i,hi⟩:=List.getElem?_of_mem hv;have hlt:i < c.size:=by have:=(List.getElem?_eq_some_iff.1 hi).1; simpa using this
 have hlt':i < cs.length:=by rw [<- h.1]; exact hlt
 obtain ⟨h1,h2⟩:=h.2 i cs[i] (by simp);have h3:=h2.OA h1;have:c.getD i undef = v:=by
  have hi':c[i]? = some v:=by simpa using hi
  simp [Array.getD_eq_getD_getElem?,hi']
 rwa [this] at h3
theorem OK {P:Program} {F:Nat -> Prop} {M:Mem} {hb:List HB} {h:List Ah} (H:AR F M hb h) (ok:Cz F M) {t:TypeId} {p x:AV} {vp vx:Value} (hp:Al M hb p vp) (hx:Al M hb x vx) {K:List Ah -> Prop} (hk:DE P h t p x K) :
  agw F M hb ((Instr.storeAt t vp vx).run P M.w) K:=by
 unfold DE at hk
 cases hT:Ba P t with
 | none=>rw [hT] at hk; exact hk.elim
 | some T =>
  rw [hT] at hk;obtain ⟨hlen,hone,hk⟩:=hk;have hcx:=CK hx hone;have hsz:vx.cells.size = T.size:=by rw [hcx.1,hlen]
  split at hk
  ·rename_i id off
   split at hk
   ·rename_i cs hh
    obtain ⟨hoff,hk⟩:=hk
    cases hp with
    | ptr e q1 q2 =>
     obtain ⟨_,hlo,c,hop,hc⟩:=H.box id _ e hh q1;have hown:=H.own id _ e hh q1 rfl;have hfit:off + vx.cells.size <= c.size:=by rw [hc.1,hsz]; exact hoff
     have hop':=hop;obtain ⟨ty,hheap⟩:=hop';have hrun:=IA (P:=P) hT hheap hsz hfit hcx.afu;generalize hnew:(c.toList.take off ++ vx.cells.toList ++ c.toList.drop (off + vx.cells.size)).toArray = cn at hrun;have hle:M.Le (M.row e.blk cn 0):=Mem.Oe hop (by omega) (fun o h1 _=>by omega) (by rw [<- hnew]; exact Et hfit);have hrel:BE M hb (putAt cs off x.cells) cn:=hc.putAt hcx (by rw [hlen]; exact hoff) (by rw [<- hnew]; exact Et hfit) (fun j=>by rw [<- hnew]; exact DB hfit j);refine ⟨_,M.row e.blk cn 0,hb,hk,by simp [Instr.storeAt,Instr.sureAddr,hrun,Mem.row],?_,ok.row hown.1 _ _,Mem.Ox hle hown.2,.refl hb⟩;have:=H.update (M':=M.row e.blk cn 0) (b':=.cells (putAt cs off x.cells)) (e':=e) hh q1 hle (by rw [Mem.EY]; exact Nat.le_refl _) (Bf.set q1 (Nat.le_refl _) rfl (fun _=>rfl) (fun _=>rfl))
      (fun k _ hk=>Mem.Dk M _ _ _ (hk rfl)) ⟨q2,Mem.Jn M _ _ _,cn,Mem.KI hop _ _,by rw [Cp q1]; exact hrel.mono hle (.refl hb)⟩ (fun _=>.inl ⟨rfl,rfl⟩)
     rwa [Cp q1] at this
   ·exact hk.elim
  ·rename_i id ver i off
   split at hk
   ·rename_i ver' sz es hh
    obtain ⟨rfl,hi,h0,hpure,hoff,hk⟩:=hk
    cases hp with
    | eptr e q1 q2 q3 q4 q5 =>
     have hB:=H.box id _ e hh q1;obtain ⟨hre,rfl⟩:=q5 hB.2.1;have hB':=hB;obtain ⟨g1,g2,g3,g4,g5,g6⟩:=hB';obtain ⟨g7,c,hop,g9,g10⟩:=g6 hre;simp only [if_true] at g7;have hown:=H.own id _ e hh q1 hre;have hop':=hop;obtain ⟨ty,hheap⟩:=hop';have hrow:(i + 1) * sz <= e.lim * sz:=Nat.mul_le_mul_right _ (by omega);rw [Nat.add_mul] at hrow;have hfit:i * e.sz + off + vx.cells.size <= c.size:=by rw [g3,hsz]; omega
     have hrun:=IA (P:=P) hT hheap hsz hfit hcx.afu;generalize hnew:(c.toList.take (i * e.sz + off) ++ vx.cells.toList ++ c.toList.drop (i * e.sz + off + vx.cells.size)).toArray = cn at hrun;have hle:M.Le (M.row e.blk cn 0):=Mem.Oe hop (by omega) (fun o h1 _=>by omega) (by rw [<- hnew]; exact Et hfit);have hel:es[i]? = some (es.getD i .dead):=by simp [List.getD_eq_getElem?_getD,hi]
     have hx0:=g10 i _ hel;have hupd:(Hq (es.getD i .dead) off x).cells = putAt (es.getD i .dead).cells off x.cells:=MA (by rw [hx0.1,hlen]; exact hoff) (by omega);have hrel:Br M sz (es.set i (Hq (es.getD i .dead) off x)) cn:=by
      intro k y hy
      by_cases hki:i = k
      ·subst hki
       simp [hi] at hy;subst hy;rw [show es[i] = es.getD i .dead by simp [List.getD_eq_getElem?_getD,hi]];refine ⟨by rw [hupd,ID (by rw [hx0.1,hlen]; exact hoff)]; exact hx0.1,fun j z hz=>?_⟩;rw [hupd,GV (by rw [hx0.1,hlen]; exact hoff)] at hz;rw [Array.getD_eq_getD_getElem?,<- hnew,DB hfit,g3]
       split at hz
       ·rename_i hr
        rw [if_pos (by rw [hsz]; omega)];have:=hcx.2 _ z hz;have hp0:z.BK = true:=by
         have:=List.all_eq_true.1 hpure z (List.mem_of_getElem? hz);exact this
        refine ⟨this.1,?_⟩;have h3:=this.2.IY hp0;rw [Array.getD_eq_getD_getElem?] at h3
        rwa [show i * sz + j - (i * sz + off) = j - off by omega]
       ·rename_i hr
        rw [if_neg (by rw [hsz]; omega)];have:=hx0.2 j z hz
        rwa [Array.getD_eq_getD_getElem?] at this
      ·rw [List.getElem?_set_ne hki] at hy
       have hk0:=g10 k y hy;refine ⟨hk0.1,fun j z hz=>?_⟩;have:=hk0.2 j z hz;have hj:j < sz:=by have:=(List.getElem?_eq_some_iff.1 hz).1; omega
       rw [Array.getD_eq_getD_getElem?,<- hnew,DB hfit,if_neg]
       ·rwa [Array.getD_eq_getD_getElem?] at this
       ·rw [g3,hsz]
        rcases Nat.lt_or_gt_of_ne hki with hlt | hgt
        ·have h1:(i + 1) * sz <= k * sz:=Nat.mul_le_mul_right _ hlt
         rw [Nat.add_mul] at h1;omega
        ·have h1:(k + 1) * sz <= i * sz:=Nat.mul_le_mul_right _ hgt
         rw [Nat.add_mul] at h1;omega
     refine ⟨_,M.row e.blk cn 0,hb,hk,by simp [Instr.storeAt,Instr.sureAddr,hrun,Mem.row],?_,ok.row hown.1 _ _,Mem.Ox hle hown.2,.refl hb⟩;have:=H.update (M':=M.row e.blk cn 0) (b':=.row true e.ver sz (es.set i (Hq (es.getD i .dead) off x))) (e':=e) hh q1 hle (by rw [Mem.EY]; exact Nat.le_refl _) (Bf.set q1 (Nat.le_refl _) rfl (fun _=>rfl) (fun _=>rfl))
      (fun k _ hk=>Mem.Dk M _ _ _ (hk hre)) ⟨g1,rfl,g3,by simpa using g4,(fun hr=>by rw [hre] at hr; cases hr),fun _=>⟨by rw [Mem.Jn]; simp,cn,Mem.KI hop _ _,by rw [<- hnew,Et hfit]; exact g9,hrel.mono hle⟩⟩ (fun _=>.inl ⟨hre,rfl⟩)
     rw [Cp q1] at this;rw [<- g2];exact this
   ·exact hk.elim
  ·exact hk.elim
end Go.PM

namespace Go.PM
variable [AA]
theorem E7 {F:Nat -> Prop} {M:Mem} {hb:List HB} {h:List Ah} (H:AR F M hb h) (ok:Cz F M) {v:Value} (hv:Al M hb (.sl true []) v) (sz ver:Nat) :
  ∃ hb':List HB,AR F M hb' (h ++ [.row true ver sz []]) /\ Bf hb hb' /\ Al M hb' (.hsl h.length ver 0 0) v:=by
 let e:HB:=⟨0,sz,0,ver,false,false⟩
 refine ⟨hb ++ [e],H.push (.refl M) ok (.row true ver sz []) e ⟨rfl,rfl,rfl,Nat.le_refl _,fun _=>⟨rfl,rfl⟩,fun h=>by cases h⟩ (fun ho=>by cases ho),.append hb _,?_⟩
 rcases hv.WY with ⟨rfl,_⟩ | ⟨a,cap,s,rfl,g1,g2,g3,_⟩
 ·exact .hsl e (by rw [<- H.len]; exact Dd hb e) rfl (Nat.le_refl _) rfl (fun _=>⟨none,0,rfl,Nat.le_refl _,.inl rfl⟩)
 ·have:cap = 0:=g3 rfl
  subst this;exact .hsl e (by rw [<- H.len]; exact Dd hb e) rfl (Nat.le_refl _) rfl (fun _=>⟨some a,0,rfl,Nat.le_refl _,.inl rfl⟩)
theorem Kz {F:Nat -> Prop} {M:Mem} {hb:List HB} {h:List Ah} (H:AR F M hb h) (ok:Cz F M) {v:Value} (hv:Al M hb (.sl true []) v) (sz:Nat) :
  ∃ hb':List HB,AR F M hb' (h ++ [.row true 0 sz []]) /\ Bf hb hb' /\ Al M hb' (.hsl h.length 0 0 0) v:=E7 H ok hv sz 0
def MJ (P:Program) (M:Mem) (t:TypeId) (size:Nat) (v:Value) (ys:List AV):Prop :=
 ∃ news:Array Value,news.size = ys.length * size /\ Br M size ys news /\ (∀ x,x ∈ news.toList -> x.oneCell' = true) /\
  (∀ w:World,(Builtin.lenOf v).run P w = .ok ys.length w) /\ (∀ w:World,w.heap = M.w.heap -> (Builtin.firstCells size ys.length v).run P w = .ok news w) /\ ∃ d,P.underlying t = some d /\ ∀ k,d ≠ .int k
theorem Ib {k n s:Nat} (h:k < n * s):k / s < n /\ k % s < s /\ k / s * s + k % s = k:=by
 have hs:0 < s:=by
  rcases Nat.eq_zero_or_pos s with h0 | h0
  ·subst h0; simp at h
  ·exact h0
 exact ⟨Nat.div_lt_of_lt_mul (by rwa [Nat.mul_comm] at h),Nat.mod_lt _ hs,by rw [Nat.mul_comm]; exact Nat.div_add_mod k s⟩
theorem Ig {M:Mem} {size:Nat} {ys:List AV} {c:Array Value} (hs:c.size = ys.length * size) (h:Br M size ys c):∀ x,x ∈ c.toList -> x.oneCell' = true:=by
 intro x hx;obtain ⟨k,hk⟩:=List.getElem?_of_mem hx;have hlt:k < c.size:=by have:=(List.getElem?_eq_some_iff.1 hk).1; simpa using this
 rw [hs] at hlt;obtain ⟨g1,g2,g3⟩:=Ib hlt;obtain ⟨q1,q2⟩:=h (k / size) ys[k / size] (by simp);obtain ⟨q3,q4⟩:=q2 (k % size) (ys[k / size].cells[k % size]'(by omega)) (by simp);rw [g3] at q4;have:=q4.OA q3;have hc:c.getD k undef = x:=by
  have hk':c[k]? = some x:=by simpa using hk
  simp [Array.getD_eq_getD_getElem?,hk']
 rwa [hc] at this
theorem aar {P:Program} {M:Mem} {hb:List HB} {full:Bool} {ys:List AV} {v:Value} (hv:Al M hb (.sl full ys) v) {t e:TypeId} (ht:P.underlying t = some (.slice e)) {size:Nat} (hu:Xn size ys):MJ P M t size v ys:=by
 rcases hv.WY with ⟨rfl,rfl⟩ | ⟨a,cap,sz,rfl,g1,g2,g3,g4,g5,g6⟩
 ·exact ⟨#[],by simp,fun i x hx=>by simp at hx,by simp,fun w=>by simp [Builtin.lenOf],fun w _=>by simp [Builtin.firstCells],_,ht,fun k=>by simp⟩
 ·let news:Array Value:=((List.range (ys.length * size)).map fun k=>M.get a.block (a.off + k)).toArray
  have hrel:Br M size ys news:=by
   intro i x hx;have hxs:x.cells.length = size:=hu x (List.mem_of_getElem? hx);have hsz:sz = size:=by rw [<- g4 x (List.mem_of_getElem? hx)]; exact hxs
   refine ⟨hxs,fun j y hy=>?_⟩;obtain ⟨h1,v,h2,h3⟩:=g5 i x hx j y hy;have hi:i < ys.length:=(List.getElem?_eq_some_iff.1 hx).1;have hj:j < size:=by have:=(List.getElem?_eq_some_iff.1 hy).1; omega
   have hlt:i * size + j < ys.length * size:=by
    have h1:(i + 1) * size <= ys.length * size:=Nat.mul_le_mul_right _ (by omega);rw [Nat.add_mul] at h1;omega
   refine ⟨h1,?_⟩;have hget:news.getD (i * size + j) undef = v:=by
    simp [news,Array.getD_eq_getD_getElem?,hlt];rw [hsz,Nat.add_assoc] at h2;unfold Mem.get;rw [h2]; rfl
   rw [hget];exact h3
  refine ⟨news,by simp [news],hrel,Ig (by simp [news]) hrel,fun w=>by simp [Builtin.lenOf],fun w hw=>?_,_,ht,fun k=>by simp⟩;have hcells:∀ k:Nat,k < ys.length * size -> w.cell? (a.add k) = some (M.get a.block (a.off + k)):=by
   intro k hk;obtain ⟨k1,k2,k3⟩:=Ib hk;have hx:ys[k / size]? = some ys[k / size]:=by simp
   have hxs:ys[k / size].cells.length = size:=hu _ (List.mem_of_getElem? hx);have hsz:sz = size:=by rw [<- g4 _ (List.mem_of_getElem? hx)]; exact hxs
   have:=g6 (k / size) _ (k % size) (ys[k / size].cells[k % size]'(by omega)) hx (by simp);rw [hsz,Nat.add_assoc,k3] at this;have hy0:0 < ys.length:=by
    rcases Nat.eq_zero_or_pos ys.length with h0 | h0
    ·rw [h0] at hk; simp at hk
    ·exact h0
   rw [FW (g1.resolve_right (by omega)),E3 (congrArg (fun hp=>hp[a.block]?) hw)];exact Mem.cell this
  have:=run_loadCells (P:=P) w a (ys.length * size) (fun k=>M.get a.block (a.off + k)) hcells
  simpa [Builtin.firstCells,news] using this
theorem YP {P:Program} {F:Nat -> Prop} {M:Mem} {hb:List HB} {h:List Ah} (H:AR F M hb h) {id ver off len:Nat} {v:Value} (hv:Al M hb (.hsl id ver off len) v) {mt:Bool} {size:Nat} {es:List AV} (hh:h[id]? = some (.row mt ver size es)) (hl:off + len <= es.length)
  {t e:TypeId} (ht:P.underlying t = some (.slice e)):MJ P M t size v ((es.take (off + len)).drop off):=by
 have hlen:((es.take (off + len)).drop off).length = len:=by simp; omega
 have hget:∀ (i:Nat) (y:AV),((es.take (off + len)).drop off)[i]? = some y -> es[off + i]? = some y:=by
  intro i y hy;rw [List.getElem?_drop,List.getElem?_take] at hy
  split at hy
  ·exact hy
  ·cases hy
 cases hv with
 | hsl eb q1 q2 q3 q4 q5 =>
  have hB:=H.box id _ eb hh q1;obtain ⟨A,cap,rfl,r2,r3⟩:=q5 hB.2.1;unfold MJ;rw [hlen]
  rcases r3 with r3 | ⟨r4,rfl,r5⟩
  ·have h0:len = 0:=by omega
   subst h0;have hnil:(es.take (off + 0)).drop off = []:=List.eq_nil_of_length_eq_zero hlen;rw [hnil];refine ⟨#[],by simp,fun i x hx=>by simp at hx,by simp,fun w=>by simp [Builtin.lenOf],fun w _=>?_,_,ht,fun k=>by simp⟩
   cases A with
   | none=>simp [Builtin.firstCells]
   | some a=>simp [Builtin.firstCells,loadCells,loadCellsFrom]
  ·obtain ⟨g1,g2,g3,g4,g5,g6⟩:=hB
   obtain ⟨g7,c,hop,g9,g10⟩:=g6 r4;have hel:=LW hop (Nat.le_trans (Nat.mul_le_mul_right _ g4) g9) g10
   let news:Array Value:=((List.range (len * size)).map fun k=>c.getD (off * size + k) undef).toArray
   have hrel:Br M size ((es.take (off + len)).drop off) news:=by
    intro i x hx;have hx':=hget i x hx;have hxs:=(g10 _ x hx').1;refine ⟨hxs,fun j y hy=>?_⟩;obtain ⟨k1,k2,k3,k4⟩:=hel _ x j y hx' hy;have hi:i < len:=by have:=(List.getElem?_eq_some_iff.1 hx).1; omega
    have hj:j < size:=by have:=(List.getElem?_eq_some_iff.1 hy).1; omega
    have hlt:i * size + j < len * size:=by
     have h1:(i + 1) * size <= len * size:=Nat.mul_le_mul_right _ (by omega);rw [Nat.add_mul] at h1;omega
    refine ⟨k3,?_⟩;have hg:news.getD (i * size + j) undef = c.getD ((off + i) * size + j) undef:=by
     simp only [news,Array.getD_eq_getD_getElem?,List.getElem?_toArray,List.getElem?_map,List.getElem?_range hlt,Option.map_some,Option.getD_some];rw [Nat.add_mul,Nat.add_assoc]
    rw [hg];exact k4
   refine ⟨news,by simp [news],hrel,Ig (by simp [news,hlen]) hrel,fun w=>by simp [Builtin.lenOf],fun w hw=>?_,_,ht,fun k=>by simp⟩;have hcells:∀ k:Nat,k < len * size -> w.cell? ((⟨eb.blk,off * eb.sz,none⟩:Addr).add k) = some (c.getD (off * size + k) undef):=by
    intro k hk;obtain ⟨k1,k2,k3⟩:=Ib hk;have hlt:k / size < ((es.take (off + len)).drop off).length:=by rw [hlen]; exact k1
    have hx:=hget (k / size) _ (List.getElem?_eq_getElem hlt);have hxs:=(g10 _ _ hx).1;obtain ⟨m1,m2,m3,m4⟩:=hel _ _ (k % size) ((((es.take (off + len)).drop off)[k / size]'hlt).cells[k % size]'(by omega)) hx (by simp);rw [Nat.add_mul,Nat.add_assoc,k3] at m2;rw [Dy,g3,E3 (congrArg (fun hp=>hp[eb.blk]?) hw)];exact m2
   have:=run_loadCells (P:=P) w ⟨eb.blk,off * eb.sz,none⟩ (len * size) (fun k=>c.getD (off * size + k) undef) hcells
   simpa [Builtin.firstCells,news] using this
def FV (s:ByteArray):List AV:=s.data.toList.map fun b=>.val (.int .u8 b.toNat)
theorem WI {P:Program} {M:Mem} {t:TypeId} (ht:P.underlying t = some .string) (s:ByteArray):MJ P M t 1 (.string s) (FV s):=by
 have hl:(FV s).length = s.size:=by simp [FV]
 unfold MJ;rw [hl];have hrel:Br M 1 (FV s) (s.data.map fun b=>.int .u8 b.toNat):=by
  intro i x hx;simp only [FV,List.getElem?_map,Option.map_eq_some_iff] at hx;obtain ⟨b,hb,rfl⟩:=hx;refine ⟨rfl,fun j y hy=>?_⟩
  cases j with
  | succ j=>simp [AV.cells] at hy
  | zero =>
   simp [AV.cells] at hy;subst hy;refine ⟨rfl,?_⟩;have hb':s.data[i]? = some b:=by simpa using hb
   simp [Array.getD_eq_getD_getElem?,hb'];exact .val rfl
 refine ⟨s.data.map fun b=>.int .u8 b.toNat,by simp,hrel,Ig (by rw [hl]; simp) hrel,fun w=>by simp [Builtin.lenOf],fun w _=>?_,_,ht,fun k=>by simp⟩;have hs:s.size = s.data.size:=rfl;simp [Builtin.firstCells]
section
variable {P:Program} {t u e:TypeId} {T:Ty} (ht:P.underlying t = some (.slice e)) (hT:Ba P e = some T) {d:TypeDesc} (hu:P.underlying u = some d) (hd:∀ k,d ≠ .int k) (ty:TypeId)
include ht hT hu hd
theorem Mx (w:World) (A:Option Addr) (n cap m:Nat) (y:Value) (news:Array Value) (hl:∀ w:World,(Builtin.lenOf y).run P w = .ok m w) (hn:(Builtin.firstCells T.size m y).run P w = .ok news w) (hcap:n + m <= cap) :
  (Builtin.append_ #[t,u] ty #[.slice A n cap,y]).run P w = (match A with | some a=>((storeCells (a.add (n * T.size)) news.toList).run P w).andThen (fun _ w'=>.ok (.slice A (n + m) cap) w') | none=>.ok (.slice A (n + m) cap) w):=by
 have hm:(match d with | .int _=>true | _=>false) = false:=by cases d <;> first | rfl | exact absurd rfl (hd _)
 cases A with
 | none=>simp [Builtin.append_,run_underlying ht,run_underlying hu,AK hT,hm,hl,hcap,hn]
 | some a=>simp [Builtin.append_,run_underlying ht,run_underlying hu,AK hT,hm,hl,hcap,hn]
theorem ML (w:World) (A:Option Addr) (n cap m:Nat) (y:Value) (olds news:Array Value) (hl:∀ w:World,(Builtin.lenOf y).run P w = .ok m w) (ho:(Builtin.firstCells T.size n (.slice A n cap)).run P w.drew = .ok olds w.drew) (hn:(Builtin.firstCells T.size m y).run P w.drew = .ok news w.drew)
  (hcap:cap < n + m) (hb0:0 < T.bytes) (hfit:(n + m) * T.bytes <= 140737488355328) :
  (Builtin.append_ #[t,u] ty #[.slice A n cap,y]).run P w = .ok (.slice (some ⟨w.heap.size,0,none⟩) (n + m) (grownCap w (n + m) cap e))
   (w.drew.alloc (.cells (olds ++ news ++ Builtin.zeroCells T.zero.cells (grownCap w (n + m) cap e - (n + m))) e)):=by
 have hm:(match d with | .int _=>true | _=>false) = false:=by cases d <;> first | rfl | exact absurd rfl (hd _)
 have hge:n + m <= (n + m) * T.bytes:=Nat.le_mul_of_pos_right _ hb0;have h1:¬ (n + m <= cap):=by omega
 have h63:¬ (9223372036854775807 < (n:Int) + (m:Int)):=by omega
 have hg:=growslice_fits (bytes:=T.bytes) hcap hfit;have h48:¬ (281474976710656 < Builtin.nextslicecap (n + m) cap * T.bytes):=by omega
 obtain ⟨i,hi,hi1,hi2,hi3,hi4⟩:=Ez hT w;have hi4':∀ w:World,(typeInfo e).run P w = .ok i w:=fun w=>by simp [typeInfo,hi]
 simp [Builtin.append_,run_underlying ht,run_underlying hu,AK hT,BN hT,hm,hl,h1,h63,hi4',hi2,h48,Question.forced,ho,hn,newRow,grownCap]
end
end Go.PM

namespace Go.PM
variable [AA]
theorem Br.app {M:Mem} {sz:Nat} {es ys:List AV} {c olds news:Array Value} (ho:Br M sz es olds) (hn:Br M sz ys news)
  (h1:∀ k:Nat,k < es.length * sz -> c.getD k undef = olds.getD k undef) (h2:∀ k:Nat,k < ys.length * sz -> c.getD (es.length * sz + k) undef = news.getD k undef):Br M sz (es ++ ys) c:=by
 intro i x hx
 rcases Nat.lt_or_ge i es.length with hi | hi
 ·rw [List.getElem?_append_left hi] at hx
  obtain ⟨g1,g2⟩:=ho i x hx;refine ⟨g1,fun j y hy=>?_⟩;have hj:j < sz:=by have:=(List.getElem?_eq_some_iff.1 hy).1; omega
  have hlt:i * sz + j < es.length * sz:=by
   have h1:(i + 1) * sz <= es.length * sz:=Nat.mul_le_mul_right _ (by omega);rw [Nat.add_mul] at h1;omega
  rw [h1 _ hlt];exact g2 j y hy
 ·rw [List.getElem?_append_right hi] at hx
  obtain ⟨g1,g2⟩:=hn _ x hx;refine ⟨g1,fun j y hy=>?_⟩;have hj:j < sz:=by have:=(List.getElem?_eq_some_iff.1 hy).1; omega
  have hi':i - es.length < ys.length:=(List.getElem?_eq_some_iff.1 hx).1;have hlt:(i - es.length) * sz + j < ys.length * sz:=by
   have h1:(i - es.length + 1) * sz <= ys.length * sz:=Nat.mul_le_mul_right _ (by omega);rw [Nat.add_mul] at h1;omega
  have:=h2 _ hlt;rw [<- Nat.add_assoc,<- Nat.add_mul,show es.length + (i - es.length) = i by omega] at this;rw [this];exact g2 j y hy
theorem Lu {P:Program} {F:Nat -> Prop} {M:Mem} {hb:List HB} {h:List Ah} (H:AR F M hb h) (ok:Cz F M) {id ver:Nat} {mt:Bool} {es:List AV} {t u e:TypeId} {T:Ty} (ht:P.underlying t = some (.slice e)) (hT:Ba P e = some T) (hz:T.zero.cells.size = T.size) (hb0:0 < T.bytes)
  (hh:h[id]? = some (.row mt ver T.size es)) {v:Value} (hv:Al M hb (.hsl id ver 0 es.length) v) {y:Value} {ys:List AV} (hn:MJ P M u T.size y ys) (hfit:(es.length + ys.length) * T.bytes <= 140737488355328) (ty:TypeId) :
  ∃ (v':Value) (M':Mem) (hb':List HB),(Builtin.append_ #[t,u] ty #[v,y]).run P M.w = .ok v' M'.w /\ Al M' hb' (.hsl id (ver + 1) 0 (es.length + ys.length)) v' /\ AR F M' hb' (h.set id (.row mt (ver + 1) T.size (es ++ ys))) /\ Cz F M' /\ Gu F M M' /\ Bf hb hb':=by
 obtain ⟨news,n1,n2,n3,n4,n5,d,hu,hd⟩:=hn
 cases hv with
 | hsl eb q1 q2 q3 q4 q5 =>
  have hB:=H.box id _ eb hh q1;have hver:eb.ver = ver:=hB.2.1;obtain ⟨A,cap,rfl,r2,r3⟩:=q5 hver;have hidh:id < h.length:=(List.getElem?_eq_some_iff.1 hh).1;have hidb:id < hb.length:=(List.getElem?_eq_some_iff.1 q1).1
  by_cases hroom:es.length + ys.length <= cap
  ·have hrun:=Mx (P:=P) ht hT hu hd ty M.w A es.length cap ys.length y news n4 (n5 M.w rfl) hroom
   by_cases hc0:cap = 0
   ·
    have he0:es = []:=List.eq_nil_of_length_eq_zero (by omega);have hy0:ys = []:=List.eq_nil_of_length_eq_zero (by omega);subst he0; subst hy0;have hnews:news = #[]:=by
     apply Array.eq_empty_of_size_eq_zero;rw [n1]; simp
    subst hnews;have hrun':(Builtin.append_ #[t,u] ty #[.slice A ([]:List AV).length cap,y]).run P M.w = .ok (.slice A 0 cap) M.w:=by
     rw [hrun]
     cases A <;> simp [storeCells]
    let e':HB:={ eb with ver:=ver + 1 }
    refine ⟨_,M,hb.set id e',hrun',.hsl e' (by simp [hidb]) q2 (Nat.le_refl _) rfl (fun _=>⟨A,cap,rfl,Nat.zero_le _,.inl hc0⟩),?_,ok,.refl F M,?_⟩
    ·refine H.update (b':=.row mt (ver + 1) T.size ([] ++ [])) (e':=e') hh q1 (.refl M) (Nat.le_refl _) (Bf.set q1 (by show eb.ver <= ver + 1; omega) rfl (fun hf=>by rw [q2] at hf; cases hf) (fun hv=>by have:ver + 1 = eb.ver:=hv; omega)) (fun _ _ _=>⟨rfl,rfl⟩) ?_ (fun ho=>.inl ⟨ho,rfl⟩)
     obtain ⟨g1,g2,g3,g4,g5,g6⟩:=hB;exact ⟨g1,rfl,g3,g4,g5,g6⟩
    ·exact Bf.set q1 (by show eb.ver <= ver + 1; omega) rfl (fun hf=>by rw [q2] at hf; cases hf) (fun hv=>by have:ver + 1 = eb.ver:=hv; omega)
   ·obtain ⟨hre,rfl,r5⟩:=r3.resolve_left hc0
    obtain ⟨g1,g2,g3,g4,g5,g6⟩:=hB;obtain ⟨g7,c,hop,g9,g10⟩:=g6 hre;have hown:=H.own id _ eb hh q1 hre;have hop':=hop;obtain ⟨bty,hheap⟩:=hop';have hlimit:(es.length + ys.length) * T.size <= c.size:=Nat.le_trans (Nat.mul_le_mul_right _ (by omega)) g9;rw [Nat.add_mul] at hlimit;have hst:=run_storeCells_at P eb.blk (es.length * T.size) bty news.toList 0 c M.w hheap (by simp [n1]; omega) n3;have hfitn:es.length * T.size + news.size <= c.size:=by rw [n1]; omega
    simp only [Nat.add_zero,Array.length_toList] at hst;generalize hnew:(c.toList.take (es.length * T.size) ++ news.toList ++ c.toList.drop (es.length * T.size + news.size)).toArray = cn at hst;have hsz:cn.size = c.size:=by rw [<- hnew]; exact Et hfitn
    have hget:∀ j:Nat,cn[j]? = if es.length * T.size <= j /\ j < es.length * T.size + news.size then news[j - es.length * T.size]? else c[j]?:=fun j=>by rw [<- hnew]; exact DB hfitn j
    let n':=if mt = true then 0 else (es ++ ys).length * T.size
    have hlolo:M.lo eb.blk <= es.length * T.size:=by rw [g7]; split <;> omega
    have hle:M.Le (M.row eb.blk cn n'):=by
     refine Mem.Oe hop ?_ (fun o h1 _=>by rw [hget o,if_neg (by omega)]) hsz;rw [g7]
     show (if mt = true then 0 else es.length * T.size) <= if mt = true then 0 else (es ++ ys).length * T.size
     split
     ·exact Nat.le_refl _
     ·simp [Nat.add_mul]
    let e':HB:={ eb with ver:=ver + 1 }
    have hrel:Br M T.size (es ++ ys) cn:=by
     refine g10.app n2 (fun k hk=>?_) (fun k hk=>?_)
     ·rw [Array.getD_eq_getD_getElem?,hget k,if_neg (by omega),Array.getD_eq_getD_getElem?]
     ·rw [Array.getD_eq_getD_getElem?,hget _,if_pos (by rw [n1]; omega),Array.getD_eq_getD_getElem?]
      congr 2
      omega
    have hhb:Bf hb (hb.set id e'):=Bf.set q1 (by show eb.ver <= ver + 1; omega) rfl (fun hf=>by rw [q2] at hf; cases hf) (fun hv=>by have:ver + 1 = eb.ver:=hv; omega);refine ⟨.slice (some ⟨eb.blk,0 * eb.sz,none⟩) (es.length + ys.length) cap,M.row eb.blk cn n',hb.set id e',?_,.hsl e' (by simp [hidb]) q2 (Nat.le_refl _) rfl (fun _=>⟨_,cap,rfl,hroom,.inr ⟨hre,rfl,r5⟩⟩),?_,ok.row hown.1 _ _,Mem.Ox hle hown.2,hhb⟩
    ·rw [hrun,Nat.zero_mul]
     show ((storeCells ((⟨eb.blk,0,none⟩:Addr).add (es.length * T.size)) news.toList).run P M.w).andThen _ = _
     rw [Dy,Nat.zero_add,hst];rfl
    ·refine H.update (M':=M.row eb.blk cn n') (b':=.row mt (ver + 1) T.size (es ++ ys)) (e':=e') hh q1 hle (by rw [Mem.EY]; exact Nat.le_refl _) hhb (fun k _ hk=>Mem.Dk M _ _ _ (hk hre)) ?_ (fun _=>.inl ⟨hre,rfl⟩)
     refine ⟨g1,rfl,g3,by show (es ++ ys).length <= eb.lim; rw [List.length_append]; omega,(fun hr=>by rw [show e'.real = eb.real from rfl,hre] at hr; cases hr),fun _=>⟨Mem.Jn M _ _ _,cn,Mem.KI hop _ _,by rw [hsz]; exact g9,hrel.mono hle⟩⟩
  ·have hup:cap < es.length + ys.length:=by omega
   have hold:∃ olds:Array Value,olds.size = es.length * T.size /\ Br M T.size es olds /\ (Builtin.firstCells T.size es.length (.slice A es.length cap)).run P M.w.drew = .ok olds M.w.drew:=by
    rcases r3 with r3 | ⟨hre,rfl,r5⟩
    ·have h0:es = []:=List.eq_nil_of_length_eq_zero (by omega)
     subst h0;refine ⟨#[],by simp,(fun i x hx=>by simp at hx),?_⟩
     cases A <;> simp [Builtin.firstCells,loadCells,loadCellsFrom]
    ·obtain ⟨g1,g2,g3,g4,g5,g6⟩:=hB
     obtain ⟨g7,c,hop,g9,g10⟩:=g6 hre;have hop':=hop;obtain ⟨bty,hheap⟩:=hop';have hl:es.length * T.size <= c.size:=Nat.le_trans (Nat.mul_le_mul_right _ g4) g9;refine ⟨((List.range (es.length * T.size)).map fun k=>c.getD k undef).toArray,by simp,fun i x hx=>?_,?_⟩
     ·obtain ⟨k1,k2⟩:=g10 i x hx
      refine ⟨k1,fun j y hy=>?_⟩;have hi:i < es.length:=(List.getElem?_eq_some_iff.1 hx).1;have hj:j < T.size:=by have:=(List.getElem?_eq_some_iff.1 hy).1; omega
      have hlt:i * T.size + j < es.length * T.size:=by
       have h1:(i + 1) * T.size <= es.length * T.size:=Nat.mul_le_mul_right _ (by omega);rw [Nat.add_mul] at h1;omega
      have:=k2 j y hy
      simpa [Array.getD_eq_getD_getElem?,hlt] using this
     ·have hcells:∀ k:Nat,k < es.length * T.size -> M.w.drew.cell? ((⟨eb.blk,0 * eb.sz,none⟩:Addr).add k) = some (c.getD k undef):=by
       intro k hk;rw [Dy,Nat.zero_mul,Nat.zero_add]
       show M.w.cell? ⟨eb.blk,k,none⟩ = _
       rw [Cq hheap];simp [Array.getD_eq_getD_getElem?,show k < c.size by omega]
      have:=run_loadCells (P:=P) M.w.drew ⟨eb.blk,0 * eb.sz,none⟩ (es.length * T.size) (fun k=>c.getD k undef) hcells
      simpa [Builtin.firstCells] using this
   obtain ⟨olds,o1,o2,o3⟩:=hold;have hrun:=ML (P:=P) ht hT hu hd ty M.w A es.length cap ys.length y olds news n4 o3 (n5 M.w.drew rfl) hup hb0 hfit;generalize hnc:grownCap M.w (es.length + ys.length) cap e = nc at hrun;have hnc1:es.length + ys.length <= nc:=by rw [<- hnc]; exact grownCap_ge M.w _ _ _
   generalize hnew:olds ++ news ++ Builtin.zeroCells T.zero.cells (nc - (es.length + ys.length)) = cn at hrun;have hcs:cn.size = nc * T.size:=by
    rw [<- hnew,Array.size_append,Array.size_append,o1,n1,size_zeroCells,hz,<- Nat.add_mul,<- Nat.add_mul]
    congr 1
    omega
   let n':=if mt = true then 0 else (es ++ ys).length * T.size
   let M':=M.drew.new (.cells cn e) n'
   have hA:Ch M M':=(Ch.drew M).trans (Ch.new M.drew _ _);have hrel:Br M T.size (es ++ ys) cn:=by
    refine o2.app n2 (fun k hk=>?_) (fun k hk=>?_)
    ·have h1:k < olds.size:=by omega
     rw [<- hnew,Array.append_assoc];simp [Array.getD_eq_getD_getElem?,Array.getElem?_append,h1]
    ·have h1:k < news.size:=by omega
     have hno:¬ es.length * T.size + k < olds.size:=by omega
     have hk2:es.length * T.size + k - olds.size = k:=by omega
     rw [<- hnew,Array.append_assoc];simp [Array.getD_eq_getD_getElem?,Array.getElem?_append,hno,hk2,h1]
   let e':HB:=⟨M.w.heap.size,T.size,nc,ver + 1,true,false⟩
   have hhb:Bf hb (hb.set id e'):=Bf.set q1 (by show eb.ver <= ver + 1; omega) (by show false = eb.fix; exact q2.symm) (fun hf=>by rw [q2] at hf; cases hf) (fun hv=>by have:ver + 1 = eb.ver:=hv; omega);refine ⟨_,M',hb.set id e',hrun,.hsl e' (by simp [hidb]) rfl (Nat.le_refl _) rfl (fun _=>⟨_,nc,rfl,hnc1,.inr ⟨rfl,by simp [e'],by show 0 + nc <= nc; omega⟩⟩),?_,ok.drew.new _ _,hA.gu ok,hhb⟩;refine H.update (M':=M') (b':=.row mt (ver + 1) T.size (es ++ ys)) (e':=e') hh q1 (hA.gu ok).le hA.size hhb (fun k hk _=>hA.old k hk) ?_ (fun _=>.inr ⟨Nat.le_refl _,by show M.w.heap.size < (M.drew.new (.cells cn e) n').w.heap.size; rw [Mem.DT]; exact Nat.lt_succ_self _,fun hf=>absurd (ok.fr _ hf) (Nat.lt_irrefl _)⟩);refine ⟨rfl,rfl,rfl,by show (es ++ ys).length <= nc; rw [List.length_append]; exact hnc1,(fun hr=>by cases hr),fun _=>⟨Mem.HZ M.drew _ _,cn,⟨e,Mem.Df M.drew _ _⟩,by rw [hcs]; exact Nat.le_refl _,hrel.mono (hA.gu ok).le⟩⟩
def Qo (P:Program) (h:List Ah) (u:TypeId) (size:Nat) (y:AV) (K:List AV -> Prop):Prop :=
 match y with
 | .sl _ ys=>(Bk P u).isSome = true /\ Xn size ys /\ K ys
 | .hsl id ver off len=>match h[id]? with
  | some (.row _ ver' sz es)=>(Bk P u).isSome = true /\ ver = ver' /\ sz = size /\ off + len <= es.length /\ K ((es.take (off + len)).drop off)
  | _=>False
 | .val (.string s)=>P.underlying u = some .string /\ size = 1 /\ K (FV s)
 | _=>False
theorem LG {P:Program} {F:Nat -> Prop} {M:Mem} {hb:List HB} {h:List Ah} (H:AR F M hb h) {u:TypeId} {size:Nat} {y:AV} {v:Value} (hv:Al M hb y v) {K:List AV -> Prop} (hk:Qo P h u size y K):∃ ys,K ys /\ MJ P M u size v ys:=by
 unfold Qo at hk
 split at hk
 ·rename_i full ys
  obtain ⟨h1,h2,hk⟩:=hk;obtain ⟨⟨e,T⟩,hE⟩:=Option.isSome_iff_exists.1 h1;exact ⟨ys,hk,aar hv (Be hE).1 h2⟩
 ·rename_i id ver off len
  split at hk
  ·rename_i mt ver' sz es hh
   obtain ⟨h1,rfl,rfl,h2,hk⟩:=hk;obtain ⟨⟨e,T⟩,hE⟩:=Option.isSome_iff_exists.1 h1;exact ⟨_,hk,YP H hv hh h2 (Be hE).1⟩
  ·exact hk.elim
 ·rename_i s
  obtain ⟨h1,rfl,hk⟩:=hk;cases hv;exact ⟨_,hk,WI h1 s⟩
 ·exact hk.elim
def EM (P:Program) (h:List Ah) (ts:List TypeId) (xs:List AV) (K:AV -> List Ah -> Prop):Prop :=
 match ts,xs with
 | [t,u],[x,y]=>match Bk P t with
  | some (_,T)=>T.zero.cells.size = T.size /\ 0 < T.bytes /\ Qo P h u T.size y (fun ys=>match x with
   | .hsl id ver off len=>match h[id]? with
    | some (.row mt ver' sz es)=>ver = ver' /\ off = 0 /\ len = es.length /\ sz = T.size /\ (es.length + ys.length) * T.bytes <= 140737488355328 /\ K (.hsl id (ver + 1) 0 (es.length + ys.length)) (h.set id (.row mt (ver + 1) sz (es ++ ys)))
    | _=>False
   | .sl true []=>ys.length * T.bytes <= 140737488355328 /\ K (.hsl h.length 1 0 ys.length) (h ++ [.row true 1 T.size ys])
   | _=>False)
  | none=>False
 | _,_=>False
theorem MJ.heap {P:Program} {M:Mem} {u:TypeId} {size:Nat} {v:Value} {ys:List AV} (h:MJ P M u size v ys):MJ P M u size v ys:=h
theorem MK {P:Program} {F:Nat -> Prop} {M:Mem} {hb:List HB} {h:List Ah} (H:AR F M hb h) (ok:Cz F M) {ts:Array TypeId} {xs:List AV} {vs:Array Value} (hl:xs.length = vs.size) (hv:∀ (i:Nat) (x:AV),xs[i]? = some x -> Al M hb x (vs.getD i undef)) {K:AV -> List Ah -> Prop} (hk:EM P h ts.toList xs K) (ty:TypeId) :
  Lt F M hb ((Builtin.append_ ts ty vs).run P M.w) K:=by
 unfold EM at hk
 split at hk
 ·rename_i t u x y hts
  obtain ⟨vx,vy,rfl⟩:=aal hl;obtain rfl:ts = #[t,u]:=by cases ts; simp at hts; simp [hts]
  have hx:=hv 0 x rfl;have hy:=hv 1 y rfl;simp at hx hy
  split at hk
  ·rename_i e T hE
   obtain ⟨ht,hT⟩:=Be hE;obtain ⟨hz,hb0,hk⟩:=hk;obtain ⟨ys,hk,hn⟩:=LG H hy hk
   split at hk
   ·rename_i id ver off len
    split at hk
    ·rename_i mt ver' sz es hh
     obtain ⟨rfl,rfl,rfl,rfl,hfit,hk⟩:=hk;obtain ⟨v',M',hb',k1,k2,k3,k4,k5,k6⟩:=Lu H ok ht hT hz hb0 hh hx hn hfit ty;exact ⟨_,v',_,M',hb',hk,k1,k2,k3,k4,k5,k6⟩
    ·exact hk.elim
   ·obtain ⟨hfit,hk⟩:=hk
    obtain ⟨hb1,p1,p2,p3⟩:=Kz H ok hx T.size;obtain ⟨v',M',hb',k1,k2,k3,k4,k5,k6⟩:=Lu p1 ok ht hT hz hb0 (Dd h _) (es:=[]) (by simpa using p3) hn (by simpa using hfit) ty;refine ⟨_,v',_,M',hb',hk,k1,by simpa using k2,?_,k4,k5,p2.trans k6⟩;have Cf:(h ++ [Ah.row true 0 T.size []]).set h.length (.row true (0 + 1) T.size ([] ++ ys)) = h ++ [.row true 1 T.size ys]:=by simp
    rw [Cf] at k3;exact k3
   ·exact hk.elim
  ·exact hk.elim
 ·exact hk.elim
end Go.PM

namespace Go.PM
variable [AA]
theorem ZG {F:Nat -> Prop} {M:Mem} {hb:List HB} {h:List Ah} (H:AR F M hb h) (ok:Cz F M) {o:Obj} {c:Array Value} {es:List AV} {sz cap:Nat} {full:Bool} (hr:Br M sz es c) (hl:es.length * sz <= c.size) (ho:∃ ty fr,o = .cells c ty fr) (hcap:es.length <= cap) (hf:full = true -> cap = es.length) :
  let M':=M.new o (es.length * sz)
  Al M' hb (.sl full es) (.slice (some ⟨M.w.heap.size,0,none⟩) es.length cap) /\ AR F M' hb h /\ Cz F M' /\ Gu F M M':=by
 intro M';have hA:Ch M M':=Ch.new M o _;obtain ⟨ty,fr,rfl⟩:=ho;have hheap:M'.w.heap[M.w.heap.size]? = some (.cells c ty fr):=Mem.Df M _ _;have helem:∀ (i:Nat) (x:AV) (j:Nat) (y:AV),es[i]? = some x -> x.cells[j]? = some y -> M'.QM M.w.heap.size (i * sz + j) /\ y.single = true /\ Al M' [] y (M'.get M.w.heap.size (i * sz + j)):=by
  intro i x j y hx hy;obtain ⟨g1,g2⟩:=hr i x hx;obtain ⟨k1,k2⟩:=g2 j y hy;have hi:i < es.length:=(List.getElem?_eq_some_iff.1 hx).1;have hj:j < sz:=by have:=(List.getElem?_eq_some_iff.1 hy).1; omega
  have hlt:i * sz + j < es.length * sz:=by
   have h1:(i + 1) * sz <= es.length * sz:=Nat.mul_le_mul_right _ (by omega);rw [Nat.add_mul] at h1;omega
  have hc:M'.w.cell? ⟨M.w.heap.size,i * sz + j,none⟩ = some (c.getD (i * sz + j) undef):=by
   rw [Cq hheap];simp [Array.getD_eq_getD_getElem?,show i * sz + j < c.size by omega]
  refine ⟨⟨by rw [Mem.HZ]; exact hlt,by rw [hc]; rfl⟩,k1,?_⟩;unfold Mem.get;rw [hc];exact k2.mem (hA.gu ok).le
 refine ⟨?_,H.Lw hA ok,ok.new _ _,hA.gu ok⟩;refine .sl sz (.inl rfl) hcap hf (fun x hx=>?_) (fun i x j y hx hy=>?_) (fun i x j y hx hy=>?_)
 ·obtain ⟨i,hi⟩:=List.getElem?_of_mem hx
  exact (hr i x hi).1
 ·have:=helem i x j y hx hy
  rw [show (0:Nat) + i * sz + j = i * sz + j by omega];exact ⟨this.1,this.2.1⟩
 ·have:=helem i x j y hx hy
  rw [show (0:Nat) + i * sz + j = i * sz + j by omega];exact this.2.2
def CU (P:Program) (h:List Ah) (t:TypeId) (l c:AV) (K:AV -> List Ah -> Prop):Prop :=
 match l,c,Bk P t with
 | .val (.int _ l),.val (.int _ c),some (_,T)=>DJ T = true /\ (zeroOf T).cells.all AV.BK = true /\ 0 <= l /\ l <= c /\ 0 < T.bytes /\ 0 < T.size /\ (T.bytes:Int) * c <= 281474976710656 /\
   K (.hsl h.length 0 0 l.toNat) (h ++ [.row true 0 T.size (List.replicate l.toNat (zeroOf T))])
 | _,_,_=>False
theorem RJ {T:Ty} (hz:DJ T = true) (_:(zeroOf T).cells.all AV.BK = true) (M:Mem) (l n:Nat) (hln:l <= n) (_:0 < T.size):Br M T.size (List.replicate l (zeroOf T)) (madeCells T.zero.cells (n * T.size)) /\ T.zero.cells.size = T.size:=by
 simp only [DJ,Bool.and_eq_true,beq_iff_eq] at hz;have hc:=CK (ES M [] T.zero) hz.1.1;have hsz:T.zero.cells.size = T.size:=by rw [hc.1]; exact hz.1.2
 refine ⟨fun i x hx=>?_,hsz⟩;have hi:i < l:=by have:=(List.getElem?_eq_some_iff.1 hx).1; simpa using this
 have hxe:x = zeroOf T:=by rw [List.getElem?_replicate,if_pos hi] at hx; exact (Option.some.inj hx).symm
 subst hxe;refine ⟨hz.1.2,fun j y hy=>?_⟩;have hj:j < T.size:=by have:=(List.getElem?_eq_some_iff.1 hy).1; rw [hz.1.2] at this; exact this
 obtain ⟨k1,k2⟩:=hc.2 j y hy;refine ⟨k1,?_⟩;have hlt:i * T.size + j < n * T.size:=by
  have h1:(i + 1) * T.size <= n * T.size:=Nat.mul_le_mul_right _ (by omega);rw [Nat.add_mul] at h1;omega
 have hmod:(i * T.size + j) % T.zero.cells.size = j:=by
  rw [hsz,Nat.mul_comm,Nat.mul_add_mod,Nat.mod_eq_of_lt hj]
 have hget:(madeCells T.zero.cells (n * T.size)).getD (i * T.size + j) undef = T.zero.cells.getD j undef:=by
  simp [madeCells,Array.getD_eq_getD_getElem?,hlt,hmod,show j < T.zero.cells.size by omega]
 rw [hget];exact k2
theorem Jq {P:Program} {F:Nat -> Prop} {M:Mem} {hb:List HB} {h:List Ah} (H:AR F M hb h) (ok:Cz F M) {t:TypeId} {l c:AV} {vl vc:Value} (hl:Al M hb l vl) (hc:Al M hb c vc) {K:AV -> List Ah -> Prop} (hk:CU P h t l c K) :
  Lt F M hb ((Instr.makeSlice t vl vc).run P M.w) K:=by
 unfold CU at hk
 split at hk
 ·rename_i kl l kc c e T hE
  obtain ⟨ht,hT⟩:=Be hE;obtain ⟨hz,hp,h0,h1,hb0,hs0,hbytes,hk⟩:=hk
  cases hl; cases hc
  obtain ⟨i,hi1,hi2,hi3,hi4,hi5⟩:=Hy hT;have hc63:c <= 9223372036854775807:=by
   have:c <= (T.bytes:Int) * c:=by
    have:=Int.mul_le_mul_of_nonneg_right (show (1:Int) <= T.bytes by omega) (show 0 <= c by omega);omega
   omega
  have hrun:=run_make (P:=P) M.w t e i T.zero ht hi1 hi5 kl kc l c h0 h1 (by rw [hi4]; exact hbytes) hc63;rw [hi3] at hrun;obtain ⟨hel,hzs⟩:=RJ hz hp M l.toNat c.toNat (by omega) hs0;have hA:=Ch.new M (.cells (madeCells T.zero.cells (c.toNat * T.size)) e) 0
  let eb:HB:=⟨M.w.heap.size,T.size,c.toNat,0,true,false⟩
  refine ⟨_,_,_,M.new (.cells (madeCells T.zero.cells (c.toNat * T.size)) e) 0,hb ++ [eb],hk,hrun,?_,?_,ok.new _ _,hA.gu ok,.append hb _⟩
  ·exact .hsl eb (by rw [<- H.len]; exact Dd hb eb) rfl (Nat.le_refl _) rfl (fun _=>⟨_,c.toNat,rfl,by omega,.inr ⟨rfl,by simp [eb],by simp [eb]⟩⟩)
  ·refine H.push hA ok _ eb ⟨rfl,rfl,rfl,by simp [eb]; omega,(fun hr=>by cases hr),fun _=>⟨Mem.HZ M _ _,_,⟨e,Mem.Df M _ _⟩,by rw [size_madeCells]; exact Nat.le_refl _,hel.mono (hA.gu ok).le⟩⟩ (fun _=>⟨Nat.le_refl _,by rw [Mem.DT]; exact Nat.lt_succ_self _⟩)
 ·exact hk.elim
def Hg:List AV -> List Ah -> (List AV -> List Ah -> Prop) -> Prop
 | [],h,K=>K [] h
 | x :: xs,h,K=>Jj h x (fun x' h'=>Hg xs h' (fun xs' h''=>K (x' :: xs') h''))
theorem Py {F:Nat -> Prop} {hb:List HB}:∀ (xs:List AV) {M:Mem} {h:List Ah} (_:AR F M hb h) (_:Cz F M) {vs:List Value} (_:xs.length = vs.length) (_:∀ (i:Nat) (x:AV),xs[i]? = some x -> Al M hb x (vs.getD i undef)) {K:List AV -> List Ah -> Prop} (_:Hg xs h K),
  ∃ (xs':List AV) (h':List Ah) (M':Mem),K xs' h' /\ M'.w = M.w /\ xs'.length = vs.length /\ (∀ (i:Nat) (x:AV),xs'[i]? = some x -> Al M' [] x (vs.getD i undef)) /\ AR F M' hb h' /\ Cz F M' /\ Gu F M M':=by
 intro xs
 induction xs with
 | nil =>
  intro M h H ok vs hl hv K hk;exact ⟨[],h,M,hk,rfl,hl,fun i x hx=>by simp at hx,H,ok,.refl F M⟩
 | cons x xs ih =>
  intro M h H ok vs hl hv K hk
  cases vs with
  | nil=>simp at hl
  | cons v vs =>
   obtain ⟨x',h',M',k1,k2,k3,k4,k5,k6⟩:=Lr H ok (hv 0 x rfl) hk;obtain ⟨xs',h'',M'',q1,q2,q3,q4,q5,q6,q7⟩:=ih k4 k5 (vs:=vs) (by simpa using hl) (fun i y hy=>by
    have:=hv (i + 1) y (by simpa using hy);exact Al.mem k6.le (by simpa using this)) k1
   refine ⟨x' :: xs',h'',M'',q1,q2.trans k2,by simp [q3],fun i y hy=>?_,q5,q6,k6.trans q7⟩
   cases i with
   | zero=>simp at hy; subst hy; exact k3.mem q7.le
   | succ i=>simpa using q4 i y (by simpa using hy)
def adM (n:Nat) (es:List AV):Bool:=es.all fun e=>e.cells.length == n && Ec e.cells
def BL (P:Program) (h:List Ah) (t:TypeId) (n:Nat) (idx:List Nat) (xs:List AV) (K:AV -> List Ah -> Prop):Prop :=
 match Bk P t with
 | some (_,T)=>idx = List.range n /\ xs.length = n /\ n * T.size <= 16777216 /\ T.zero.cells.size = T.size /\ Hg xs h (fun es h'=>adM T.size es = true /\ K (.sl true es) h')
 | none=>False
theorem Xg {size:Nat}:∀ (vs:List Value) (k:Nat) (pre rest:List Value),pre.length = k * size -> rest.length = vs.length * size -> (∀ v,v ∈ vs -> v.cells.size = size) ->
  Instr.fill (fun i=>some (i * size,size)) (pre ++ rest).toArray ((List.range' k vs.length).zip vs) = some (pre ++ vs.flatMap (fun v=>v.cells.toList)).toArray:=by
 intro vs
 induction vs with
 | nil =>
  intro k pre rest h1 h2 h3;have:rest = []:=List.eq_nil_of_length_eq_zero (by simpa using h2);subst this;simp [Instr.fill]
 | cons v vs ih =>
  intro k pre rest h1 h2 h3;have hv:=h3 v List.mem_cons_self;have hrl:size <= rest.length:=by rw [h2,List.length_cons,Nat.add_mul]; omega
  simp only [List.length_cons,List.range'_succ,List.zip_cons_cons,Instr.fill];rw [if_neg]
  ·have hput:=NJ v.cells.toList (pre ++ rest).toArray (k * size) 0 (by simp [hv,h1]; exact hrl)
   have heq:v.cells.zipIdx.foldl (fun cs (c,j)=>cs.setIfInBounds (k * size + j) c) (pre ++ rest).toArray = (pre ++ v.cells.toList ++ rest.drop size).toArray:=by
    have hz:v.cells.zipIdx = (v.cells.toList.zipIdx 0).toArray:=by
     apply Array.ext';simp
    rw [hz];simp only [List.foldl_toArray];apply Array.ext_getElem?;intro j;rw [hput.2 j];simp only [Nat.add_zero,Array.length_toList,hv,List.getElem?_toArray]
    by_cases hj:j < k * size
    ·rw [if_neg (by omega),List.append_assoc,List.getElem?_append_left (by omega),List.getElem?_append_left (by omega)]
    ·by_cases hj2:j < k * size + size
     ·rw [if_pos (by omega),List.append_assoc,List.getElem?_append_right (by omega),List.getElem?_append_left (by simp [hv]; omega),h1]
     ·rw [if_neg (by omega),List.getElem?_append_right (by omega),List.getElem?_append_right (by simp [hv]; omega),List.getElem?_drop]
      congr 1
      simp [hv];omega
   rw [heq];have:=ih (k + 1) (pre ++ v.cells.toList) (rest.drop size) (by simp [hv,h1,Nat.add_mul]) (by rw [List.length_drop,h2,List.length_cons,Nat.add_mul]; omega) (fun u hu=>h3 u (List.mem_cons_of_mem _ hu));rw [this];simp
  ·simp only [Bool.or_eq_true,decide_eq_true_eq,hv,ne_eq]
   simp [h1];omega
theorem MM {sz:Nat}:∀ (vs:List Value) (i j:Nat) (v:Value),(∀ v,v ∈ vs -> v.cells.size = sz) -> vs[i]? = some v -> j < sz -> (vs.flatMap (fun v=>v.cells.toList))[i * sz + j]? = v.cells[j]?:=by
 intro vs
 induction vs with
 | nil=>intro i j v _ h; simp at h
 | cons u vs ih =>
  intro i j v hs h hj;have hu:=hs u List.mem_cons_self;rw [List.flatMap_cons]
  cases i with
  | zero =>
   simp at h; subst h;rw [Nat.zero_mul,Nat.zero_add,List.getElem?_append_left (by simp [hu]; exact hj)];simp
  | succ i =>
   have hge:sz <= (i + 1) * sz + j:=by rw [Nat.add_mul]; omega
   rw [List.getElem?_append_right (by simp [hu]; exact hge)];have:=ih i j v (fun v hv=>hs v (List.mem_cons_of_mem _ hv)) (by simpa using h) hj;rw [<- this]
   congr 1
   simp [hu,Nat.add_mul];omega
theorem PD {sz:Nat}:∀ (vs:List Value),(∀ v,v ∈ vs -> v.cells.size = sz) -> (vs.flatMap (fun v=>v.cells.toList)).length = vs.length * sz:=by
 intro vs
 induction vs with
 | nil=>intro _; simp
 | cons u vs ih =>
  intro hs;rw [List.flatMap_cons,List.length_append,ih (fun v hv=>hs v (List.mem_cons_of_mem _ hv)),List.length_cons,Nat.add_mul];simp [hs u List.mem_cons_self];omega
theorem QB {P:Program} {F:Nat -> Prop} {M:Mem} {hb:List HB} {h:List Ah} (H:AR F M hb h) (ok:Cz F M) {src dst:TypeId} {x:AV} {v:Value} (hv:Al M hb x v) {K:AV -> Prop} (hk:FN P src dst x K) :
  Lt F M hb ((convert src dst v).run P M.w) (fun y h'=>h' = h /\ K y):=by
 unfold FN at hk
 split at hk
 ·rename_i e s h1 h2
  obtain ⟨he,hk⟩:=hk;cases hv
  let cap:=grownCap M.w s.size 0 e
  let row:=bytesRow s cap
  let o:Obj:=.cells row e (row.size,row.size + 1)
  have hge:s.size <= cap:=grownCap_ge _ _ _ _;have hA:Ch M (M.drew.new o s.size):=(Ch.drew M).trans (Ch.new M.drew _ _);have hcell:∀ j:Nat,j < s.size -> (M.drew.new o s.size).w.cell? ⟨M.w.heap.size,j,none⟩ = some (.int .u8 ((s.data.toList.getD j 0).toNat:Int)):=by
   intro j hj;have hn:(M.drew.new o s.size).w.heap[M.w.heap.size]? = some o:=Mem.Df M.drew o _;have hj':j < s.data.size:=hj;have hr:row[j]? = some (.int .u8 ((s.data.toList.getD j 0).toNat:Int)):=by
    show (s.data.map (fun b=>Value.int .u8 b.toNat) ++ Array.replicate (cap - s.size) (.int .u8 0))[j]? = _
    rw [Array.getElem?_append_left (by simpa using hj')];rw [Array.getElem?_map,Array.getElem?_eq_getElem hj',List.getD_eq_getElem?_getD,Array.getElem?_toList,Array.getElem?_eq_getElem hj'];rfl
   unfold World.cell?;simp only [hn];exact hr
  have hsz:s.data.toList.length = s.size:=by simp
  refine ⟨_,.slice (some ⟨M.w.heap.size,0,none⟩) s.size cap,h,M.drew.new o s.size,hb,⟨rfl,hk⟩,run_bytes_of_string M.w src dst e s h1 h2 he,?_,H.Lw hA ok,ok.drew.new _ _,hA.gu ok,.refl hb⟩;have hx:∀ (i:Nat) (y:AV),(s.data.toList.map fun b=>AV.val (.int .u8 (b.toNat:Int)))[i]? = some y -> i < s.size /\ y = .val (.int .u8 ((s.data.toList.getD i 0).toNat:Int)):=by
   intro i y hy;rw [List.getElem?_map,Option.map_eq_some_iff] at hy;obtain ⟨b,hb1,hb2⟩:=hy;exact ⟨by rw [<- hsz]; exact (List.getElem?_eq_some_iff.1 hb1).1,by rw [<- hb2,List.getD_eq_getElem?_getD,hb1]; rfl⟩
  have hc:∀ (i j:Nat) (y c:AV),(s.data.toList.map fun b=>AV.val (.int .u8 (b.toNat:Int)))[i]? = some y -> y.cells[j]? = some c -> i < s.size /\ j = 0 /\ c = .val (.int .u8 ((s.data.toList.getD i 0).toNat:Int)):=by
   intro i j y c hi hj;obtain ⟨h5,rfl⟩:=hx i y hi
   match j,hj with
   | 0,hj=>cases hj; exact ⟨h5,rfl,rfl⟩
   | j + 1,hj=>simp [AV.cells] at hj
  have hl:(s.data.toList.map fun b=>AV.val (.int .u8 (b.toNat:Int))).length = s.size:=by rw [List.length_map,hsz]
  have:=Al.sl (M:=M.drew.new o s.size) (hb:=hb) (full:=false) (es:=s.data.toList.map fun b=>AV.val (.int .u8 (b.toNat:Int))) (a:=⟨M.w.heap.size,0,none⟩) (cap:=cap) 1 (.inl rfl) (by rw [hl]; exact hge) (fun hf=>by cases hf)
   (fun y hy=>by
    obtain ⟨i,hi⟩:=List.getElem?_of_mem hy;obtain ⟨h5,rfl⟩:=hx i y hi;rfl)
   (fun i y j c hi hj=>by
    obtain ⟨h5,rfl,rfl⟩:=hc i j y c hi hj;simp only [Nat.mul_one,Nat.zero_add,Nat.add_zero];refine ⟨⟨?_,by rw [hcell i h5]; rfl⟩,rfl⟩;have hlo:(M.drew.new o s.size).lo M.w.heap.size = s.size:=Mem.HZ M.drew o _
    show i < (M.drew.new o s.size).lo M.w.heap.size
    rw [hlo]; exact h5)
   (fun i y j c hi hj=>by
    obtain ⟨h5,rfl,rfl⟩:=hc i j y c hi hj;simp only [Nat.mul_one,Nat.zero_add,Nat.add_zero];unfold Mem.get;rw [hcell i h5];exact .val rfl)
  rwa [hl] at this
 ·obtain ⟨y,u,k1,k2,k3⟩:=JR hv hk
  exact ⟨y,u,h,M,hb,⟨rfl,k1⟩,k2,k3,H,ok,.refl _ _,.refl hb⟩
theorem IG {P:Program} {F:Nat -> Prop} {M:Mem} {hb:List HB} {h:List Ah} (H:AR F M hb h) (ok:Cz F M) {t:TypeId} {n:Nat} {idx:List Nat} {xs:List AV} {vs:List Value} (hlv:xs.length = vs.length) (hv:∀ (i:Nat) (x:AV),xs[i]? = some x -> Al M hb x (vs.getD i undef)) {qs:Array (Nat × Value)} (hq:qs.toList = idx.zip vs) {K:AV -> List Ah -> Prop} (hk:BL P h t n idx xs K) :
  Lt F M hb ((Instr.buildSlice t n qs).run P M.w) K:=by
 unfold BL at hk
 split at hk
 ·rename_i e T hE
  obtain ⟨ht,hT⟩:=Be hE;obtain ⟨rfl,hn,hbig,hz,hk⟩:=hk;obtain ⟨es,h',M1,⟨hu,k1⟩,k2,k3,k4,k5,k6,k7⟩:=Py xs H ok hlv hv hk;have hvn:vs.length = n:=by rw [<- hlv,hn]
  have hes:es.length = n:=by rw [k3,hvn]
  have hcell:∀ (i:Nat) (x:AV),es[i]? = some x -> x.cells.length = T.size /\ BE M1 [] x.cells (vs.getD i undef).cells:=by
   intro i x hx;have:=List.all_eq_true.1 hu x (List.mem_of_getElem? hx);simp only [Bool.and_eq_true,beq_iff_eq] at this;exact ⟨this.1,CK (k4 i x hx) this.2⟩
  have hvs:∀ v,v ∈ vs -> v.cells.size = T.size:=by
   intro v hvm;obtain ⟨i,hi⟩:=List.getElem?_of_mem hvm;have hil:i < es.length:=by rw [k3]; exact (List.getElem?_eq_some_iff.1 hi).1
   obtain ⟨q1,q2⟩:=hcell i es[i] (by simp);have hg:vs.getD i undef = v:=by simp [List.getD_eq_getElem?_getD,hi]
   rw [hg] at q2;rw [q2.1,q1]
  have hfill:=Xg (size:=T.size) vs 0 [] (madeCells T.zero.cells (n * T.size)).toList (by simp) (by simp [size_madeCells,hvn]) hvs;have hrel:Br M1 T.size es (vs.flatMap (fun v=>v.cells.toList)).toArray:=by
   intro i x hx;obtain ⟨q1,q2⟩:=hcell i x hx;refine ⟨q1,fun j y hy=>?_⟩;have hj:j < T.size:=by have:=(List.getElem?_eq_some_iff.1 hy).1; omega
   have hiv:i < vs.length:=by rw [<- k3]; exact (List.getElem?_eq_some_iff.1 hx).1
   have hg:=MM (sz:=T.size) vs i j vs[i] hvs (by simp) hj;obtain ⟨q3,q4⟩:=q2.2 j y hy;refine ⟨q3,?_⟩;have:(vs.flatMap (fun v=>v.cells.toList)).toArray.getD (i * T.size + j) undef = (vs.getD i undef).cells.getD j undef:=by
    rw [Array.getD_eq_getD_getElem?,List.getElem?_toArray,hg,Array.getD_eq_getD_getElem?];simp [List.getD_eq_getElem?_getD,hiv]
   rw [this];exact q4
  have hrun:(Instr.buildSlice t n qs).run P M.w = .ok (.slice (some ⟨M.w.heap.size,0,none⟩) n n) (M.w.alloc (.cells (vs.flatMap (fun v=>v.cells.toList)).toArray e)):=by
   have hq':qs.toList = (List.range' 0 vs.length).zip vs:=by rw [hq,hvn,List.range_eq_range']
   have hb1:¬ (16777216 < n * T.size):=by omega
   by_cases h0:n * T.size = 0
   ·have hm0:madeCells T.zero.cells (n * T.size) = #[]:=by rw [h0]; simp [madeCells,Array.range_zero']
    rw [hm0] at hfill;simp only [List.nil_append] at hfill;simp [Instr.buildSlice,run_underlying ht,AK hT,h0,hq',newRow,Array.range_zero'];rw [hfill];rfl
   ·have hm:madeCells T.zero.cells (n * T.size) = (Array.range (n * T.size)).map (T.zero.cells[· % T.zero.cells.size]!):=rfl
    rw [hm] at hfill;simp only [List.nil_append,Array.toArray_toList] at hfill;simp [Instr.buildSlice,run_underlying ht,AK hT,h0,hb1,BN hT,hq',newRow];rw [hfill];rfl
  obtain ⟨g1,g2,g3,g4⟩:=ZG (hb:=hb) (full:=true) (cap:=n) (o:=.cells (vs.flatMap (fun v=>v.cells.toList)).toArray e) k5 k6 hrel (by simp [PD vs hvs,hes,hvn]) ⟨e,(0,0),rfl⟩ (by omega) (fun _=>hes.symm);rw [hes,k2] at g1;refine ⟨_,_,h',_,hb,k1,?_,g1,by rw [hes] at g2; exact g2,by rw [hes] at g3; exact g3,k7.trans (by rw [hes] at g4; exact g4),.refl hb⟩;rw [hrun]
  show _ = Result.ok _ (M1.w.alloc _)
  rw [k2]
 ·exact hk.elim
end Go.PM

namespace Go.PM
variable [AA]
inductive AE where
 | ret (x:AV)
 | panic (x:AV)
inductive AX where
 | normal
 | exit (id:Nat)
 | goto (l:Nat)
 | ret
 | panic (x:AV)
def ahm (M:Mem) (hb:List HB):AE -> Ending -> Prop
 | .ret x,.returned v=>Al M hb x v
 | .panic x,.panicked chain=>∃ v,chain = [{ v,recovered:=false }] /\ Al M hb x v
 | _,_=>False
def aiD (M:Mem) (hb:List HB):AX -> Exit -> Prop
 | .normal,.normal=>True
 | .exit i,.exit j=>i = j
 | .goto i,.goto j=>i = j
 | .ret,.ret=>True
 | .panic x,.panic chain=>∃ v,chain = [{ v,recovered:=false }] /\ Al M hb x v
 | _,_=>False
def Ks (P:Program) (f:FuncId):Prop:=∃ fn,P.funcs[f]? = some fn /\ fn.name ≠ "runtime.NumGoroutine" /\ fn.body.isNone = false
def Np (F:Nat -> Prop) (M:Mem) (hb:List HB) (R:AE -> List Ah -> Prop) (e:Ending) (w:World):Prop :=
 ∃ r h' M' hb',R r h' /\ ahm M' hb' r e /\ M'.w = w /\ AR F M' hb' h' /\ Cz F M' /\ Gu F M M' /\ Bf hb hb'
def Ag (P:Program) (f:FuncId) (args:List AV) (h:List Ah) (R:AE -> List Ah -> Prop):Prop :=
 Ks P f /\ ∀ F M hb vs,AR F M hb h -> Cz F M -> AW M hb args vs -> Calls P f vs M.w (Np F M hb R)
theorem Ag.mono {P:Program} {f:FuncId} {args:List AV} {h:List Ah} {R R':AE -> List Ah -> Prop} (hc:Ag P f args h R) (hr:∀ r h',R r h' -> R' r h'):Ag P f args h R' :=
 ⟨hc.1,fun F M hb vs H ok hv=>Calls.mono (hc.2 F M hb vs H ok hv) fun _ _ ⟨r,h',M',hb',k,rest⟩=>⟨r,h',M',hb',hr r h' k,rest⟩⟩
def Rd (hb:List HB) (rd:Option Nat) (ro:Option Nat):Prop :=
 match rd,ro with
 | none,none=>True
 | some id,some b=>∃ e:HB,hb[id]? = some e /\ e.fix = true /\ e.blk = b
 | _,_=>False
theorem Rd.mono {hb hb':List HB} {rd ro:Option Nat} (h:Rd hb rd ro) (hh:Bf hb hb'):Rd hb' rd ro:=by
 cases rd <;> cases ro <;> try exact h
 obtain ⟨e,h1,h2,h3⟩:=h;obtain ⟨e',g1,g2,g3,g4,g5⟩:=hh _ e h1;rw [g4 h2] at g1;exact ⟨e,g1,h2,h3⟩
def AY (ro:Option Nat):Fence:={ Fence.wide with round:=ro }
theorem OP (ro:Option Nat) (n:Nat):(AY ro).room n:=fun _ h=>by simp [AY,Fence.wide] at h
theorem Ex {ro:Option Nat} {n:Nat} {P:Program} {f:FuncId} {args:Array Value} {w:World} {R:Ending -> World -> Prop}:CallsIn (AY ro) n P f args w R ↔ Calls P f args w R :=
 ⟨fun h=>(callsIn_wide (n:=n)).1 ⟨trivial,fun cs _=>h.2 cs (OP _ _)⟩,fun h=>⟨trivial,fun cs _=>((callsIn_wide (n:=n)).2 h).2 cs (room_wide _)⟩⟩
def Dx (F:Nat -> Prop) (M:Mem) (hb:List HB) (Φ:AX -> St -> Prop):Exit -> Act -> World -> Prop:=fun e a w =>
 ∃ x s' M' hb',Φ x s' /\ aiD M' hb' x e /\ M'.w = w /\ BR F M' hb' s' a /\ Gu F M M' /\ Bf hb hb'
def Aa (P:Program) (rd:Option Nat) (c:Code) (s:St) (Φ:AX -> St -> Prop):Prop :=
 ∀ F M hb a ro,BR F M hb s a -> Rd hb rd ro -> c.wpIn (AY ro) 0 P (Dx F M hb Φ) a M.w
theorem Dx.mono {F:Nat -> Prop} {M:Mem} {hb:List HB} {Φ Ψ:AX -> St -> Prop} (h:∀ x s,Φ x s -> Ψ x s) {e:Exit} {a:Act} {w:World} (hc:Dx F M hb Φ e a w):Dx F M hb Ψ e a w :=
 let ⟨x,s',M',hb',k,rest⟩:=hc; ⟨x,s',M',hb',h x s' k,rest⟩
theorem Dx.trans {F:Nat -> Prop} {M M1:Mem} {hb hb1:List HB} {Φ:AX -> St -> Prop} (hg:Gu F M M1) (hh:Bf hb hb1) {e:Exit} {a:Act} {w:World} (hc:Dx F M1 hb1 Φ e a w):Dx F M hb Φ e a w :=
 let ⟨x,s',M',hb',k,r1,r2,r3,r4,r5⟩:=hc; ⟨x,s',M',hb',k,r1,r2,r3,hg.trans r4,hh.trans r5⟩
section rules
variable {P:Program} {rd:Option Nat} {s:St} {Φ:AX -> St -> Prop}
theorem Aa.mono {c:Code} {Ψ:AX -> St -> Prop} (hc:Aa P rd c s Φ) (h:∀ x s,Φ x s -> Ψ x s):Aa P rd c s Ψ :=
 fun F M hb a ro hs hr=>wpIn_mono (hc F M hb a ro hs hr) fun _ _ _ hq=>hq.mono h
theorem Aa.skip (h:Φ .normal s):Aa P rd .skip s Φ:=fun _ M hb _ _ hs _=>wpIn_skip ⟨.normal,s,M,hb,h,trivial,rfl,hs,.refl _ _,.refl _⟩
theorem Aa.label {l:Nat} (h:Φ .normal s):Aa P rd (.label l) s Φ:=fun _ M hb _ _ hs _=>wpIn_label ⟨.normal,s,M,hb,h,trivial,rfl,hs,.refl _ _,.refl _⟩
theorem Aa.exit {id:Nat} (h:Φ (.exit id) s):Aa P rd (.exit id) s Φ:=fun _ M hb _ _ hs _=>wpIn_exit ⟨.exit id,s,M,hb,h,rfl,rfl,hs,.refl _ _,.refl _⟩
theorem Aa.goto {l:Nat} (h:Φ (.goto l) s):Aa P rd (.goto l) s Φ:=fun _ M hb _ _ hs _=>wpIn_goto ⟨.goto l,s,M,hb,h,rfl,rfl,hs,.refl _ _,.refl _⟩
theorem Aa.ret (h:Φ .ret s):Aa P rd .ret s Φ:=fun _ M hb _ _ hs _=>wpIn_ret ⟨.ret,s,M,hb,h,trivial,rfl,hs,.refl _ _,.refl _⟩
def AX.GG (K:St -> Prop) (Φ:AX -> St -> Prop):AX -> St -> Prop
 | .normal,s=>K s
 | x,s=>Φ x s
theorem Aa.seq {x y:Code} (h:Aa P rd x s (AX.GG (fun s1=>Aa P rd y s1 Φ) Φ)):Aa P rd (.seq x y) s Φ:=by
 intro F M hb a ro hs hr;refine wpIn_seq (wpIn_mono (h F M hb a ro hs hr) ?_);rintro e a' w' ⟨x',s',M',hb',k,r1,rfl,r3,r4,r5⟩
 cases x' <;> cases e <;> try exact r1.elim
 ·exact wpIn_mono (k F M' hb' a' ro r3 (hr.mono r5)) fun _ _ _ hq=>hq.trans r4 r5
 all_goals exact ⟨_,s',M',hb',k,r1,rfl,r3,r4,r5⟩
theorem Aa.cond {c:Operand} {x y:Code} {t:Bool} (hc:s.ev c = .val (.bool t)) (h1:t = true -> Aa P rd x s Φ) (h2:t = false -> Aa P rd y s Φ):Aa P rd (.cond c x y) s Φ:=by
 intro F M hb a ro hs hr;have hv:=hs.ev c;rw [hc] at hv;generalize hv':a.eval c = v at hv;cases hv;exact wpIn_cond_split hv' (fun ht=>h1 ht F M hb a ro hs hr) (fun ht=>h2 ht F M hb a ro hs hr)
def AX.Hk (id:Nat) (Φ:AX -> St -> Prop):AX -> St -> Prop
 | .exit i,s=>if i = id then Φ .normal s else Φ (.exit i) s
 | x,s=>Φ x s
theorem Aa.block {id:Nat} {c:Code} (h:Aa P rd c s (AX.Hk id Φ)):Aa P rd (.block id c) s Φ:=by
 intro F M hb a ro hs hr;refine wpIn_block (wpIn_mono (h F M hb a ro hs hr) ?_);rintro e a' w' ⟨x',s',M',hb',k,r1,rfl,r3,r4,r5⟩
 cases x' <;> cases e <;> try exact r1.elim
 case exit.exit i j =>
  obtain rfl:i = j:=r1;simp only [AX.Hk] at k;simp only [Exit.inBlock]
  split at k
  ·rename_i hid; rw [if_pos hid]; exact ⟨.normal,s',M',hb',k,trivial,rfl,r3,r4,r5⟩
  ·rename_i hid; rw [if_neg hid]; exact ⟨.exit i,s',M',hb',k,rfl,rfl,r3,r4,r5⟩
 all_goals exact ⟨_,s',M',hb',k,r1,rfl,r3,r4,r5⟩
theorem least {p:Nat -> Prop} (h:∃ n,p n):∃ n,p n /\ ∀ m,p m -> n <= m:=by
 obtain ⟨n,hn⟩:=h
 induction n using Nat.strongRecOn with
 | _ n ih =>
  by_cases hlt:∃ m,m < n /\ p m
  ·obtain ⟨m,hm,hp⟩:=hlt
   exact ih m hm hp
  ·exact ⟨n,hn,fun m hm=>Nat.le_of_not_lt fun hlt'=>hlt ⟨m,hlt',hm⟩⟩
theorem Aa.loop {c:Code} (I:Nat -> St -> Prop) {n:Nat} (h0:I n s) (round:∀ n s,I n s -> Aa P rd c s (AX.GG (fun s'=>∃ m,m < n /\ I m s') Φ)):Aa P rd (.loop c) s Φ:=by
 intro F M hb a ro hs hr
 let J:Nat -> Act -> World -> Prop:=fun n a w=>∃ s1 M1 hb1,I n s1 /\ M1.w = w /\ BR F M1 hb1 s1 a /\ Gu F M M1 /\ Bf hb hb1
 classical
 let μ:Act -> World -> Nat:=fun a w=>if hex:∃ n,J n a w then Classical.choose (least hex) else 0
 refine wpIn_loop (fun a w=>∃ n,J n a w) μ ⟨n,s,M,hb,h0,rfl,hs,.refl _ _,.refl _⟩ ?_;intro a1 w1 hex;have hJ:J (μ a1 w1) a1 w1:=by simp only [μ,dif_pos hex]; exact (Classical.choose_spec (least hex)).1
 obtain ⟨s1,M1,hb1,k1,rfl,k2,k3,k4⟩:=hJ;refine wpIn_mono (round _ s1 k1 F M1 hb1 a1 ro k2 (hr.mono k4)) ?_;rintro e a' w' ⟨x',s',M',hb',k,r1,rfl,r3,r4,r5⟩
 cases x' <;> cases e <;> try exact r1.elim
 ·obtain ⟨m,hm,hI⟩:=k
  have hex':∃ n,J n a' M'.w:=⟨m,s',M',hb',hI,rfl,r3,k3.trans r4,k4.trans r5⟩
  refine ⟨hex',Nat.lt_of_le_of_lt ?_ hm⟩;simp only [μ,dif_pos hex'];exact (Classical.choose_spec (least hex')).2 m ⟨s',M',hb',hI,rfl,r3,k3.trans r4,k4.trans r5⟩
 all_goals exact ⟨_,s',M',hb',k,r1,rfl,r3,k3.trans r4,k4.trans r5⟩
end rules
end Go.PM

namespace Go.PM
variable [AA]
def J0 (P:Program) (h:List Ah) (ts:List TypeId) (xs:List AV) (K:AV -> List Ah -> Prop):Prop :=
 match ts,xs with
 | [t,u],[.hsl id ver off len,y]=>match Bk P t,h[id]? with
  | some (_,T),some (.row true ver' sz es)=>ver = ver' /\ sz = T.size /\ 0 < T.size /\ off + len <= es.length /\ Qo P h u T.size y (fun ys =>
    ys.length <= len /\ K (.val (.int .i64 ys.length)) (h.set id (.row true ver sz (es.take off ++ ys ++ es.drop (off + ys.length)))))
  | _,_=>False
 | _,_=>False
theorem Iw {α:Type} {l ys:List α} {off:Nat} (h:off + ys.length <= l.length) (j:Nat):(l.take off ++ ys ++ l.drop (off + ys.length))[j]? = if off <= j /\ j < off + ys.length then ys[j - off]? else l[j]?:=by
 split
 ·rename_i hr
  rw [List.append_assoc,List.getElem?_append_right (by simp; omega),List.getElem?_append_left (by simp; omega)]
  congr 1
  simp; omega
 ·rename_i hr
  by_cases h1:j < off
  ·rw [List.append_assoc,List.getElem?_append_left (by simp; omega),List.getElem?_take,if_pos h1]
  ·rw [List.getElem?_append_right (by simp; omega),List.getElem?_drop]
   congr 1
   simp; omega
theorem K9 {α:Type} {l ys:List α} {off:Nat} (h:off + ys.length <= l.length):(l.take off ++ ys ++ l.drop (off + ys.length)).length = l.length:=by simp; omega
theorem Po {P:Program} {F:Nat -> Prop} {M:Mem} {hb:List HB} {h:List Ah} (H:AR F M hb h) (ok:Cz F M) {ts:Array TypeId} {xs:List AV} {vs:Array Value} (hl:xs.length = vs.size) (hv:∀ (i:Nat) (x:AV),xs[i]? = some x -> Al M hb x (vs.getD i undef)) {K:AV -> List Ah -> Prop} (hk:J0 P h ts.toList xs K) (ty:TypeId) :
  Lt F M hb ((Builtin.copy_ ts ty vs).run P M.w) K:=by
 unfold J0 at hk
 split at hk
 ·rename_i t u id ver off len y hts
  obtain ⟨vx,vy,rfl⟩:=aal hl;obtain rfl:ts = #[t,u]:=by cases ts; simp at hts; simp [hts]
  have hx:=hv 0 _ rfl;have hy:=hv 1 _ rfl;simp at hx hy
  split at hk
  ·rename_i e T ver' sz es hE hh
   obtain ⟨ht,hT⟩:=Be hE;obtain ⟨rfl,rfl,h0,hfit,hk⟩:=hk;obtain ⟨ys,⟨hle,hk⟩,news,n1,n2,n3,n4,n5,n6⟩:=LG H hy hk
   cases hx with
   | hsl e q1 q2 q3 q4 q5 =>
    have hB:=H.box id _ e hh q1;obtain ⟨g1,g2,g3,g4,g5,g6⟩:=hB;obtain ⟨A,cap,rfl,s1,s3⟩:=q5 g2;have hN:=n5 M.w rfl;have hlen:=n4 M.w;have hmin:Nat.min ys.length len = ys.length:=Nat.min_eq_left hle
    rcases Nat.eq_zero_or_pos ys.length with hz | hpos
    ·have hnews:news = #[]:=by
      have:news.size = 0:=by rw [n1,hz]; simp
      simpa using this
     have hys:ys = []:=List.eq_nil_of_length_eq_zero hz;subst hys;have Cf:h.set id (.row true ver T.size (es.take off ++ [] ++ es.drop (off + ([]:List AV).length))) = h:=by
      simp only [List.append_nil,List.length_nil,Nat.add_zero,List.take_append_drop];exact Cp hh
     rw [Cf] at hk;refine ⟨_,_,h,M,hb,hk,?_,.val rfl,H,ok,.refl F M,.refl hb⟩;subst hnews;simp only [List.length_nil] at hN hlen hmin
     cases A <;> simp [Builtin.copy_,run_underlying ht,hlen,hmin,AK hT,hN,storeCells,goInt]
    ·have hre:e.real = true /\ A = some ⟨e.blk,off * e.sz,none⟩ /\ off + cap <= e.lim:=by
      rcases s3 with s3 | s3
      ·omega
      ·exact s3
     obtain ⟨hre,rfl,hlim⟩:=hre;obtain ⟨g7,c,hop,g9,g10⟩:=g6 hre;simp only [if_true] at g7;have hown:=H.own id _ e hh q1 hre;have hop':=hop;obtain ⟨tyy,hheap⟩:=hop';have hrow:(off + ys.length) * T.size <= e.lim * T.size:=Nat.mul_le_mul_right _ (by omega);rw [Nat.add_mul] at hrow;have hfitc:off * e.sz + news.size <= c.size:=by rw [g3,n1]; omega
     have hst:=run_storeCells_at P e.blk (off * e.sz) tyy news.toList 0 c M.w hheap (by simpa using hfitc) n3;simp only [Nat.add_zero] at hst;generalize hnew:(c.toList.take (off * e.sz) ++ news.toList ++ c.toList.drop (off * e.sz + news.toList.length)).toArray = cn at hst;have hcn:∀ j,cn[j]? = if off * e.sz <= j /\ j < off * e.sz + news.size then news[j - off * e.sz]? else c[j]?:=by
      intro j;rw [<- hnew];have:=Iw (l:=c.toList) (ys:=news.toList) (off:=off * e.sz) (by simpa using hfitc) j
      simpa using this
     have hcs:cn.size = c.size:=by
      rw [<- hnew];have:=K9 (l:=c.toList) (ys:=news.toList) (off:=off * e.sz) (by simpa using hfitc)
      simpa using this
     have hle':M.Le (M.row e.blk cn 0):=Mem.Oe hop (by omega) (fun o h1 _=>by omega) hcs;have hrel:Br M T.size (es.take off ++ ys ++ es.drop (off + ys.length)) cn:=by
      intro k y hy;rw [Iw (by omega)] at hy
      split at hy
      ·rename_i hr
       obtain ⟨r1,r2⟩:=n2 (k - off) y hy;refine ⟨r1,fun j z hz=>?_⟩;have hj:j < T.size:=by have:=(List.getElem?_eq_some_iff.1 hz).1; omega
       obtain ⟨r3,r4⟩:=r2 j z hz;refine ⟨r3,?_⟩;have hsub:(k - off) * T.size + off * T.size = k * T.size:=by rw [<- Nat.add_mul]; congr 1; omega
       have hup:(k - off + 1) * T.size <= ys.length * T.size:=Nat.mul_le_mul_right _ (by omega);rw [Nat.add_mul] at hup;rw [Array.getD_eq_getD_getElem?,hcn,g3,n1,if_pos (by omega)];rw [Array.getD_eq_getD_getElem?] at r4
       rwa [show k * T.size + j - off * T.size = (k - off) * T.size + j by omega]
      ·rename_i hr
       obtain ⟨r1,r2⟩:=g10 k y hy;refine ⟨r1,fun j z hz=>?_⟩;have hj:j < T.size:=by have:=(List.getElem?_eq_some_iff.1 hz).1; omega
       obtain ⟨r3,r4⟩:=r2 j z hz;refine ⟨r3,?_⟩;rw [Array.getD_eq_getD_getElem?,hcn,g3,n1,if_neg]
       ·rwa [Array.getD_eq_getD_getElem?] at r4
       ·rintro ⟨h1,h2⟩
        apply hr;refine ⟨Nat.le_of_not_lt fun hlt=>?_,Nat.lt_of_not_le fun hge=>?_⟩
        ·have:=Nat.mul_le_mul_right T.size (show k + 1 <= off from hlt)
         rw [Nat.add_mul] at this; omega
        ·have:=Nat.mul_le_mul_right T.size hge
         rw [Nat.add_mul] at this; omega
     refine ⟨_,_,_,M.row e.blk cn 0,hb,hk,?_,.val rfl,?_,ok.row hown.1 _ _,Mem.Ox hle' hown.2,.refl hb⟩
     ·simp [Builtin.copy_,run_underlying ht,hlen,hmin,AK hT,hN,hst,goInt,Mem.row]
     ·have:=H.update (M':=M.row e.blk cn 0) (b':=.row true e.ver T.size (es.take off ++ ys ++ es.drop (off + ys.length))) (e':=e) hh q1 hle' (by rw [Mem.EY]; exact Nat.le_refl _) (Bf.set q1 (Nat.le_refl _) rfl (fun _=>rfl) (fun _=>rfl))
       (fun k _ hk=>Mem.Dk M _ _ _ (hk hre)) ⟨g1,rfl,g3,by rw [K9 (by omega)]; exact g4,(fun hr=>by rw [hre] at hr; cases hr),fun _=>⟨by rw [Mem.Jn]; simp,cn,Mem.KI hop _ _,by rw [hcs]; exact g9,hrel.mono hle'⟩⟩ (fun _=>.inl ⟨hre,rfl⟩)
      rw [Cp q1] at this;rw [<- g2];exact this
  ·exact hk.elim
 ·exact hk.elim
end Go.PM
