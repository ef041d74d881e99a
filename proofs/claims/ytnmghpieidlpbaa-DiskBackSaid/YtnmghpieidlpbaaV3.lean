/-
  THE VALUE MACHINE (26): what is rewritten when code is walked.
-/
import Derived.Test.YtnmghpieidlpbaaV2
import Derived.Attr
import Derived.Scope
import Derived.RecoverIn
import Derived.Below
import Derived.Carry
import Derived.ChangeArms
import Derived.DataReads
import Derived.Deep.Slices
import Derived.SizedLaws
import Derived.WideShapes
set_option linter.unusedVariables false
set_option linter.unusedSimpArgs false
set_option linter.unusedSectionVars false
namespace Go.PM
set_option linter.unusedSectionVars false
variable [Globals]

theorem CodeT.seqK {P : Program} {rd : Option Nat} {x y : Code} {s : St} {Φ : AX → St → Prop} (h : ∀ K : St → Prop, (∀ s1, CodeT P rd y s1 Φ → K s1) → CodeT P rd x s (AX.thn K Φ)) : CodeT P rd (.seq x y) s Φ := CodeT.seq (h _ fun _ h => h)

/-- Behind some code, where it ends normally: less is known, and boxes that it has made are forgotten. -/
theorem CodeT.lessN {P : Program} {rd : Option Nat} {c : Code} {s : St} {K : St → Prop} {Φ : AX → St → Prop} (h : CodeT P rd c s (AX.thn (fun s' => ∃ s'', Weaker s' s'' ∧ s.h.length ≤ s''.h.length ∧ K s'') Φ)) : CodeT P rd c s (AX.thn K Φ) := by
  intro F M hb a ro hs hr
  refine wpIn_mono (h F M hb a ro hs hr) ?_
  rintro e a' w' ⟨x, s', M', hb', hk, r1, r2, r3, r4, r5⟩
  cases x <;> cases e <;> try exact r1.elim
  · obtain ⟨s'', hw, hlen, hk⟩ := hk
    exact ⟨.normal, s'', M', hb'.take s''.h.length, hk, trivial, r2, r3.weak hw, r4, r5.take (by rw [hs.hp.len]; exact hlen)⟩
  case exit.exit i j => exact ⟨.exit i, s', M', hb', hk, r1, r2, r3, r4, r5⟩
  case goto.goto i j => exact ⟨.goto i, s', M', hb', hk, r1, r2, r3, r4, r5⟩
  case ret.ret => exact ⟨.ret, s', M', hb', hk, r1, r2, r3, r4, r5⟩
  case panic.panic x ch => exact ⟨.panic x, s', M', hb', hk, r1, r2, r3, r4, r5⟩

/-- A loop of at most N rounds: ahead of round i the state is S i. -/
theorem CodeT.count {P : Program} {rd : Option Nat} {c : Code} {Φ : AX → St → Prop} (S : Nat → St) (N : Nat) {i : Nat} (hi : i ≤ N)
    (round : ∀ i, i ≤ N → CodeT P rd c (S i) (AX.thn (fun s' => i < N ∧ Weaker s' (S (i + 1)) ∧ (S i).h.length ≤ (S (i + 1)).h.length) Φ)) : CodeT P rd (.loop c) (S i) Φ := by
  refine CodeT.loop (fun n s => ∃ i, i ≤ N ∧ n = N - i ∧ s = S i) (n := N - i) ⟨i, hi, rfl, rfl⟩ ?_
  rintro n s ⟨i, hi, rfl, rfl⟩
  refine CodeT.lessN (CodeT.mono (round i hi) ?_)
  intro x s' hx
  cases x <;> try exact hx
  obtain ⟨h1, h2, h3⟩ := hx
  exact ⟨S (i + 1), h2, h3, N - (i + 1), by omega, i + 1, h1, rfl, rfl⟩

theorem PureT.go {P : Program} {f : FuncId} {args : List AV} {R : AV → Prop} {t : Tm} {h : List Box} {d : List AD} {dst : Option Tmp} {K : St → Prop} {Φ : AX → St → Prop} (hc : PureT P f args R) (hp : args.all AV.pure = true) (hk : ∀ x, R x → K ⟨t.putO dst x, h, d⟩) :
    CallT P f args h (callK ⟨t, h, d⟩ dst K Φ) := PureT.call (s := ⟨t, h, d⟩) hc hp hk

theorem look_nil (i : Nat) : look [] i = .dead := rfl
theorem look_cons (k : Nat) (v : AV) (l : List (Nat × AV)) (i : Nat) : look ((k, v) :: l) i = if k = i then v else look l i := by
  simp only [look]
  cases h : Nat.beq k i with
  | true => simp only; rw [if_pos (Nat.eq_of_beq_eq_true h)]
  | false => simp only; rw [if_neg (Nat.ne_of_beq_eq_false h)]
theorem get_mk (n : Nat) (l : List (Nat × AV)) (i : Nat) : Tm.get ⟨n, l⟩ i = look l i := rfl
theorem put_mk (n : Nat) (l : List (Nat × AV)) (d : Nat) (v : AV) : Tm.put ⟨n, l⟩ d v = if d < n then ⟨n, (d, v) :: l⟩ else ⟨n, l⟩ := by
  unfold Tm.put
  cases h : Nat.blt d n with
  | true => have hlt : d < n := Nat.le_of_ble_eq_true h; simp only; rw [if_pos hlt]
  | false => simp only; rw [if_neg (fun hh => by rw [show Nat.blt d n = true from Nat.ble_eq_true_of_le hh] at h; cases h)]
theorem putO_some (t : Tm) (d : Nat) (v : AV) : t.putO (some d) v = t.put d v := rfl
theorem putO_none (t : Tm) (v : AV) : t.putO none v = t := rfl
theorem St_put (t : Tm) (h : List Box) (ds : List AD) (d : Option Tmp) (v : AV) : (⟨t, h, ds⟩ : St).put d v = ⟨t.putO d v, h, ds⟩ := rfl
theorem ev_tmp (t : Tm) (h : List Box) (d : List AD) (i : Nat) : (⟨t, h, d⟩ : St).ev (.tmp i) = t.get i := rfl
theorem ev_const (t : Tm) (h : List Box) (d : List AD) (v : Value) : (⟨t, h, d⟩ : St).ev (.const v) = ofVal v := rfl
theorem ev_func (t : Tm) (h : List Box) (d : List AD) (f : FuncId) : (⟨t, h, d⟩ : St).ev (.func f) = .fn f [] := rfl
theorem ofVal_int (k : IntKind) (n : Int) : ofVal (.int k n) = .val (.int k n) := rfl
theorem ofVal_bool (b : Bool) : ofVal (.bool b) = .val (.bool b) := rfl
theorem ofVal_str (b : ByteArray) : ofVal (.string b) = .val (.string b) := rfl
theorem ofVal_nilSlice : ofVal (.slice none 0 0) = .sl true [] := rfl
theorem ofVal_nilPtr : ofVal (.pointer none) = .val (.pointer none) := rfl
theorem thn_normal (K : St → Prop) (Φ : AX → St → Prop) (s : St) : AX.thn K Φ .normal s = K s := rfl
theorem thn_ret (K : St → Prop) (Φ : AX → St → Prop) (s : St) : AX.thn K Φ .ret s = Φ .ret s := rfl
theorem thn_exit (K : St → Prop) (Φ : AX → St → Prop) (i : Nat) (s : St) : AX.thn K Φ (.exit i) s = Φ (.exit i) s := rfl
theorem thn_panic (K : St → Prop) (Φ : AX → St → Prop) (x : AV) (s : St) : AX.thn K Φ (.panic x) s = Φ (.panic x) s := rfl
theorem inB_normal (id : Nat) (Φ : AX → St → Prop) (s : St) : AX.inB id Φ .normal s = Φ .normal s := rfl
theorem inB_ret (id : Nat) (Φ : AX → St → Prop) (s : St) : AX.inB id Φ .ret s = Φ .ret s := rfl
theorem inB_exit (id : Nat) (Φ : AX → St → Prop) (i : Nat) (s : St) : AX.inB id Φ (.exit i) s = if i = id then Φ .normal s else Φ (.exit i) s := rfl

/-! ### Values that are handed on -/
theorem cells_val (v : Value) : (AV.val v).cells = [.val v] := rfl
theorem cells_sl (f : Bool) (es : List AV) : (AV.sl f es).cells = [.sl f es] := rfl
theorem cells_hsl (a b c d : Nat) : (AV.hsl a b c d).cells = [.hsl a b c d] := rfl
theorem cells_ptr (a b : Nat) : (AV.ptr a b).cells = [.ptr a b] := rfl
theorem cells_cptr (a : List AV) : (AV.cptr a).cells = [.cptr a] := rfl
theorem cells_fn (f : FuncId) (a : List AV) : (AV.fn f a).cells = [.fn f a] := rfl
theorem cells_iface (t : TypeId) (a : AV) : (AV.iface t a).cells = [.iface t a] := rfl
theorem cells_agg (cs : List AV) : (AV.agg cs).cells = cs := rfl
theorem frz0_val (h : List Box) (v : Value) (K : AV → List Box → Prop) : frz0 h (.val v) K = K (.val v) h := by simp [frz0, AV.pure0]
theorem frz0_sl (h : List Box) (f : Bool) (es : List AV) (K : AV → List Box → Prop) : frz0 h (.sl f es) K = K (.sl f es) h := by simp [frz0, AV.pure0]
theorem frz0_cptr (h : List Box) (es : List AV) (K : AV → List Box → Prop) : frz0 h (.cptr es) K = K (.cptr es) h := by simp [frz0, AV.pure0]
theorem frz0_hsl (h : List Box) (id ver off len : Nat) (K : AV → List Box → Prop) : frz0 h (.hsl id ver off len) K = match h[id]? with
    | some (.row _ ver' sz es) => ver = ver' ∧ off + len ≤ es.length ∧ K (.sl false ((es.take (off + len)).drop off)) (h.set id (.row false ver sz es))
    | _ => False := rfl
theorem frzL_nil (h : List Box) (K : List AV → List Box → Prop) : frzL [] h K = K [] h := rfl
theorem frzL_cons (x : AV) (xs : List AV) (h : List Box) (K : List AV → List Box → Prop) : frzL (x :: xs) h K = frz0 h x (fun x' h' => frzL xs h' (fun xs' h'' => K (x' :: xs') h'')) := rfl
theorem frzA_val (h : List Box) (v : Value) (K : AV → List Box → Prop) : frzA h (.val v) K = K (.val v) h := by simp [frzA, frz0_val]
theorem frzA_sl (h : List Box) (f : Bool) (es : List AV) (K : AV → List Box → Prop) : frzA h (.sl f es) K = K (.sl f es) h := by simp [frzA, frz0_sl]
theorem frzA_hsl (h : List Box) (id ver off len : Nat) (K : AV → List Box → Prop) : frzA h (.hsl id ver off len) K = frz0 h (.hsl id ver off len) K := rfl
theorem frzA_agg (h : List Box) (cs : List AV) (K : AV → List Box → Prop) : frzA h (.agg cs) K = frzL cs h (fun cs' h' => K (.agg cs') h') := rfl
theorem frzAs_nil (h : List Box) (K : List AV → List Box → Prop) : frzAs [] h K = K [] h := rfl
theorem frzAs_cons (x : AV) (xs : List AV) (h : List Box) (K : List AV → List Box → Prop) : frzAs (x :: xs) h K = frzA h x (fun x' h' => frzAs xs h' (fun xs' h'' => K (x' :: xs') h'')) := rfl
theorem frzC_val (h : List Box) (v : Value) (K : AV → List Box → Prop) : frzC h (.val v) K = K (.val v) h := by simp [frzC, frz0_val]
theorem frzC_sl (h : List Box) (f : Bool) (es : List AV) (K : AV → List Box → Prop) : frzC h (.sl f es) K = K (.sl f es) h := by simp [frzC, frz0_sl]
theorem frzC_cptr (h : List Box) (es : List AV) (K : AV → List Box → Prop) : frzC h (.cptr es) K = K (.cptr es) h := by simp [frzC, frz0_cptr]
theorem frzC_hsl (h : List Box) (id ver off len : Nat) (K : AV → List Box → Prop) : frzC h (.hsl id ver off len) K = frz0 h (.hsl id ver off len) K := rfl
theorem frzC_agg (h : List Box) (cs : List AV) (K : AV → List Box → Prop) : frzC h (.agg cs) K = frzL cs h (fun cs' h' => K (.agg cs') h') := rfl
theorem frzC_ptr (h : List Box) (id off : Nat) (K : AV → List Box → Prop) : frzC h (.ptr id off) K = match h[id]? with
    | some (.cells cs) => frzL cs (h.set id .dead) (fun cs' h' => K (.cptr (cs'.drop off)) h')
    | _ => False := rfl
theorem frzCs_nil (h : List Box) (K : List AV → List Box → Prop) : frzCs [] h K = K [] h := rfl
theorem frzCs_cons (x : AV) (xs : List AV) (h : List Box) (K : List AV → List Box → Prop) : frzCs (x :: xs) h K = frzC h x (fun x' h' => frzCs xs h' (fun xs' h'' => K (x' :: xs') h'')) := rfl
theorem frzV_tup (h : List Box) (vs : List AV) (K : AV → List Box → Prop) : frzV h (.tup vs) K = frzCs vs h (fun vs' h' => K (.tup vs') h') := rfl
theorem frzV_val (h : List Box) (v : Value) (K : AV → List Box → Prop) : frzV h (.val v) K = K (.val v) h := by simp [frzV, frzC_val]
theorem frzV_sl (h : List Box) (f : Bool) (es : List AV) (K : AV → List Box → Prop) : frzV h (.sl f es) K = K (.sl f es) h := by simp [frzV, frzC_sl]
theorem frzV_hsl (h : List Box) (id ver off len : Nat) (K : AV → List Box → Prop) : frzV h (.hsl id ver off len) K = frz0 h (.hsl id ver off len) K := rfl
theorem frzV_agg (h : List Box) (cs : List AV) (K : AV → List Box → Prop) : frzV h (.agg cs) K = frzL cs h (fun cs' h' => K (.agg cs') h') := rfl
theorem frzV_ptr (h : List Box) (id off : Nat) (K : AV → List Box → Prop) : frzV h (.ptr id off) K = frzC h (.ptr id off) K := rfl
theorem frzR_ret (R : AE → List Box → Prop) (x : AV) (h : List Box) : frzR R (.ret x) h = frzV h x (fun x' h' => R (.ret x') h') := rfl
theorem frzR_panic (R : AE → List Box → Prop) (x : AV) (h : List Box) : frzR R (.panic x) h = frzV h x (fun x' h' => R (.panic x') h') := rfl
theorem bodyA_ret (P : Program) (fn : Func) (R : AE → List Box → Prop) (t : Tm) (h : List Box) (d : List AD) : bodyA P fn R .ret ⟨t, h, d⟩ = leaveA P fn.results.toList t R none d h := rfl
theorem bodyA_normal (P : Program) (fn : Func) (R : AE → List Box → Prop) (t : Tm) (h : List Box) (d : List AD) : bodyA P fn R .normal ⟨t, h, d⟩ = leaveA P fn.results.toList t R none d h := rfl
theorem bodyA_panic (P : Program) (fn : Func) (R : AE → List Box → Prop) (x : AV) (t : Tm) (h : List Box) (d : List AD) : bodyA P fn R (.panic x) ⟨t, h, d⟩ = leaveA P fn.results.toList t R (some x) d h := rfl
theorem leaveA_nil (P : Program) (rs : List ResultVar) (t : Tm) (R : AE → List Box → Prop) (h : List Box) : leaveA P rs t R none [] h = resA P t h rs (fun xs => R (.ret (pack xs)) h) := rfl
theorem leaveA_pan (P : Program) (rs : List ResultVar) (t : Tm) (R : AE → List Box → Prop) (x : AV) (h : List Box) : leaveA P rs t R (some x) [] h = R (.panic x) h := rfl
theorem leaveA_mark (P : Program) (rs : List ResultVar) (t : Tm) (R : AE → List Box → Prop) (pan : Option AV) (id : Nat) (ds : List AD) (h : List Box) : leaveA P rs t R pan (.mark id :: ds) h = (h[id]? = some .defer ∧ leaveA P rs t R pan ds (h.set id .dead)) := rfl
theorem resA_nil (P : Program) (t : Tm) (h : List Box) (K : List AV → Prop) : resA P t h [] K = K [] := rfl
theorem resA_tmp (P : Program) (t : Tm) (h : List Box) (i : Tmp) (rs : List ResultVar) (K : List AV → Prop) : resA P t h (.tmp i :: rs) K = resA P t h rs (fun xs => K (t.get i :: xs)) := rfl
theorem resA_cell (P : Program) (t : Tm) (h : List Box) (i : Tmp) (ty : TypeId) (rs : List ResultVar) (K : List AV → Prop) : resA P t h (.cell i ty :: rs) K = loadA P h ty (t.get i) (fun x => resA P t h rs (fun xs => K (x :: xs))) := rfl
theorem pack_one (x : AV) : pack [x] = x := rfl
theorem pack_nil : pack [] = .tup [] := rfl
theorem pack_two (x y : AV) (l : List AV) : pack (x :: y :: l) = .tup (x :: y :: l) := rfl
theorem callK_ret (s : St) (dst : Option Tmp) (K : St → Prop) (Φ : AX → St → Prop) (x : AV) (h : List Box) : callK s dst K Φ (.ret x) h = K ((⟨s.t, h, s.d⟩ : St).put dst x) := rfl
theorem callK_panic (s : St) (dst : Option Tmp) (K : St → Prop) (Φ : AX → St → Prop) (x : AV) (h : List Box) : callK s dst K Φ (.panic x) h = Φ (.panic x) ⟨s.t, h, s.d⟩ := rfl

theorem guardT_list (l : List Oper) (j : Nat) : guardT l.toArray j = (l[j]?).bind (·.dst) := by simp [guardT]
theorem under_val (n : Nat) (v : Value) : (AV.val v).under n = true := rfl
theorem under_sl (n : Nat) (f : Bool) (es : List AV) : (AV.sl f es).under n = true := rfl
theorem under_cptr (n : Nat) (es : List AV) : (AV.cptr es).under n = true := rfl
theorem under_dead (n : Nat) : AV.dead.under n = true := rfl
theorem under_ptr (n id off : Nat) : (AV.ptr id off).under n = decide (id < n) := rfl
theorem under_hsl (n a b c d : Nat) : (AV.hsl a b c d).under n = decide (a < n) := rfl
theorem under_yld (n id : Nat) : (AV.yld id).under n = decide (id < n) := rfl
theorem under_fn (n : Nat) (f : FuncId) (caps : List AV) : (AV.fn f caps).under n = underL n caps := rfl
theorem under_agg (n : Nat) (cs : List AV) : (AV.agg cs).under n = underL n cs := rfl
theorem under_tup (n : Nat) (cs : List AV) : (AV.tup cs).under n = underL n cs := rfl
theorem underL_nil (n : Nat) : underL n [] = true := rfl
theorem underL_cons (n : Nat) (x : AV) (xs : List AV) : underL n (x :: xs) = (x.under n && underL n xs) := rfl
theorem keeps_nil (t : Tm) (n : Nat) : keeps t n [] = True := rfl
theorem keeps_cons (t : Tm) (n k : Nat) (v : AV) (l : List (Nat × AV)) : keeps t n ((k, v) :: l) = (t.get k = v ∧ v.under n = true ∧ keeps t n l) := rfl
theorem keepsH_nil (n : Nat) (h : List Box) : keepsH n h [] = True := by cases h <;> rfl
theorem keepsH_cons (n : Nat) (b b' : Box) (h h' : List Box) : keepsH n (b :: h) (b' :: h') = ((b' = .dead ∨ (b' = b ∧ b.under n = true)) ∧ keepsH n h h') := rfl
theorem boxu_cells (n : Nat) (cs : List AV) : (Box.cells cs).under n = underL n cs := rfl
theorem boxu_row (n : Nat) (mt : Bool) (ver sz : Nat) (es : List AV) : (Box.row mt ver sz es).under n = true := rfl
theorem boxu_dead (n : Nat) : Box.dead.under n = true := rfl
theorem boxu_defer (n : Nat) : Box.defer.under n = true := rfl
theorem keepsD_nil (n : Nat) : keepsD n [] := fun _ h => by cases h

section
variable (P : Program) (ops : Array Oper) (Φ : AX → St → Prop) (dst : Option Tmp) (ty : TypeId) (pos : String) (after : Array Edge) (rest : List Oper) (s : St) (K : St → Prop) (g : Option (Nat × Bool))
theorem OpsA_nil : OpsA P ops Φ [] s = Φ .normal s := rfl
theorem OpsA_cons (op : Op) : OpsA P ops Φ (⟨dst, op, ty, pos, after, none⟩ :: rest) s = opA P ⟨dst, op, ty, pos, after, none⟩ s (OpsA P ops Φ rest) Φ := rfl
theorem if_bool (b want : Bool) (A B : Prop) : ((b = want → A) ∧ (b = !want → B)) = if b = want then A else B := by
  cases b <;> cases want <;> simp
def guardV (ops : Array Oper) (t : Tm) (j : Nat) : AV := match guardT ops j with
  | some d => t.get d
  | none => .dead
def guardA (v : AV) (want : Bool) (A B : Prop) : Prop := match v with
  | .val (.bool b) => if b = want then A else B
  | .tup [] => B
  | _ => False
theorem guardA_bool (b want : Bool) (A B : Prop) : guardA (.val (.bool b)) want A B = if b = want then A else B := rfl
/-- Simp looks at neither of these. -/
structure Kept (A B : Prop) : Type
/-- A choice; simp looks at its condition alone. -/
def gif (b : Bool) (A B : Prop) (_ : Kept A B) : Prop := if b = true then A else B
theorem gif_t (A B : Prop) (k : Kept A B) : gif true A B k = A := by simp [gif]
theorem gif_f (A B : Prop) (k : Kept A B) : gif false A B k = B := by simp [gif]
/-- A condition that comes first; simp does not look behind it. -/
def gate (c A : Prop) (_ : Kept A A) : Prop := c ∧ A
theorem gate_t (A : Prop) (k : Kept A A) : gate True A k = A := by simp [gate]
theorem gate_i {c A : Prop} {k : Kept A A} (hc : c) (ha : A) : gate c A k := ⟨hc, ha⟩
theorem guardA_t (b : Bool) (A B : Prop) : guardA (.val (.bool b)) true A B = gif b A B ⟨⟩ := rfl
theorem guardA_f (b : Bool) (A B : Prop) : guardA (.val (.bool b)) false A B = gif b B A ⟨⟩ := by cases b <;> simp [guardA, gif]
theorem guardA_tup (want : Bool) (A B : Prop) : guardA (.tup []) want A B = B := rfl
@[congr] theorem guardA_congr {v v' : AV} {want : Bool} {A B : Prop} (h : v = v') : guardA v want A B = guardA v' want A B := by rw [h]
def pickA (v : AV) (A B : Prop) : Prop := match v with
  | .val (.bool t) => gif t A B ⟨⟩
  | _ => False
theorem pickA_val (b : Bool) (A B : Prop) : pickA (.val (.bool b)) A B = gif b A B ⟨⟩ := rfl
@[congr] theorem pickA_congr {v v' : AV} {A B : Prop} (h : v = v') : pickA v A B = pickA v' A B := by rw [h]
theorem guardV_list (l : List Oper) (t : Tm) (j : Nat) : guardV l.toArray t j = match (l[j]?).bind (·.dst) with
  | some d => t.get d
  | none => .dead := by simp [guardV, guardT]
theorem guardV_zero (d : Tmp) (op : Op) (l : List Oper) (t : Tm) : guardV (List.toArray (⟨some d, op, ty, pos, after, g⟩ :: l)) t 0 = t.get d := by simp [guardV, guardT]
theorem guardV_succ (o : Oper) (l : List Oper) (t : Tm) (j : Nat) : guardV (List.toArray (o :: l)) t (j + 1) = guardV l.toArray t j := by simp [guardV, guardT]
theorem OpsA_guard (op : Op) (j : Nat) (want : Bool) : OpsA P ops Φ (⟨dst, op, ty, pos, after, some (j, want)⟩ :: rest) s = guardA (guardV ops s.t j) want (opA P ⟨dst, op, ty, pos, after, some (j, want)⟩ s (OpsA P ops Φ rest) Φ) (OpsA P ops Φ rest (s.put dst (.tup []))) := by
  simp only [OpsA, guardV]
  cases guardT ops j with
  | none => rfl
  | some d =>
    simp only [guardA]
    generalize s.t.get d = v
    cases v <;> try rfl
    · rename_i v
      cases v <;> try rfl
      exact if_bool _ _ _ _
    · rename_i l
      cases l <;> rfl
theorem opA_move (x : Operand) : opA P ⟨dst, .move x, ty, pos, after, g⟩ s K Φ = K (s.put dst (s.ev x)) := rfl
theorem opA_assign (x : Operand) : opA P ⟨dst, .assign x, ty, pos, after, g⟩ s K Φ = K (s.put dst (s.ev x)) := rfl
theorem opA_alloc (t : TypeId) : opA P ⟨dst, .alloc t, ty, pos, after, g⟩ s K Φ = allocA P s.h t (fun v h => K ((⟨s.t, h, s.d⟩ : St).put dst v)) := rfl
theorem opA_box (t : TypeId) (x : Operand) : opA P ⟨dst, .box t x, ty, pos, after, g⟩ s K Φ = boxA s.h (s.ev x) (fun v h => K ((⟨s.t, h, s.d⟩ : St).put dst v)) := rfl
theorem opA_build (t : TypeId) (ps : Array (Nat × Operand)) : opA P ⟨dst, .build t ps, ty, pos, after, g⟩ s K Φ = buildA P t (ps.toList.map fun p => (p.1, s.ev p.2)) (fun v => K (s.put dst v)) := rfl
theorem opA_buildSlice (t : TypeId) (n : Nat) (ps : Array (Nat × Operand)) : opA P ⟨dst, .buildSlice t n ps, ty, pos, after, g⟩ s K Φ = buildSliceA P s.h t n (ps.toList.map (·.1)) (ps.toList.map fun p => s.ev p.2) (fun v h => K ((⟨s.t, h, s.d⟩ : St).put dst v)) := rfl
theorem opA_store (t : TypeId) (p x : Operand) : opA P ⟨dst, .store t p x, ty, pos, after, g⟩ s K Φ = storeA P s.h t (s.ev p) (s.ev x) (fun h => K ((⟨s.t, h, s.d⟩ : St).put dst .dead)) := rfl
theorem opA_makeSlice (t : TypeId) (l c : Operand) : opA P ⟨dst, .makeSlice t l c, ty, pos, after, g⟩ s K Φ = makeSliceA P s.h t (s.ev l) (s.ev c) (fun v h => K ((⟨s.t, h, s.d⟩ : St).put dst v)) := rfl
theorem opA_pick (c a b : Operand) : opA P ⟨dst, .pick c a b, ty, pos, after, g⟩ s K Φ = pickA (s.ev c) (K (s.put dst (s.ev a))) (K (s.put dst (s.ev b))) := by
  show (match s.ev c with
    | .val (.bool t) => (t = true → K (s.put dst (s.ev a))) ∧ (t = false → K (s.put dst (s.ev b)))
    | _ => False) = _
  generalize s.ev c = v
  cases v <;> try rfl
  rename_i v
  cases v <;> try rfl
  exact if_bool _ true _ _
theorem opA_nilCheck (x : Operand) : opA P ⟨dst, .nilCheck x, ty, pos, after, g⟩ s K Φ = match s.ev x with
    | .ptr id o => K (s.put dst (.ptr id o))
    | .cptr cs => K (s.put dst (.cptr cs))
    | .fn f caps => K (s.put dst (.fn f caps))
    | .yld id => K (s.put dst (.yld id))
    | _ => False := rfl
theorem opA_binOp (op : BinOp) (t t' : TypeId) (x y : Operand) : opA P ⟨dst, .binOp op t x y t', ty, pos, after, g⟩ s K Φ = if isNilConst y = true then match op, y with
      | .eql, .const z => nilA P t (s.ev x) z (fun b => K (s.put dst (.val (.bool b))))
      | .neq, .const z => nilA P t (s.ev x) z (fun b => K (s.put dst (.val (.bool (!b)))))
      | _, _ => False
    else match s.ev x, s.ev y with
      | .val a, .val b => binP (P.underlying t) op a b (fun v => K (s.put dst (.val v)))
      | .agg xs, .agg ys => aggEqA P t op xs ys (fun b => K (s.put dst (.val (.bool b))))
      | _, _ => False := rfl
theorem opA_unOp (op : UnOp) (t : TypeId) (x : Operand) : opA P ⟨dst, .unOp op t x, ty, pos, after, g⟩ s K Φ = match op, s.ev x with
    | .not, .val (.bool b) => K (s.put dst (.val (.bool (!b))))
    | .neg, .val (.int k n) => K (s.put dst (.val (.int k (k.wrap (0 - n)))))
    | _, _ => False := rfl
theorem opA_convert (a b : TypeId) (x : Operand) : opA P ⟨dst, .convert a b x, ty, pos, after, g⟩ s K Φ = convA P a b (s.ev x) (fun v => K (s.put dst v)) := rfl
theorem opA_makeFunc (f : FuncId) (caps : Array Operand) : opA P ⟨dst, .makeFunc (.func f) #[] caps, ty, pos, after, g⟩ s K Φ = K (s.put dst (.fn f (caps.toList.map s.ev))) := rfl
theorem opA_makeBnd (f : FuncId) (x : Operand) (l : List Operand) : opA P ⟨dst, .makeFunc (.func f) (List.toArray (x :: l)) #[], ty, pos, after, g⟩ s K Φ = K (s.put dst (.bnd f ((x :: l).map s.ev))) := by
  simp [opA, opQ]
theorem opA_lookup (t : TypeId) (m k : Operand) (c : Bool) : opA P ⟨dst, .lookup t m k c, ty, pos, after, g⟩ s K Φ = lookupA P s.h t (s.ev m) (s.ev k) c (fun v => K (s.put dst v)) := rfl
theorem opA_mapUpdate (t : TypeId) (m k x : Operand) : opA P ⟨dst, .mapUpdate t m k x, ty, pos, after, g⟩ s K Φ = updA P s.h t (s.ev m) (s.ev k) (s.ev x) (fun h => K ((⟨s.t, h, s.d⟩ : St).put dst .dead)) := rfl
theorem opA_insert (t : TypeId) (m k x : Operand) : opA P ⟨dst, .insert t m k x, ty, pos, after, g⟩ s K Φ = updA P s.h t (s.ev m) (s.ev k) (s.ev x) (fun h => K ((⟨s.t, h, s.d⟩ : St).put dst .dead)) := rfl
theorem opA_makeMap (t : TypeId) (r : Option Operand) : opA P ⟨dst, .makeMap t r, ty, pos, after, g⟩ s K Φ = makeMapA P s.h t (r.map s.ev) (fun v h => K ((⟨s.t, h, s.d⟩ : St).put dst v)) := rfl
theorem opA_range (t : TypeId) (x : Operand) : opA P ⟨dst, .range t x, ty, pos, after, g⟩ s K Φ = rangeM P s.h t (s.ev x) (fun v h => K ((⟨s.t, h, s.d⟩ : St).put dst v)) := rfl
theorem opA_next (it : Operand) (isS : Bool) : opA P ⟨dst, .next it isS, ty, pos, after, g⟩ s K Φ = nextA s.h (s.ev it) isS (fun v h => K ((⟨s.t, h, s.d⟩ : St).put dst v)) := rfl
theorem opA_entry (it : Operand) : opA P ⟨dst, .entry it, ty, pos, after, g⟩ s K Φ = entryA s.h (s.ev it) (fun v => K (s.put dst v)) := rfl
theorem opA_field (t : TypeId) (x : Operand) (f : Nat) : opA P ⟨dst, .field t x f, ty, pos, after, g⟩ s K Φ = fieldA P t (s.ev x) f (fun v => K (s.put dst v)) := rfl
theorem opA_fieldAddr (t : TypeId) (x : Operand) (f : Nat) : opA P ⟨dst, .fieldAddr t x f, ty, pos, after, g⟩ s K Φ = ((match s.ev x with | .eptr .. => False | _ => True) ∧ fieldAddrA P t (s.ev x) f (fun v => K (s.put dst v))) := rfl
theorem opA_index (t : TypeId) (x i : Operand) : opA P ⟨dst, .index t x i, ty, pos, after, g⟩ s K Φ = indexA P t (s.ev x) (s.ev i) (fun v => K (s.put dst v)) := rfl
theorem opA_indexAddr (t : TypeId) (x i : Operand) : opA P ⟨dst, .indexAddr t x i, ty, pos, after, g⟩ s K Φ = indexAddrA P s.h t (s.ev x) (s.ev i) (fun v => K (s.put dst v)) := rfl
theorem opA_slice (t : TypeId) (x : Operand) (lo hi mx : Option Operand) : opA P ⟨dst, .slice t x lo hi mx, ty, pos, after, g⟩ s K Φ = sliceA P s.h t (s.ev x) (lo.map s.ev) (hi.map s.ev) (mx.map s.ev) (fun v => K (s.put dst v)) := rfl
theorem opA_load (t : TypeId) (p : Operand) : opA P ⟨dst, .load t p, ty, pos, after, g⟩ s K Φ = loadA P s.h t (s.ev p) (fun v => K (s.put dst v)) := rfl
theorem opA_extract (x : Operand) (i : Nat) : opA P ⟨dst, .extract x i, ty, pos, after, g⟩ s K Φ = match s.ev x with
    | .tup vs => i < vs.length ∧ K (s.put dst (vs.getD i .dead))
    | _ => False := rfl
theorem opA_append (args : Array Operand) (ts : Array TypeId) : opA P ⟨dst, .call ⟨.builtin .append, args, ts⟩, ty, pos, after, g⟩ s K Φ = appendA P s.h ts.toList (args.toList.map s.ev) (fun v h => K ((⟨s.t, h, s.d⟩ : St).put dst v)) := rfl
theorem opA_copy (args : Array Operand) (ts : Array TypeId) : opA P ⟨dst, .call ⟨.builtin .copy, args, ts⟩, ty, pos, after, g⟩ s K Φ = copyA P s.h ts.toList (args.toList.map s.ev) (fun v h => K ((⟨s.t, h, s.d⟩ : St).put dst v)) := rfl
theorem opA_len (args : Array Operand) (ts : Array TypeId) : opA P ⟨dst, .call ⟨.builtin .len, args, ts⟩, ty, pos, after, g⟩ s K Φ = lookA P s.h .len ts.toList (args.toList.map s.ev) (fun v => K (s.put dst v)) := rfl
theorem opA_min (args : Array Operand) (ts : Array TypeId) : opA P ⟨dst, .call ⟨.builtin .min, args, ts⟩, ty, pos, after, g⟩ s K Φ = lookA P s.h .min ts.toList (args.toList.map s.ev) (fun v => K (s.put dst v)) := rfl
theorem opA_max (args : Array Operand) (ts : Array TypeId) : opA P ⟨dst, .call ⟨.builtin .max, args, ts⟩, ty, pos, after, g⟩ s K Φ = lookA P s.h .max ts.toList (args.toList.map s.ev) (fun v => K (s.put dst v)) := rfl
theorem opA_call (f : FuncId) (args : Array Operand) (ts : Array TypeId) : opA P ⟨dst, .call ⟨.value (.func f), args, ts⟩, ty, pos, after, g⟩ s K Φ = CallT P f (args.toList.map s.ev ++ []) s.h (callK s dst K Φ) := rfl
theorem opA_callV (i : Tmp) (args : Array Operand) (ts : Array TypeId) : opA P ⟨dst, .call ⟨.value (.tmp i), args, ts⟩, ty, pos, after, g⟩ s K Φ = match s.t.get i with
      | .fn f caps => CallT P f (args.toList.map s.ev ++ caps) s.h (callK s dst K Φ)
      | .yld id => YieldT P id (args.toList.map s.ev) s.h (callK s dst K Φ)
      | .bnd f first => CallT P f (first ++ args.toList.map s.ev) s.h (callK s dst K Φ)
      | _ => False := rfl
theorem opA_panic (x : Operand) : opA P ⟨dst, .panic x, ty, pos, after, g⟩ s K Φ = match s.ev x with
    | .iface t v => Φ (.panic (.iface t v)) s
    | _ => False := rfl
end

theorem indexAddrA_at (P : Program) (h : List Box) (t : TypeId) (p i : AV) (K : AV → Prop) : indexAddrA P h t p i K = match i with
  | .val (.int _ n) => match p with
    | .sl _ es => match elemOfSlice P t with
      | some (_, T) => gate (0 ≤ n ∧ n < es.length) ((es.getD n.toNat .dead).cells.length = T.size ∧ K (.cptr (es.getD n.toNat .dead).cells)) ⟨⟩
      | none => False
    | .hsl id ver off len => match elemOfSlice P t, h[id]? with
      | some (_, T), some (.row _ ver' sz es) => ver = ver' ∧ sz = T.size ∧ 0 ≤ n ∧ n < len ∧ off + len ≤ es.length ∧ K (.eptr id ver (off + n.toNat) 0)
      | _, _ => False
    | .ptr id o => match P.underlying t with
      | some (.array len e) => match tyOf P e with
        | some T => 0 ≤ n ∧ n < len ∧ K (.ptr id (o + n.toNat * T.size))
        | none => False
      | _ => False
    | _ => False
  | _ => False := by
  unfold indexAddrA
  simp only [gate, and_assoc]
  rfl
theorem loadA_at (P : Program) (h : List Box) (t : TypeId) (p : AV) (K : AV → Prop) : loadA P h t p K = match tyOf P t with
  | none => False
  | some T => match p with
    | .ptr id off => match h[id]? with
      | some (.cells cs) => loadAV T cs off K
      | _ => False
    | .eptr id ver i off => match h[id]? with
      | some (.row _ ver' _ es) => gate (ver = ver' ∧ i < es.length) (loadAV T (es.getD i .dead).cells off K) ⟨⟩
      | _ => False
    | .cptr cs => loadAV T cs 0 K
    | _ => False := by
  unfold loadA
  simp only [gate, and_assoc]
  rfl

/-! ### What is not looked into before its turn -/
section
variable {P : Program} {ops : Array Oper} {Φ : AX → St → Prop}
@[congr] theorem CodeT_congr {rd : Option Nat} {c : Code} {s s' : St} (h : s = s') : CodeT P rd c s Φ = CodeT P rd c s' Φ := by rw [h]
@[congr] theorem CallT_congr {f : FuncId} {args args' : List AV} {h h' : List Box} {R : AE → List Box → Prop} (h1 : args = args') (h2 : h = h') : CallT P f args h R = CallT P f args' h' R := by rw [h1, h2]
@[congr] theorem YieldT_congr {id : Nat} {args args' : List AV} {h h' : List Box} {R : AE → List Box → Prop} (h1 : args = args') (h2 : h = h') : YieldT P id args h R = YieldT P id args' h' R := by rw [h1, h2]
end

theorem buildSliceA_ev (P : Program) (h : List Box) (t : TypeId) (n : Nat) (idx : List Nat) (xs : List AV) (K : AV → List Box → Prop) : buildSliceA P h t n idx xs K = match elemOfSlice P t, xs with
    | some (_, T), xs => idx = List.range n ∧ xs.length = n ∧ n * T.size ≤ 16777216 ∧ T.zero.cells.size = T.size ∧ frzAs xs h (fun es h' => uniB T.size es = true ∧ K (.sl true es) h')
    | none, _ => False := by
  unfold buildSliceA
  cases elemOfSlice P t <;> rfl

attribute [go_sem] Option.getD_some Option.getD_none Option.isNone_some Option.isNone_none Bool.false_and Int.toNat_natCast Int.toNat_zero putAt List.take_zero List.take_succ_cons List.take_nil List.drop_zero List.drop_succ_cons List.drop_nil Nat.zero_add Nat.add_zero List.map_cons List.map_nil List.getElem?_cons_zero List.getElem?_cons_succ List.set_cons_zero List.set_cons_succ List.length_cons List.length_nil Option.isSome_some Bool.false_eq_true true_and and_true isNilConst List.nil_append List.cons_append List.append_nil
  List.getD_cons_zero List.getD_cons_succ Option.map_some Option.map_none Option.bind_some List.all_cons List.all_nil Bool.and_true Bool.true_and beq_self_eq_true List.size_toArray Bool.and_self Bool.not_true Bool.not_false
  under_val under_sl under_cptr under_dead under_ptr under_hsl under_yld under_fn under_agg under_tup underL_nil underL_cons keeps_nil keeps_cons keepsH_nil keepsH_cons boxu_cells boxu_row boxu_dead boxu_defer
  cells_val cells_sl cells_hsl cells_ptr cells_cptr cells_fn cells_iface cells_agg pack_one pack_nil pack_two
  bnd uniB allOne AV.single Ty.isAgg look_nil look_cons get_mk put_mk putO_some putO_none St_put ev_tmp ev_const ev_func ofVal_int ofVal_bool ofVal_str ofVal_nilSlice ofVal_nilPtr
attribute [go_sem] gate_t gif_t gif_f guardA_t guardA_f guardA_tup pickA_val
attribute [go_sem ↓] guardV_zero guardV_succ frz0_val frz0_sl frz0_cptr frz0_hsl frzL_nil frzL_cons frzA_val frzA_sl frzA_hsl frzA_agg frzAs_nil frzAs_cons frzC_val frzC_sl frzC_cptr frzC_hsl frzC_agg frzC_ptr
  frzCs_nil frzCs_cons frzV_tup frzV_val frzV_sl frzV_hsl frzV_agg frzV_ptr frzR_ret frzR_panic bodyA_ret bodyA_normal bodyA_panic leaveA_nil leaveA_pan leaveA_mark resA_nil resA_tmp resA_cell callK_ret callK_panic
  lookA binP indexAddrA loadA loadAV indexA fieldA fieldAddrA sliceA convA appendA srcA copyA buildSliceA storeA makeSliceA allocA boxA thn_normal thn_ret thn_exit thn_panic inB_normal inB_ret inB_exit
  OpsA_nil OpsA_cons OpsA_guard opA_move opA_assign opA_alloc opA_box opA_build opA_buildSlice opA_store opA_makeSlice opA_pick opA_nilCheck opA_binOp opA_unOp opA_convert opA_makeFunc opA_makeBnd opA_lookup opA_mapUpdate opA_insert opA_makeMap opA_range opA_next opA_entry opA_field opA_fieldAddr opA_index opA_indexAddr opA_slice opA_load opA_extract
  opA_append opA_copy opA_len opA_min opA_max opA_call opA_callV opA_panic

theorem under_mp (n id : Nat) : (AV.mp id).under n = decide (id < n) := rfl
theorem under_bnd (n : Nat) (f : FuncId) (l : List AV) : (AV.bnd f l).under n = underL n l := rfl
theorem cells_mp (a : Nat) : (AV.mp a).cells = [.mp a] := rfl
theorem cells_bnd (f : FuncId) (a : List AV) : (AV.bnd f a).cells = [.bnd f a] := rfl
theorem boxu_iter (n mid since : Nat) (seen : List Nat) (step : Nat) : (Box.iter mid since seen step).under n = decide (mid < n) := rfl
theorem boxu_siter (n : Nat) (s : ByteArray) (pos : Nat) : (Box.siter s pos).under n = true := rfl
attribute [go_sem] under_mp under_bnd cells_mp cells_bnd boxu_iter boxu_siter hintOK
attribute [go_sem ↓] lookupA updA makeMapA rangeM entryA nextA
end Go.PM

namespace Go.PM
set_option linter.unusedSectionVars false
variable [Globals]

def allUnder (h : List Box) : Prop := ∀ b ∈ h, b.under h.length = true

/-- The first boxes by themselves; the others are held. -/
theorem HRel.split {F : Nat → Prop} {M : Mem} {hb : List HB} {h ext : List Box} (H : HRel F M hb (h ++ ext)) (ok : MOk F M) (hu : allUnder h) :
    let F' : Nat → Prop := fun b => F b ∨ Held (hb.drop h.length) ext b
    HRel F' M (hb.take h.length) h ∧ MOk F' M := by
  intro F'
  have hlen := H.len
  simp only [List.length_append] at hlen
  have hget : ∀ {i : Nat} {e : HB}, (hb.take h.length)[i]? = some e → hb[i]? = some e := by
    intro i e he
    rw [List.getElem?_take] at he
    split at he
    · exact he
    · cases he
  have hext : ∀ {i : Nat} {x : Box} {e : HB}, ext[i]? = some x → (hb.drop h.length)[i]? = some e → (h ++ ext)[h.length + i]? = some x ∧ hb[h.length + i]? = some e := by
    intro i x e h1 h2
    refine ⟨by rw [List.getElem?_append_right (by omega)]; simpa using h1, by rw [List.getElem?_drop] at h2; exact h2⟩
  have hpre : ∀ {i : Nat} {x : Box}, h[i]? = some x → (h ++ ext)[i]? = some x := by
    intro i x h1
    have := (List.getElem?_eq_some_iff.1 h1).1
    rw [List.getElem?_append_left this]; exact h1
  refine ⟨⟨by rw [List.length_take]; omega, H.gl, fun i b e h1 h2 => ?_, fun i b e h1 h2 h3 => ?_, fun i j b b' e e' h1 h2 h3 h4 h5 h6 h7 => ?_⟩, ⟨ok.top, fun b hb' => ?_⟩⟩
  · exact (H.box i b e (hpre h1) (hget h2)).take (hu b (List.mem_of_getElem? h1))
  · have := H.own i b e (hpre h1) (hget h2) h3
    refine ⟨this.1, fun hf => ?_⟩
    rcases hf with hf | ⟨j, x, e', g1, g2, g3, g4⟩
    · exact this.2 hf
    · obtain ⟨k1, k2⟩ := hext g1 g2
      have := H.dis i _ b x e e' (hpre h1) (hget h2) k1 k2 h3 g3 g4.symm
      have hi := (List.getElem?_eq_some_iff.1 h1).1
      omega
  · exact H.dis i j b b' e e' (hpre h1) (hget h2) (hpre h3) (hget h4) h5 h6 h7
  · rcases hb' with hf | ⟨j, x, e', g1, g2, g3, rfl⟩
    · exact ok.fr b hf
    · obtain ⟨k1, k2⟩ := hext g1 g2
      exact (H.own _ x e' k1 k2 g3).1

/-- And together again. -/
theorem HRel.join {F : Nat → Prop} {M M' : Mem} {hb hb1 : List HB} {h h' ext : List Box} (H : HRel F M hb (h ++ ext)) (hl : h'.length = h.length)
    (H' : HRel (fun b => F b ∨ Held (hb.drop h.length) ext b) M' hb1 h') (ok' : MOk (fun b => F b ∨ Held (hb.drop h.length) ext b) M')
    (hg : Gu (fun b => F b ∨ Held (hb.drop h.length) ext b) M M') (hh : HBLe (hb.take h.length) hb1) :
    HRel F M' (hb1 ++ hb.drop h.length) (h' ++ ext) ∧ MOk F M' ∧ HBLe hb (hb1 ++ hb.drop h.length) := by
  have hlen := H.len
  simp only [List.length_append] at hlen
  have hlen1 := H'.len
  have hh2 : HBLe hb (hb1 ++ hb.drop h.length) := by
    intro i e he
    by_cases hi : i < h.length
    · obtain ⟨e', k1, k2⟩ := hh i e (get_take he hi)
      exact ⟨e', by rw [List.getElem?_append_left (by omega)]; exact k1, k2⟩
    · refine ⟨e, ?_, Nat.le_refl _, rfl, fun _ => rfl, fun _ => rfl⟩
      rw [List.getElem?_append_right (by omega), List.getElem?_drop]
      rw [show h.length + (i - hb1.length) = i by omega]; exact he
  have hcase : ∀ {i : Nat} {x : Box} {e : HB}, (h' ++ ext)[i]? = some x → (hb1 ++ hb.drop h.length)[i]? = some e →
      (i < h'.length ∧ h'[i]? = some x ∧ hb1[i]? = some e) ∨ (h'.length ≤ i ∧ ext[i - h'.length]? = some x ∧ (hb.drop h.length)[i - h'.length]? = some e ∧ (h ++ ext)[i]? = some x ∧ hb[i]? = some e) := by
    intro i x e h1 h2
    by_cases hi : i < h'.length
    · rw [List.getElem?_append_left hi] at h1
      rw [List.getElem?_append_left (by omega)] at h2
      exact .inl ⟨hi, h1, h2⟩
    · rw [List.getElem?_append_right (by omega)] at h1 h2
      rw [hlen1] at h2
      refine .inr ⟨by omega, h1, h2, ?_, ?_⟩
      · rw [List.getElem?_append_right (by omega), ← hl]; exact h1
      · rw [List.getElem?_drop] at h2
        rw [show h.length + (i - h'.length) = i by omega] at h2; exact h2
  refine ⟨⟨by simp only [List.length_append, List.length_drop]; omega, H'.gl, fun i b e h1 h2 => ?_, fun i b e h1 h2 h3 => ?_, fun i j b b' e e' h1 h2 h3 h4 h5 h6 h7 => ?_⟩, ⟨ok'.top, fun b hb' => ok'.fr b (.inl hb')⟩, hh2⟩
  · rcases hcase h1 h2 with ⟨g1, g2, g3⟩ | ⟨g1, g2, g3, g4, g5⟩
    · exact (H'.box i b e g2 g3).mono (.refl _) (.append _ _) (fun _ => ⟨rfl, rfl⟩)
    · exact (H.box i b e g4 g5).mono hg.le hh2 (fun ho => hg.fr _ (.inr ⟨_, b, e, g2, g3, ho, rfl⟩))
  · rcases hcase h1 h2 with ⟨g1, g2, g3⟩ | ⟨g1, g2, g3, g4, g5⟩
    · exact ⟨(H'.own i b e g2 g3 h3).1, fun hf => (H'.own i b e g2 g3 h3).2 (.inl hf)⟩
    · exact ⟨Nat.lt_of_lt_of_le (H.own i b e g4 g5 h3).1 hg.size, (H.own i b e g4 g5 h3).2⟩
  · rcases hcase h1 h2 with ⟨g1, g2, g3⟩ | ⟨g1, g2, g3, g4, g5⟩ <;> rcases hcase h3 h4 with ⟨k1, k2, k3⟩ | ⟨k1, k2, k3, k4, k5⟩
    · exact H'.dis i j b b' e e' g2 g3 k2 k3 h5 h6 h7
    · exact absurd (.inr ⟨_, b', e', k2, k3, h6, h7.symm⟩) (H'.own i b e g2 g3 h5).2
    · exact absurd (.inr ⟨_, b, e, g2, g3, h5, h7⟩) (H'.own j b' e' k2 k3 h6).2
    · exact H.dis i j b b' e e' g4 g5 k4 k5 h5 h6 h7

def AE.under (n : Nat) : AE → Bool
  | .ret x | .panic x => x.under n

theorem callR_join {F : Nat → Prop} {M : Mem} {hb : List HB} {h ext : List Box} (H : HRel F M hb (h ++ ext)) {R : AE → List Box → Prop} (hR : ∀ r h', R r h' → h'.length = h.length) {e : Ending} {w : World}
    (hc : CallR (fun b => F b ∨ Held (hb.drop h.length) ext b) M (hb.take h.length) R e w) : CallR F M hb (fun r h'' => ∃ h', R r h' ∧ h'' = h' ++ ext) e w := by
  obtain ⟨r, h', M', hb1, k1, k2, k3, k4, k5, k6, k7⟩ := hc
  obtain ⟨j1, j2, j3⟩ := H.join (hR r h' k1) k4 k5 k6 k7
  refine ⟨r, h' ++ ext, M', _, ⟨h', k1, rfl⟩, ?_, k3, j1, j2, k6.less (fun b hb => .inl hb), j3⟩
  cases r <;> cases e <;> try exact k2
  · exact VRel.hb k2 (.append _ _)
  · obtain ⟨v, h1, h2⟩ := k2
    exact ⟨v, h1, h2.hb (.append _ _)⟩

theorem listRel_take {M : Mem} {hb : List HB} {args : List AV} {vs : Array Value} {n : Nat} (hv : ListRel M hb args vs) (ha : underL n args = true) : ListRel M (hb.take n) args vs :=
  ⟨hv.1, fun i x hx => (hv.2 i x hx).take (underL_get ha hx)⟩

/-- A call that looks at the first boxes alone. -/
theorem CallT.pre {P : Program} {f : FuncId} {args : List AV} {h : List Box} (ext : List Box) {R : AE → List Box → Prop} (hu : allUnder h) (ha : underL h.length args = true) (hR : ∀ r h', R r h' → h'.length = h.length) (hc : CallT P f args h R) :
    CallT P f args (h ++ ext) (fun r h'' => ∃ h', R r h' ∧ h'' = h' ++ ext) := by
  refine ⟨hc.1, fun F M hb vs H ok hv => ?_⟩
  obtain ⟨g1, g2⟩ := H.split ok hu
  exact Calls.mono (hc.2 _ M _ vs g1 g2 (listRel_take hv ha)) fun e w' hr => callR_join H hR hr

theorem YieldT.pre {P : Program} {id : Nat} {args : List AV} {h : List Box} (ext : List Box) {R : AE → List Box → Prop} (hu : allUnder h) (ha : underL h.length args = true) (hR : ∀ r h', R r h' → h'.length = h.length) (hc : YieldT P id args h R) :
    YieldT P id args (h ++ ext) (fun r h'' => ∃ h', R r h' ∧ h'' = h' ++ ext) := by
  intro F M hb vs H ok hv
  obtain ⟨g1, g2⟩ := H.split ok hu
  obtain ⟨e, h1, h2, fn, tmps, asg, bd, h3, h4⟩ := hc _ M _ vs g1 g2 (listRel_take hv ha)
  refine ⟨e, ?_, h2, fn, tmps, asg, bd, h3, RoundIn.mono h4 fun e w' hr => callR_join H hR hr⟩
  rw [List.getElem?_take] at h1
  split at h1
  · exact h1
  · cases h1

/-- The boxes that a call has made are forgotten. -/
theorem CallT.less {P : Program} {f : FuncId} {args : List AV} {h : List Box} {R : AE → List Box → Prop} (hc : CallT P f args h (fun r h' => ∃ h'', keepsH h''.length h' h'' ∧ h.length ≤ h''.length ∧ r.under h''.length = true ∧ R r h'')) : CallT P f args h R := by
  refine ⟨hc.1, fun F M hb vs H ok hv => Calls.mono (hc.2 F M hb vs H ok hv) ?_⟩
  rintro e w' ⟨r, h', M', hb', ⟨h'', k1, k2, k3, k4⟩, j2, j3, j4, j5, j6, j7⟩
  refine ⟨r, h'', M', hb'.take h''.length, k4, ?_, j3, j4.weak k1, j5, j6, j7.take (by rw [H.len]; exact k2)⟩
  cases r <;> cases e <;> try exact j2
  · exact VRel.take j2 k3
  · obtain ⟨v, h1, h2⟩ := j2
    exact ⟨v, h1, h2.take k3⟩

theorem CodeT.scope {P : Program} {c : Code} {s : St} {Φ : AX → St → Prop} (h : CodeT P none c s (fun x s' => match x with | .goto _ => False | x => Φ x s')) : CodeT P none (.scope c) s Φ := by
  intro F M hb a ro hs hr
  cases ro with
  | some _ => exact hr.elim
  | none =>
  have h1 := (wpIn_wide (n := 0)).1 (h F M hb a none hs trivial)
  refine (wpIn_wide (n := 0)).2 (wp_scope_straight (wp_mono h1 ?_))
  rintro e a' w' ⟨x, s', M', hb', k, r1, r2, r3, r4, r5⟩
  cases x <;> cases e <;> try (first | exact r1.elim | exact k.elim)
  case normal.normal => exact ⟨.normal, s', M', hb', k, r1, r2, r3, r4, r5⟩
  case exit.exit i j => exact ⟨.exit i, s', M', hb', k, r1, r2, r3, r4, r5⟩
  case ret.ret => exact ⟨.ret, s', M', hb', k, r1, r2, r3, r4, r5⟩
  case panic.panic x ch => exact ⟨.panic x, s', M', hb', k, r1, r2, r3, r4, r5⟩

end Go.PM

namespace Go.PM
set_option linter.unusedSectionVars false
variable [Globals]

def atOp (l : Array Oper) (i : Nat) (f : Oper → Prop) : Prop := match l[i]? with
  | some o => f o
  | none => False
theorem atOp_zero (o : Oper) (l : List Oper) (f : Oper → Prop) : atOp (List.toArray (o :: l)) 0 f = f o := by simp [atOp]
theorem atOp_succ (o : Oper) (l : List Oper) (i : Nat) (f : Oper → Prop) : atOp (List.toArray (o :: l)) (i + 1) f = atOp l.toArray i f := by simp [atOp]

def stepO (P : Program) (ops : Array Oper) (o : Oper) (c : Cls) (s : St) (K : AV → List Box → Prop) : Prop :=
  match o.guard with
  | none => effV P o c s K
  | some (j, want) => guardA (guardV ops s.t j) want (effV P o c s K) (K (.tup []) s.h)

theorem stepV_at (P : Program) (ops : Array Oper) (i : Nat) (c : Cls) (s : St) (K : AV → List Box → Prop) : stepV P ops (i, c) s K = atOp ops i (fun o => stepO P ops o c s K) := by
  simp only [stepV, atOp]
  cases ops[i]? with
  | none => rfl
  | some o =>
    simp only [stepO]
    cases o.guard with
    | none => rfl
    | some gw =>
      obtain ⟨j, want⟩ := gw
      simp only [guardV]
      cases guardT ops j with
      | none => rfl
      | some d =>
        simp only [guardA]
        generalize s.t.get d = v
        cases v <;> try rfl
        · rename_i v
          cases v <;> try rfl
          exact if_bool _ _ _ _
        · rename_i l
          cases l <;> rfl

/-- The run of a region in the order of a list. -/
def RunL (P : Program) (ops : Array Oper) (l : List (Nat × Cls)) (s : St) (K : St → Prop) : Prop :=
  match l with
  | [] => K s
  | (i, c) :: l => atOp ops i (fun o => stepO P ops o c s (fun v h => RunL P ops l ⟨s.t.putO o.dst v, h, s.d⟩ K))

theorem stepO_mono {P : Program} {ops : Array Oper} {i : Nat} {o : Oper} (ho : ops[i]? = some o) {c : Cls} {s : St} {K K' : AV → List Box → Prop} (hk : stepO P ops o c s K) (hm : ∀ v h, K v h → K' v h) : stepO P ops o c s K' := by
  have h1 : stepV P ops (i, c) s K := by rw [stepV_at]; simp only [atOp, ho]; exact hk
  obtain ⟨t, h, d⟩ := s
  obtain ⟨v, h', k1, k2, _⟩ := stepV_det h1
  have h2 := k2 K' (hm _ _ k1)
  rw [stepV_at] at h2
  simp only [atOp, ho] at h2
  exact h2

theorem RunL.run {P : Program} {ops : Array Oper} {K : St → Prop} : ∀ (l : List (Nat × Cls)) (s : St), RunL P ops l s K → RunK P ops l s K := by
  intro l
  induction l with
  | nil => exact fun s h => h
  | cons p l ih =>
    obtain ⟨i, c⟩ := p
    intro s h
    simp only [RunK, stepV_at]
    simp only [RunL, atOp] at h ⊢
    cases ho : ops[i]? with
    | none => rw [ho] at h; exact h
    | some o =>
      rw [ho] at h
      simp only at h ⊢
      have hd : dstOf ops i = o.dst := by simp [dstOf, ho]
      rw [hd]
      exact stepO_mono ho h fun v h' hh => ih _ hh

/-- Continuations without a lambda: simp does not walk into them. -/
def kR (P : Program) (ops : Array Oper) (l : List (Nat × Cls)) (t : Tm) (d : List AD) (dst : Option Tmp) (K : St → Prop) (v : AV) (h : List Box) : Prop := RunL P ops l ⟨t.putO dst v, h, d⟩ K
def kH (K : AV → List Box → Prop) (h : List Box) (v : AV) : Prop := K v h
def kU (K : AV → List Box → Prop) (h0 : List Box) (v : AV) (h : List Box) : Prop := Stable h0 h ∧ K v h

theorem CodeT.drawnL {P : Program} {rd : Option Nat} {s : St} {Φ : AX → St → Prop} {id : Nat} {ops : Array Oper} (π : List (Nat × Cls)) (hm : P.follows .mixedOrders = true) (hok : okOrder ops π = true) (h : RunL P ops π s (Φ .normal)) :
    CodeT P rd (.region id ops true) s Φ := CodeT.drawn π hm hok (RunL.run π s h)

section
variable (P : Program) (ops : Array Oper) (dst : Option Tmp) (ty : TypeId) (pos : String) (after : Array Edge) (s : St) (K : AV → List Box → Prop) (g : Option (Nat × Bool)) (c : Cls) (t : Tm) (h : List Box) (d : List AD)
theorem RunL_nil (K : St → Prop) : RunL P ops [] s K = K s := rfl
theorem RunL_cons (i : Nat) (c : Cls) (l : List (Nat × Cls)) (K : St → Prop) : RunL P ops ((i, c) :: l) s K = atOp ops i (fun o => stepO P ops o c s (kR P ops l s.t s.d o.dst K)) := rfl
theorem kR_eq (l : List (Nat × Cls)) (K : St → Prop) (v : AV) : kR P ops l t d dst K v h = RunL P ops l ⟨t.putO dst v, h, d⟩ K := rfl
theorem kH_eq (v : AV) : kH K h v = K v h := rfl
theorem kU_eq (h0 : List Box) (v : AV) : kU K h0 v h = (Stable h0 h ∧ K v h) := rfl
theorem stepO_none (op : Op) : stepO P ops ⟨dst, op, ty, pos, after, none⟩ c s K = effV P ⟨dst, op, ty, pos, after, none⟩ c s K := rfl
theorem stepO_guard (op : Op) (j : Nat) (want : Bool) : stepO P ops ⟨dst, op, ty, pos, after, some (j, want)⟩ c s K = guardA (guardV ops s.t j) want (effV P ⟨dst, op, ty, pos, after, some (j, want)⟩ c s K) (K (.tup []) s.h) := rfl

theorem free_move (x : Operand) : effV P ⟨dst, .move x, ty, pos, after, g⟩ .free s K = K (s.ev x) s.h := by simp [effV, noHeap, opQ]
theorem free_assign (x : Operand) : effV P ⟨dst, .assign x, ty, pos, after, g⟩ .free s K = K (s.ev x) s.h := by simp [effV, noHeap, opQ]
theorem free_pick (x a b : Operand) : effV P ⟨dst, .pick x a b, ty, pos, after, g⟩ .free s K = pickA (s.ev x) (K (s.ev a) s.h) (K (s.ev b) s.h) := by
  simp only [effV, noHeap, true_and, opQ]
  generalize s.ev x = v
  cases v <;> try rfl
  rename_i v
  cases v <;> try rfl
  exact if_bool _ true _ _
theorem free_nilCheck (x : Operand) : effV P ⟨dst, .nilCheck x, ty, pos, after, g⟩ .free s K = match s.ev x with
    | .ptr id o => K (.ptr id o) s.h
    | .cptr cs => K (.cptr cs) s.h
    | .fn f caps => K (.fn f caps) s.h
    | .yld id => K (.yld id) s.h
    | _ => False := by simp only [effV, noHeap, opQ, eq_self, true_and]; rfl
def notNil (y : Operand) (A : Prop) : Prop := isNilConst y = false ∧ A
theorem notNil_tmp (i : Tmp) (A : Prop) : notNil (.tmp i) A = A := by simp [notNil, isNilConst]
theorem notNil_int (k : IntKind) (n : Int) (A : Prop) : notNil (.const (.int k n)) A = A := by simp [notNil, isNilConst]
theorem notNil_bool (b : Bool) (A : Prop) : notNil (.const (.bool b)) A = A := by simp [notNil, isNilConst]
theorem notNil_str (b : ByteArray) (A : Prop) : notNil (.const (.string b)) A = A := by simp [notNil, isNilConst]
theorem free_binOp (op : BinOp) (t1 t2 : TypeId) (x y : Operand) : effV P ⟨dst, .binOp op t1 x y t2, ty, pos, after, g⟩ .free s K = notNil y (match s.ev x, s.ev y with
      | .val a, .val b => binP (P.underlying t1) op a b (fun v => K (.val v) s.h)
      | .agg xs, .agg ys => aggEqA P t1 op xs ys (fun b => K (.val (.bool b)) s.h)
      | _, _ => False) := by
  simp only [effV, noHeap, opQ, notNil]
  cases hn : isNilConst y
  · simp only [Bool.not_false, eq_self, true_and, Bool.false_eq_true, if_false]; rfl
  · simp only [Bool.not_true, Bool.false_eq_true, Bool.true_eq_false, false_and]
theorem free_unOp (op : UnOp) (t1 : TypeId) (x : Operand) : effV P ⟨dst, .unOp op t1 x, ty, pos, after, g⟩ .free s K = match op, s.ev x with
    | .not, .val (.bool b) => K (.val (.bool (!b))) s.h
    | .neg, .val (.int k n) => K (.val (.int k (k.wrap (0 - n)))) s.h
    | _, _ => False := by simp only [effV, noHeap, opQ, eq_self, true_and]; rfl
theorem free_convert (a b : TypeId) (x : Operand) : effV P ⟨dst, .convert a b x, ty, pos, after, g⟩ .free s K = convA P a b (s.ev x) (fun v => K v s.h) := by simp [effV, noHeap, opQ]
theorem free_field (t1 : TypeId) (x : Operand) (f : Nat) : effV P ⟨dst, .field t1 x f, ty, pos, after, g⟩ .free s K = fieldA P t1 (s.ev x) f (fun v => K v s.h) := by simp [effV, noHeap, opQ]
theorem free_fieldAddr (t1 : TypeId) (x : Operand) (f : Nat) : effV P ⟨dst, .fieldAddr t1 x f, ty, pos, after, g⟩ .free s K = ((match s.ev x with | .eptr .. => False | _ => True) ∧ fieldAddrA P t1 (s.ev x) f (fun v => K v s.h)) := by simp only [effV, noHeap, opQ, eq_self, true_and]; rfl
theorem free_index (t1 : TypeId) (x i : Operand) : effV P ⟨dst, .index t1 x i, ty, pos, after, g⟩ .free s K = indexA P t1 (s.ev x) (s.ev i) (fun v => K v s.h) := by simp [effV, noHeap, opQ]
theorem free_extract (x : Operand) (i : Nat) : effV P ⟨dst, .extract x i, ty, pos, after, g⟩ .free s K = match s.ev x with
    | .tup vs => i < vs.length ∧ K (vs.getD i .dead) s.h
    | _ => False := by simp only [effV, noHeap, opQ, eq_self, true_and]; rfl
theorem free_makeFunc (f : FuncId) (caps : Array Operand) : effV P ⟨dst, .makeFunc (.func f) #[] caps, ty, pos, after, g⟩ .free s K = K (.fn f (caps.toList.map s.ev)) s.h := by simp [effV, noHeap, opQ]
theorem free_makeBnd (f : FuncId) (x : Operand) (l : List Operand) : effV P ⟨dst, .makeFunc (.func f) (List.toArray (x :: l)) #[], ty, pos, after, g⟩ .free s K = K (.bnd f ((x :: l).map s.ev)) s.h := by simp [effV, noHeap, opQ]
theorem heap_lookup (t1 : TypeId) (m k : Operand) (c : Bool) : heapA P ⟨dst, .lookup t1 m k c, ty, pos, after, g⟩ s K = lookupA P s.h t1 (s.ev m) (s.ev k) c (fun v => K v s.h) := rfl
theorem heap_mapUpdate (t1 : TypeId) (m k x : Operand) : heapA P ⟨dst, .mapUpdate t1 m k x, ty, pos, after, g⟩ s K = updA P s.h t1 (s.ev m) (s.ev k) (s.ev x) (fun h => K .dead h) := rfl
theorem heap_insert (t1 : TypeId) (m k x : Operand) : heapA P ⟨dst, .insert t1 m k x, ty, pos, after, g⟩ s K = updA P s.h t1 (s.ev m) (s.ev k) (s.ev x) (fun h => K .dead h) := rfl
theorem heap_makeMap (t1 : TypeId) (r : Option Operand) : heapA P ⟨dst, .makeMap t1 r, ty, pos, after, g⟩ s K = makeMapA P s.h t1 (r.map s.ev) K := rfl
theorem heap_range (t1 : TypeId) (x : Operand) : heapA P ⟨dst, .range t1 x, ty, pos, after, g⟩ s K = rangeM P s.h t1 (s.ev x) K := rfl
theorem heap_entry (it : Operand) : heapA P ⟨dst, .entry it, ty, pos, after, g⟩ s K = entryA s.h (s.ev it) (fun v => K v s.h) := rfl
theorem free_build (t1 : TypeId) (ps : Array (Nat × Operand)) : effV P ⟨dst, .build t1 ps, ty, pos, after, g⟩ .free s K = buildA P t1 (ps.toList.map fun p => (p.1, s.ev p.2)) (fun v => K v s.h) := rfl
theorem free_buildSlice (t1 : TypeId) (n : Nat) (ps : Array (Nat × Operand)) : effV P ⟨dst, .buildSlice t1 n ps, ty, pos, after, g⟩ .free s K = buildSliceF P t1 n (ps.toList.map (·.1)) (ps.toList.map fun p => s.ev p.2) (fun v => K v s.h) := rfl
theorem free_call (f : FuncId) (args : Array Operand) (ts : Array TypeId) : effV P ⟨dst, .call ⟨.value (.func f), args, ts⟩, ty, pos, after, g⟩ .free s K = CallF P f (args.toList.map s.ev ++ []) (kH K s.h) := rfl
theorem free_callV (i : Tmp) (args : Array Operand) (ts : Array TypeId) : effV P ⟨dst, .call ⟨.value (.tmp i), args, ts⟩, ty, pos, after, g⟩ .free s K = match s.t.get i with
    | .fn f caps => CallF P f (args.toList.map s.ev ++ caps) (kH K s.h)
    | _ => False := rfl

def evs (s : St) (l : List Operand) : List AV := l.map s.ev
theorem evNoRow_iff (op : Op) : evNoRow s op = ((op.operands.toList.all fun x => (s.ev x).noRow) = true) := by
  simp only [evNoRow, List.all_eq_true, Array.mem_toList_iff]
theorem read_load (t1 : TypeId) (p : Operand) : effV P ⟨dst, .load t1 p, ty, pos, after, g⟩ .read s K = ((s.ev p).noRow = true ∧ loadA P s.h t1 (s.ev p) (fun v => K v s.h)) := by
  simp [effV, noNil, opQ, evNoRow, Op.operands]
theorem read_indexAddr (t1 : TypeId) (x i : Operand) : effV P ⟨dst, .indexAddr t1 x i, ty, pos, after, g⟩ .read s K = (((s.ev x).noRow = true ∧ (s.ev i).noRow = true) ∧ indexAddrA P s.h t1 (s.ev x) (s.ev i) (fun v => K v s.h)) := by
  simp [effV, noNil, opQ, evNoRow, Op.operands]
theorem read_slice (t1 : TypeId) (x : Operand) (lo hi mx : Option Operand) : effV P ⟨dst, .slice t1 x lo hi mx, ty, pos, after, g⟩ .read s K = (evNoRow s (.slice t1 x lo hi mx) ∧ sliceA P s.h t1 (s.ev x) (lo.map s.ev) (hi.map s.ev) (mx.map s.ev) (fun v => K v s.h)) := by
  simp [effV, noNil, opQ]
theorem read_len (args : Array Operand) (ts : Array TypeId) : effV P ⟨dst, .call ⟨.builtin .len, args, ts⟩, ty, pos, after, g⟩ .read s K = (evNoRow s (.call ⟨.builtin .len, args, ts⟩) ∧ lookA P s.h .len ts.toList (args.toList.map s.ev) (fun v => K v s.h)) := by simp [effV, opQ]
theorem read_min (args : Array Operand) (ts : Array TypeId) : effV P ⟨dst, .call ⟨.builtin .min, args, ts⟩, ty, pos, after, g⟩ .read s K = (evNoRow s (.call ⟨.builtin .min, args, ts⟩) ∧ lookA P s.h .min ts.toList (args.toList.map s.ev) (fun v => K v s.h)) := by simp [effV, opQ]
theorem read_max (args : Array Operand) (ts : Array TypeId) : effV P ⟨dst, .call ⟨.builtin .max, args, ts⟩, ty, pos, after, g⟩ .read s K = (evNoRow s (.call ⟨.builtin .max, args, ts⟩) ∧ lookA P s.h .max ts.toList (args.toList.map s.ev) (fun v => K v s.h)) := by simp [effV, opQ]
theorem read_call (f : FuncId) (args : Array Operand) (ts : Array TypeId) : effV P ⟨dst, .call ⟨.value (.func f), args, ts⟩, ty, pos, after, g⟩ .read s K = CallS P f (args.toList.map s.ev ++ []) s.h (kH K s.h) := rfl
theorem read_callV (i : Tmp) (args : Array Operand) (ts : Array TypeId) : effV P ⟨dst, .call ⟨.value (.tmp i), args, ts⟩, ty, pos, after, g⟩ .read s K = match s.t.get i with
    | .fn f caps => CallS P f (args.toList.map s.ev ++ caps) s.h (kH K s.h)
    | _ => False := rfl
theorem upd_op (o : Oper) : effV P o .upd s K = heapA P o s (kU K s.h) := rfl
theorem set_op (o : Oper) : effV P o .set s K = heapA P o s K := rfl
theorem heap_alloc (t1 : TypeId) : heapA P ⟨dst, .alloc t1, ty, pos, after, g⟩ s K = allocA P s.h t1 K := rfl
theorem heap_box (t1 : TypeId) (x : Operand) : heapA P ⟨dst, .box t1 x, ty, pos, after, g⟩ s K = boxA s.h (s.ev x) K := rfl
theorem heap_buildSlice (t1 : TypeId) (n : Nat) (ps : Array (Nat × Operand)) : heapA P ⟨dst, .buildSlice t1 n ps, ty, pos, after, g⟩ s K = buildSliceA P s.h t1 n (ps.toList.map (·.1)) (ps.toList.map fun p => s.ev p.2) K := rfl
theorem heap_store (t1 : TypeId) (p x : Operand) : heapA P ⟨dst, .store t1 p x, ty, pos, after, g⟩ s K = storeA P s.h t1 (s.ev p) (s.ev x) (fun h => K .dead h) := rfl
theorem heap_makeSlice (t1 : TypeId) (l c : Operand) : heapA P ⟨dst, .makeSlice t1 l c, ty, pos, after, g⟩ s K = makeSliceA P s.h t1 (s.ev l) (s.ev c) K := rfl
theorem heap_append (args : Array Operand) (ts : Array TypeId) : heapA P ⟨dst, .call ⟨.builtin .append, args, ts⟩, ty, pos, after, g⟩ s K = appendA P s.h ts.toList (args.toList.map s.ev) K := rfl
theorem heap_copy (args : Array Operand) (ts : Array TypeId) : heapA P ⟨dst, .call ⟨.builtin .copy, args, ts⟩, ty, pos, after, g⟩ s K = copyA P s.h ts.toList (args.toList.map s.ev) K := rfl
theorem heap_len (args : Array Operand) (ts : Array TypeId) : heapA P ⟨dst, .call ⟨.builtin .len, args, ts⟩, ty, pos, after, g⟩ s K = lookA P s.h .len ts.toList (args.toList.map s.ev) (fun v => K v s.h) := rfl
theorem heap_call (f : FuncId) (args : Array Operand) (ts : Array TypeId) : heapA P ⟨dst, .call ⟨.value (.func f), args, ts⟩, ty, pos, after, g⟩ s K = CallZ P f (args.toList.map s.ev ++ []) s.h K := rfl
theorem heap_callV (i : Tmp) (args : Array Operand) (ts : Array TypeId) : heapA P ⟨dst, .call ⟨.value (.tmp i), args, ts⟩, ty, pos, after, g⟩ s K = match s.t.get i with
    | .fn f caps => CallZ P f (args.toList.map s.ev ++ caps) s.h K
    | .bnd f first => CallZ P f (first ++ args.toList.map s.ev) s.h K
    | _ => False := rfl
theorem heap_load (t1 : TypeId) (p : Operand) : heapA P ⟨dst, .load t1 p, ty, pos, after, g⟩ s K = loadA P s.h t1 (s.ev p) (fun v => K v s.h) := by simp [heapA, noNil, opQ]
theorem heap_indexAddr (t1 : TypeId) (x i : Operand) : heapA P ⟨dst, .indexAddr t1 x i, ty, pos, after, g⟩ s K = indexAddrA P s.h t1 (s.ev x) (s.ev i) (fun v => K v s.h) := by simp [heapA, noNil, opQ]
theorem heap_slice (t1 : TypeId) (x : Operand) (lo hi mx : Option Operand) : heapA P ⟨dst, .slice t1 x lo hi mx, ty, pos, after, g⟩ s K = sliceA P s.h t1 (s.ev x) (lo.map s.ev) (hi.map s.ev) (mx.map s.ev) (fun v => K v s.h) := by simp [heapA, noNil, opQ]
end

section
variable {P : Program} {ops : Array Oper}
@[congr] theorem CallF_congr {f : FuncId} {args args' : List AV} {K : AV → Prop} (h1 : args = args') : CallF P f args K = CallF P f args' K := by rw [h1]
@[congr] theorem CallS_congr {f : FuncId} {args args' : List AV} {h h' : List Box} {K : AV → Prop} (h1 : args = args') (h2 : h = h') : CallS P f args h K = CallS P f args' h' K := by rw [h1, h2]
@[congr] theorem CallY_congr {f : FuncId} {args args' : List AV} {h h' : List Box} {K : AV → List Box → Prop} (h1 : args = args') (h2 : h = h') : CallY P f args h K = CallY P f args' h' K := by rw [h1, h2]
@[congr] theorem CallZ_congr {f : FuncId} {args args' : List AV} {h h' : List Box} {K : AV → List Box → Prop} (h1 : args = args') (h2 : h = h') : CallZ P f args h K = CallZ P f args' h' K := by rw [h1, h2]
end

theorem noRow_val (v : Value) : (AV.val v).noRow = true := rfl
theorem noRow_sl (f : Bool) (es : List AV) : (AV.sl f es).noRow = true := rfl
theorem noRow_ptr (a b : Nat) : (AV.ptr a b).noRow = true := rfl
theorem noRow_cptr (a : List AV) : (AV.cptr a).noRow = true := rfl
theorem noRow_agg (a : List AV) : (AV.agg a).noRow = true := rfl
attribute [go_sem ↓] kR_eq kH_eq kU_eq atOp_zero atOp_succ RunL_nil RunL_cons stepO_none stepO_guard free_move free_assign free_pick free_nilCheck notNil_tmp notNil_int notNil_bool notNil_str free_binOp free_unOp free_convert free_field free_fieldAddr free_index free_extract free_makeFunc free_makeBnd free_build free_buildSlice buildSliceF free_call free_callV
  read_load read_indexAddr read_slice read_len read_min read_max read_call read_callV upd_op set_op heap_alloc heap_box heap_buildSlice heap_store heap_makeSlice heap_append heap_copy heap_len heap_call heap_callV heap_lookup heap_mapUpdate heap_insert heap_makeMap heap_range heap_entry heap_load heap_indexAddr heap_slice
theorem CallF.go {P : Program} {f : FuncId} {args : List AV} {v : AV} {K : AV → Prop} (hc : PureT P f args (· = v)) (hp : args.all AV.pure = true) (hk : K v) : CallF P f args K := ⟨hp, v, hc, hk⟩
attribute [go_sem] implies_true forall_const
attribute [go_sem] evNoRow_iff Op.operands Call.operands noRow_val noRow_sl noRow_ptr noRow_cptr noRow_agg

/-! ### A struct's literal, field by field -/
def fillF (P : Program) (t : TypeId) : List AV → List (Nat × AV) → (List AV → Prop) → Prop
  | cells, [], K => K cells
  | cells, (i, x) :: rest, K => match fldOf P t i with
    | some (off, T) => x.cells.length = T.size ∧ allOne x.cells = true ∧ off + T.size ≤ cells.length ∧ fillF P t (putAt cells off x.cells) rest K
    | none => False
theorem fillF_nil (P : Program) (t : TypeId) (cells : List AV) (K : List AV → Prop) : fillF P t cells [] K = K cells := rfl
theorem fillF_cons (P : Program) (t : TypeId) (cells : List AV) (i : Nat) (x : AV) (rest : List (Nat × AV)) (K : List AV → Prop) : fillF P t cells ((i, x) :: rest) K = match fldOf P t i with
    | some (off, T) => x.cells.length = T.size ∧ allOne x.cells = true ∧ off + T.size ≤ cells.length ∧ fillF P t (putAt cells off x.cells) rest K
    | none => False := rfl
theorem fillA_eq {P : Program} {t : TypeId} {fields : Array Field} (hu : P.underlying t = some (.struct fields)) {place : Nat → Option (Nat × Nat)} (hp : placeOf P t = some place) : ∀ (ps : List (Nat × AV)) (cells : List AV) (K : List AV → Prop), fillA place cells ps K = fillF P t cells ps K := by
  intro ps
  induction ps with
  | nil => intro cells K; rfl
  | cons p ps ih =>
    obtain ⟨i, x⟩ := p
    intro cells K
    simp only [fillA, fillF, fldOf, hu]
    unfold placeOf at hp
    rw [hu] at hp
    simp only [Option.some.injEq] at hp
    subst hp
    simp only
    cases fields[i]? with
    | none => rfl
    | some fd =>
      simp only
      cases tyOf P fd.type with
      | none => rfl
      | some T => simp only [Option.map_some]; rw [ih]
theorem buildA_struct {P : Program} {t : TypeId} {fields : Array Field} {T : Ty} (hu : P.underlying t = some (.struct fields)) (hT : tyOf P t = some T) (ps : List (Nat × AV)) (K : AV → Prop) :
    buildA P t ps K = (zeroOK T = true ∧ T.isAgg = true ∧ fieldsKnown P t = true ∧ fillF P t (zeroOf T).cells ps (fun cs => K (.agg cs))) := by
  have hp : ∃ place, placeOf P t = some place := by unfold placeOf; rw [hu]; exact ⟨_, rfl⟩
  obtain ⟨place, hp⟩ := hp
  unfold buildA
  rw [hT, hp]
  simp only
  rw [fillA_eq hu hp]
attribute [go_sem ↓] fillF_nil fillF_cons

end Go.PM

namespace Go.PM
set_option linter.unusedSectionVars false
variable [Globals]

theorem cells_retell {F : Nat → Prop} {M : Mem} {hb : List HB} {h : List Box} (H : HRel F M hb h) {id j : Nat} {cs : List AV} {x x' : AV} (hh : h[id]? = some (.cells cs)) (hx : cs[j]? = some x) (h1 : x'.single = true)
    (hv : ∀ v, VRel M hb x v → VRel M hb x' v) : HRel F M hb (h.set id (.cells (cs.set j x'))) := by
  obtain ⟨e, he⟩ : ∃ e, hb[id]? = some e := by
    have : id < hb.length := by rw [H.len]; exact (List.getElem?_eq_some_iff.1 hh).1
    exact ⟨_, List.getElem?_eq_getElem this⟩
  obtain ⟨q1, q2, c, q3, q4⟩ := H.box id _ e hh he
  have := H.update (M' := M) (b' := .cells (cs.set j x')) (e' := e) hh he (.refl M) (Nat.le_refl _) (HBLe.set he (Nat.le_refl _) rfl (fun _ => rfl) (fun _ => rfl)) (fun _ _ _ => ⟨rfl, rfl⟩)
    ⟨q1, q2, c, q3, by rw [List.length_set]; exact q4.1, fun k y hy => by
      rw [set_self he]
      by_cases hkj : j = k
      · subst hkj
        have hjl := (List.getElem?_eq_some_iff.1 hx).1
        simp [hjl] at hy
        subst hy
        exact ⟨h1, hv _ (q4.2 j x hx).2⟩
      · rw [List.getElem?_set_ne hkj] at hy
        exact q4.2 k y hy⟩ (fun _ => .inl ⟨rfl, rfl⟩)
  rwa [set_self he] at this

theorem CodeT.promoteBox {P : Program} {rd : Option Nat} {c : Code} {s : St} {Φ : AX → St → Prop} (id j sz : Nat) {cs : List AV} (hh : s.h[id]? = some (.cells cs)) (hx : cs[j]? = some (.sl true []))
    (h : CodeT P rd c ⟨s.t, s.h.set id (.cells (cs.set j (.hsl s.h.length 0 0 0))) ++ [.row true 0 sz []], s.d⟩ Φ) : CodeT P rd c s Φ := by
  intro F M hb a ro hs hr
  have H := hs.hp
  obtain ⟨e, he⟩ : ∃ e, hb[id]? = some e := by
    have : id < hb.length := by rw [H.len]; exact (List.getElem?_eq_some_iff.1 hh).1
    exact ⟨_, List.getElem?_eq_getElem this⟩
  obtain ⟨q1, q2, ca, q3, q4⟩ := H.box id _ e hh he
  obtain ⟨hb1, p1, p2, p3⟩ := Go.PM.promote H hs.ok (q4.2 j _ hx).2 sz
  obtain ⟨e', he', _, _, hfix, _⟩ := p2 id e he
  rw [hfix q1] at he'
  have hpre : (s.h ++ [Box.row true 0 sz []])[id]? = some (.cells cs) := by
    have := (List.getElem?_eq_some_iff.1 hh).1
    rw [List.getElem?_append_left this]; exact hh
  have hu := p1.update (M' := M) (b' := .cells (cs.set j (.hsl s.h.length 0 0 0))) (e' := e) hpre he' (.refl M) (Nat.le_refl _) (HBLe.set he' (Nat.le_refl _) rfl (fun _ => rfl) (fun _ => rfl)) (fun _ _ _ => ⟨rfl, rfl⟩)
    ⟨q1, q2, ca, q3, by rw [List.length_set]; exact q4.1, fun k y hy => by
      rw [set_self he']
      by_cases hkj : j = k
      · subst hkj
        have hjl := (List.getElem?_eq_some_iff.1 hx).1
        simp [hjl] at hy
        subst hy
        exact ⟨rfl, p3⟩
      · rw [List.getElem?_set_ne hkj] at hy
        exact ⟨(q4.2 k y hy).1, (q4.2 k y hy).2.hb p2⟩⟩ (fun _ => .inl ⟨rfl, rfl⟩)
  rw [set_self he'] at hu
  have hset : (s.h ++ [Box.row true 0 sz []]).set id (.cells (cs.set j (.hsl s.h.length 0 0 0))) = s.h.set id (.cells (cs.set j (.hsl s.h.length 0 0 0))) ++ [.row true 0 sz []] := by
    have := (List.getElem?_eq_some_iff.1 hh).1
    rw [List.set_append_left _ _ this]
  rw [hset] at hu
  exact wpIn_mono (h F M hb1 a ro ⟨hs.tm.mono (.refl _) p2, hs.df.mono (.refl _) p2, hu, hs.ok⟩ (hr.mono p2)) fun _ _ _ hq => hq.trans (.refl _ _) p2

/-- Of what is known of the slots, one is told otherwise. -/
theorem CodeT.laxT {P : Program} {rd : Option Nat} {c : Code} {s : St} {Φ : AX → St → Prop} (i : Nat) (h : CodeT P rd c ⟨s.t.put i (s.t.get i).lax, s.h, s.d⟩ Φ) : CodeT P rd c s Φ := by
  intro F M hb a ro hs hr
  exact h F M hb a ro ⟨hs.tm.know i (hs.tm.2 i).lax, hs.df, hs.hp, hs.ok⟩ hr

end Go.PM

namespace Go.PM
set_option linter.unusedSectionVars false
variable [Globals]

theorem set_last2 (l : List Box) (a b c : Box) : (l ++ [a, b]).set (l.length + 1) c = l ++ [a, c] := by
  rw [List.set_append_right _ _ (by omega), show l.length + 1 - l.length = 1 by omega]
  rfl
theorem get_last2 (l : List Box) (a b : Box) : (l ++ [a, b])[l.length + 1]? = some b := by
  rw [List.getElem?_append_right (by omega), show l.length + 1 - l.length = 1 by omega]
  rfl

/-- What a function that is ranged over does with its yield: these values, one behind the other. -/
def SeqT (P : Program) (f : FuncId) (caps : List AV) (Cap : List Box → Prop) (items : List (List AV)) : Prop :=
  ∀ (l : Nat) (J : Nat → List Box → Prop) (hc0 : List Box), (∀ k hc, J k hc → hc.length = hc0.length ∧ Cap hc ∧ allUnder hc) → l < hc0.length →
    (∀ k hc args, J k hc → items[k]? = some args → YieldT P l args hc (fun r h' => r = .ret (.val (.bool true)) ∧ J (k + 1) h')) → J 0 hc0 →
    CallT P f (.yld l :: caps) hc0 (fun r h' => (∃ x, r = .ret x) ∧ J items.length h')

theorem CodeT.rangeAll {P : Program} {s : St} {Φ : AX → St → Prop} {g : Operand} {ps : Array Tmp} {asg bd : Code} {f : FuncId} {caps : List AV} (hg : s.ev g = .fn f caps) {Cap : List Box → Prop} {items : List (List AV)} (hseq : SeqT P f caps Cap items)
    (B : Nat → List Box) (h0 : s.h = B 0) (hlen : ∀ k, (B k).length = s.h.length) (hcap : ∀ k ext, Cap (B k ++ ext)) (hu : ∀ k, ∀ x ∈ B k, x.under (s.h.length + 2) = true) (ht : underT (s.h.length + 2) s.t = true)
    (hargs : ∀ args ∈ items, args.length = ps.toList.length)
    (round : ∀ k args fn, items[k]? = some args → CodeT P (some (s.h.length + 1)) asg ⟨putsTm s.t ps.toList args, B k ++ [.defer, .loop fn s.t ps.toList asg bd .ready none], []⟩
      (AX.thn (fun s1 => s1.h = B k ++ [.defer, .loop fn s.t ps.toList asg bd .ready none] ∧ CodeT P (some (s.h.length + 1)) bd ⟨s1.t, B k ++ [.defer, .loop fn s.t ps.toList asg bd .busy none], s1.d⟩
        (fun x s2 => x = .normal ∧ s2.h = B (k + 1) ++ [.defer, .loop fn s.t ps.toList asg bd .busy none])) (fun _ _ => False)))
    (hafter : ∀ fn, Φ .normal ⟨s.t, B items.length ++ [.defer, .loop fn s.t ps.toList asg bd .exhausted none], .mark s.h.length :: s.d⟩) : CodeT P none (.rangeFunc g ps asg bd) s Φ := by
  refine CodeT.rangeFunc hg fun fn => ?_
  have hB : ∀ k st, (B k ++ [Box.defer, .loop fn s.t ps.toList asg bd st none])[s.h.length + 1]? = some (.loop fn s.t ps.toList asg bd st none) := fun k st => by
    rw [← hlen k]; exact get_last2 _ _ _
  have hS : ∀ k st st', (B k ++ [Box.defer, .loop fn s.t ps.toList asg bd st none]).set (s.h.length + 1) (.loop fn s.t ps.toList asg bd st' none) = B k ++ [Box.defer, .loop fn s.t ps.toList asg bd st' none] := fun k st st' => by
    rw [← hlen k]; exact set_last2 _ _ _ _
  have hh : s.h ++ [Box.defer] ++ [.loop fn s.t ps.toList asg bd .ready none] = B 0 ++ [Box.defer, .loop fn s.t ps.toList asg bd .ready none] := by rw [h0]; simp
  rw [hh]
  refine (hseq (s.h.length + 1) (fun k hc => hc = B k ++ [Box.defer, .loop fn s.t ps.toList asg bd .ready none]) _ ?_ (by simp [hlen]) ?_ rfl).mono ?_
  · rintro k hc rfl
    refine ⟨by simp [hlen], hcap k _, fun x hx => ?_⟩
    have hl2 : (B k ++ [Box.defer, .loop fn s.t ps.toList asg bd .ready none]).length = s.h.length + 2 := by simp [hlen]
    rw [hl2]
    rcases List.mem_append.1 hx with hx | hx
    · exact hu k x hx
    · simp only [List.mem_cons, List.not_mem_nil, or_false] at hx
      rcases hx with rfl | rfl
      · rfl
      · exact ht
  · rintro k hc args rfl hk
    refine YieldT.intro (hB k .ready) (hargs args (List.mem_of_getElem? hk)) ?_
    refine CodeT.mono (round k args fn hk) ?_
    intro x s1 hx
    cases x <;> try exact hx
    obtain ⟨h1, h2⟩ := hx
    simp only [AX.thn]
    rw [h1, hB k .ready]
    simp only
    rw [hS k .ready .busy]
    refine CodeT.mono h2 ?_
    rintro x s2 ⟨rfl, h3⟩
    simp only [roundA, endA]
    rw [h3, hB (k + 1) .busy]
    simp only [Option.isNone_none, if_true]
    rw [hS (k + 1) .busy .ready]
    exact ⟨trivial, rfl⟩
  · rintro r h' ⟨⟨x, rfl⟩, rfl⟩
    simp only [rangeA]
    rw [hB items.length .ready]
    simp only
    rw [hS items.length .ready .exhausted]
    exact ⟨by simp, hafter fn⟩

theorem putsTm_cons (t : Tm) (p : Tmp) (ps : List Tmp) (x : AV) (xs : List AV) : putsTm t (p :: ps) (x :: xs) = putsTm (t.put p x) ps xs := rfl
theorem putsTm_nil (t : Tm) (xs : List AV) : putsTm t [] xs = t := by cases xs <;> rfl
attribute [go_sem] putsTm_cons putsTm_nil

end Go.PM

namespace Go.PM
set_option linter.unusedSectionVars false
variable [Globals]

theorem Oper.wpIn_put {Fc : Fence} {n : Nat} {P : Program} {o : Oper} {a : Act} {w : World} {next : Act → World → Prop} {Q : Exit → Act → World → Prop}
    (h : o.wpIn Fc n P a w (fun a' w' => (∃ v a0, a0.tmps = a.tmps ∧ a' = Act.put a0 o.dst v) → next a' w') Q) : o.wpIn Fc n P a w next Q := by
  refine ⟨h.1, ?_⟩
  have h2 := h.2
  generalize (o.semAt Fc.round a.eval).run P w = r at h2 ⊢
  cases r with
  | ok x w' =>
    cases x with
    | value v => exact h2 ⟨v, a, rfl, rfl⟩
    | skip => exact h2 ⟨undef, a, rfl, rfl⟩
    | defer d => exact h2 ⟨undef, { a with defers := d :: a.defers }, rfl, rfl⟩
    | enter f args =>
      refine ⟨h2.1, CallsIn.mono h2.2 ?_⟩
      intro e w'' hh
      cases e with
      | returned v => exact hh ⟨v, a, rfl, rfl⟩
      | panicked ch => exact hh
      | outgrown => exact hh
    | row row args => exact ⟨h2.1, RowsIn.mono h2.2 fun v w'' hh => hh ⟨v, a, rfl, rfl⟩⟩
    | round l f tmps assign body =>
      refine ⟨h2.1, RoundIn.mono h2.2 ?_⟩
      intro e w'' hh
      cases e with
      | returned v => exact hh ⟨v, a, rfl, rfl⟩
      | panicked ch => exact hh
      | outgrown => exact hh
    | _ => exact False.elim h2
  | halt y w' => cases y <;> exact h2

/-! ### The checks -/
def apartB (ops : Array Oper) (x y : Nat) : Bool := match ops[x]?, ops[y]? with
  | some a, some b => a.apart ops b
  | _, _ => false
def okPair2 (ops : Array Oper) (lates : List Nat) (x y : Nat × Cls) : Bool := if lates.contains y.1 then apartB ops x.1 y.1 else okPair ops x y
def tailOK (ops : Array Oper) (lates : List Nat) (y : Nat × Cls) : List (Nat × Cls) → Bool
  | [] => true
  | x :: r => (!lates.contains x.1 || compat ops y x || r.all fun j => !reachB ops ops.size x.1 j.1 || reachB ops ops.size y.1 j.1) && tailOK ops lates y r
def triB (ops : Array Oper) (lates : List Nat) : List (Nat × Cls) → Bool
  | [] => true
  | y :: r => tailOK ops lates y r && triB ops lates r
def lateOK (P : Program) (ops : Array Oper) (i : Nat) : Bool := match ops[i]? with
  | some o => o.guard.isNone && (match o.op with
    | .alloc t => (match tyOf P t with
      | some T => zeroOK T
      | none => false)
    | _ => false)
  | none => false
theorem lateOK_spec {P : Program} {ops : Array Oper} {i : Nat} (h : lateOK P ops i = true) : ∃ o t T, ops[i]? = some o ∧ o.op = .alloc t ∧ o.guard = none ∧ tyOf P t = some T ∧ zeroOK T = true := by
  unfold lateOK at h
  split at h
  · rename_i o ho
    simp only [Bool.and_eq_true, Option.isNone_iff_eq_none] at h
    obtain ⟨h1, h2⟩ := h
    split at h2
    · rename_i t ht
      split at h2
      · rename_i T hT
        exact ⟨o, t, T, ho, ht, h1, hT, h2⟩
      · cases h2
    · cases h2
  · cases h
def okLate (P : Program) (ops : Array Oper) (lates : List Nat) (π : List (Nat × Cls)) : Bool :=
  decide (π.map (·.1)).Nodup && (List.range ops.size).all (fun i => (π.map (·.1)).contains i) && π.all (fun p => decide (p.1 < ops.size)) && decide (π.Pairwise fun x y => okPair2 ops lates x y = true) &&
    ((List.range ops.size).all fun i => match ops[i]? with
      | some o => o.after.all fun e => !Region.binds .any e || decide (e.on < i)
      | none => true) && triB ops lates π && (lates.all fun i => lateOK P ops i) && π.all fun p => !lates.contains p.1 || p.2 == .upd

def Tri (ops : Array Oper) (lates : List Nat) (l : List (Nat × Cls)) : Prop :=
  ∀ y x j, List.Sublist [y, x, j] l → lates.contains x.1 = true → reachB ops ops.size x.1 j.1 = true → reachB ops ops.size y.1 j.1 = true ∨ compat ops y x = true

theorem tail_spec {ops : Array Oper} {lates : List Nat} {y : Nat × Cls} : ∀ {l : List (Nat × Cls)}, tailOK ops lates y l = true → ∀ x j, List.Sublist [x, j] l → lates.contains x.1 = true → reachB ops ops.size x.1 j.1 = true → reachB ops ops.size y.1 j.1 = true ∨ compat ops y x = true := by
  intro l
  induction l with
  | nil => intro _ x j hs; cases hs
  | cons z r ih =>
    intro h x j hs hl hr
    simp only [tailOK, Bool.and_eq_true] at h
    cases hs with
    | cons _ hs => exact ih h.2 x j hs hl hr
    | cons_cons _ hs =>
      have h1 := h.1
      simp only [Bool.or_eq_true, Bool.not_eq_true', List.all_eq_true] at h1
      rcases h1 with (h1 | h1) | h1
      · rw [hl] at h1; cases h1
      · exact .inr h1
      · have hj : j ∈ r := List.singleton_sublist.1 hs
        rcases h1 j hj with h2 | h2
        · rw [hr] at h2; cases h2
        · exact .inl h2
theorem tri_spec {ops : Array Oper} {lates : List Nat} : ∀ {l : List (Nat × Cls)}, triB ops lates l = true → Tri ops lates l := by
  intro l
  induction l with
  | nil => intro _ y x j hs; cases hs
  | cons z r ih =>
    intro h y x j hs hl hr
    simp only [triB, Bool.and_eq_true] at h
    cases hs with
    | cons _ hs => exact ih h.2 y x j hs hl hr
    | cons_cons _ hs => exact tail_spec h.1 x j hs hl hr

/-! ### New variables that are not told of yet -/
def FF (F : Nat → Prop) (pend : List (Nat × Nat)) (b : Nat) : Prop := F b ∨ b ∈ pend.map (·.2)

structure Pending (P : Program) (ops : Array Oper) (M : Mem) (a : Act) (p : Nat × Nat) : Prop where
  ex : ∃ o t T ty, ops[p.1]? = some o ∧ o.op = .alloc t ∧ o.guard = none ∧ tyOf P t = some T ∧ zeroOK T = true ∧ M.w.heap[p.2]? = some (.cells T.zero.cells ty (0, 0)) ∧ (∀ d, o.dst = some d → d < a.tmps.size → a.tmps.getD d undef = .pointer (some ⟨p.2, 0, none⟩))
  lo : M.lo p.2 = 0
  lt : p.2 < M.w.heap.size

structure Pends (P : Program) (ops : Array Oper) (F : Nat → Prop) (M : Mem) (a : Act) (pend : List (Nat × Nat)) : Prop where
  each : ∀ p ∈ pend, Pending P ops M a p
  nodup : (pend.map (·.2)).Nodup
  apart : ∀ p ∈ pend, ¬ F p.2

structure Left2 (P : Program) (ops : Array Oper) (lates : List Nat) (listed : Array Bool) (l : List (Nat × Cls)) (pend : List (Nat × Nat)) : Prop where
  size : listed.size = ops.size
  closed : Closed ops listed
  nodup : (l.map (·.1)).Nodup
  pnodup : (pend.map (·.1)).Nodup
  mem : ∀ i, i ∈ l.map (·.1) ↔ i < ops.size ∧ (listed.getD i true = false ∨ i ∈ pend.map (·.1))
  plisted : ∀ i ∈ pend.map (·.1), listed.getD i true = true ∧ lates.contains i = true
  pairs : l.Pairwise fun x y => okPair2 ops lates x y = true
  tri : Tri ops lates l
  back : ∀ (i : Nat) (o : Oper), ops[i]? = some o → ∀ e ∈ o.after, Region.binds .any e = true → e.on < i
  late : ∀ i, lates.contains i = true → lateOK P ops i = true
  cls : ∀ p ∈ l, lates.contains p.1 = true → p.2 = .upd

theorem sublist_mid {α : Type} (p : List α) (x : α) (q : List α) : (p ++ q).Sublist (p ++ x :: q) := List.Sublist.append (List.Sublist.refl _) (List.sublist_cons_self _ _)

theorem FF_mid {F : Nat → Prop} {P1 P2 : List (Nat × Nat)} {z : Nat × Nat} {b : Nat} : FF F (P1 ++ z :: P2) b ↔ FF F (P1 ++ P2) b ∨ b = z.2 := by
  simp only [FF, List.map_append, List.map_cons, List.mem_append, List.mem_cons]
  constructor
  · rintro (h | h | h | h)
    · exact .inl (.inl h)
    · exact .inl (.inr (.inl h))
    · exact .inr h
    · exact .inl (.inr (.inr h))
  · rintro ((h | h | h) | h)
    · exact .inl h
    · exact .inr (.inl h)
    · exact .inr (.inr (.inr h))
    · exact .inr (.inr (.inl h))

/-- A new variable is told of. -/
theorem flush1 {P : Program} {ops : Array Oper} {F : Nat → Prop} {M : Mem} {hb : List HB} {s : St} {a : Act} {P1 P2 : List (Nat × Nat)} {z : Nat × Nat} {c : Cls} {l : List (Nat × Cls)} {K : St → Prop}
    (hc : c = .upd) (hs : SRel (FF F (P1 ++ z :: P2)) M hb s a) (hp : Pends P ops F M a (P1 ++ z :: P2)) (hr : RunK P ops ((z.1, c) :: l) s K) :
    ∃ s1 hb1, RunK P ops l s1 K ∧ SRel (FF F (P1 ++ P2)) M hb1 s1 a ∧ HBLe hb hb1 ∧ Pends P ops F M a (P1 ++ P2) := by
  subst hc
  have hz : z ∈ P1 ++ z :: P2 := by simp
  obtain ⟨⟨o, t, T, ty, h1, h2, h3, h4, h5, h6, h7⟩, h8, h9⟩ := hp.each z hz
  have hd : dstOf ops z.1 = o.dst := by simp [dstOf, h1]
  simp only [RunK, stepV, h1, h3, effV, heapA, h2, hd, allocA, h4] at hr
  obtain ⟨_, _, hr⟩ := hr
  obtain ⟨t0, h0, d0⟩ := s
  simp only at hr
  let e : HB := ⟨z.2, 0, 0, 0, true, true⟩
  have hown : ∀ (i : Nat) (b : Box) (e' : HB), h0[i]? = some b → hb[i]? = some e' → b.owns e' = true → e'.blk ≠ z.2 := by
    intro i b e' g1 g2 g3 he
    exact (hs.hp.own i b e' g1 g2 g3).2 (he ▸ .inr (List.mem_map.2 ⟨z, hz, rfl⟩))
  have hsub : ∀ b, FF F (P1 ++ P2) b → FF F (P1 ++ z :: P2) b := fun b h => FF_mid.2 (.inl h)
  have hnin : ¬ FF F (P1 ++ P2) z.2 := by
    rintro (h | h)
    · exact hp.apart z hz h
    · have := hp.nodup
      rw [List.map_append, List.map_cons] at this
      have h' := List.nodup_append.1 this
      rw [List.map_append, List.mem_append] at h
      rcases h with h | h
      · exact h'.2.2 _ h _ List.mem_cons_self rfl
      · exact (List.nodup_cons.1 h'.2.1).1 h
  have hlen := hs.hp.len
  have hle : HBLe hb (hb ++ [e]) := .append hb _
  have hH : HRel (FF F (P1 ++ P2)) M (hb ++ [e]) (h0 ++ [.cells (zeroOf T).cells]) := by
    have hzr : CellsRel M (hb ++ [e]) (zeroOf T).cells T.zero.cells := by
      simp only [zeroOK, Bool.and_eq_true] at h5
      exact cellsRel_of (ofVal_rel M _ T.zero) h5.1.1
    have hget : ∀ {i : Nat} {b : Box} {e' : HB}, (h0 ++ [Box.cells (zeroOf T).cells])[i]? = some b → (hb ++ [e])[i]? = some e' → (h0[i]? = some b ∧ hb[i]? = some e') ∨ (i = h0.length ∧ b = .cells (zeroOf T).cells ∧ e' = e) := by
      intro i b e' g1 g2
      by_cases hi : i < h0.length
      · rw [List.getElem?_append_left hi] at g1
        rw [List.getElem?_append_left (by rw [hlen]; exact hi)] at g2
        exact .inl ⟨g1, g2⟩
      · have hi' : i = h0.length := by
          have := (List.getElem?_eq_some_iff.1 g1).1
          simp at this; omega
        subst hi'
        rw [push_get] at g1
        rw [← hlen, push_get] at g2
        cases g1; cases g2
        exact .inr ⟨rfl, rfl, rfl⟩
    refine ⟨by simp [hlen], hs.hp.gl, fun i b e' g1 g2 => ?_, fun i b e' g1 g2 g3 => ?_, fun i j b b' e1 e2 g1 g2 g3 g4 g5 g6 g7 => ?_⟩
    · rcases hget g1 g2 with ⟨k1, k2⟩ | ⟨_, rfl, rfl⟩
      · exact (hs.hp.box i b e' k1 k2).mono (.refl M) hle (fun _ => ⟨rfl, rfl⟩)
      · exact ⟨rfl, h8, _, ⟨ty, h6⟩, hzr⟩
    · rcases hget g1 g2 with ⟨k1, k2⟩ | ⟨_, rfl, rfl⟩
      · have := hs.hp.own i b e' k1 k2 g3
        exact ⟨this.1, fun h => this.2 (hsub _ h)⟩
      · exact ⟨h9, hnin⟩
    · rcases hget g1 g2 with ⟨k1, k2⟩ | ⟨k0, rfl, rfl⟩ <;> rcases hget g3 g4 with ⟨q1, q2⟩ | ⟨q0, rfl, rfl⟩
      · exact hs.hp.dis i j b b' e1 e2 k1 k2 q1 q2 g5 g6 g7
      · exact absurd g7 (hown i b e1 k1 k2 g5)
      · exact absurd g7.symm (hown j b' e2 q1 q2 g6)
      · rw [k0, q0]
  have hptr : VRel M (hb ++ [e]) (.ptr h0.length 0) (.pointer (some ⟨z.2, 0, none⟩)) := .ptr e (by rw [← hlen]; exact push_get hb e) rfl
  refine ⟨_, hb ++ [e], hr, ?_, hle, ⟨fun p hp' => hp.each p ?_, ?_, fun p hp' => hp.apart p ?_⟩⟩
  · have htm : TmpsRel M (hb ++ [e]) t0 a.tmps := hs.tm.mono (.refl M) hle
    refine ⟨?_, hs.df.mono (.refl M) hle, hH, ⟨hs.ok.top, fun b hb' => hs.ok.fr b (hsub b hb')⟩⟩
    cases hdd : o.dst with
    | none => exact htm
    | some d =>
      show TmpsRel M (hb ++ [e]) (t0.put d _) a.tmps
      by_cases hlt : d < a.tmps.size
      · exact htm.know d (by rw [h7 d hdd hlt]; exact hptr)
      · have : t0.put d (.ptr h0.length 0) = t0 := by
          unfold Tm.put
          have hn : t0.n = a.tmps.size := htm.1
          have : Nat.blt d t0.n = false := by
            cases hbl : Nat.blt d t0.n with
            | false => rfl
            | true => exact absurd (show d < t0.n from Nat.le_of_ble_eq_true hbl) (by rw [hn]; exact hlt)
          rw [this]
        rw [this]; exact htm
  · rcases List.mem_append.1 hp' with h | h
    · exact List.mem_append_left _ h
    · exact List.mem_append_right _ (List.mem_cons_of_mem _ h)
  · exact ((sublist_mid P1 z P2).map _).nodup hp.nodup
  · rcases List.mem_append.1 hp' with h | h
    · exact List.mem_append_left _ h
    · exact List.mem_append_right _ (List.mem_cons_of_mem _ h)

/-- The rest, when one has been told of. -/
theorem Left2.flush {P : Program} {ops : Array Oper} {lates : List Nat} {listed : Array Bool} {p q : List (Nat × Cls)} {x : Nat × Cls} {P1 P2 : List (Nat × Nat)} {z : Nat × Nat} (hz : z.1 = x.1) (h : Left2 P ops lates listed (p ++ x :: q) (P1 ++ z :: P2)) :
    Left2 P ops lates listed (p ++ q) (P1 ++ P2) := by
  have hpn := h.pnodup
  rw [List.map_append, List.map_cons] at hpn
  have hpn' := List.nodup_append.1 hpn
  have hznot : z.1 ∉ (P1 ++ P2).map (·.1) := by
    rw [List.map_append, List.mem_append]
    rintro (hh | hh)
    · exact hpn'.2.2 _ hh _ List.mem_cons_self rfl
    · exact (List.nodup_cons.1 hpn'.2.1).1 hh
  have hnd := h.nodup
  rw [List.map_append, List.map_cons] at hnd
  have hnd' := List.nodup_append.1 hnd
  have hxnot : x.1 ∉ (p ++ q).map (·.1) := by
    rw [List.map_append, List.mem_append]
    rintro (hh | hh)
    · exact hnd'.2.2 _ hh _ List.mem_cons_self rfl
    · exact (List.nodup_cons.1 hnd'.2.1).1 hh
  have hzl := h.plisted z.1 (by simp)
  refine ⟨h.size, h.closed, ((sublist_mid p x q).map _).nodup h.nodup, ((sublist_mid P1 z P2).map _).nodup h.pnodup, fun i => ?_, fun i hi => h.plisted i ?_, h.pairs.sublist (sublist_mid p x q), fun y x' j hs => h.tri y x' j (hs.trans (sublist_mid p x q)), h.back, h.late, fun p' hp' => h.cls p' ?_⟩
  · have hm := h.mem i
    simp only [List.map_append, List.map_cons, List.mem_append, List.mem_cons] at hm ⊢
    by_cases hix : i = x.1
    · subst hix
      constructor
      · intro hh
        exact absurd (by simpa using hh) hxnot
      · rintro ⟨_, hh | hh⟩
        · rw [← hz, hzl.1] at hh; cases hh
        · rw [← hz] at hh; exact absurd (by simpa using hh) hznot
    · have hiz : i ≠ z.1 := fun e => hix (e.trans hz)
      constructor
      · intro hh
        obtain ⟨k1, k2⟩ := hm.1 (hh.imp id .inr)
        refine ⟨k1, k2.imp id ?_⟩
        rintro (k | k | k)
        · exact .inl k
        · exact absurd k hiz
        · exact .inr k
      · rintro ⟨k1, k2⟩
        have := hm.2 ⟨k1, k2.imp id (fun k => k.imp id .inr)⟩
        rcases this with k | k | k
        · exact .inl k
        · exact absurd k hix
        · exact .inr k
  · simp only [List.map_append, List.map_cons, List.mem_append, List.mem_cons] at hi ⊢
    exact hi.imp id .inr
  · simp only [List.mem_append, List.mem_cons] at hp' ⊢
    exact hp'.imp id .inr

theorem stepV_none {P : Program} {ops : Array Oper} {i : Nat} {c : Cls} {o : Oper} {s : St} {K : AV → List Box → Prop} (ho : ops[i]? = some o) (hg : o.guard = none) : stepV P ops (i, c) s K = effV P o c s K := by
  simp only [stepV, ho, hg]

theorem stepV_mono {P : Program} {ops : Array Oper} {i : Nat} {c : Cls} {s : St} {K K' : AV → List Box → Prop} (h : stepV P ops (i, c) s K) (hm : ∀ v h, K v h → K' v h) : stepV P ops (i, c) s K' := by
  obtain ⟨t, hh, d⟩ := s
  obtain ⟨v, h', k1, k2, _⟩ := stepV_det h
  exact k2 _ (hm v h' k1)

/-- Nobody looks at a new variable's slot ahead of its turn. -/
theorem RunK.forget {P : Program} {ops : Array Oper} {i d : Nat} {o : Oper} {t0 : TypeId} (ho : ops[i]? = some o) (hop : o.op = .alloc t0) (hg : o.guard = none) (hd : o.dst = some d) {q : List (Nat × Cls)} {K : St → Prop} (hK : ∀ s s', Same s s' → K s → K s') :
    ∀ (p : List (Nat × Cls)) {s s' : St}, (∀ x ∈ p, apartB ops x.1 i = true) → s'.t.n = s.t.n → (∀ k, (k ≠ d ∨ ¬ d < s.t.n) → s'.t.get k = s.t.get k) → s'.h = s.h → s'.d = s.d → RunK P ops (p ++ (i, .upd) :: q) s K → RunK P ops (p ++ (i, .upd) :: q) s' K := by
  intro p
  induction p with
  | nil =>
    intro s s' _ hn hget hh hdd hr
    obtain ⟨t, h, dd⟩ := s
    obtain ⟨t', h', dd'⟩ := s'
    simp only at hn hget hh hdd
    subst hh hdd
    simp only [List.nil_append, RunK, stepV, ho, hg, effV, heapA, hop] at hr ⊢
    have hdst : dstOf ops i = some d := by simp [dstOf, ho, hd]
    simp only [hdst] at hr ⊢
    unfold allocA at hr ⊢
    cases hT : tyOf P t0 with
    | none => rw [hT] at hr; exact hr.elim
    | some T =>
      rw [hT] at hr
      simp only at hr ⊢
      obtain ⟨h1, h2, h3⟩ := hr
      refine ⟨h1, h2, ?_⟩
      refine RunK.same q hK ?_ h3
      refine ⟨?_, fun k => ?_, rfl, rfl⟩
      · simp only [Tm.putO, Tm.n_put]; exact hn.symm
      · simp only [Tm.putO, Tm.get_put]
        rw [hn]
        by_cases hk : d = k ∧ d < t.n
        · rw [if_pos hk, if_pos hk]
        · rw [if_neg hk, if_neg hk]
          refine (hget k ?_).symm
          by_cases hkd : k = d
          · subst hkd
            exact .inr fun hlt => hk ⟨rfl, hlt⟩
          · exact .inl hkd
  | cons x p ih =>
    intro s s' hap hn hget hh hdd hr
    obtain ⟨t, h, dd⟩ := s
    obtain ⟨t', h', dd'⟩ := s'
    simp only at hn hget hh hdd
    subst hh hdd
    have hx := hap x List.mem_cons_self
    unfold apartB at hx
    obtain ⟨ix, cx⟩ := x
    simp only at hx
    cases hox : ops[ix]? with
    | none => rw [hox] at hx; cases hx
    | some ox =>
      rw [hox, ho] at hx
      simp only at hx
      obtain ⟨a1, a2, a3⟩ := Oper.apart_spec hx
      simp only [List.cons_append, RunK] at hr ⊢
      have h1 := stepV_congr (t1 := t') (d1 := dd') (fun o' ho' j hj => by
        rw [hox] at ho'; cases ho'
        exact (hget j (.inl fun e => a3 d hd (e ▸ hj))).symm) hr
      refine stepV_mono h1 fun v hv hrr => ?_
      refine ih (s := ⟨t.putO (dstOf ops ix) v, hv, _⟩) (fun y hy => hap y (List.mem_cons_of_mem _ hy)) ?_ ?_ rfl rfl hrr
      · cases hdx : dstOf ops ix <;> simp [Tm.putO, Tm.n_put, hn]
      · intro k hk
        have hk' : k ≠ d ∨ ¬ d < t.n := by
          cases hdx : dstOf ops ix with
          | none => simpa [hdx, Tm.putO] using hk
          | some m => simpa [hdx, Tm.putO, Tm.n_put] using hk
        cases hdx : dstOf ops ix with
        | none => simp only [Tm.putO]; exact hget k hk'
        | some m =>
          simp only [Tm.putO, Tm.get_put, hn]
          split
          · rfl
          · exact hget k hk'

theorem exists_first {α : Type} {Q : α → Prop} : ∀ (p : List α), (∃ x ∈ p, Q x) → ∃ p1 x p2, p = p1 ++ x :: p2 ∧ Q x ∧ ∀ y ∈ p1, ¬ Q y := by
  intro p
  induction p with
  | nil => rintro ⟨x, hx, _⟩; cases hx
  | cons z p ih =>
    intro hex
    by_cases hz : Q z
    · exact ⟨[], z, p, rfl, hz, fun y hy => by cases hy⟩
    · obtain ⟨p1, x, p2, rfl, h2, h3⟩ := ih (by
        obtain ⟨x, hx, hq⟩ := hex
        rcases List.mem_cons.1 hx with rfl | hx
        · exact absurd hq hz
        · exact ⟨x, hx, hq⟩)
      refine ⟨z :: p1, x, p2, rfl, h2, fun y hy => ?_⟩
      rcases List.mem_cons.1 hy with rfl | hy
      · exact hz
      · exact h3 y hy

def un (listed : Array Bool) (x : Nat × Cls) : Bool := !listed.getD x.1 true

theorem FF_nil (F : Nat → Prop) : FF F [] = F := by
  funext b
  simp [FF]

/-- At the end all that were not told of are told of. -/
theorem flushAll {P : Program} {ops : Array Oper} {lates : List Nat} {listed : Array Bool} {F : Nat → Prop} {M : Mem} {a : Act} {K : St → Prop} : ∀ (l : List (Nat × Cls)) (pend : List (Nat × Nat)) (s : St) (hb : List HB), (∀ x ∈ l, un listed x = false) → Left2 P ops lates listed l pend →
    SRel (FF F pend) M hb s a → Pends P ops F M a pend → RunK P ops l s K → ∃ s1 hb1, K s1 ∧ SRel F M hb1 s1 a ∧ HBLe hb hb1 := by
  intro l
  induction l with
  | nil =>
    intro pend s hb _ hL hs hp hr
    have hnil : pend = [] := by
      cases pend with
      | nil => rfl
      | cons z P =>
        have hz := hL.plisted z.1 (by simp)
        obtain ⟨o, t, T, ho, _⟩ := lateOK_spec (hL.late z.1 hz.2)
        have := (hL.mem z.1).2 ⟨(Array.getElem?_eq_some_iff.1 ho).1, .inr (by simp)⟩
        simp at this
    subst hnil
    rw [FF_nil] at hs
    exact ⟨s, hb, hr, hs, .refl hb⟩
  | cons x l ih =>
    intro pend s hb hun hL hs hp hr
    have hx := (hL.mem x.1).1 (by simp)
    have hxp : x.1 ∈ pend.map (·.1) := by
      rcases hx.2 with h | h
      · have := hun x List.mem_cons_self
        simp [un, h] at this
      · exact h
    obtain ⟨z, hz, hzx⟩ := List.mem_map.1 hxp
    obtain ⟨P1, P2, rfl⟩ := List.append_of_mem hz
    have hL' : Left2 P ops lates listed ([] ++ l) (P1 ++ P2) := Left2.flush hzx hL
    have hc := hL.cls x List.mem_cons_self (hL.plisted _ hxp).2
    obtain ⟨i, c⟩ := x
    simp only at hzx
    subst hzx
    obtain ⟨s1, hb1, k1, k2, k3, k4⟩ := flush1 hc hs hp hr
    obtain ⟨s2, hb2, q1, q2, q3⟩ := ih _ s1 hb1 (fun y hy => hun y (List.mem_cons_of_mem _ hy)) hL' k2 k4 k1
    exact ⟨s2, hb2, q1, q2, k3.trans q3⟩

theorem Left2.ready {P : Program} {ops : Array Oper} {lates : List Nat} {listed : Array Bool} {l : List (Nat × Cls)} {pend : List (Nat × Nat)} (hl : Left2 P ops lates listed l pend) (hne : ∃ x ∈ l, un listed x = true) : Region.ready .any ops listed ≠ [] := by
  have hex : ∃ n, n < ops.size ∧ listed.getD n true = false := by
    obtain ⟨x, hx, hu⟩ := hne
    have := ((hl.mem x.1).1 (List.mem_map.2 ⟨x, hx, rfl⟩)).1
    exact ⟨x.1, this, by simpa [un] using hu⟩
  obtain ⟨n, ⟨hlt, hun⟩, hmin⟩ := least hex
  have hon : ops[n]? = some ops[n] := Array.getElem?_eq_getElem hlt
  have : n ∈ Region.ready .any ops listed := by
    rw [mem_ready]
    refine ⟨hun, _, hon, fun e he hb => ?_⟩
    have hlt' := hl.back n _ hon e he hb
    cases hd : listed.getD e.on false with
    | true => rfl
    | false =>
      have := hmin e.on ⟨by omega, by rw [getD_true (by rw [hl.size]; omega)]; exact hd⟩
      omega
  intro he
  rw [he] at this
  cases this

theorem listed_get {listed : Array Bool} {ops : Array Oper} (hsz : listed.size = ops.size) {i : Nat} (hi : i < ops.size) (j : Nat) : (listed.setIfInBounds i true).getD j true = if i = j then true else listed.getD j true := by
  rw [Array.getD_eq_getD_getElem?, Array.getElem?_setIfInBounds]
  by_cases hij : i = j
  · subst hij; simp [hsz, hi]
  · simp [hij, Array.getD_eq_getD_getElem?]
theorem listed_get' {listed : Array Bool} {ops : Array Oper} (hsz : listed.size = ops.size) {i : Nat} (hi : i < ops.size) (j : Nat) (hj : listed.getD j false = true) : (listed.setIfInBounds i true).getD j false = true := by
  rw [Array.getD_eq_getD_getElem?, Array.getElem?_setIfInBounds]
  by_cases hij : i = j
  · subst hij; simp [hsz, hi]
  · simpa [hij, Array.getD_eq_getD_getElem?] using hj

theorem un_set {listed : Array Bool} {ops : Array Oper} (hsz : listed.size = ops.size) {i : Nat} (hi : i < ops.size) (x : Nat × Cls) : un (listed.setIfInBounds i true) x = (if x.1 = i then false else un listed x) := by
  unfold un
  rw [listed_get hsz hi]
  by_cases h : i = x.1
  · rw [if_pos h, if_pos h.symm]; rfl
  · rw [if_neg h, if_neg (fun e => h e.symm)]

theorem countP_mid {listed : Array Bool} {ops : Array Oper} (hsz : listed.size = ops.size) {i : Nat} {c : Cls} (hi : i < ops.size) (hun : listed.getD i true = false) {p q : List (Nat × Cls)} (hnd : ((p ++ (i, c) :: q).map (·.1)).Nodup) {k : Nat} (hk : (p ++ (i, c) :: q).countP (un listed) = k + 1) :
    (p ++ q).countP (un (listed.setIfInBounds i true)) = k ∧ (p ++ (i, c) :: q).countP (un (listed.setIfInBounds i true)) = k := by
  rw [List.map_append, List.map_cons] at hnd
  have hnd' := List.nodup_append.1 hnd
  have hcong : ∀ l : List (Nat × Cls), (∀ x ∈ l, x.1 ≠ i) → l.countP (un (listed.setIfInBounds i true)) = l.countP (un listed) := fun l hl =>
    List.countP_congr fun x hx => by rw [un_set hsz hi, if_neg (hl x hx)]
  have hp := hcong p fun x hx e => hnd'.2.2 x.1 (List.mem_map.2 ⟨x, hx, rfl⟩) i List.mem_cons_self e
  have hq := hcong q fun x hx e => (List.nodup_cons.1 hnd'.2.1).1 (e ▸ List.mem_map.2 ⟨x, hx, rfl⟩)
  have h1 : un listed (i, c) = true := by simp [un, hun]
  have h2 : un (listed.setIfInBounds i true) (i, c) = false := by rw [un_set hsz hi, if_pos rfl]
  rw [List.countP_append, List.countP_cons, h1] at hk
  simp only [if_true] at hk
  rw [List.countP_append, List.countP_append, List.countP_cons, h2, hp, hq]
  simp
  omega

theorem SRel.moreF {F F' : Nat → Prop} {M : Mem} {hb : List HB} {s : St} {a : Act} (hs : SRel F M hb s a) (h : ∀ b, F' b → F b) : SRel F' M hb s a :=
  ⟨hs.tm, hs.df, ⟨hs.hp.len, hs.hp.gl, hs.hp.box, fun i b e h1 h2 h3 => ⟨(hs.hp.own i b e h1 h2 h3).1, fun hf => (hs.hp.own i b e h1 h2 h3).2 (h _ hf)⟩, hs.hp.dis⟩, ⟨hs.ok.top, fun b hb => hs.ok.fr b (h b hb)⟩⟩

theorem Pending.keep {P : Program} {ops : Array Oper} {M M' : Mem} {a a' : Act} {p : Nat × Nat} (h : Pending P ops M a p) (hsz : M.w.heap.size ≤ M'.w.heap.size) (hh : M'.w.heap[p.2]? = M.w.heap[p.2]? ∧ M'.lo p.2 = M.lo p.2)
    (ha : ∀ d, dstOf ops p.1 = some d → a'.tmps.size = a.tmps.size ∧ a'.tmps.getD d undef = a.tmps.getD d undef) : Pending P ops M' a' p := by
  obtain ⟨⟨o, t, T, ty, h1, h2, h3, h4, h5, h6, h7⟩, h8, h9⟩ := h
  refine ⟨⟨o, t, T, ty, h1, h2, h3, h4, h5, by rw [hh.1]; exact h6, fun d hd hlt => ?_⟩, by rw [hh.2]; exact h8, Nat.lt_of_lt_of_le h9 hsz⟩
  obtain ⟨k1, k2⟩ := ha d (by simp [dstOf, h1, hd])
  rw [k2]
  exact h7 d hd (by rw [← k1]; exact hlt)

theorem put_other {a a0 : Act} (h0 : a0.tmps = a.tmps) {dst : Option Tmp} {d : Nat} (hd : dst ≠ some d) (v : Value) : (Act.put a0 dst v).tmps.size = a.tmps.size ∧ (Act.put a0 dst v).tmps.getD d undef = a.tmps.getD d undef := by
  cases dst with
  | none => simp [Act.put, h0]
  | some m =>
    have : m ≠ d := fun e => hd (by rw [e])
    simp [Act.put, h0, Array.getD_eq_getD_getElem?, Array.getElem?_setIfInBounds_ne this]

theorem Left2.list {P : Program} {ops : Array Oper} {lates : List Nat} {listed : Array Bool} {p q : List (Nat × Cls)} {i : Nat} {c : Cls} {pend : List (Nat × Nat)} {o : Oper} (hL : Left2 P ops lates listed (p ++ (i, c) :: q) pend) (ho : ops[i]? = some o)
    (hall : ∀ e ∈ o.after, Region.binds .any e = true → listed.getD e.on false = true) : Closed ops (listed.setIfInBounds i true) := by
  have hi : i < ops.size := (Array.getElem?_eq_some_iff.1 ho).1
  intro j oj hj hlj e he hb
  rw [listed_get hL.size hi] at hlj
  by_cases hij : i = j
  · subst hij; rw [ho] at hj; cases hj
    exact listed_get' hL.size hi _ (hall e he hb)
  · rw [if_neg hij] at hlj
    exact listed_get' hL.size hi _ (hL.closed j oj hj hlj e he hb)

theorem drawn_late {P : Program} {F : Nat → Prop} {M0 : Mem} {hb0 : List HB} {ops : Array Oper} {lates : List Nat} {Φ : AX → St → Prop} (hK : ∀ s s', Same s s' → Φ .normal s → Φ .normal s') (ro : Option Nat) :
    ∀ (k : Nat) (l : List (Nat × Cls)) (pend : List (Nat × Nat)) (listed : Array Bool) (M : Mem) (hb : List HB) (s : St) (a : Act), l.countP (un listed) = k → Left2 P ops lates listed l pend → Gu F M0 M → HBLe hb0 hb → SRel (FF F pend) M hb s a → Pends P ops F M a pend → RunK P ops l s (Φ .normal) →
    wpAnyIn (fenceAt ro) 0 P .any ops (Conc F M0 hb0 Φ) k listed a M.w := by
  intro k
  induction k with
  | zero =>
    intro l pend listed M hb s a hcount hL hG hH hs hp hk
    have hall : ∀ x ∈ l, un listed x = false := by
      intro x hx
      have := List.countP_eq_zero.1 hcount x hx
      simpa using this
    obtain ⟨s1, hb1, k1, k2, k3⟩ := flushAll l pend s hb hall hL hs hp hk
    refine ⟨?_, .normal, s1, M, hb1, k1, trivial, rfl, k2, hG, hH.trans k3⟩
    rw [List.eq_nil_iff_forall_not_mem]
    intro i hi
    obtain ⟨h1, o, ho, _⟩ := (mem_ready).1 hi
    have hlt : i < ops.size := (Array.getElem?_eq_some_iff.1 ho).1
    obtain ⟨x, hx, rfl⟩ := List.mem_map.1 ((hL.mem i).2 ⟨hlt, .inl h1⟩)
    have := hall x hx
    simp [un, h1] at this
  | succ k ih =>
    intro l pend listed M hb s a hcount hL hG hH hs hp hk
    have hne : ∃ x ∈ l, un listed x = true := by
      have : 0 < l.countP (un listed) := by omega
      exact List.countP_pos_iff.1 this
    refine ⟨fun h => absurd h (hL.ready hne), fun i hi => ?_⟩
    obtain ⟨hun, o, ho, hall⟩ := (mem_ready).1 hi
    have hilt : i < ops.size := (Array.getElem?_eq_some_iff.1 ho).1
    clear hne
    have hpairmem : ∀ {l : List (Nat × Cls)} {x y : Nat × Cls}, List.Pairwise (fun x y => okPair2 ops lates x y = true) l → List.Sublist [x, y] l → okPair2 ops lates x y = true := by
      intro l x y hpw hsl
      have := hpw.sublist hsl
      simpa using this
    -- what must be told of ahead of i is told of
    have inner : ∀ (m : Nat) (l : List (Nat × Cls)) (pend : List (Nat × Nat)) (s : St) (hb : List HB), pend.length = m → l.countP (un listed) = k + 1 → Left2 P ops lates listed l pend → HBLe hb0 hb → SRel (FF F pend) M hb s a → Pends P ops F M a pend → RunK P ops l s (Φ .normal) →
        wpOpIn (fenceAt ro) 0 P ops (Conc F M0 hb0 Φ) i (wpAnyIn (fenceAt ro) 0 P .any ops (Conc F M0 hb0 Φ) k (listed.setIfInBounds i true)) a M.w := by
      intro m
      induction m using Nat.strongRecOn with
      | _ m ihm =>
      intro l pend s hb hm hcount hL hH hs hp hk
      obtain ⟨⟨i', c⟩, hmem, rfl⟩ := List.mem_map.1 ((hL.mem i).2 ⟨hilt, .inl hun⟩)
      obtain ⟨p, q, rfl⟩ := List.append_of_mem hmem
      simp only at ho hall hun hilt hi ⊢
      by_cases hex : ∃ x ∈ p, reachB ops ops.size x.1 i' = true
      · obtain ⟨p1, x, p2, rfl, hx, hno⟩ := exists_first p hex
        have hxl := reach_listed hL.size hL.closed _ _ _ o ho hall hx
        have hxm := (hL.mem x.1).1 (by simp)
        have hxp : x.1 ∈ pend.map (·.1) := by
          rcases hxm.2 with h | h
          · rw [getD_true (by rw [hL.size]; exact hxm.1), hxl] at h; cases h
          · exact h
        obtain ⟨z, hz, hzx⟩ := List.mem_map.1 hxp
        obtain ⟨P1, P2, rfl⟩ := List.append_of_mem hz
        have hlate := (hL.plisted _ hxp).2
        have hc := hL.cls x (by simp) hlate
        have hcomp : ∀ y ∈ p1, compat ops y x = true := fun y hy => by
          refine (hL.tri y x (i', c) ?_ hlate hx).resolve_left (hno y hy)
          have h1 : List.Sublist [y] p1 := List.singleton_sublist.2 hy
          have h2 : List.Sublist [x, (i', c)] (x :: (p2 ++ (i', c) :: q)) := List.Sublist.cons_cons x (List.singleton_sublist.2 (by simp))
          have := h1.append h2
          simpa using this
        have hL' : Left2 P ops lates listed (p1 ++ (p2 ++ (i', c) :: q)) (P1 ++ P2) := by
          have : Left2 P ops lates listed (p1 ++ x :: (p2 ++ (i', c) :: q)) (P1 ++ z :: P2) := by simpa using hL
          exact Left2.flush hzx this
        have hk' := RunK.pull (q := p2 ++ (i', c) :: q) hK p1 hcomp (by simpa using hk)
        have hcount' : (p1 ++ (p2 ++ (i', c) :: q)).countP (un listed) = k + 1 := by
          have hux : un listed x = false := by simp [un, (hL.plisted _ hxp).1]
          rw [← hcount]
          simp [List.countP_append, List.countP_cons, hux]
        obtain ⟨xi, xc⟩ := x
        simp only at hzx hc
        subst hzx
        obtain ⟨s1, hb1, k1, k2, k3, k4⟩ := flush1 hc hs hp hk'
        exact ihm (P1 ++ P2).length (by rw [← hm]; simp) _ _ s1 hb1 rfl hcount' hL' (hH.trans k3) k2 k4 k1
      · have hnd := hL.nodup
        obtain ⟨hc1, hc2⟩ := countP_mid hL.size hilt hun hnd hcount
        have hno : ∀ x ∈ p, reachB ops ops.size x.1 i' = false := fun x hx => by
          cases hr : reachB ops ops.size x.1 i' with
          | false => rfl
          | true => exact absurd ⟨x, hx, hr⟩ hex
        have hpx : ∀ x ∈ p, okPair2 ops lates x (i', c) = true := fun x hx => by
          have := List.pairwise_append.1 hL.pairs
          exact this.2.2 x hx _ List.mem_cons_self
        have hqx : ∀ x ∈ q, okPair2 ops lates (i', c) x = true := fun x hx => by
          have := (List.pairwise_append.1 hL.pairs).2.1
          exact (List.pairwise_cons.1 this).1 x hx
        have hnp : i' ∉ pend.map (·.1) := fun h => by
          have := (hL.plisted _ h).1
          rw [hun] at this; cases this
        have hclosed := Left2.list hL ho hall
        -- a variable that is not told of yet has a slot of its own
        have hslot : lates.contains i' = false → ∀ z ∈ pend, ∀ d, dstOf ops z.1 = some d → o.dst ≠ some d := by
          intro hnl z hz d hd
          have hzm : z.1 ∈ pend.map (·.1) := List.mem_map.2 ⟨z, hz, rfl⟩
          have hzl := (hL.plisted _ hzm).2
          obtain ⟨oz, tz, Tz, hoz, _⟩ := lateOK_spec (hL.late _ hzl)
          have hdz : oz.dst = some d := by simpa [dstOf, hoz] using hd
          obtain ⟨x, hx, hxz⟩ := List.mem_map.1 ((hL.mem z.1).2 ⟨(Array.getElem?_eq_some_iff.1 hoz).1, .inr hzm⟩)
          rcases List.mem_append.1 hx with hx | hx
          · have h1 := hpx x hx
            simp only [okPair2, hnl, Bool.false_eq_true, if_false, okPair, hno x hx, Bool.false_or, compat, Bool.and_eq_true] at h1
            rw [hxz, hoz, ho] at h1
            exact (Oper.apart_spec h1.1).2.1 d hdz
          · rcases List.mem_cons.1 hx with rfl | hx
            · exact absurd (show i' ∈ pend.map (·.1) by rw [show i' = z.1 from hxz]; exact hzm) hnp
            · have h1 := hqx x hx
              have hxl : lates.contains x.1 = true := by rw [hxz]; exact hzl
              simp only [okPair2, hxl, if_true, apartB] at h1
              rw [hxz, hoz, ho] at h1
              intro he
              exact (Oper.apart_spec h1).2.1 d he hdz
        cases hlt : lates.contains i' with
        | true =>
          -- it is made now, and told of later
          obtain ⟨o', t, T, ho', hop, hg, hT, hz⟩ := lateOK_spec (hL.late _ hlt)
          rw [ho] at ho'; cases ho'
          have hcu := hL.cls (i', c) (by simp) hlt
          simp only at hcu
          subst hcu
          have hap : ∀ x ∈ p, apartB ops x.1 i' = true := fun x hx => by
            have := hpx x hx
            rw [okPair2, if_pos hlt] at this
            exact this
          let M1 := M.new (.cells T.zero.cells t) 0
          have hA : Adds M M1 := Adds.new M _ 0
          have hGF : Gu (FF F pend) M M1 := hA.gu hs.ok
          have hrun : RunK P ops (p ++ (i', .upd) :: q) (s.put o.dst .dead) (Φ .normal) := by
            cases hd : o.dst with
            | none => exact hk
            | some d =>
              refine RunK.forget (s := s) (s' := s.put (some d) .dead) ho hop hg hd hK p hap ?_ ?_ rfl rfl hk
              · simp [St.put, Tm.putO, Tm.n_put]
              · intro k' hk'
                simp only [St.put, Tm.putO, Tm.get_put]
                rw [if_neg]
                rintro ⟨h1, h2⟩
                rcases hk' with h | h
                · exact h h1.symm
                · exact h h2
          unfold wpOpIn
          simp only [ho, Region.wanted, hg, if_true]
          refine ⟨fun _ _ => trivial, ?_⟩
          rw [Oper.semAt_eq _ _ _ (fun c => by rw [hop]; intro h; cases h)]
          have hex1 : (execOp a.eval o).run P M.w = .ok (.value (.pointer (some ⟨M.w.heap.size, 0, none⟩))) M1.w := by
            simp only [execOp, hop, Sem.run_bind]
            simp [Instr.alloc, run_zeroValue_ty hT, newVar, newRow, M1, Mem.new]
          rw [hex1, Oper.uponIn_value]
          have hb1 : ∀ z ∈ pend, z.2 < M.w.heap.size := fun z hz => (hp.each z hz).lt
          refine ih (p ++ (i', .upd) :: q) ((i', M.w.heap.size) :: pend) _ M1 hb (s.put o.dst .dead) _ hc2 ?_ (hG.trans (hGF.less fun b hb => .inl hb)) hH ?_ ?_ hrun
          · refine ⟨by simp [hL.size], hclosed, hL.nodup, ?_, fun j => ?_, fun j hj => ?_, hL.pairs, hL.tri, hL.back, hL.late, hL.cls⟩
            · rw [List.map_cons]
              exact List.nodup_cons.2 ⟨hnp, hL.pnodup⟩
            · rw [hL.mem j, listed_get hL.size hilt, List.map_cons, List.mem_cons]
              by_cases hij : i' = j
              · subst hij; simp [hilt, hun]
              · rw [if_neg hij]
                have hji : j ≠ i' := fun e => hij e.symm
                simp [hji]
            · rw [List.map_cons, List.mem_cons] at hj
              rw [listed_get hL.size hilt]
              rcases hj with rfl | hj
              · exact ⟨by simp, hlt⟩
              · have := hL.plisted j hj
                refine ⟨?_, this.2⟩
                split
                · rfl
                · exact this.1
          · refine SRel.put ?_ _ .dead
            refine ⟨hs.tm.mono hGF.le (.refl _), hs.df.mono hGF.le (.refl _), ?_, ⟨?_, ?_⟩⟩
            · have := hs.hp.adds hA hs.ok
              refine ⟨this.len, this.gl, this.box, fun j b e h1 h2 h3 => ⟨(this.own j b e h1 h2 h3).1, ?_⟩, this.dis⟩
              intro hf
              have h4 := hs.hp.own j b e h1 h2 h3
              rcases hf with hf | hf
              · exact h4.2 (.inl hf)
              · rw [List.map_cons, List.mem_cons] at hf
                rcases hf with hf | hf
                · rw [hf] at h4; exact absurd h4.1 (Nat.lt_irrefl _)
                · exact h4.2 (.inr hf)
            · exact (hs.ok.new _ _).top
            · intro b hb'
              rw [Mem.new_size]
              rcases hb' with hb' | hb'
              · exact Nat.lt_succ_of_lt (hs.ok.fr b (.inl hb'))
              · rw [List.map_cons, List.mem_cons] at hb'
                rcases hb' with rfl | hb'
                · exact Nat.lt_succ_self _
                · exact Nat.lt_succ_of_lt (hs.ok.fr b (.inr hb'))
          · refine ⟨fun z hz => ?_, ?_, fun z hz => ?_⟩
            · rcases List.mem_cons.1 hz with rfl | hz
              · refine ⟨⟨o, t, T, t, ho, hop, hg, hT, by assumption, Mem.new_heap M _ _, fun d hd hlt' => ?_⟩, Mem.new_lo M _ _, by rw [Mem.new_size]; exact Nat.lt_succ_self _⟩
                rw [hd] at hlt' ⊢
                simp only [Act.put] at hlt' ⊢
                have : d < a.tmps.size := by simpa using hlt'
                simp [Array.getD_eq_getD_getElem?, this]
              · refine (hp.each z hz).keep hA.size (hA.old _ (hb1 z hz)) fun d hd => ?_
                refine put_other rfl ?_ _
                -- two new variables have two slots
                have hzm : z.1 ∈ pend.map (·.1) := List.mem_map.2 ⟨z, hz, rfl⟩
                have hzl := (hL.plisted _ hzm).2
                obtain ⟨oz, tz, Tz, hoz, _⟩ := lateOK_spec (hL.late _ hzl)
                have hdz : oz.dst = some d := by simpa [dstOf, hoz] using hd
                obtain ⟨x, hx, hxz⟩ := List.mem_map.1 ((hL.mem z.1).2 ⟨(Array.getElem?_eq_some_iff.1 hoz).1, .inr hzm⟩)
                rcases List.mem_append.1 hx with hx | hx
                · have h1 := hap x hx
                  simp only [apartB] at h1
                  rw [hxz, hoz, ho] at h1
                  exact (Oper.apart_spec h1).2.1 d hdz
                · rcases List.mem_cons.1 hx with rfl | hx
                  · exact absurd (show i' ∈ pend.map (·.1) by rw [show i' = z.1 from hxz]; exact hzm) hnp
                  · have h1 := hqx x hx
                    have hxl : lates.contains x.1 = true := by rw [hxz]; exact hzl
                    simp only [okPair2, hxl, if_true, apartB] at h1
                    rw [hxz, hoz, ho] at h1
                    intro he
                    exact (Oper.apart_spec h1).2.1 d he hdz
            · rw [List.map_cons]
              refine List.nodup_cons.2 ⟨fun h => ?_, hp.nodup⟩
              obtain ⟨z, hz, hze⟩ := List.mem_map.1 h
              have := hb1 z hz
              rw [hze] at this
              exact Nat.lt_irrefl _ this
            · rcases List.mem_cons.1 hz with rfl | hz
              · intro hf
                exact Nat.lt_irrefl _ (hs.ok.fr _ (.inl hf))
              · exact hp.apart z hz
        | false =>
          have hpc : ∀ x ∈ p, compat ops x (i', c) = true := fun x hx => by
            have h1 := hpx x hx
            simpa only [okPair2, hlt, Bool.false_eq_true, if_false, okPair, hno x hx, Bool.false_or] using h1
          have hrun := RunK.pull hK p hpc hk
          have hL' : Left2 P ops lates (listed.setIfInBounds i' true) (p ++ q) pend := by
            have hnd2 := hnd
            rw [List.map_append, List.map_cons] at hnd2
            have hnd3 := List.nodup_append.1 hnd2
            have hnotin : i' ∉ (p ++ q).map (·.1) := by
              rw [List.map_append, List.mem_append]
              rintro (h | h)
              · exact hnd3.2.2 _ h _ List.mem_cons_self rfl
              · exact (List.nodup_cons.1 hnd3.2.1).1 h
            refine ⟨by simp [hL.size], hclosed, ((sublist_mid p (i', c) q).map _).nodup hnd, hL.pnodup, fun j => ?_, fun j hj => ?_, hL.pairs.sublist (sublist_mid p _ q), fun y x j hsl => hL.tri y x j (hsl.trans (sublist_mid p _ q)), hL.back, hL.late, fun x hx => hL.cls x ?_⟩
            · have hmj := hL.mem j
              rw [List.map_append, List.map_cons, List.mem_append, List.mem_cons] at hmj
              rw [listed_get hL.size hilt, List.map_append, List.mem_append]
              by_cases hij : i' = j
              · subst hij
                rw [if_pos rfl]
                constructor
                · intro h
                  rw [← List.mem_append, ← List.map_append] at h
                  exact absurd h hnotin
                · rintro ⟨_, h | h⟩
                  · cases h
                  · exact absurd h hnp
              · rw [if_neg hij, ← hmj]
                constructor
                · rintro (h | h)
                  · exact .inl h
                  · exact .inr (.inr h)
                · rintro (h | h | h)
                  · exact .inl h
                  · exact absurd h.symm hij
                  · exact .inr h
            · have := hL.plisted j hj
              refine ⟨?_, this.2⟩
              rw [listed_get hL.size hilt]
              split
              · rfl
              · exact this.1
            · rcases List.mem_append.1 hx with h | h
              · exact List.mem_append_left _ h
              · exact List.mem_append_right _ (List.mem_cons_of_mem _ h)
          have hnext : ∀ (s' : St) (M' : Mem) (hb' : List HB) (a' : Act), RunK P ops (p ++ q) s' (Φ .normal) → SRel (FF F pend) M' hb' s' a' → Gu (FF F pend) M M' → HBLe hb hb' → (∃ v a0, a0.tmps = a.tmps ∧ a' = Act.put a0 o.dst v) → wpAnyIn (fenceAt ro) 0 P .any ops (Conc F M0 hb0 Φ) k (listed.setIfInBounds i' true) a' M'.w := by
            rintro s' M' hb' a' k1 k2 k3 k4 ⟨v, a0, ha0, rfl⟩
            refine ih (p ++ q) pend _ M' hb' s' _ hc1 hL' (hG.trans (k3.less fun b hb => .inl hb)) (hH.trans k4) k2 ⟨fun z hz => ?_, hp.nodup, hp.apart⟩ k1
            exact (hp.each z hz).keep k3.size (k3.fr _ (.inr (List.mem_map.2 ⟨z, hz, rfl⟩))) fun d hd => put_other ha0 (hslot hlt z hz d hd) v
          have hdst : dstOf ops i' = o.dst := by simp [dstOf, ho]
          simp only [RunK, hdst] at hrun
          unfold stepV at hrun
          simp only [ho] at hrun
          unfold wpOpIn
          simp only [ho]
          have hop : effV P o c s (fun v h => RunK P ops (p ++ q) ⟨s.t.putO o.dst v, h, s.d⟩ (Φ .normal)) → o.wpIn (fenceAt ro) 0 P a M.w (wpAnyIn (fenceAt ro) 0 P .any ops (Conc F M0 hb0 Φ) k (listed.setIfInBounds i' true)) (Conc F M0 hb0 Φ) := fun h =>
            Oper.wpIn_put (opA_sound (Φ := fun _ _ => False) ro hs (effV_opA (K := fun s' => RunK P ops (p ++ q) s' (Φ .normal)) h) hnext (fun x v s' M' hb' k1 => k1.elim))
          split at hrun
          · rename_i hg
            simp only [Region.wanted, hg, if_true]
            exact hop hrun
          · rename_i j want hg
            split at hrun
            · rename_i d hd
              split at hrun
              · rename_i b hbv
                rw [wanted_val hs.tm hg hd hbv]
                by_cases hbw : b = want
                · simp only [hbw, beq_self_eq_true, if_true]
                  exact hop (hrun.1 hbw)
                · have : (b == want) = false := by simpa using hbw
                  simp only [this, Bool.false_eq_true, if_false]
                  refine ⟨fun _ _ => trivial, hnext _ M hb _ (hrun.2 ?_) (hs.put o.dst relUndef) (.refl _ _) (.refl _) ⟨undef, a, rfl, rfl⟩⟩
                  cases b <;> cases want <;> simp_all
              · rename_i hbv
                rw [wanted_tup hs.tm hg hd hbv]
                simp only [Bool.false_eq_true, if_false]
                exact ⟨fun _ _ => trivial, hnext _ M hb _ hrun (hs.put o.dst relUndef) (.refl _ _) (.refl _) ⟨undef, a, rfl, rfl⟩⟩
              · exact hrun.elim
            · exact hrun.elim
    exact inner pend.length l pend s hb rfl hcount hL hH hs hp hk

theorem CodeT.late0 {P : Program} {rd : Option Nat} {s : St} {Φ : AX → St → Prop} {id : Nat} {ops : Array Oper} (lates : List Nat) (π : List (Nat × Cls)) (hm : P.follows .mixedOrders = true) (hok : okLate P ops lates π = true) (h : RunK P ops π s (Φ .normal))
    (hK : ∀ s s', Same s s' → Φ .normal s → Φ .normal s') : CodeT P rd (.region id ops true) s Φ := by
  intro F M hb a ro hs hr
  refine wpIn_region_any hm ?_
  simp only [okLate, Bool.and_eq_true, decide_eq_true_eq] at hok
  obtain ⟨⟨⟨⟨⟨⟨⟨h1, h2⟩, h3⟩, h4⟩, h5⟩, h6⟩, h7⟩, h8⟩ := hok
  have hget : ∀ i, i < ops.size → (Array.replicate ops.size false).getD i true = false := fun i hi => by simp [Array.getD_eq_getD_getElem?, hi]
  have hmem : ∀ i, i ∈ π.map (·.1) ↔ i < ops.size := by
    intro i
    constructor
    · intro hi
      obtain ⟨p, hp, rfl⟩ := List.mem_map.1 hi
      have := List.all_eq_true.1 h3 p hp
      simpa using this
    · intro hi
      have := List.all_eq_true.1 h2 i (List.mem_range.2 hi)
      simpa using this
  have hL : Left2 P ops lates (Array.replicate ops.size false) π [] := by
    refine ⟨by simp, fun i o ho hl => ?_, h1, by simp, fun i => ?_, fun i hi => by simp at hi, h4, tri_spec h6, fun i o ho e he hb => ?_, fun i hi => ?_, fun p hp hl => ?_⟩
    · have : i < ops.size := (Array.getElem?_eq_some_iff.1 ho).1
      rw [hget i this] at hl; cases hl
    · rw [hmem i]
      constructor
      · exact fun hi => ⟨hi, .inl (hget i hi)⟩
      · exact fun hi => hi.1
    · have hlt : i < ops.size := (Array.getElem?_eq_some_iff.1 ho).1
      have := List.all_eq_true.1 h5 i (List.mem_range.2 hlt)
      rw [ho] at this
      simp only [Array.all_eq_true'] at this
      have h6 := this e he
      simpa [hb] using h6
    · exact List.all_eq_true.1 h7 i (List.contains_iff_mem.1 hi)
    · have := List.all_eq_true.1 h8 p hp
      rw [hl] at this
      simpa using this
  have hlen : π.countP (un (Array.replicate ops.size false)) = ops.size := by
    have hp : (π.map (·.1)).Perm (List.range ops.size) := by
      rw [List.perm_ext_iff_of_nodup h1 List.nodup_range]
      intro i
      rw [hmem i, List.mem_range]
    have := hp.length_eq
    rw [List.countP_eq_length.2 (fun x hx => by
      have := (hmem x.1).1 (List.mem_map.2 ⟨x, hx, rfl⟩)
      simp [un, hget x.1 this])]
    simpa using this
  have hA : Adds M M.drew := Adds.drew M
  have hG := hA.gu hs.ok
  refine drawn_late (M0 := M) (hb0 := hb) (F := F) (P := P) (ops := ops) hK ro ops.size π [] (Array.replicate ops.size false) M.drew hb s a hlen hL hG (.refl _) ?_ ⟨fun p hp => by simp at hp, by simp, fun p hp => by simp at hp⟩ h
  rw [FF_nil]
  exact ⟨hs.tm.mono hG.le (.refl _), hs.df.mono hG.le (.refl _), hs.hp.adds hA hs.ok, hs.ok.drew⟩

theorem CodeT.late {P : Program} {rd : Option Nat} {s : St} {Φ : AX → St → Prop} {id : Nat} {ops : Array Oper} (lates : List Nat) (π : List (Nat × Cls)) (hm : P.follows .mixedOrders = true) (hok : okLate P ops lates π = true) (h : RunK P ops π s (Φ .normal)) :
    CodeT P rd (.region id ops true) s Φ := by
  have h1 : CodeT P rd (.region id ops true) s (fun x s' => ∃ s0, Same s0 s' ∧ Φ x s0) := by
    refine CodeT.late0 lates π hm hok ?_ (fun s s' hs ⟨s0, h0, hk⟩ => ⟨s0, h0.trans hs, hk⟩)
    exact CodeT.drawn.runK_mono π (fun s hk => ⟨s, .refl s, hk⟩) h
  intro F M hb a ro hs hr
  refine wpIn_mono (h1 F M hb a ro hs hr) ?_
  rintro e a' w' ⟨x, s', M', hb', ⟨s0, h0, hk⟩, r1, r2, r3, r4, r5⟩
  exact ⟨x, s0, M', hb', hk, r1, r2, r3.same h0.symm, r4, r5⟩

end Go.PM

namespace Go.PM
set_option linter.unusedSectionVars false
variable [Globals]

mutual
def AV.shift (n : Nat) : AV → AV
  | .hsl id a b c => .hsl (n + id) a b c
  | .ptr id o => .ptr (n + id) o
  | .eptr id a b c => .eptr (n + id) a b c
  | .yld id => .yld (n + id)
  | .mp id => .mp (n + id)
  | .bnd f first => .bnd f (shiftL n first)
  | .fn f caps => .fn f (shiftL n caps)
  | .iface t x => .iface t (x.shift n)
  | .agg cs => .agg (shiftL n cs)
  | .tup vs => .tup (shiftL n vs)
  | x => x
def shiftL (n : Nat) : List AV → List AV
  | [] => []
  | x :: xs => x.shift n :: shiftL n xs
end
def Box.shift (n : Nat) : Box → Box
  | .cells cs => .cells (shiftL n cs)
  | .row a b c d => .row a b c d
  | .defer => .defer
  | .map kvs bs c => .map (kvs.map fun p => (p.1, p.2.shift n)) bs c
  | .iter mid since seen step => .iter (n + mid) since seen step
  | .siter s pos => .siter s pos
  | _ => .dead
def AE.shift (n : Nat) : AE → AE
  | .ret x => .ret (x.shift n)
  | .panic x => .panic (x.shift n)

theorem shiftL_eq (n : Nat) (l : List AV) : shiftL n l = l.map (AV.shift n) := by
  induction l with
  | nil => rfl
  | cons x l ih => simp [shiftL, ih]
theorem shift_single (n : Nat) (x : AV) : (x.shift n).single = x.single := by cases x <;> simp [AV.shift, AV.single]
theorem get_shift {n : Nat} {l : List AV} {i : Nat} {y : AV} (h : (shiftL n l)[i]? = some y) : ∃ x, l[i]? = some x ∧ y = x.shift n := by
  rw [shiftL_eq, List.getElem?_map, Option.map_eq_some_iff] at h
  obtain ⟨x, h1, h2⟩ := h
  exact ⟨x, h1, h2.symm⟩

theorem VRel.shift {M : Mem} {hb2 : List HB} {x : AV} {v : Value} (h : VRel M hb2 x v) : ∀ hb1 : List HB, VRel M (hb1 ++ hb2) (x.shift hb1.length) v := by
  have hget : ∀ (hb1 hb2 : List HB) (id : Nat) (e : HB), hb2[id]? = some e → (hb1 ++ hb2)[hb1.length + id]? = some e := by
    intro hb1 hb2 id e h
    rw [List.getElem?_append_right (by omega), Nat.add_sub_cancel_left]; exact h
  induction h with
  | dead => exact fun _ => .dead
  | val h => exact fun _ => .val h
  | nil => exact fun _ => .nil
  | sl sz h1 h2 h3 h4 h5 h6 _ => exact fun _ => .sl sz h1 h2 h3 h4 h5 h6
  | hsl e h1 h2 h3 h4 h5 => exact fun hb1 => .hsl e (hget hb1 _ _ _ h1) h2 h3 h4 h5
  | ptr e h1 h2 => exact fun hb1 => .ptr e (hget hb1 _ _ _ h1) h2
  | eptr e h1 h2 h3 h4 h5 => exact fun hb1 => .eptr e (hget hb1 _ _ _ h1) h2 h3 h4 h5
  | cptr h1 h2 h3 _ => exact fun _ => .cptr h1 h2 h3
  | fn h1 h2 ih =>
    intro hb1
    refine .fn (by rw [shiftL_eq]; simpa using h1) (fun i c hc => ?_)
    obtain ⟨x, hx, rfl⟩ := get_shift hc
    exact ih i x hx hb1
  | yld e h1 h2 => exact fun hb1 => .yld e (hget hb1 _ _ _ h1) h2
  | iface h ih => exact fun hb1 => .iface (ih hb1)
  | agg h1 h2 h3 ih =>
    intro hb1
    refine .agg (by rw [shiftL_eq]; simpa using h1) (fun i c hc => ?_) (fun i c hc => ?_)
    · obtain ⟨x, hx, rfl⟩ := get_shift hc
      rw [shift_single]; exact h2 i x hx
    · obtain ⟨x, hx, rfl⟩ := get_shift hc
      exact ih i x hx hb1
  | tup h1 h2 ih =>
    intro hb1
    refine .tup (by rw [shiftL_eq]; simpa using h1) (fun i c hc => ?_)
    obtain ⟨x, hx, rfl⟩ := get_shift hc
    exact ih i x hx hb1
  | mp e h1 h2 => exact fun hb1 => .mp e (hget hb1 _ _ _ h1) h2
  | bnd h1 h2 ih =>
    intro hb1
    refine .bnd (by rw [shiftL_eq]; simpa using h1) (fun i c hc => ?_)
    obtain ⟨x, hx, rfl⟩ := get_shift hc
    exact ih i x hx hb1
  | cmp h1 h2 h3 h4 h5 h6 _ _ => exact fun _ => .cmp h1 h2 h3 h4 h5 h6

theorem BoxRel.shift {M : Mem} {hb1 hb2 : List HB} {b : Box} {e : HB} (h : BoxRel M hb2 b e) : BoxRel M (hb1 ++ hb2) (b.shift hb1.length) e := by
  cases b with
  | dead => trivial
  | cells cs =>
    obtain ⟨h1, h2, c, h3, h4⟩ := h
    refine ⟨h1, h2, c, h3, by rw [shiftL_eq]; simpa using h4.1, fun j x hx => ?_⟩
    obtain ⟨y, hy, rfl⟩ := get_shift hx
    exact ⟨by rw [shift_single]; exact (h4.2 j y hy).1, (h4.2 j y hy).2.shift hb1⟩
  | row mt ver sz es => exact h
  | loop => trivial
  | defer => exact h
  | iter mid since seen step =>
    obtain ⟨h1, em, h2, h3, h4⟩ := h
    exact ⟨h1, em, by rw [List.getElem?_append_right (by omega), Nat.add_sub_cancel_left]; exact h2, h3, h4⟩
  | siter s pos => exact h
  | map kvs bs clock =>
    obtain ⟨h1, h0, es, h2, h2', h3, hb1', hb2', hb3', h4⟩ := h
    refine ⟨h1, h0, es, h2, h2', by simpa using h3, hb1', hb2', hb3', fun i k x hx => ?_⟩
    rw [List.getElem?_map, Option.map_eq_some_iff] at hx
    obtain ⟨⟨k', x'⟩, h5, h6⟩ := hx
    simp only [Prod.mk.injEq] at h6
    obtain ⟨rfl, rfl⟩ := h6
    obtain ⟨m, g1, g2, g3⟩ := h4 i k' x' h5
    exact ⟨m, g1, g2, g3.shift hb1⟩

theorem shift_owns (n : Nat) (b : Box) (e : HB) (h : (b.shift n).owns e = true) : b.owns e = true := by
  cases b <;> first | exact h | (simp [Box.shift, Box.owns] at h)

theorem HRel.beside {F : Nat → Prop} {M M' : Mem} {hb hb2 : List HB} {h h2 : List Box} (H : HRel F M hb h) (hg : Gu (fun b => F b ∨ Held hb h b) M M') (H2 : HRel (fun b => F b ∨ Held hb h b) M' hb2 h2) :
    HRel F M' (hb ++ hb2) (h ++ h2.map (Box.shift h.length)) := by
  have H1 := H.frame hg
  have hlen := H.len
  have hget : ∀ {i : Nat} {b : Box} {e : HB}, (h ++ h2.map (Box.shift h.length))[i]? = some b → (hb ++ hb2)[i]? = some e →
      (h[i]? = some b ∧ hb[i]? = some e) ∨ (∃ j b0, i = h.length + j ∧ h2[j]? = some b0 ∧ hb2[j]? = some e ∧ b = b0.shift h.length) := by
    intro i b e g1 g2
    by_cases hi : i < h.length
    · rw [List.getElem?_append_left hi] at g1
      rw [List.getElem?_append_left (by rw [hlen]; exact hi)] at g2
      exact .inl ⟨g1, g2⟩
    · rw [List.getElem?_append_right (by omega), List.getElem?_map, Option.map_eq_some_iff] at g1
      rw [List.getElem?_append_right (by omega), hlen] at g2
      obtain ⟨b0, k1, k2⟩ := g1
      exact .inr ⟨i - h.length, b0, by omega, k1, g2, k2.symm⟩
  refine ⟨by simp [hlen, H2.len], H2.gl, fun i b e g1 g2 => ?_, fun i b e g1 g2 g3 => ?_, fun i j b b' e e' g1 g2 g3 g4 g5 g6 g7 => ?_⟩
  · rcases hget g1 g2 with ⟨k1, k2⟩ | ⟨j, b0, _, k1, k2, rfl⟩
    · exact (H1.box i b e k1 k2).mono (.refl M') (.append hb hb2) (fun _ => ⟨rfl, rfl⟩)
    · rw [← hlen]
      exact (H2.box j b0 e k1 k2).shift
  · rcases hget g1 g2 with ⟨k1, k2⟩ | ⟨j, b0, _, k1, k2, rfl⟩
    · exact H1.own i b e k1 k2 g3
    · have := H2.own j b0 e k1 k2 (shift_owns _ _ _ g3)
      exact ⟨this.1, fun hf => this.2 (.inl hf)⟩
  · rcases hget g1 g2 with ⟨k1, k2⟩ | ⟨m, b0, k0, k1, k2, rfl⟩ <;> rcases hget g3 g4 with ⟨q1, q2⟩ | ⟨m', b0', q0, q1, q2, rfl⟩
    · exact H1.dis i j b b' e e' k1 k2 q1 q2 g5 g6 g7
    · exact absurd (.inr ⟨i, b, e, k1, k2, g5, g7⟩) (H2.own m' b0' e' q1 q2 (shift_owns _ _ _ g6)).2
    · exact absurd (.inr ⟨j, b', e', q1, q2, g6, g7.symm⟩) (H2.own m b0 e k1 k2 (shift_owns _ _ _ g5)).2
    · rw [k0, q0, H2.dis m m' b0 b0' e e' k1 k2 q1 q2 (shift_owns _ _ _ g5) (shift_owns _ _ _ g6) g7]

theorem CallT.lift {P : Program} {f : FuncId} {args : List AV} {h : List Box} {R : AE → List Box → Prop} (hp : args.all AV.pure = true) (hc : CallT P f args [] R) :
    CallT P f args h (fun r h' => ∃ r0 h0, R r0 h0 ∧ r = r0.shift h.length ∧ h' = h ++ h0.map (Box.shift h.length)) := by
  refine ⟨hc.1, fun F M hb vs H ok hv => ?_⟩
  have hF : MOk (fun b => F b ∨ Held hb h b) M := ⟨ok.top, fun b hb' => hb'.elim (ok.fr b) (fun hh => (H.held_lt hh).1)⟩
  have H0 : HRel (fun b => F b ∨ Held hb h b) M [] [] := ⟨rfl, H.gl, fun i b e h1 => by simp at h1, fun i b e h1 => by simp at h1, fun i j b b' e e' h1 => by simp at h1⟩
  have hl : ListRel M [] args vs := ⟨hv.1, fun i x hx => (hv.2 i x hx).toPure (List.all_eq_true.1 hp x (List.mem_of_getElem? hx))⟩
  refine Calls.mono (hc.2 _ M [] vs H0 hF hl) ?_
  rintro e w' ⟨r, h', M', hb', hR, k2, rfl, k4, k5, k6, k7⟩
  refine ⟨r.shift h.length, h ++ h'.map (Box.shift h.length), M', hb ++ hb', ⟨r, h', hR, rfl, rfl⟩, ?_, rfl, H.beside k6 k4, ⟨k5.top, fun b hb'' => k5.fr b (.inl hb'')⟩, k6.less (fun b hb'' => .inl hb''), .append hb hb'⟩
  rw [← H.len]
  cases r <;> cases e <;> try exact k2.elim
  · exact VRel.shift k2 hb
  · obtain ⟨v, h1, h2⟩ := k2
    exact ⟨v, h1, h2.shift hb⟩

/-- A call of one outcome, beside any boxes. -/
theorem CallT.liftEq {P : Program} {f : FuncId} {args : List AV} {h h0 : List Box} {v : AV} (hc : CallT P f args [] (fun r h' => r = .ret v ∧ h' = h0)) (hp : args.all AV.pure = true) : CallT P f args h (fun r h' => r = .ret (v.shift h.length) ∧ h' = h ++ h0.map (Box.shift h.length)) :=
  (CallT.lift hp hc).mono fun r h' ⟨r0, h1, ⟨e1, e2⟩, e3, e4⟩ => by subst e1 e2 e3 e4; exact ⟨rfl, rfl⟩

theorem shift_val (n : Nat) (v : Value) : (AV.val v).shift n = .val v := rfl
theorem shift_sl (n : Nat) (f : Bool) (es : List AV) : (AV.sl f es).shift n = .sl f es := rfl
theorem shift_cptr (n : Nat) (es : List AV) : (AV.cptr es).shift n = .cptr es := rfl
theorem shift_hsl (n a b c d : Nat) : (AV.hsl a b c d).shift n = .hsl (n + a) b c d := rfl
theorem shift_ptr (n a b : Nat) : (AV.ptr a b).shift n = .ptr (n + a) b := rfl
theorem shift_mp (n a : Nat) : (AV.mp a).shift n = .mp (n + a) := rfl
theorem shift_bnd (n : Nat) (f : FuncId) (cs : List AV) : (AV.bnd f cs).shift n = .bnd f (shiftL n cs) := rfl
theorem shift_fn (n : Nat) (f : FuncId) (cs : List AV) : (AV.fn f cs).shift n = .fn f (shiftL n cs) := rfl
theorem shift_iface (n : Nat) (t : TypeId) (x : AV) : (AV.iface t x).shift n = .iface t (x.shift n) := rfl
theorem shift_agg (n : Nat) (cs : List AV) : (AV.agg cs).shift n = .agg (shiftL n cs) := rfl
theorem shift_tup (n : Nat) (cs : List AV) : (AV.tup cs).shift n = .tup (shiftL n cs) := rfl
theorem shiftL_nil (n : Nat) : shiftL n [] = [] := rfl
theorem shiftL_cons (n : Nat) (x : AV) (l : List AV) : shiftL n (x :: l) = x.shift n :: shiftL n l := rfl
theorem bshift_cells (n : Nat) (cs : List AV) : (Box.cells cs).shift n = .cells (shiftL n cs) := rfl
theorem bshift_row (n : Nat) (a : Bool) (b c : Nat) (d : List AV) : (Box.row a b c d).shift n = .row a b c d := rfl
theorem bshift_dead (n : Nat) : Box.dead.shift n = .dead := rfl
theorem bshift_map (n : Nat) (kvs : List (AV × AV)) (bs : List Nat) (c : Nat) : (Box.map kvs bs c).shift n = .map (kvs.map fun p => (p.1, p.2.shift n)) bs c := rfl
theorem bshift_iter (n mid since : Nat) (seen : List Nat) (step : Nat) : (Box.iter mid since seen step).shift n = .iter (n + mid) since seen step := rfl
theorem bshift_siter (n : Nat) (s : ByteArray) (pos : Nat) : (Box.siter s pos).shift n = .siter s pos := rfl

end Go.PM

namespace Go.PM
set_option linter.unusedSectionVars false
variable [Globals]

theorem renil {F : Nat → Prop} {M : Mem} {hb : List HB} {h : List Box} (H : HRel F M hb h) {r : Nat} {mt : Bool} {ver sz : Nat} {es : List AV} (hr : h[r]? = some (.row mt ver sz es)) {v : Value} (hv : VRel M hb (.sl true []) v) :
    ∃ hb' : List HB, HRel F M hb' (h.set r (.row true (ver + 1) sz [])) ∧ HBLe hb hb' ∧ VRel M hb' (.hsl r (ver + 1) 0 0) v := by
  obtain ⟨e, he⟩ : ∃ e, hb[r]? = some e := by
    have : r < hb.length := by rw [H.len]; exact (List.getElem?_eq_some_iff.1 hr).1
    exact ⟨_, List.getElem?_eq_getElem this⟩
  obtain ⟨q1, q2, q3, _⟩ := H.box r _ e hr he
  let e' : HB := ⟨0, sz, 0, ver + 1, false, false⟩
  have hle : HBLe hb (hb.set r e') := HBLe.set he (by simp [e', q2]) (by simp [e', q1]) (fun hf => by rw [q1] at hf; cases hf) (fun hv' => by simp [e', q2] at hv')
  have hget : (hb.set r e')[r]? = some e' := by
    have := (List.getElem?_eq_some_iff.1 he).1
    simp [this]
  refine ⟨hb.set r e', H.update hr he (.refl M) (Nat.le_refl _) hle (fun _ _ _ => ⟨rfl, rfl⟩) ⟨rfl, rfl, rfl, Nat.le_refl _, fun _ => ⟨rfl, rfl⟩, fun h => by cases h⟩ (fun ho => by cases ho), hle, ?_⟩
  rcases hv.slInv with ⟨rfl, _⟩ | ⟨a, cap, s, rfl, g1, g2, g3, _⟩
  · exact .hsl e' hget rfl (Nat.le_refl _) rfl (fun _ => ⟨none, 0, rfl, Nat.le_refl _, .inl rfl⟩)
  · have : cap = 0 := g3 rfl
    subst this
    exact .hsl e' hget rfl (Nat.le_refl _) rfl (fun _ => ⟨some a, 0, rfl, Nat.le_refl _, .inl rfl⟩)

theorem CodeT.renil {P : Program} {rd : Option Nat} {c : Code} {s : St} {Φ : AX → St → Prop} (i r : Nat) {mt : Bool} {ver sz : Nat} {es : List AV} (hi : s.t.get i = .sl true []) (hr : s.h[r]? = some (.row mt ver sz es))
    (h : CodeT P rd c ⟨s.t.put i (.hsl r (ver + 1) 0 0), s.h.set r (.row true (ver + 1) sz []), s.d⟩ Φ) : CodeT P rd c s Φ := by
  intro F M hb a ro hs hrd
  have hv := hs.tm.2 i
  rw [hi] at hv
  obtain ⟨hb1, p1, p2, p3⟩ := Go.PM.renil hs.hp hr hv
  exact wpIn_mono (h F M hb1 a ro ⟨(hs.tm.mono (.refl _) p2).know i p3, hs.df.mono (.refl _) p2, p1, hs.ok⟩ (hrd.mono p2)) fun _ _ _ hq => hq.trans (.refl _ _) p2

theorem CodeT.renilBox {P : Program} {rd : Option Nat} {c : Code} {s : St} {Φ : AX → St → Prop} (id j r : Nat) {cs : List AV} {mt : Bool} {ver sz : Nat} {es : List AV} (hh : s.h[id]? = some (.cells cs)) (hx : cs[j]? = some (.sl true [])) (hr : s.h[r]? = some (.row mt ver sz es))
    (h : CodeT P rd c ⟨s.t, (s.h.set r (.row true (ver + 1) sz [])).set id (.cells (cs.set j (.hsl r (ver + 1) 0 0))), s.d⟩ Φ) : CodeT P rd c s Φ := by
  intro F M hb a ro hs hrd
  have H := hs.hp
  obtain ⟨e, he⟩ : ∃ e, hb[id]? = some e := by
    have : id < hb.length := by rw [H.len]; exact (List.getElem?_eq_some_iff.1 hh).1
    exact ⟨_, List.getElem?_eq_getElem this⟩
  obtain ⟨q1, q2, ca, q3, q4⟩ := H.box id _ e hh he
  obtain ⟨hb1, p1, p2, p3⟩ := Go.PM.renil H hr (q4.2 j _ hx).2
  obtain ⟨e', he', _, _, hfix, _⟩ := p2 id e he
  rw [hfix q1] at he'
  have hne : r ≠ id := by
    intro hri
    subst hri
    rw [hh] at hr
    cases hr
  have hpre : (s.h.set r (.row true (ver + 1) sz []))[id]? = some (.cells cs) := by
    rw [List.getElem?_set_ne hne]; exact hh
  have hu := p1.update (M' := M) (b' := .cells (cs.set j (.hsl r (ver + 1) 0 0))) (e' := e) hpre he' (.refl M) (Nat.le_refl _) (HBLe.set he' (Nat.le_refl _) rfl (fun _ => rfl) (fun _ => rfl)) (fun _ _ _ => ⟨rfl, rfl⟩)
    ⟨q1, q2, ca, q3, by rw [List.length_set]; exact q4.1, fun k y hy => by
      rw [set_self he']
      by_cases hkj : j = k
      · subst hkj
        have hjl := (List.getElem?_eq_some_iff.1 hx).1
        simp [hjl] at hy
        subst hy
        exact ⟨rfl, p3⟩
      · rw [List.getElem?_set_ne hkj] at hy
        exact ⟨(q4.2 k y hy).1, (q4.2 k y hy).2.hb p2⟩⟩ (fun _ => .inl ⟨rfl, rfl⟩)
  rw [set_self he'] at hu
  exact wpIn_mono (h F M hb1 a ro ⟨hs.tm.mono (.refl _) p2, hs.df.mono (.refl _) p2, hu, hs.ok⟩ (hrd.mono p2)) fun _ _ _ hq => hq.trans (.refl _ _) p2

end Go.PM

namespace Go.PM
set_option linter.unusedSectionVars false
variable [Globals]
theorem gif_i {b : Bool} {A B : Prop} {k : Kept A B} (h1 : b = true → A) (h2 : b = false → B) : gif b A B k := by
  cases b
  · rw [gif_f]; exact h2 rfl
  · rw [gif_t]; exact h1 rfl
section
variable {P : Program} {rd : Option Nat} {s : St} {Φ : AX → St → Prop} {y : Code}
theorem CodeT.seqR {id : Nat} {ops : Array Oper} (h : OpsA P ops (AX.thn (fun s1 => CodeT P rd y s1 Φ) Φ) ops.toList s) : CodeT P rd (.seq (.region id ops false) y) s Φ := CodeT.seq (CodeT.region h)
theorem CodeT.seqD {id : Nat} {ops : Array Oper} (π : List (Nat × Cls)) (hm : P.follows .mixedOrders = true) (hok : okOrder ops π = true) (h : RunL P ops π s (fun s1 => CodeT P rd y s1 Φ)) : CodeT P rd (.seq (.region id ops true) y) s Φ := CodeT.seq (CodeT.drawnL π hm hok h)
theorem CodeT.lateL {id : Nat} {ops : Array Oper} (lates : List Nat) (π : List (Nat × Cls)) (hm : P.follows .mixedOrders = true) (hok : okLate P ops lates π = true) (h : RunL P ops π s (Φ .normal)) : CodeT P rd (.region id ops true) s Φ := CodeT.late lates π hm hok (RunL.run π s h)
theorem CodeT.seqL {id : Nat} {ops : Array Oper} (lates : List Nat) (π : List (Nat × Cls)) (hm : P.follows .mixedOrders = true) (hok : okLate P ops lates π = true) (h : RunL P ops π s (fun s1 => CodeT P rd y s1 Φ)) : CodeT P rd (.seq (.region id ops true) y) s Φ := CodeT.seq (CodeT.lateL lates π hm hok h)
theorem CodeT.condT {c : Operand} {x y : Code} (hc : s.ev c = .val (.bool true)) (h1 : CodeT P rd x s Φ) : CodeT P rd (.cond c x y) s Φ := CodeT.cond hc (fun _ => h1) (fun h => by cases h)
theorem CodeT.condF {c : Operand} {x y : Code} (hc : s.ev c = .val (.bool false)) (h1 : CodeT P rd y s Φ) : CodeT P rd (.cond c x y) s Φ := CodeT.cond hc (fun h => by cases h) (fun _ => h1)
end
theorem CodeT.promoteV {P : Program} {rd : Option Nat} {c : Code} {s : St} {Φ : AX → St → Prop} (i sz ver : Nat) (hi : s.t.get i = .sl true []) (h : CodeT P rd c ⟨s.t.put i (.hsl s.h.length ver 0 0), s.h ++ [.row true ver sz []], s.d⟩ Φ) : CodeT P rd c s Φ := by
  intro F M hb a ro hs hr
  have hv := hs.tm.2 i
  rw [hi] at hv
  obtain ⟨hb1, p1, p2, p3⟩ := Go.PM.promoteV hs.hp hs.ok hv sz ver
  refine wpIn_mono (h F M hb1 a ro ⟨(hs.tm.mono (.refl _) p2).know i p3, hs.df.mono (.refl _) p2, p1, hs.ok⟩ (hr.mono p2)) fun _ _ _ hq => hq.trans (.refl _ _) p2
attribute [go_sem] shift_val shift_sl shift_cptr shift_hsl shift_ptr shift_mp shift_fn shift_iface shift_agg shift_tup shiftL_nil shiftL_cons bshift_cells bshift_row bshift_dead bshift_map
theorem frzC_fn {f : FuncId} {caps : List AV} (hp : pureL caps = true) (h : List Box) (K : AV → List Box → Prop) : frzC h (.fn f caps) K = K (.fn f caps) h := by
  simp [frzC, frz0, AV.pure0, hp]
theorem frzA_fn {f : FuncId} {caps : List AV} (hp : pureL caps = true) (h : List Box) (K : AV → List Box → Prop) : frzA h (.fn f caps) K = K (.fn f caps) h := by
  simp [frzA, frz0, AV.pure0, hp]
theorem pureL_nil : pureL [] = true := rfl
theorem pureL_cons (x : AV) (l : List AV) : pureL (x :: l) = (x.pure0 && pureL l) := rfl
theorem pure0_val (v : Value) : (AV.val v).pure0 = true := rfl
theorem pure0_sl (f : Bool) (es : List AV) : (AV.sl f es).pure0 = true := rfl
theorem pure0_cptr (es : List AV) : (AV.cptr es).pure0 = true := rfl
theorem pure0_fn (f : FuncId) (cs : List AV) : (AV.fn f cs).pure0 = pureL cs := rfl
attribute [go_sem] pureL_nil pureL_cons pure0_val pure0_sl pure0_cptr pure0_fn
attribute [go_sem ↓] frzC_fn frzA_fn
/-- Of some slots what is known of them. -/
def kept (ks : List Nat) (l : List (Nat × AV)) : List (Nat × AV) := ks.map fun k => (k, look l k)
theorem kept_nil (l : List (Nat × AV)) : kept [] l = [] := rfl
theorem kept_cons (k : Nat) (ks : List Nat) (l : List (Nat × AV)) : kept (k :: ks) l = (k, look l k) :: kept ks l := rfl
attribute [go_sem] kept_nil kept_cons List.cons_append List.nil_append
/-- A loop: V: the slots that it changes, ks: those that it leaves alone, H: the boxes; I: what holds ahead of each round; m: how many rounds there may be. -/
theorem CodeT.whileS {P : Program} {rd : Option Nat} {c : Code} {t : Tm} {h : List Box} {d : List AD} {Φ : AX → St → Prop} {σ : Type} (V : σ → List (Nat × AV)) (ks : List Nat) (H : σ → List Box) (I : σ → Prop) (m : σ → Nat) (x0 : σ)
    (h0 : I x0) (hl : (H x0).length = h.length) (hw : Weaker ⟨t, h, d⟩ ⟨⟨t.n, V x0 ++ kept ks t.l⟩, H x0, d⟩)
    (round : ∀ x, I x → CodeT P rd c ⟨⟨t.n, V x ++ kept ks t.l⟩, H x, d⟩ (AX.thn (fun s' => ∃ y, I y ∧ m y < m x ∧ (H x).length ≤ (H y).length ∧ Weaker s' ⟨⟨t.n, V y ++ kept ks t.l⟩, H y, d⟩) Φ)) : CodeT P rd (.loop c) ⟨t, h, d⟩ Φ := by
  refine CodeT.weak hw hl ?_
  refine CodeT.loop (fun n s => ∃ x, I x ∧ n = m x ∧ s = ⟨⟨t.n, V x ++ kept ks t.l⟩, H x, d⟩) (n := m x0) ⟨x0, h0, rfl, rfl⟩ ?_
  rintro n s ⟨x, hx, rfl, rfl⟩
  refine CodeT.lessN (CodeT.mono (round x hx) ?_)
  intro x' s' hx'
  cases x' <;> try exact hx'
  obtain ⟨y, h1, h2, h3, h4⟩ := hx'
  exact ⟨_, h4, h3, m y, h2, y, h1, rfl, rfl⟩

/-- Two pieces of code, behind which no more is asked for than what was known of some slots, and the boxes. -/
theorem CodeT.joinAt {P : Program} {rd : Option Nat} {r c y : Code} {t : Tm} {h : List Box} {d : List AD} {Φ : AX → St → Prop} (ks : List Nat)
    (h1 : CodeT P rd r ⟨t, h, d⟩ (AX.thn (fun s1 => CodeT P rd c s1 (AX.thn (fun s' => Weaker s' ⟨⟨t.n, kept ks t.l⟩, h, d⟩) Φ)) Φ)) (h2 : CodeT P rd y ⟨⟨t.n, kept ks t.l⟩, h, d⟩ Φ) : CodeT P rd (.seq r (.seq c y)) ⟨t, h, d⟩ Φ := by
  intro F M hb a ro hs hr
  refine wpIn_seq (wpIn_mono (h1 F M hb a ro hs hr) ?_)
  rintro e a' w' ⟨x', s1, M1, hb1, k, r1, rfl, r3, r4, r5⟩
  cases x' <;> cases e <;> try exact r1.elim
  · refine wpIn_seq (wpIn_mono (k F M1 hb1 a' ro r3 (hr.mono r5)) ?_)
    rintro e a' w' ⟨x', s2, M2, hb2, k, q1, rfl, q3, q4, q5⟩
    cases x' <;> cases e <;> try exact q1.elim
    · have hle : HBLe hb (hb2.take h.length) := (r5.trans q5).take (by rw [hs.hp.len]; exact Nat.le_refl _)
      exact wpIn_mono (h2 F M2 _ a' ro (q3.weak k) (hr.mono hle)) fun _ _ _ hq => hq.trans (r4.trans q4) hle
    all_goals exact ⟨_, s2, M2, hb2, k, q1, rfl, q3, r4.trans q4, r5.trans q5⟩
  all_goals exact ⟨_, s1, M1, hb1, k, r1, rfl, r3, r4, r5⟩

theorem CodeT.joinAs {P : Program} {rd : Option Nat} {x y : Code} {t : Tm} {h : List Box} {d : List AD} {Φ : AX → St → Prop} (ks : List Nat)
    (h1 : CodeT P rd x ⟨t, h, d⟩ (AX.thn (fun s' => Weaker s' ⟨⟨t.n, kept ks t.l⟩, h, d⟩) Φ)) (h2 : CodeT P rd y ⟨⟨t.n, kept ks t.l⟩, h, d⟩ Φ) : CodeT P rd (.seq x y) ⟨t, h, d⟩ Φ := by
  intro F M hb a ro hs hr
  refine wpIn_seq (wpIn_mono (h1 F M hb a ro hs hr) ?_)
  rintro e a' w' ⟨x', s2, M2, hb2, k, q1, rfl, q3, q4, q5⟩
  cases x' <;> cases e <;> try exact q1.elim
  · have hle : HBLe hb (hb2.take h.length) := q5.take (by rw [hs.hp.len]; exact Nat.le_refl _)
    exact wpIn_mono (h2 F M2 _ a' ro (q3.weak k) (hr.mono hle)) fun _ _ _ hq => hq.trans q4 hle
  all_goals exact ⟨_, s2, M2, hb2, k, q1, rfl, q3, q4, q5⟩

/-- Behind some code: V: slots that it has changed, ks: those that it leaves alone, H: the boxes; I: what holds. -/
theorem CodeT.cutS {P : Program} {rd : Option Nat} {x z : Code} {t : Tm} {h : List Box} {d : List AD} {Φ : AX → St → Prop} {σ : Type} (V : σ → List (Nat × AV)) (ks : List Nat) (H : σ → List Box) (I : σ → Prop)
    (h1 : CodeT P rd x ⟨t, h, d⟩ (AX.thn (fun s' => ∃ y, I y ∧ h.length ≤ (H y).length ∧ Weaker s' ⟨⟨t.n, V y ++ kept ks t.l⟩, H y, d⟩) Φ))
    (h2 : ∀ y, I y → CodeT P rd z ⟨⟨t.n, V y ++ kept ks t.l⟩, H y, d⟩ Φ) : CodeT P rd (.seq x z) ⟨t, h, d⟩ Φ := by
  refine CodeT.seqK fun K hK => CodeT.lessN (CodeT.mono h1 ?_)
  intro x' s' hx'
  cases x' <;> try exact hx'
  obtain ⟨y, h3, h4, h5⟩ := hx'
  exact ⟨_, h5, h4, hK _ (h2 y h3)⟩

/-- A pure call, and what is known of its result. -/
theorem PureT.eq {P : Program} {f : FuncId} {args : List AV} {v : AV} {t : Tm} {h : List Box} {d : List AD} {dst : Option Tmp} {K : St → Prop} {Φ : AX → St → Prop} (hc : PureT P f args (· = v)) (hp : args.all AV.pure = true) (hk : K ⟨t.putO dst v, h, d⟩) :
    CallT P f args h (callK ⟨t, h, d⟩ dst K Φ) := PureT.go hc hp fun x hx => by subst hx; exact hk
/-- A call of one outcome. -/
theorem CallY.go {P : Program} {f : FuncId} {args : List AV} {h h' : List Box} {v : AV} {K : AV → List Box → Prop} (hc : CallT P f args h (fun r h'' => r = .ret v ∧ h'' = h')) (hk : K v h') : CallY P f args h K := ⟨v, h', hc, hk⟩
theorem CallT.eq {P : Program} {f : FuncId} {args : List AV} {h h' : List Box} {v : AV} {t : Tm} {d : List AD} {dst : Option Tmp} {K : St → Prop} {Φ : AX → St → Prop} (hc : CallT P f args h (fun r h'' => r = .ret v ∧ h'' = h')) (hk : K ⟨t.putO dst v, h', d⟩) : CallT P f args h (callK ⟨t, h, d⟩ dst K Φ) := hc.mono fun r h'' ⟨e1, e2⟩ => by subst e1 e2; exact hk
/-- The end of a pure function. -/
theorem pureEnd {x y : AV} (hp : x.pure = true) (h : x = y) : (AE.ret x).val.pure = true ∧ ∃ z, AE.ret x = .ret z ∧ z = y := ⟨hp, x, rfl, h⟩
theorem ofDec {p : Prop} [Decidable p] (h : decide p = true) : p := of_decide_eq_true h
theorem ofDecF {p : Prop} [Decidable p] (h : decide p = false) : ¬ p := of_decide_eq_false h
theorem ofBeq {a b : Int} (h : (a == b) = true) : a = b := by simpa using h
theorem ofBeqF {a b : Int} (h : (a == b) = false) : a ≠ b := by simpa using h
theorem ofBne {a b : Int} (h : (a != b) = true) : a ≠ b := by simpa using h
theorem ofBneF {a b : Int} (h : (a != b) = false) : a = b := by simpa using h
end Go.PM
namespace Go.PM
variable [Globals]
theorem Stable.cons {b b' : Box} {h h' : List Box} (hb : ∀ cs, b = .cells cs → b' = .cells cs) (hs : Stable h h') : Stable (b :: h) (b' :: h') := fun i cs hi => by
  cases i with
  | zero => simp at hi ⊢; exact hb cs hi
  | succ i => simp at hi ⊢; exact hs i cs hi
theorem Stable.row {a a' : Bool} {b b' c c' : Nat} {d d' : List AV} {h h' : List Box} (hs : Stable h h') : Stable (.row a b c d :: h) (.row a' b' c' d' :: h') := Stable.cons (fun _ h => by cases h) hs
theorem Stable.same {b : Box} {h h' : List Box} (hs : Stable h h') : Stable (b :: h) (b :: h') := Stable.cons (fun _ h => h) hs
theorem Stable.nil (h : List Box) : Stable [] h := fun i cs hi => by simp at hi
end Go.PM

namespace Go.PM
set_option linter.unusedSectionVars false
variable [Globals]

/-- A type that is no interface. -/
def nonIface (P : Program) (t : TypeId) : Bool := match P.underlying t with
  | some (.interface _) => false
  | some _ => true
  | none => false

/-- Operations of a region in which something is deferred, or an interface's value asked for its type. -/
def opAD (P : Program) (o : Oper) (s : St) (K : St → Prop) (Φ : AX → St → Prop) : Prop :=
  match o.op with
  | .defer c => match c.callee with
    | .value f => match s.ev f with
      | .fn g caps => K ⟨s.t.putO o.dst (.tup []), s.h, .call g (c.args.toList.map s.ev) caps :: s.d⟩
      | _ => False
    | _ => False
  | .typeAssert x _ asserted ok => match s.ev x with
    | .iface t y => t = asserted ∧ ok = true ∧ nonIface P asserted = true ∧ K (s.put o.dst (.tup [y, .val (.bool true)]))
    | _ => False
  | _ => opA P o s K Φ

def OpsAD (P : Program) (Φ : AX → St → Prop) : List Oper → St → Prop
  | [], s => Φ .normal s
  | o :: rest, s => o.guard = none ∧ opAD P o s (OpsAD P Φ rest) Φ

theorem opAD_sound {P : Program} {F : Nat → Prop} {M : Mem} {hb : List HB} {s : St} {a : Act} (hs : SRel F M hb s a) {o : Oper} {K : St → Prop} {Φ : AX → St → Prop} (hk : opAD P o s K Φ)
    {next : Act → World → Prop} {Q : Exit → Act → World → Prop}
    (hnext : ∀ (s' : St) (M' : Mem) (hb' : List HB) (a' : Act), K s' → SRel F M' hb' s' a' → Gu F M M' → HBLe hb hb' → next a' M'.w)
    (hQ : ∀ (x : AV) (v : Value) (s' : St) (M' : Mem) (hb' : List HB), Φ (.panic x) s' → VRel M' hb' x v → SRel F M' hb' s' a → Gu F M M' → HBLe hb hb' → Q (.panic [{ v, recovered := false }]) a M'.w) :
    o.wpIn (fenceAt none) 0 P a M.w next Q := by
  unfold opAD at hk
  split at hk
  · rename_i c hop
    refine ⟨fun _ _ => trivial, ?_⟩
    split at hk
    · rename_i f hcal
      split at hk
      · rename_i g caps hff
        have hf := hs.ev f
        rw [hff] at hf
        generalize hv : a.eval f = v at hf
        cases hf with
        | @fn _ _ _ us h1 h2 =>
          have hargs := ListRel.evs hs c.args
          show o.uponIn _ _ _ _ _ _ ((execOp a.eval o).run P M.w)
          simp only [execOp, hop, resolve, hcal, hv, Deferred.ofValue, Sem.run_bind, Sem.run_pure, Result.andThen_ok]
          rw [Oper.uponIn_defer]
          have hdr : DRel M hb (.call g (c.args.toList.map s.ev) caps) { target := .fn (.func g) us, args := #[] ++ c.args.map a.eval } :=
            ⟨_, us, rfl, by rw [Array.empty_append]; exact hargs, h1, h2⟩
          have hs1 : SRel F M hb ⟨s.t, s.h, .call g (c.args.toList.map s.ev) caps :: s.d⟩ { a with defers := { target := .fn (.func g) us, args := #[] ++ c.args.map a.eval } :: a.defers } :=
            ⟨hs.tm, ⟨hdr, hs.df⟩, hs.hp, hs.ok⟩
          exact hnext _ M hb _ hk (hs1.put o.dst relUndef) (.refl _ _) (.refl _)
      · exact hk.elim
    · exact hk.elim
  · rename_i x xt asserted ok hop
    refine ⟨fun _ _ => trivial, ?_⟩
    split at hk
    · rename_i t y hxx
      obtain ⟨rfl, rfl, hn, hk⟩ := hk
      have hx := hs.ev x
      rw [hxx] at hx
      generalize hv : a.eval x = v at hx
      cases hx with
      | iface hx =>
        rename_i v
        rw [Oper.semAt_eq _ _ _ (fun c => by rw [hop]; intro h; cases h)]
        have hrun : (Instr.typeAssert (.iface t v) xt t true).run P M.w = .ok (.tuple #[v, .bool true]) M.w := by
          unfold nonIface at hn
          unfold Instr.typeAssert
          cases hu : P.underlying t with
          | none => rw [hu] at hn; cases hn
          | some d => cases d <;> rw [hu] at hn <;> first | (cases hn; done) | simp [underlying, hu]
        simp only [execOp, hop, hv, Sem.run_bind, hrun, Result.andThen_ok, Sem.run_pure]
        rw [Oper.uponIn_value]
        refine hnext _ M hb _ hk (hs.put o.dst (.tup rfl fun i c hc => ?_)) (.refl _ _) (.refl _)
        match i, hc with
        | 0, hc => simp at hc; subst hc; exact hx
        | 1, hc => simp at hc; subst hc; exact .val rfl
        | i + 2, hc => simp at hc
    · exact hk.elim
  · exact opA_sound none hs hk hnext hQ

theorem OpsAD_sound {P : Program} {F : Nat → Prop} {ops : Array Oper} {Φ : AX → St → Prop} : ∀ (k i : Nat), i + k = ops.size → ∀ (M0 : Mem) (hb0 : List HB) (M : Mem) (hb : List HB) (s : St) (a : Act), Gu F M0 M → HBLe hb0 hb → SRel F M hb s a → OpsAD P Φ (ops.toList.drop i) s →
    wpOpsIn (fenceAt none) 0 P ops (Conc F M0 hb0 Φ) (List.range' i k) a M.w := by
  intro k
  induction k with
  | zero =>
    intro i hi M0 hb0 M hb s a hG hH hs hk
    rw [List.drop_eq_nil_of_le (by simp; omega)] at hk
    exact ⟨.normal, s, M, hb, hk, trivial, rfl, hs, hG, hH⟩
  | succ k ih =>
    intro i hi M0 hb0 M hb s a hG hH hs hk
    have hlt : i < ops.size := by omega
    have hdrop : ops.toList.drop i = ops[i] :: ops.toList.drop (i + 1) := by
      rw [List.drop_eq_getElem_cons (by simpa using hlt)]
      simp
    rw [hdrop] at hk
    obtain ⟨hg, hk⟩ := hk
    rw [List.range'_succ]
    simp only [wpOpsIn, Array.getElem?_eq_getElem hlt, Region.wanted, hg, if_true]
    exact opAD_sound hs hk (fun s' M' hb' a' k1 k2 k3 k4 => ih (i + 1) (by omega) M0 hb0 M' hb' s' a' (hG.trans k3) (hH.trans k4) k2 k1)
      (fun x v s' M' hb' k1 k2 k3 k4 k5 => ⟨.panic x, s', M', hb', k1, ⟨v, rfl, k2⟩, rfl, k3, hG.trans k4, hH.trans k5⟩)
theorem CodeT.regionAD {P : Program} {s : St} {Φ : AX → St → Prop} {id : Nat} {ops : Array Oper} (h : OpsAD P Φ ops.toList s) : CodeT P none (.region id ops false) s Φ := by
  intro F M hb a ro hs hr
  cases ro with
  | some r => exact hr.elim
  | none =>
    refine wpIn_region ?_
    have := OpsAD_sound (P := P) (F := F) (ops := ops) (Φ := Φ) ops.size 0 (by omega) M hb M hb s a (.refl _ _) (.refl _) hs (by simpa using h)
    rwa [List.range_eq_range']
theorem CodeT.seqAD {P : Program} {s : St} {Φ : AX → St → Prop} {id : Nat} {ops : Array Oper} {y : Code} (h : OpsAD P (AX.thn (fun s1 => CodeT P none y s1 Φ) Φ) ops.toList s) : CodeT P none (.seq (.region id ops false) y) s Φ := CodeT.seq (CodeT.regionAD h)

/-! ### What recovers -/
/-- What must hold where a deferred function ends. -/
def defPost (K : Option AV → List Box → Prop) : AX → St → Prop
  | .normal, s | .ret, s => s.d = [] ∧ K none s.h
  | _, _ => False
/-- What recover hands over. -/
def recovered : Option AV → AV
  | none => .val .nilIface
  | some x => x

theorem DefT.recover {P : Program} {f : FuncId} {fn : Func} {id : Nat} {d : Option Tmp} {ts : Array TypeId} {ty : TypeId} {pos : String} {after : Array Edge} {rest : Code} {args : List AV} {pan : Option AV} {h : List Box} {K : Option AV → List Box → Prop}
    (hf : P.funcs[f]? = some fn) (hn : fn.name ≠ "runtime.NumGoroutine") (hres : fn.results = #[])
    (hb : fn.body = some (.seq (.region id #[⟨d, .call ⟨.builtin .recover, #[], ts⟩, ty, pos, after, none⟩] false) rest))
    (hc : CodeT P none rest ⟨(enterTm fn.ntmps args).putO d (recovered pan), h, []⟩ (defPost K)) : DefT P f args pan h K := by
  intro F M hb0 vs pv H ok hv hp
  refine ⟨⟨fn, hf, hn, by rw [hb]; rfl⟩, callsDIn_of_wpSIn hf hb trivial fun c₀ cs hm => ?_⟩
  let a0 : Act := { tmps := vs ++ Array.replicate (fn.ntmps - vs.size) undef, defers := [] }
  have hs0 : SRel F M hb0 ⟨enterTm fn.ntmps args, h, []⟩ a0 := ⟨enterTm_rel hv _, trivial, H, ok⟩
  have hex : ∀ o : Oper, o.op = .call ⟨.builtin .recover, #[], ts⟩ → (execOp a0.eval o).run P M.w = .ok .recover M.w := by
    intro o ho
    simp only [execOp, ho, resolve, Sem.run_bind, Sem.run_pure, Result.andThen_ok]
    rfl
  -- behind recover: u': the mode of the frame below
  have key : ∀ (v : Value) (cs' : List Frame) (u' : FrameMode), VRel M hb0 (recovered pan) v → cs' = { c₀ with mode := u' } :: cs → settle u' = .returning →
      rest.wpSIn Fence.wide 0 P (bodyPostS P fn c₀ cs (fun e u' w' => ∃ v, e = .returned v ∧ ∃ (pan' : Option AV) (pv' : Option Value) (h' : List Box) (M' : Mem) (hb' : List HB),
        K pan' h' ∧ panRel M' hb' pan' pv' ∧ settle u' = modeOf pv' ∧ M'.w = w' ∧ HRel F M' hb' h' ∧ MOk F M' ∧ Gu F M M' ∧ HBLe hb0 hb')) (a0.put d v) cs' M.w := by
    intro v cs' u' hvr hcs hu
    refine wpSIn_of_wpIn rfl ?_
    have := hc F M hb0 (a0.put d v) none (hs0.put d hvr) trivial
    refine wpIn_mono this ?_
    rintro e a w ⟨x, s', M', hb', k1, k2, rfl, k4, k5, k6⟩
    have hres' : ∀ w, (results fn a.tmps).run P w = .ok (.tuple #[]) w := by
      intro w
      unfold results
      rw [hres]
      simp
    cases x <;> cases e <;> try (first | exact k2.elim | exact k1.elim)
    · obtain ⟨q1, q2⟩ := k1
      have hd := k4.df
      rw [q1] at hd
      have hd0 : a.defers = [] := by
        cases ha : a.defers with
        | nil => rfl
        | cons x l => rw [ha] at hd; exact hd.elim
      exact ⟨hd0, u', hcs, _, hres' _, _, rfl, none, none, s'.h, M', hb', q2, trivial, hu, rfl, k4.hp, k4.ok, k5, k6⟩
    · obtain ⟨q1, q2⟩ := k1
      have hd := k4.df
      rw [q1] at hd
      have hd0 : a.defers = [] := by
        cases ha : a.defers with
        | nil => rfl
        | cons x l => rw [ha] at hd; exact hd.elim
      exact ⟨hd0, u', hcs, _, hres' _, _, rfl, none, none, s'.h, M', hb', q2, trivial, hu, rfl, k4.hp, k4.ok, k5, k6⟩
  refine wpSIn_seq (wpSIn_region ?_)
  show wpOpsSIn _ _ _ _ _ [0] _ _ _
  simp only [wpOpsSIn]
  refine ⟨fun _ _ => trivial, ?_⟩
  simp only [Region.wanted, if_true]
  rw [hex _ rfl]
  cases hpan : pan with
  | none =>
    rw [hpan] at hp key
    cases pv with
    | some v => exact hp.elim
    | none =>
      have hrec : recoverD (c₀ :: cs) = none := by
        simp only [recoverD, hm, modeOf]
      simp only [hrec]
      exact key .nilIface (c₀ :: cs) .returning (.val rfl) (by rw [show ({ c₀ with mode := .returning } : Frame) = c₀ by rw [show FrameMode.returning = c₀.mode from hm.symm]]) rfl
  | some x =>
    rw [hpan] at hp key
    cases pv with
    | none => exact hp.elim
    | some v =>
      have hrec : recoverD (c₀ :: cs) = some (v, { c₀ with mode := .panicking [{ v, recovered := true }] } :: cs) := by
        simp only [recoverD, hm, modeOf]
      simp only [hrec]
      exact key v _ (.panicking [{ v, recovered := true }]) hp rfl rfl

/-! ### What is rewritten -/
section
variable (P : Program) (Φ : AX → St → Prop) (dst : Option Tmp) (ty : TypeId) (pos : String) (after : Array Edge) (rest : List Oper) (s : St) (K : St → Prop) (g : Option (Nat × Bool))
theorem OpsAD_nil : OpsAD P Φ [] s = Φ .normal s := rfl
theorem OpsAD_cons (op : Op) : OpsAD P Φ (⟨dst, op, ty, pos, after, none⟩ :: rest) s = opAD P ⟨dst, op, ty, pos, after, none⟩ s (OpsAD P Φ rest) Φ := by simp [OpsAD]
theorem opAD_defer (x : Operand) (args : Array Operand) (ts : Array TypeId) : opAD P ⟨dst, .defer ⟨.value x, args, ts⟩, ty, pos, after, g⟩ s K Φ = match s.ev x with
  | .fn g caps => K ⟨s.t.putO dst (.tup []), s.h, .call g (args.toList.map s.ev) caps :: s.d⟩
  | _ => False := rfl
theorem opAD_assert (x : Operand) (xt t1 : TypeId) (ok : Bool) : opAD P ⟨dst, .typeAssert x xt t1 ok, ty, pos, after, g⟩ s K Φ = match s.ev x with
  | .iface t y => t = t1 ∧ ok = true ∧ nonIface P t1 = true ∧ K (s.put dst (.tup [y, .val (.bool true)]))
  | _ => False := rfl
theorem opAD_makeFunc (f : Fn) (a b : Array Operand) : opAD P ⟨dst, .makeFunc f a b, ty, pos, after, g⟩ s K Φ = opA P ⟨dst, .makeFunc f a b, ty, pos, after, g⟩ s K Φ := rfl
theorem opAD_extract (x : Operand) (i : Nat) : opAD P ⟨dst, .extract x i, ty, pos, after, g⟩ s K Φ = opA P ⟨dst, .extract x i, ty, pos, after, g⟩ s K Φ := rfl
theorem opAD_move (x : Operand) : opAD P ⟨dst, .move x, ty, pos, after, g⟩ s K Φ = opA P ⟨dst, .move x, ty, pos, after, g⟩ s K Φ := rfl
theorem opAD_assign (x : Operand) : opAD P ⟨dst, .assign x, ty, pos, after, g⟩ s K Φ = opA P ⟨dst, .assign x, ty, pos, after, g⟩ s K Φ := rfl
theorem opAD_load (t1 : TypeId) (x : Operand) : opAD P ⟨dst, .load t1 x, ty, pos, after, g⟩ s K Φ = opA P ⟨dst, .load t1 x, ty, pos, after, g⟩ s K Φ := rfl
theorem opAD_store (t1 : TypeId) (x y : Operand) : opAD P ⟨dst, .store t1 x y, ty, pos, after, g⟩ s K Φ = opA P ⟨dst, .store t1 x y, ty, pos, after, g⟩ s K Φ := rfl
theorem opAD_alloc (t1 : TypeId) : opAD P ⟨dst, .alloc t1, ty, pos, after, g⟩ s K Φ = opA P ⟨dst, .alloc t1, ty, pos, after, g⟩ s K Φ := rfl
theorem opAD_binOp (op : BinOp) (t1 t2 : TypeId) (x y : Operand) : opAD P ⟨dst, .binOp op t1 x y t2, ty, pos, after, g⟩ s K Φ = opA P ⟨dst, .binOp op t1 x y t2, ty, pos, after, g⟩ s K Φ := rfl
end
theorem opA_makeInterface' (P : Program) (Φ : AX → St → Prop) (dst : Option Tmp) (ty : TypeId) (pos : String) (after : Array Edge) (s : St) (K : St → Prop) (g : Option (Nat × Bool)) (t : TypeId) (x : Operand) : opA P ⟨dst, .makeInterface t x, ty, pos, after, g⟩ s K Φ = (nonIface P t = true ∧ K (s.put dst (.iface t (s.ev x)))) := by
  have e : opA P ⟨dst, .makeInterface t x, ty, pos, after, g⟩ s K Φ = opQ P s (.makeInterface t x) (fun v => K (s.put dst v)) := rfl
  rw [e]
  unfold opQ nonIface
  simp only
  cases hu : P.underlying t with
  | none => simp
  | some d => cases d <;> simp
theorem leaveA_call (P : Program) (rs : List ResultVar) (t : Tm) (R : AE → List Box → Prop) (pan : Option AV) (f : FuncId) (args caps : List AV) (ds : List AD) (h : List Box) : leaveA P rs t R pan (.call f args caps :: ds) h = DefT P f (args ++ caps) pan h (fun pan' h' => leaveA P rs t R pan' ds h') := rfl
theorem inB_panic (id : Nat) (Φ : AX → St → Prop) (x : AV) (s : St) : AX.inB id Φ (.panic x) s = Φ (.panic x) s := rfl
theorem defPost_normal (K : Option AV → List Box → Prop) (s : St) : defPost K .normal s = (s.d = [] ∧ K none s.h) := rfl
theorem defPost_ret (K : Option AV → List Box → Prop) (s : St) : defPost K .ret s = (s.d = [] ∧ K none s.h) := rfl
theorem recovered_none : recovered none = .val .nilIface := rfl
theorem recovered_some (x : AV) : recovered (some x) = x := rfl
@[congr] theorem DefT_congr {P : Program} {f : FuncId} {args args' : List AV} {pan pan' : Option AV} {h h' : List Box} {K : Option AV → List Box → Prop} (h1 : args = args') (h2 : pan = pan') (h3 : h = h') : DefT P f args pan h K = DefT P f args' pan' h' K := by rw [h1, h2, h3]
attribute [go_sem ↓] opA_makeInterface' OpsAD_nil OpsAD_cons opAD_defer opAD_assert opAD_makeFunc opAD_extract opAD_move opAD_assign opAD_load opAD_store opAD_alloc opAD_binOp leaveA_call inB_panic defPost_normal defPost_ret
attribute [go_sem] recovered_none recovered_some nonIface

theorem CallT.boom {P : Program} {f : FuncId} {args : List AV} {h h2 : List Box} {x : AV} {t : Tm} {d : List AD} {dst : Option Tmp} {K : St → Prop} {Φ : AX → St → Prop} (hc : CallT P f args h (fun r h'' => r = .panic x ∧ h'' = h2)) (hk : Φ (.panic x) ⟨t, h2, d⟩) : CallT P f args h (callK ⟨t, h, d⟩ dst K Φ) := hc.mono fun r h'' ⟨e1, e2⟩ => by subst e1 e2; exact hk
/-- A call of one outcome, or one panic. -/
def CallI (P : Program) (f : FuncId) (args : List AV) (h : List Box) (c : Bool) (v : AV) (h1 : List Box) (x : AV) (h2 : List Box) : Prop :=
  (c = true → CallT P f args h (fun r h' => r = .ret v ∧ h' = h1)) ∧ (c = false → CallT P f args h (fun r h' => r = .panic x ∧ h' = h2))
theorem CallI.go {P : Program} {f : FuncId} {args : List AV} {h : List Box} {c : Bool} {v : AV} {h1 : List Box} {x : AV} {h2 : List Box} {t : Tm} {d : List AD} {dst : Option Tmp} {K : St → Prop} {Φ : AX → St → Prop}
    (hc : CallI P f args h c v h1 x h2) (k1 : c = true → K ⟨t.putO dst v, h1, d⟩) (k2 : c = false → Φ (.panic x) ⟨t, h2, d⟩) : CallT P f args h (callK ⟨t, h, d⟩ dst K Φ) := by
  cases hcc : c with
  | true => exact (hc.1 hcc).mono fun r h' ⟨e1, e2⟩ => by subst e1 e2; exact k1 hcc
  | false => exact (hc.2 hcc).mono fun r h' ⟨e1, e2⟩ => by subst e1 e2; exact k2 hcc
theorem CallI.mk {P : Program} {f : FuncId} {args : List AV} {h : List Box} {c : Bool} {v : AV} {h1 : List Box} {x : AV} {h2 : List Box}
    (hc : CallT P f args h (fun r h' => (c = true ∧ r = .ret v ∧ h' = h1) ∨ (c = false ∧ r = .panic x ∧ h' = h2))) : CallI P f args h c v h1 x h2 := by
  refine ⟨fun e => hc.mono ?_, fun e => hc.mono ?_⟩
  · rintro r h' (hh | hh)
    · exact hh.2
    · rw [e] at hh; cases hh.1
  · rintro r h' (hh | hh)
    · rw [e] at hh; cases hh.1
    · exact hh.2
/-- Beside other boxes. -/
theorem CallI.pre {P : Program} {f : FuncId} {args : List AV} {h : List Box} {c : Bool} {v : AV} {h1 : List Box} {x : AV} {h2 : List Box} (hc : CallI P f args h c v h1 x h2) (ext : List Box) (hu : allUnder h) (ha : underL h.length args = true) (e1 : h1.length = h.length) (e2 : h2.length = h.length) : CallI P f args (h ++ ext) c v (h1 ++ ext) x (h2 ++ ext) :=
  ⟨fun e => (CallT.pre ext hu ha (fun r h' hh => by rw [hh.2]; exact e1) (hc.1 e)).mono fun r h' ⟨h0, ⟨q1, q2⟩, q3⟩ => ⟨q1, by rw [q3, q2]⟩,
   fun e => (CallT.pre ext hu ha (fun r h' hh => by rw [hh.2]; exact e2) (hc.2 e)).mono fun r h' ⟨h0, ⟨q1, q2⟩, q3⟩ => ⟨q1, by rw [q3, q2]⟩⟩
end Go.PM

namespace Go.PM
set_option linter.unusedSectionVars false
variable [Globals]
theorem CodeT.freezeCell {P : Program} {rd : Option Nat} {c : Code} {s : St} {Φ : AX → St → Prop} (id j r : Nat) {cs : List AV} {mt : Bool} {ver sz off len : Nat} {es : List AV} (hh : s.h[id]? = some (.cells cs)) (hx : cs[j]? = some (.hsl r ver off len)) (hr : s.h[r]? = some (.row mt ver sz es)) (hl : off + len ≤ es.length)
    (h : CodeT P rd c ⟨s.t, (s.h.set r (.row false ver sz es)).set id (.cells (cs.set j (.sl false ((es.take (off + len)).drop off)))), s.d⟩ Φ) : CodeT P rd c s Φ := by
  intro F M hb a ro hs hrd
  have H := hs.hp
  obtain ⟨e, he⟩ : ∃ e, hb[id]? = some e := by
    have : id < hb.length := by rw [H.len]; exact (List.getElem?_eq_some_iff.1 hh).1
    exact ⟨_, List.getElem?_eq_getElem this⟩
  obtain ⟨q1, q2, ca, q3, q4⟩ := H.box id _ e hh he
  have hk : frz0 s.h (.hsl r ver off len) (fun x h' => x = .sl false ((es.take (off + len)).drop off) ∧ h' = s.h.set r (.row false ver sz es)) := by
    rw [frz0_hsl, hr]
    exact ⟨rfl, hl, rfl, rfl⟩
  obtain ⟨x, h', M', ⟨rfl, rfl⟩, k2, k3, k4, k5, k6, -⟩ := frz0_sound H hs.ok (q4.2 j _ hx).2 hk
  have hne : r ≠ id := fun hri => by rw [hri, hh] at hr; cases hr
  have hpre : (s.h.set r (.row false ver sz es))[id]? = some (.cells cs) := by rw [List.getElem?_set_ne hne]; exact hh
  obtain ⟨p1, p2, cb, p3, p4⟩ := k4.box id _ e hpre he
  have hu := k4.update (M' := M') (b' := .cells (cs.set j (.sl false ((es.take (off + len)).drop off)))) (e' := e) hpre he (.refl M') (Nat.le_refl _) (HBLe.set he (Nat.le_refl _) rfl (fun _ => rfl) (fun _ => rfl)) (fun _ _ _ => ⟨rfl, rfl⟩)
    ⟨p1, p2, cb, p3, by rw [List.length_set]; exact p4.1, fun k y hy => by
      rw [set_self he]
      by_cases hkj : j = k
      · subst hkj
        have hjl := (List.getElem?_eq_some_iff.1 hx).1
        simp [hjl] at hy
        subst hy
        refine ⟨rfl, ?_⟩
        obtain ⟨ta, q3⟩ := q3
        obtain ⟨tb, p3⟩ := p3
        rw [k2, q3] at p3
        obtain rfl : ca = cb := by injection p3 with p3; injection p3
        exact k3.pure (hb := hb)
      · rw [List.getElem?_set_ne hkj] at hy
        exact p4.2 k y hy⟩ (fun _ => .inl ⟨rfl, rfl⟩)
  rw [set_self he] at hu
  have := h F M' hb a ro ⟨hs.tm.mono k6.le (.refl _), hs.df.mono k6.le (.refl _), hu, k5⟩ hrd
  rw [k2] at this
  exact wpIn_mono this fun _ _ _ hq => hq.trans k6 (.refl _)
/-- Of a variable's slice less is told. -/
theorem CodeT.laxCell {P : Program} {rd : Option Nat} {c : Code} {s : St} {Φ : AX → St → Prop} (id j : Nat) {cs : List AV} {x : AV} (hh : s.h[id]? = some (.cells cs)) (hx : cs[j]? = some x) (h1 : x.lax.single = true)
    (h : CodeT P rd c ⟨s.t, s.h.set id (.cells (cs.set j x.lax)), s.d⟩ Φ) : CodeT P rd c s Φ := by
  intro F M hb a ro hs hr
  exact h F M hb a ro ⟨hs.tm, hs.df, cells_retell hs.hp hh hx h1 (fun v hv => hv.lax), hs.ok⟩ hr
end Go.PM

namespace Go.PM
set_option linter.unusedSectionVars false
variable [Globals]

/-- Schedules: take one, or another. -/
inductive Sch where
  | done
  | fail
  | alt (i : Nat) (next other : Sch)
def Sch.firsts : Sch → List Nat
  | .alt i _ o => i :: o.firsts
  | _ => []
def Sch.ok (ops : Array Oper) : Sch → Bool → Array Bool → Bool
  | .done, _, listed => Region.ready .any ops listed == []
  | .fail, top, _ => !top
  | .alt i n o, top, listed => (!top || Region.ready .any ops listed == i :: o.firsts) && n.ok ops true (listed.setIfInBounds i true) && o.ok ops false listed
def stepT (P : Program) (ops : Array Oper) (i : Nat) (s : St) (K : St → Prop) (Φ : AX → St → Prop) : Prop := atOp ops i (fun o => o.guard = none ∧ opA P o s K Φ)
def TreeA (P : Program) (ops : Array Oper) (Φ : AX → St → Prop) : Sch → St → Prop
  | .done, s => Φ .normal s
  | .fail, _ => True
  | .alt i n o, s => stepT P ops i s (TreeA P ops Φ n) Φ ∧ TreeA P ops Φ o s

theorem tree_pick {P : Program} {ops : Array Oper} {Φ : AX → St → Prop} {listed : Array Bool} {s : St} {i : Nat} : ∀ (t : Sch) (top : Bool), i ∈ t.firsts → t.ok ops top listed = true → TreeA P ops Φ t s → ∃ n : Sch, n.ok ops true (listed.setIfInBounds i true) = true ∧ stepT P ops i s (TreeA P ops Φ n) Φ
  | .done, _, h, _, _ => by cases h
  | .fail, _, h, _, _ => by cases h
  | .alt j n o, top, h, hok, hk => by
    simp only [Sch.ok, Bool.and_eq_true] at hok
    obtain ⟨⟨_, h1⟩, h2⟩ := hok
    simp only [Sch.firsts, List.mem_cons] at h
    rcases h with rfl | h
    · exact ⟨n, h1, hk.1⟩
    · exact tree_pick o false h h2 hk.2

theorem tree_sound {P : Program} {F : Nat → Prop} {M0 : Mem} {hb0 : List HB} {ops : Array Oper} {Φ : AX → St → Prop} (ro : Option Nat) :
    ∀ (k : Nat) (t : Sch) (listed : Array Bool) (M : Mem) (hb : List HB) (s : St) (a : Act), t.ok ops true listed = true → listed.size = ops.size → listed.toList.count false = k → Gu F M0 M → HBLe hb0 hb → SRel F M hb s a → TreeA P ops Φ t s →
    wpAnyIn (fenceAt ro) 0 P .any ops (Conc F M0 hb0 Φ) k listed a M.w := by
  intro k
  induction k with
  | zero =>
    intro t listed M hb s a hok hsz hc hG hH hs hk
    have hr : Region.ready .any ops listed = [] := by
      rw [List.eq_nil_iff_forall_not_mem]
      intro i hi
      obtain ⟨h1, o, ho, _⟩ := (mem_ready).1 hi
      have hlt : i < ops.size := (Array.getElem?_eq_some_iff.1 ho).1
      have h0 : false ∉ listed.toList := List.count_eq_zero.1 hc
      apply h0
      have : listed[i]'(by omega) = false := by simpa [Array.getD_eq_getD_getElem?, Array.getElem?_eq_getElem (show i < listed.size by omega)] using h1
      rw [← this]
      simp
    refine ⟨hr, ?_⟩
    cases t with
    | done => exact ⟨.normal, s, M, hb, hk, trivial, rfl, hs, hG, hH⟩
    | fail => cases hok
    | alt i n o =>
      simp [Sch.ok, hr] at hok
  | succ k ih =>
    intro t listed M hb s a hok hsz hc hG hH hs hk
    constructor
    · intro hr
      cases t with
      | done => exact ⟨.normal, s, M, hb, hk, trivial, rfl, hs, hG, hH⟩
      | fail => cases hok
      | alt i n o => simp [Sch.ok, hr] at hok
    · intro i hi
      have hif : i ∈ t.firsts := by
        cases t with
        | done => simp only [Sch.ok, beq_iff_eq] at hok; rw [hok] at hi; cases hi
        | fail => cases hok
        | alt j n o =>
          simp only [Sch.ok, Bool.and_eq_true, Bool.not_true, Bool.false_or, beq_iff_eq] at hok
          rw [hok.1.1] at hi
          exact hi
      obtain ⟨h1, o, ho, _⟩ := (mem_ready).1 hi
      have hlt : i < ops.size := (Array.getElem?_eq_some_iff.1 ho).1
      obtain ⟨n, hn, hst⟩ := tree_pick t true hif hok hk
      unfold stepT atOp at hst
      rw [ho] at hst
      obtain ⟨hg, hst⟩ := hst
      unfold wpOpIn
      simp only [ho, Region.wanted, hg, if_true]
      have hcount : (listed.setIfInBounds i true).toList.count false = k := by
        have hli : i < listed.toList.length := by simpa [hsz] using hlt
        have hfa : listed.toList[i] = false := by
          have : listed[i]'(by omega) = false := by simpa [Array.getD_eq_getD_getElem?, Array.getElem?_eq_getElem (show i < listed.size by omega)] using h1
          simpa using this
        rw [Array.toList_setIfInBounds, List.count_set hli]
        simp [hfa, hc]
      exact opA_sound (Φ := Φ) ro hs hst (fun s' M' hb' a' k1 k2 k3 k4 => ih n _ M' hb' s' a' hn (by simp [hsz]) hcount (hG.trans k3) (hH.trans k4) k2 k1)
        (fun x v s' M' hb' k1 k2 k3 k4 k5 => ⟨.panic x, s', M', hb', k1, ⟨v, rfl, k2⟩, rfl, k3, hG.trans k4, hH.trans k5⟩)

/-- A region whose order is drawn, walked in every order. -/
theorem CodeT.tree {P : Program} {rd : Option Nat} {s : St} {Φ : AX → St → Prop} {id : Nat} {ops : Array Oper} (t : Sch) (hm : P.follows .mixedOrders = true) (hok : t.ok ops true (Array.replicate ops.size false) = true) (h : TreeA P ops Φ t s) : CodeT P rd (.region id ops true) s Φ := by
  intro F M hb a ro hs hr
  refine wpIn_region_any hm ?_
  have hA : Adds M M.drew := Adds.drew M
  have hG := hA.gu hs.ok
  exact tree_sound (M0 := M) (hb0 := hb) (F := F) (P := P) (ops := ops) ro ops.size t _ M.drew hb s a hok (by simp) (by simp) hG (.refl _)
    ⟨hs.tm.mono hG.le (.refl _), hs.df.mono hG.le (.refl _), hs.hp.adds hA hs.ok, hs.ok.drew⟩ h
theorem CodeT.seqTree {P : Program} {rd : Option Nat} {s : St} {Φ : AX → St → Prop} {id : Nat} {ops : Array Oper} {y : Code} (t : Sch) (hm : P.follows .mixedOrders = true) (hok : t.ok ops true (Array.replicate ops.size false) = true) (h : TreeA P ops (AX.thn (fun s1 => CodeT P rd y s1 Φ) Φ) t s) : CodeT P rd (.seq (.region id ops true) y) s Φ := CodeT.seq (CodeT.tree t hm hok h)
section
variable (P : Program) (ops : Array Oper) (Φ : AX → St → Prop)
theorem TreeA_done (s : St) : TreeA P ops Φ .done s = Φ .normal s := rfl
theorem TreeA_fail (s : St) : TreeA P ops Φ .fail s = True := rfl
theorem TreeA_one (i : Nat) (n : Sch) (s : St) : TreeA P ops Φ (.alt i n .fail) s = atOp ops i (fun o => o.guard = none ∧ opA P o s (TreeA P ops Φ n) Φ) := and_true _
theorem TreeA_two (i j : Nat) (n m o : Sch) (s : St) : TreeA P ops Φ (.alt i n (.alt j m o)) s = Both (atOp ops i (fun o => o.guard = none ∧ opA P o s (TreeA P ops Φ n) Φ)) (TreeA P ops Φ (.alt j m o) s) := rfl
end
attribute [go_sem ↓] TreeA_done TreeA_fail TreeA_one TreeA_two
end Go.PM

namespace Go.PM
set_option linter.unusedSectionVars false
variable [Globals]
open Go.RowKit Go.Deep

/-- A memory of which nothing changes any more. -/
def Mem.of (W : World) : Mem := ⟨W, fun b => match W.heap[b]? with
  | some (.cells c _ _) => c.size
  | _ => 0⟩

theorem Mem.of_cell {W : World} {a : Addr} {v : Value} (h : W.cell? a = some v) : a.spot = none ∧ (Mem.of W).imm a.block a.off ∧ (Mem.of W).get a.block a.off = v := by
  have hs : a.spot = none := by
    cases hsp : a.spot with
    | none => rfl
    | some k =>
      unfold World.cell? at h
      split at h
      · simp [hsp] at h
      · cases h
  have ha : a = ⟨a.block, a.off, none⟩ := addr_eta hs
  rw [ha] at h
  have hc : W.cell? ⟨a.block, a.off, none⟩ = some v := h
  refine ⟨hs, ⟨?_, by show (W.cell? ⟨a.block, a.off, none⟩).isSome = true; rw [hc]; rfl⟩, by unfold Mem.get; show (W.cell? ⟨a.block, a.off, none⟩).getD undef = v; rw [hc]; rfl⟩
  unfold World.cell? at h
  unfold Mem.of
  simp only at h ⊢
  cases hb : W.heap[a.block]? with
  | none => rw [hb] at h; cases h
  | some o =>
    rw [hb] at h
    cases o <;> simp only at h <;> try (cases h)
    rename_i c ty fr
    simp only at h ⊢
    simp at h
    exact (Array.getElem?_eq_some_iff.1 h).1

/-- Cells that are these values. -/
def CellsL (M : Mem) (l : List AV) (cs : List Value) : Prop := l.length = cs.length ∧ ∀ (j : Nat) (c : AV), l[j]? = some c → c.single = true ∧ VRel M [] c (cs.getD j undef)

theorem CellsL.one {M : Mem} {x : AV} {v : Value} (h1 : x.single = true) (h2 : VRel M [] x v) : CellsL M [x] [v] := by
  refine ⟨rfl, fun j c hc => ?_⟩
  cases j with
  | zero => simp at hc; subst hc; exact ⟨h1, h2⟩
  | succ j => simp at hc

theorem CellsL.app {M : Mem} {l1 l2 : List AV} {cs : List Value} {off n1 n2 : Nat} (h1 : CellsL M l1 ((cs.drop off).take n1)) (h2 : CellsL M l2 ((cs.drop (off + n1)).take n2)) (hn : l1.length = n1) : CellsL M (l1 ++ l2) ((cs.drop off).take (n1 + n2)) := by
  have e : (cs.drop off).take (n1 + n2) = (cs.drop off).take n1 ++ (cs.drop (off + n1)).take n2 := by
    rw [List.take_add, List.drop_drop]
  rw [e]
  refine ⟨by simp only [List.length_append]; rw [h1.1, h2.1], fun j c hc => ?_⟩
  by_cases hj : j < l1.length
  · rw [List.getElem?_append_left hj] at hc
    have := h1.2 j c hc
    rw [List.getD_eq_getElem?_getD, List.getElem?_append_left (by rw [← h1.1]; exact hj), ← List.getD_eq_getElem?_getD]
    exact this
  · rw [List.getElem?_append_right (by omega)] at hc
    have := h2.2 _ c hc
    rw [List.getD_eq_getElem?_getD, List.getElem?_append_right (by rw [← h1.1]; omega), ← h1.1, ← List.getD_eq_getElem?_getD]
    exact this

section
variable {H : Type} {enc : TypeId × Value → H} {P : Program} {W : World}

/-- Whatever is laid out as this type is one of these. -/
def Opens (enc : TypeId × Value → H) (P : Program) (W : World) (t : TypeId) {α : Type} (f : α → AV) (p : α → Prop) : Prop :=
  ∀ (fuel : Nat) (cs : List Value) (x : DataW H × List MemPlace), DataW.trod enc P W 0 (fun _ => true) true fuel t cs = some x → ∃ a, p a ∧ CellsL (Mem.of W) (f a).cells cs

theorem opens_u8 {t : TypeId} (ht : P.underlying t = some (.int .u8)) : Opens enc P W t (fun x : UInt8 => AV.val (.int .u8 x.toNat)) (fun _ => True) := by
  intro fuel cs x h
  obtain ⟨n, rfl, _, hw⟩ := DataW.trod_int ht h
  simp only [Lit.wf, Bool.and_eq_true, decide_eq_true_eq] at hw
  have hw' : (0 : Int) ≤ n ∧ n ≤ 255 := hw
  refine ⟨UInt8.ofNat n.toNat, trivial, CellsL.one rfl ?_⟩
  have : ((UInt8.ofNat n.toNat).toNat : Int) = n := by simp; omega
  show VRel (Mem.of W) [] (AV.val (.int .u8 ((UInt8.ofNat n.toNat).toNat : Int))) _
  rw [this]
  exact .val rfl
theorem opens_i64 {t : TypeId} (ht : P.underlying t = some (.int .i64)) : Opens enc P W t (fun n : Int => AV.val (.int .i64 n)) (fun n => -9223372036854775808 ≤ n ∧ n ≤ 9223372036854775807) := by
  intro fuel cs x h
  obtain ⟨n, rfl, _, hw⟩ := DataW.trod_int ht h
  simp only [Lit.wf, Bool.and_eq_true, decide_eq_true_eq] at hw
  exact ⟨n, hw, CellsL.one rfl (.val rfl)⟩
theorem opens_bool {t : TypeId} (ht : P.underlying t = some .bool) : Opens enc P W t (fun b : Bool => AV.val (.bool b)) (fun _ => True) := by
  intro fuel cs x h
  obtain ⟨b, rfl, _⟩ := DataW.trod_bool ht h
  exact ⟨b, trivial, CellsL.one rfl (.val rfl)⟩
theorem opens_string {t : TypeId} (ht : P.underlying t = some .string) : Opens enc P W t (fun s : ByteArray => AV.val (.string s)) (fun s => s.size ≤ maxLen) := by
  intro fuel cs x h
  obtain ⟨s, rfl, _, hs⟩ := DataW.trod_string ht h
  exact ⟨s, hs, CellsL.one rfl (.val rfl)⟩

theorem opens_slice {t e : TypeId} {α : Type} [Inhabited α] {f : α → AV} {p : α → Prop} {sz : Nat} (ht : P.underlying t = some (.slice e)) (hsz : P.cellsOf e = sz) (h0 : 0 < sz) (hf : ∀ a, (f a).cells.length = sz) (he : Opens enc P W e f p) :
    Opens enc P W t (fun l : List α => AV.sl false (l.map f)) (fun l => (∀ a ∈ l, p a) ∧ l.length ≤ maxLen) := by
  intro fuel cs x h
  rcases Go.Deep.open_slice ht h with ⟨rfl, _⟩ | ⟨a, len, cap, m, n, D, Pl, rfl, _, hl, hm, hmm, _, hx⟩
  · exact ⟨[], ⟨fun a ha => (by cases ha), Nat.zero_le _⟩, CellsL.one rfl .nil⟩
  simp only [if_true] at hmm
  subst hmm
  rw [hsz] at hx
  have hsp : a.spot = none ∨ m = 0 := by
    rcases Nat.eq_zero_or_pos m with hm0 | hm0
    · exact .inr hm0
    · left
      obtain ⟨cs', h1, _⟩ := hx 0 hm0
      obtain ⟨_, h3, h4⟩ := World.cells?_some h1
      have h5 := h4 0 h0
      have h6 : cs'[0]? = some (cs'.getD 0 undef) := by
        have : 0 < cs'.length := by omega
        simp [List.getD_eq_getElem?_getD, this]
      rw [h6] at h5
      have := (Mem.of_cell h5).1
      simpa [Addr.add] using this
  obtain ⟨A, hA⟩ := choose_lt (α := α) (p := fun i y => p y ∧ ∃ cs', W.cells? 0 (a.add (i * sz)) sz = some cs' ∧ CellsL (Mem.of W) (f y).cells cs') (n := m) (fun i hi => by
    obtain ⟨cs', h1, h2⟩ := hx i hi
    obtain ⟨y, h3, h4⟩ := he _ _ _ h2
    exact ⟨y, h3, cs', h1, h4⟩)
  refine ⟨(List.range len).map A, ⟨fun y hy => ?_, by simp; omega⟩, CellsL.one rfl ?_⟩
  · obtain ⟨i, hi, rfl⟩ := List.mem_map.1 hy
    exact (hA i (by have := List.mem_range.1 hi; omega)).1
  have hlen : (((List.range len).map A).map f).length = len := by simp
  have key : ∀ (i : Nat) (e : AV) (j : Nat) (c : AV), (((List.range len).map A).map f)[i]? = some e → e.cells[j]? = some c → (Mem.of W).imm a.block (a.off + i * sz + j) ∧ c.single = true ∧ VRel (Mem.of W) [] c ((Mem.of W).get a.block (a.off + i * sz + j)) := by
    intro i e j c hi hc
    have hil : i < len := by
      have := (List.getElem?_eq_some_iff.1 hi).1
      simpa using this
    have hee : e = f (A i) := by
      simp [List.getElem?_map, hil] at hi
      exact hi.symm
    subst hee
    obtain ⟨_, cs', h1, h2, h3⟩ := hA i (by omega)
    obtain ⟨_, h4, h5⟩ := World.cells?_some h1
    have hj : j < sz := by
      have := (List.getElem?_eq_some_iff.1 hc).1
      rwa [hf] at this
    have h6 := h5 j hj
    have h7 : cs'[j]? = some (cs'.getD j undef) := by
      have : j < cs'.length := by omega
      simp [List.getD_eq_getElem?_getD, this]
    rw [h7] at h6
    obtain ⟨g1, g2, g3⟩ := Mem.of_cell h6
    have hb : ((a.add (i * sz)).add j).block = a.block ∧ ((a.add (i * sz)).add j).off = a.off + i * sz + j := by
      unfold Addr.add
      split <;> split <;> simp_all
    rw [hb.1, hb.2] at g2 g3
    obtain ⟨k1, k2⟩ := h3 j c hc
    exact ⟨g2, k1, by rw [g3]; exact k2⟩
  have := VRel.sl (M := Mem.of W) (hb := []) (full := false) (es := ((List.range len).map A).map f) (a := a) (cap := m) sz hsp (by rw [hlen]; exact hl) (fun h => by cases h)
    (fun e he => by obtain ⟨y, _, rfl⟩ := List.mem_map.1 he; exact hf y) (fun i e j c hi hc => ⟨(key i e j c hi hc).1, (key i e j c hi hc).2.1⟩) (fun i e j c hi hc => (key i e j c hi hc).2.2)
  rw [hlen] at this
  exact this

theorem Opens.mono {t : TypeId} {α : Type} {f : α → AV} {p q : α → Prop} (h : Opens enc P W t f p) (hpq : ∀ a, p a → q a) : Opens enc P W t f q := fun fuel cs x hx => by
  obtain ⟨a, h1, h2⟩ := h fuel cs x hx
  exact ⟨a, hpq a h1, h2⟩

/-- An argument. -/
theorem Opens.single {t : TypeId} {α : Type} {f : α → AV} {p : α → Prop} (h : Opens enc P W t f p) (h1 : ∀ a, (f a).cells = [f a]) {v : Value} {d : DataW H} {ps : List MemPlace} (ht : DataW.Trod enc P W 0 (fun _ => true) true t v d ps) (hv : v.cells = #[v]) : ∃ a, p a ∧ VRel (Mem.of W) [] (f a) v := by
  obtain ⟨fuel, hf⟩ := ht
  obtain ⟨a, h2, h3⟩ := h _ _ _ hf
  rw [h1, hv] at h3
  exact ⟨a, h2, (h3.2 0 (f a) rfl).2⟩
theorem Opens.whole {t : TypeId} {α : Type} {f : α → AV} {p : α → Prop} (h : Opens enc P W t f p) {g : α → List AV} (h1 : ∀ a, f a = .agg (g a)) {cs : Array Value} {d : DataW H} {ps : List MemPlace} (ht : DataW.Trod enc P W 0 (fun _ => true) true t (.agg cs) d ps) : ∃ a, p a ∧ VRel (Mem.of W) [] (f a) (.agg cs) := by
  obtain ⟨fuel, hf⟩ := ht
  obtain ⟨a, h2, h3⟩ := h _ _ _ hf
  rw [h1] at h3
  have hc : (AV.agg (g a)).cells = g a := rfl
  have hv : (Value.agg cs).cells = cs := rfl
  rw [hc, hv] at h3
  refine ⟨a, h2, ?_⟩
  rw [h1]
  refine .agg (by simpa using h3.1) (fun i c hi => (h3.2 i c hi).1) (fun i c hi => ?_)
  have := (h3.2 i c hi).2
  simpa [List.getD_eq_getElem?_getD, Array.getD_eq_getD_getElem?] using this
end

/-- A law that answers true whatever it is given. -/
theorem law_calls {P : Program} {f : FuncId} {args : List AV} {W : World} {vs : Array Value} (hc : PureT P f args (· = .val (.bool true))) (hv : ListRel (Mem.of W) [] args vs) (hg : ∀ (g : Nat) (cs : List AV), Globals.get g = some cs → VRel (Mem.of W) [] (.cptr cs) (.pointer (some ⟨g, 0, none⟩))) : Calls P f vs W fun e W' => e = .returned (.bool true) ∧ Below W.heap.size W W' := by
  have hH : HRel (fun b => b < W.heap.size) (Mem.of W) [] [] := ⟨rfl, hg, fun i b e h1 => by simp at h1, fun i b e h1 => by simp at h1, fun i j b b' e e' h1 => by simp at h1⟩
  have hO : MOk (fun b => b < W.heap.size) (Mem.of W) := ⟨fun b hb => by
    have : W.heap[b]? = none := Array.getElem?_eq_none (by exact hb)
    simp [Mem.of, this], fun b hb => hb⟩
  refine Calls.mono (hc.2 (fun b => b < W.heap.size) (Mem.of W) [] vs hH hO hv) ?_
  rintro e W' ⟨r, h', M', hb', ⟨_, x, rfl, rfl⟩, k2, rfl, k4, k5, k6, k7⟩
  cases e with
  | returned v =>
    cases k2
    exact ⟨rfl, k6.os, k6.tape, k6.out, k6.size, fun k hk => (k6.fr k hk).1⟩
  | panicked _ => exact k2.elim
  | outgrown => exact k2.elim

end Go.PM

namespace Go.PM
set_option linter.unusedSectionVars false
variable [Globals]
open Go.RowKit Go.Deep
section
variable {H : Type} {enc : TypeId × Value → H} {P : Program} {W : World}

/-- .. none of whose parts is heavier than may be handed in. -/
def OpensZ (enc : TypeId × Value → H) (P : Program) (W : World) (t : TypeId) {α : Type} (f : α → AV) (p : α → Prop) : Prop :=
  ∀ (fuel : Nat) (cs : List Value) (x : DataW H × List MemPlace), DataW.trod enc P W 0 (fun _ => true) true fuel t cs = some x → (∀ n ∈ x.1.weights P t, n ≤ reachBytes) → ∃ a, p a ∧ CellsL (Mem.of W) (f a).cells cs
theorem Opens.z {t : TypeId} {α : Type} {f : α → AV} {p : α → Prop} (h : Opens enc P W t f p) : OpensZ enc P W t f p := fun fuel cs x hx _ => h fuel cs x hx
theorem opensZ_string {t : TypeId} (ht : P.underlying t = some .string) : OpensZ enc P W t (fun l : List UInt8 => AV.val (.string ⟨l.toArray⟩)) (fun l => l.length ≤ reachBytes) := by
  intro fuel cs x h hz
  obtain ⟨s, rfl, rfl, hs⟩ := DataW.trod_string ht h
  refine ⟨s.data.toList, hz _ (by simp [DataW.weights]), CellsL.one rfl ?_⟩
  have e : (⟨s.data.toList.toArray⟩ : ByteArray) = s := by simp
  show VRel _ _ (AV.val (.string ⟨s.data.toList.toArray⟩)) _
  rw [e]
  exact .val rfl
def OpensFZ (enc : TypeId × Value → H) (P : Program) (W : World) (off n : Nat) (fs : List Field) {α : Type} (f : α → List AV) (p : α → Prop) : Prop :=
  ∀ (fuel : Nat) (cs : List Value) (xs : List (DataW H × List MemPlace)), xs.length = fs.length → (∀ (i : Nat) (fd : Field), fs[i]? = some fd → DataW.trod enc P W 0 (fun _ => true) true fuel fd.type ((cs.drop fd.offset).take (P.cellsOf fd.type)) = xs[i]?) →
    (∀ n ∈ DataW.weightsEach P (fs.map (·.type)) (xs.map (·.1)), n ≤ reachBytes) → ∃ a, p a ∧ CellsL (Mem.of W) (f a) ((cs.drop off).take n)
theorem opensFZ_nil {off : Nat} : OpensFZ enc P W off 0 [] (fun _ : Unit => []) (fun _ => True) := by
  intro fuel cs xs _ _ _
  exact ⟨(), trivial, by simp, fun j c hc => by simp at hc⟩
theorem opensFZ_cons {off n m sz : Nat} {fd : Field} {fs : List Field} {α β : Type} {g : α → AV} {p : α → Prop} {f : β → List AV} {q : β → Prop} (ho : fd.offset = off) (hsz : P.cellsOf fd.type = sz) (hm : m = sz + n)
    (h0 : OpensZ enc P W fd.type g p) (hl : ∀ a, (g a).cells.length = sz) (h1 : OpensFZ enc P W (off + sz) n fs f q) : OpensFZ enc P W off m (fd :: fs) (fun x : α × β => (g x.1).cells ++ f x.2) (fun x => p x.1 ∧ q x.2) := by
  subst hm
  intro fuel cs xs hlen h hz
  cases xs with
  | nil => simp at hlen
  | cons x xs =>
    obtain ⟨a, k1, k2⟩ := h0 _ _ _ (h 0 fd rfl) (fun n hn => hz n (by simp [DataW.weightsEach, hn]))
    obtain ⟨b, k3, k4⟩ := h1 fuel cs xs (by simpa using hlen) (fun i fd' hf => h (i + 1) fd' hf) (fun n hn => hz n (by
      simp only [List.map_cons, DataW.weightsEach, List.mem_append]
      exact .inr hn))
    rw [ho, hsz] at k2
    exact ⟨(a, b), ⟨k1, k3⟩, k2.app k4 (hl a)⟩
theorem opensZ_struct {t : TypeId} {fs : Array Field} {n : Nat} {α : Type} {f : α → List AV} {p : α → Prop} (ht : P.underlying t = some (.struct fs)) (hn : P.cellsOf t = n) (h : OpensFZ enc P W 0 n fs.toList f p) : OpensZ enc P W t (fun a => .agg (f a)) p := by
  intro fuel cs x hx hz
  obtain ⟨xs, m, _, rfl, hl, hlen, hf⟩ := DataW.trod_struct ht hx
  obtain ⟨a, k1, k2⟩ := h m cs xs (by simpa using hlen) (fun i fd hfd => hf i fd (by simpa using hfd)) (fun n hn => hz n (by
    simp only [DataW.weights, ht]
    exact hn))
  refine ⟨a, k1, ?_⟩
  rw [List.drop_zero, List.take_of_length_le (by omega)] at k2
  exact k2
theorem OpensZ.map {t : TypeId} {α β : Type} {f : α → AV} {p : α → Prop} {f' : β → AV} (h : OpensZ enc P W t f p) (g : α → β) (hg : ∀ a, f a = f' (g a)) : OpensZ enc P W t f' (fun b => ∃ a, p a ∧ g a = b) := fun fuel cs x hx hz => by
  obtain ⟨a, h1, h2⟩ := h fuel cs x hx hz
  exact ⟨g a, ⟨a, h1, rfl⟩, hg a ▸ h2⟩
theorem OpensZ.mono {t : TypeId} {α : Type} {f : α → AV} {p q : α → Prop} (h : OpensZ enc P W t f p) (hpq : ∀ a, p a → q a) : OpensZ enc P W t f q := fun fuel cs x hx hz => by
  obtain ⟨a, h1, h2⟩ := h fuel cs x hx hz
  exact ⟨a, hpq a h1, h2⟩
theorem OpensZ.whole {t : TypeId} {α : Type} {f : α → AV} {p : α → Prop} (h : OpensZ enc P W t f p) {g : α → List AV} (h1 : ∀ a, f a = .agg (g a)) {cs : Array Value} {d : DataW H} {ps : List MemPlace} (ht : DataW.Trod enc P W 0 (fun _ => true) true t (.agg cs) d ps) (hz : ∀ n ∈ d.weights P t, n ≤ reachBytes) : ∃ a, p a ∧ VRel (Mem.of W) [] (f a) (.agg cs) := by
  obtain ⟨fuel, hf⟩ := ht
  obtain ⟨a, h2, h3⟩ := h _ _ _ hf hz
  rw [h1] at h3
  have hc : (AV.agg (g a)).cells = g a := rfl
  have hv : (Value.agg cs).cells = cs := rfl
  rw [hc, hv] at h3
  refine ⟨a, h2, ?_⟩
  rw [h1]
  refine .agg (by simpa using h3.1) (fun i c hi => (h3.2 i c hi).1) (fun i c hi => ?_)
  have := (h3.2 i c hi).2
  simpa [List.getD_eq_getElem?_getD, Array.getD_eq_getD_getElem?] using this
end
end Go.PM
