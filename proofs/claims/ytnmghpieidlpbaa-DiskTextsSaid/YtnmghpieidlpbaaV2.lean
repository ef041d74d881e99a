/-
  THE VALUE MACHINE (17): what is handed on is frozen; calls that look at what they are given alone; a function from its body.
-/
import Derived.Test.YtnmghpieidlpbaaV1
import Derived.RangeFuncLeaves
import Derived.RangeFuncIn
import Derived.OrdersIn
import Derived.Attr
import Derived.Scope
set_option linter.unusedVariables false
set_option linter.unusedSimpArgs false
namespace Go.PM

/-! ### Values that lead into no box -/
def AV.pure1 : AV → Bool
  | .agg cs => cs.all AV.pure0
  | x => x.pure0
def AV.pure : AV → Bool
  | .tup vs => vs.all AV.pure1
  | x => x.pure1

theorem VRel.toPure1 {M : Mem} {hb : List HB} {x : AV} {v : Value} (h : VRel M hb x v) (hp : x.pure1 = true) : VRel M [] x v := by
  cases x with
  | agg cs =>
    cases h with
    | agg h1 h2 h3 => exact .agg h1 h2 fun i c hc => (h3 i c hc).toPure0 (List.all_eq_true.1 hp c (List.mem_of_getElem? hc))
  | _ => exact h.toPure0 hp
theorem VRel.toPure {M : Mem} {hb : List HB} {x : AV} {v : Value} (h : VRel M hb x v) (hp : x.pure = true) : VRel M [] x v := by
  cases x with
  | tup cs =>
    cases h with
    | tup h1 h2 => exact .tup h1 fun i c hc => (h2 i c hc).toPure1 (List.all_eq_true.1 hp c (List.mem_of_getElem? hc))
  | _ => exact h.toPure1 hp

def AE.val : AE → AV
  | .ret x | .panic x => x

/-- A call that is given pure values looks at no box. -/
theorem CallT.frame {P : Program} {f : FuncId} {args : List AV} {h : List Box} {R : AE → Prop} (hp : args.all AV.pure = true) (hc : CallT P f args [] (fun r _ => r.val.pure = true ∧ R r)) :
    CallT P f args h (fun r h' => h' = h ∧ R r) := by
  refine ⟨hc.1, fun F M hb vs H ok hv => ?_⟩
  have hF : MOk (fun b => F b ∨ Held hb h b) M := ⟨ok.top, fun b hb' => hb'.elim (ok.fr b) (fun hh => (H.held_lt hh).1)⟩
  have H0 : HRel (fun b => F b ∨ Held hb h b) M [] [] := ⟨rfl, fun i b e h1 => by simp at h1, fun i b e h1 => by simp at h1, fun i j b b' e e' h1 => by simp at h1⟩
  have hl : ListRel M [] args vs := ⟨hv.1, fun i x hx => (hv.2 i x hx).toPure (List.all_eq_true.1 hp x (List.mem_of_getElem? hx))⟩
  refine Calls.mono (hc.2 _ M [] vs H0 hF hl) ?_
  rintro e w' ⟨r, h', M', hb', ⟨hpr, hR⟩, k2, rfl, k4, k5, k6, k7⟩
  refine ⟨r, h, M', hb, ⟨rfl, hR⟩, ?_, rfl, H.frame k6, ⟨k5.top, fun b hb'' => k5.fr b (.inl hb'')⟩, k6.less (fun b hb'' => .inl hb''), .refl hb⟩
  cases r <;> cases e <;> try exact k2.elim
  · exact (VRel.toPure k2 hpr).pure
  · obtain ⟨v, h1, h2⟩ := k2
    exact ⟨v, h1, (VRel.toPure h2 hpr).pure⟩

/-- What a call of pure values comes to. -/
def PureT (P : Program) (f : FuncId) (args : List AV) (R : AV → Prop) : Prop :=
  CallT P f args [] (fun r _ => r.val.pure = true ∧ ∃ x, r = .ret x ∧ R x)

theorem PureT.call {P : Program} {f : FuncId} {args : List AV} {R : AV → Prop} {s : St} {dst : Option Tmp} {K : St → Prop} {Φ : AX → St → Prop} (hc : PureT P f args R) (hp : args.all AV.pure = true) (hk : ∀ x, R x → K (s.put dst x)) :
    CallT P f args s.h (callK s dst K Φ) := by
  refine (CallT.frame (R := fun r => ∃ x, r = .ret x ∧ R x) hp hc).mono ?_
  rintro r h' ⟨rfl, x, rfl, hR⟩
  exact hk x hR

theorem PureT.mono {P : Program} {f : FuncId} {args : List AV} {R R' : AV → Prop} (hc : PureT P f args R) (h : ∀ x, R x → R' x) : PureT P f args R' :=
  CallT.mono hc fun _ _ ⟨h1, x, h2, h3⟩ => ⟨h1, x, h2, h x h3⟩

/-! ### Freezing -/
def frzC (h : List Box) (x : AV) (K : AV → List Box → Prop) : Prop :=
  match x with
  | .agg cs => frzL cs h (fun cs' h' => K (.agg cs') h')
  | .ptr id off => match h[id]? with
    | some (.cells cs) => frzL cs (h.set id .dead) (fun cs' h' => K (.cptr (cs'.drop off)) h')
    | _ => False
  | x => frz0 h x K

theorem kill_cells {F : Nat → Prop} {M : Mem} {hb : List HB} {h : List Box} (H : HRel F M hb h) (ok : MOk F M) {id : Nat} {cs : List AV} {e : HB} (hh : h[id]? = some (.cells cs)) (he : hb[id]? = some e) :
    ∃ (M' : Mem) (c : Array Value), M'.w = M.w ∧ HRel F M' hb (h.set id .dead) ∧ MOk F M' ∧ Gu F M M' ∧ CellsRel M' hb cs c ∧ ∀ j, j < cs.length → M'.imm e.blk j ∧ M'.get e.blk j = c.getD j undef := by
  obtain ⟨q1, q2, c, q3, q4⟩ := H.box id _ e hh he
  have hown := H.own id _ e hh he rfl
  let M' : Mem := ⟨M.w, fun b => if b = e.blk then cs.length else M.lo b⟩
  have hle : M.Le M' := by
    intro b o hi
    by_cases hb' : b = e.blk
    · subst hb'; have := hi.1; omega
    · exact ⟨⟨by simp only [M', if_neg hb']; exact hi.1, hi.2⟩, rfl⟩
  have hoth : ∀ k : Nat, k ≠ e.blk → M'.w.heap[k]? = M.w.heap[k]? ∧ M'.lo k = M.lo k := fun k hk => ⟨rfl, by simp [M', hk]⟩
  have hu := H.update (M' := M') (b' := .dead) (e' := e) hh he hle (Nat.le_refl _) (HBLe.set he (Nat.le_refl _) rfl (fun _ => rfl) (fun _ => rfl)) (fun k _ hk => hoth k (hk rfl)) trivial (fun hf => by cases hf)
  rw [set_self he] at hu
  refine ⟨M', c, rfl, hu, ⟨fun b hb' => ?_, ok.fr⟩, ⟨Nat.le_refl _, rfl, rfl, rfl, hle, fun b hb' => hoth b (fun heq => hown.2 (heq ▸ hb'))⟩, q4.mono hle (.refl hb), fun j hj => ?_⟩
  · have hne : b ≠ e.blk := by have h1 := hown.1; have h2 : M.w.heap.size ≤ b := hb'; omega
    simp only [M', if_neg hne]
    exact ok.top b hb'
  · obtain ⟨ty, hc⟩ := q3
    have hcell : M'.w.cell? ⟨e.blk, j, none⟩ = some (c.getD j undef) := by
      rw [cell?_block (w := M'.w) hc]
      have : j < c.size := by rw [q4.1]; exact hj
      simp [Array.getD_eq_getD_getElem?, this]
    exact ⟨⟨by simp [M', hj], by rw [hcell]; rfl⟩, by unfold Mem.get; rw [hcell]; rfl⟩

theorem frzC_sound {F : Nat → Prop} {M : Mem} {hb : List HB} {h : List Box} (H : HRel F M hb h) (ok : MOk F M) {x : AV} {v : Value} (hv : VRel M hb x v) {K : AV → List Box → Prop} (hk : frzC h x K) :
    ∃ (x' : AV) (h' : List Box) (M' : Mem), K x' h' ∧ M'.w = M.w ∧ VRel M' [] x' v ∧ HRel F M' hb h' ∧ MOk F M' ∧ Gu F M M' := by
  unfold frzC at hk
  split at hk
  · exact frzA_sound (x := .agg _) H ok hv hk
  · rename_i id off
    split at hk
    · rename_i cs hh
      cases hv with
      | ptr e q1 q2 =>
        obtain ⟨M1, c, g1, g2, g3, g4, g5, g6⟩ := kill_cells H ok hh q1
        obtain ⟨cs', h', M2, k1, k2, k3, k4, k5, k6, k7, k8⟩ := frzL_sound cs g2 g3 (vs := c.toList) (by simp [g5.1]) (fun i x hx => by
          have := (g5.2 i x hx).2
          simpa [Array.getD_eq_getD_getElem?, List.getD_eq_getElem?_getD] using this) hk
        have hone : ∀ y : AV, y ∈ cs' → y.single = true := k8 fun x hx => by
          obtain ⟨i, hi⟩ := List.getElem?_of_mem hx
          exact (g5.2 i x hi).1
        have hlen : cs'.length = cs.length := by rw [k3]; simp [g5.1]
        refine ⟨_, h', M2, k1, k2.trans g1, .cptr rfl (fun j y hy => ?_) (fun j y hy => ?_), k5, k6, g4.trans k7⟩
        · rw [List.getElem?_drop] at hy
          have hj : off + j < cs.length := by rw [← hlen]; exact (List.getElem?_eq_some_iff.1 hy).1
          exact ⟨(k7.le _ _ (g6 _ hj).1).1, hone y (List.mem_of_getElem? hy)⟩
        · rw [List.getElem?_drop] at hy
          have hj : off + j < cs.length := by rw [← hlen]; exact (List.getElem?_eq_some_iff.1 hy).1
          show VRel M2 [] y (M2.get e.blk (off + j))
          rw [(k7.le _ _ (g6 _ hj).1).2, (g6 _ hj).2]
          have := k4 _ y hy
          simpa [Array.getD_eq_getD_getElem?, List.getD_eq_getElem?_getD] using this
    · exact hk.elim
  · obtain ⟨x', h', M', k1, k2, k3, k4, k5, k6, _⟩ := frz0_sound H ok hv hk
    exact ⟨x', h', M', k1, k2, k3, k4, k5, k6⟩

/-- Several values in turn. -/
def frzCs : List AV → List Box → (List AV → List Box → Prop) → Prop
  | [], h, K => K [] h
  | x :: xs, h, K => frzC h x (fun x' h' => frzCs xs h' (fun xs' h'' => K (x' :: xs') h''))

theorem frzCs_sound {F : Nat → Prop} {hb : List HB} : ∀ (xs : List AV) {M : Mem} {h : List Box} (_ : HRel F M hb h) (_ : MOk F M) {vs : List Value} (_ : xs.length = vs.length) (_ : ∀ (i : Nat) (x : AV), xs[i]? = some x → VRel M hb x (vs.getD i undef)) {K : List AV → List Box → Prop} (_ : frzCs xs h K),
    ∃ (xs' : List AV) (h' : List Box) (M' : Mem), K xs' h' ∧ M'.w = M.w ∧ xs'.length = vs.length ∧ (∀ (i : Nat) (x : AV), xs'[i]? = some x → VRel M' [] x (vs.getD i undef)) ∧ HRel F M' hb h' ∧ MOk F M' ∧ Gu F M M' := by
  intro xs
  induction xs with
  | nil =>
    intro M h H ok vs hl hv K hk
    exact ⟨[], h, M, hk, rfl, hl, fun i x hx => by simp at hx, H, ok, .refl F M⟩
  | cons x xs ih =>
    intro M h H ok vs hl hv K hk
    cases vs with
    | nil => simp at hl
    | cons v vs =>
      obtain ⟨x', h', M', k1, k2, k3, k4, k5, k6⟩ := frzC_sound H ok (hv 0 x rfl) hk
      obtain ⟨xs', h'', M'', q1, q2, q3, q4, q5, q6, q7⟩ := ih k4 k5 (vs := vs) (by simpa using hl) (fun i y hy => by
        have := hv (i + 1) y (by simpa using hy)
        exact VRel.mem k6.le (by simpa using this)) k1
      refine ⟨x' :: xs', h'', M'', q1, q2.trans k2, by simp [q3], fun i y hy => ?_, q5, q6, k6.trans q7⟩
      cases i with
      | zero => simp at hy; subst hy; exact k3.mem q7.le
      | succ i => simpa using q4 i y (by simpa using hy)

/-- The values that a call is given are frozen first. -/
theorem CallT.args {P : Program} {f : FuncId} {args : List AV} {h : List Box} {R : AE → List Box → Prop} (hf : FnOK P f) (hc : frzCs args h (fun args' h' => CallT P f args' h' R)) : CallT P f args h R := by
  refine ⟨hf, fun F M hb vs H ok hv => ?_⟩
  obtain ⟨args', h', M', k1, k2, k3, k4, k5, k6, k7⟩ := frzCs_sound args H ok (vs := vs.toList) (by simp [hv.1]) (fun i x hx => by
    have := hv.2 i x hx
    simpa [Array.getD_eq_getD_getElem?, List.getD_eq_getElem?_getD] using this) hc
  have := k1.2 F M' hb vs k5 k6 ⟨by simp [k3], fun i x hx => by
    have := k4 i x hx
    exact VRel.pure (by simpa [Array.getD_eq_getD_getElem?, List.getD_eq_getElem?_getD] using this)⟩
  rw [k2] at this
  exact Calls.mono this fun e w' ⟨r, h'', M'', hb'', j1, j2, j3, j4, j5, j6, j7⟩ => ⟨r, h'', M'', hb'', j1, j2, j3, j4, j5, k7.trans j6, j7⟩

def frzV (h : List Box) (x : AV) (K : AV → List Box → Prop) : Prop :=
  match x with
  | .tup vs => frzCs vs h (fun vs' h' => K (.tup vs') h')
  | x => frzC h x K
theorem frzV_sound {F : Nat → Prop} {M : Mem} {hb : List HB} {h : List Box} (H : HRel F M hb h) (ok : MOk F M) {x : AV} {v : Value} (hv : VRel M hb x v) {K : AV → List Box → Prop} (hk : frzV h x K) :
    ∃ (x' : AV) (h' : List Box) (M' : Mem), K x' h' ∧ M'.w = M.w ∧ VRel M' [] x' v ∧ HRel F M' hb h' ∧ MOk F M' ∧ Gu F M M' := by
  unfold frzV at hk
  split at hk
  · rename_i xs
    cases hv with
    | @tup _ _ vs g1 g2 =>
      obtain ⟨xs', h', M', k1, k2, k3, k4, k5, k6, k7⟩ := frzCs_sound xs H ok (vs := vs.toList) (by simp [g1]) (fun i x hx => by
        have := g2 i x hx
        simpa [Array.getD_eq_getD_getElem?, List.getD_eq_getElem?_getD] using this) hk
      exact ⟨_, h', M', k1, k2, .tup (by simpa using k3) (fun i x hx => by
        have := k4 i x hx
        simpa [Array.getD_eq_getD_getElem?, List.getD_eq_getElem?_getD] using this), k5, k6, k7⟩
  · exact frzC_sound H ok hv hk

/-- What a call hands back is frozen. -/
def frzR (R : AE → List Box → Prop) : AE → List Box → Prop
  | .ret x, h => frzV h x (fun x' h' => R (.ret x') h')
  | .panic x, h => frzV h x (fun x' h' => R (.panic x') h')
theorem CallT.res {P : Program} {f : FuncId} {args : List AV} {h : List Box} {R : AE → List Box → Prop} (hc : CallT P f args h (frzR R)) : CallT P f args h R := by
  refine ⟨hc.1, fun F M hb vs H ok hv => Calls.mono (hc.2 F M hb vs H ok hv) ?_⟩
  rintro e w' ⟨r, h', M', hb', k1, k2, rfl, k4, k5, k6, k7⟩
  cases r <;> cases e <;> try exact k2.elim
  · obtain ⟨x', h'', M'', j1, j2, j3, j4, j5, j6⟩ := frzV_sound (K := fun x' h' => R (.ret x') h') k4 k5 k2 k1
    exact ⟨.ret x', h'', M'', hb', j1, VRel.pure j3, j2, j4, j5, k6.trans j6, k7⟩
  · obtain ⟨v, rfl, hv'⟩ := k2
    obtain ⟨x', h'', M'', j1, j2, j3, j4, j5, j6⟩ := frzV_sound (K := fun x' h' => R (.panic x') h') k4 k5 hv' k1
    exact ⟨.panic x', h'', M'', hb', j1, ⟨v, rfl, VRel.pure j3⟩, j2, j4, j5, k6.trans j6, k7⟩

/-! ### A function from its body -/
def enterTm (n : Nat) (args : List AV) : Tm := ⟨args.length + (n - args.length), (List.range' 0 args.length).zip args⟩

theorem look_zip : ∀ (args : List AV) (k i : Nat), look ((List.range' k args.length).zip args) i = if k ≤ i then args.getD (i - k) .dead else .dead := by
  intro args
  induction args with
  | nil => intro k i; simp [look]
  | cons x xs ih =>
    intro k i
    rw [List.length_cons, List.range'_succ, List.zip_cons_cons]
    simp only [look]
    cases hb : Nat.beq k i with
    | true =>
      obtain rfl := Nat.eq_of_beq_eq_true hb
      simp
    | false =>
      have hne := Nat.ne_of_beq_eq_false hb
      simp only [ih]
      by_cases hle : k ≤ i
      · rw [if_pos (by omega), if_pos hle, show i - k = (i - (k + 1)) + 1 by omega]
        simp
      · rw [if_neg (by omega), if_neg hle]

theorem enterTm_rel {M : Mem} {hb : List HB} {args : List AV} {vs : Array Value} (h : ListRel M hb args vs) (n : Nat) : TmpsRel M hb (enterTm n args) (vs ++ Array.replicate (n - vs.size) undef) := by
  refine ⟨by simp [enterTm, h.1], fun i => ?_⟩
  simp only [enterTm, Tm.get, look_zip, Nat.zero_le, if_true, Nat.sub_zero]
  by_cases hi : i < args.length
  · have hx : args[i]? = some (args.getD i .dead) := by simp [List.getD_eq_getElem?_getD, hi]
    have := h.2 i _ hx
    have hi' : i < vs.size := h.1 ▸ hi
    rw [Array.getD_eq_getD_getElem?] at this ⊢
    rwa [Array.getElem?_append_left hi']
  · rw [List.getD_eq_getElem?_getD, List.getElem?_eq_none (by omega)]
    exact .dead

def resA1 (P : Program) (t : Tm) (h : List Box) : ResultVar → (AV → Prop) → Prop
  | .tmp i, K => K (t.get i)
  | .cell i ty, K => loadA P h ty (t.get i) K
def resA (P : Program) (t : Tm) (h : List Box) : List ResultVar → (List AV → Prop) → Prop
  | [], K => K []
  | r :: rs, K => resA1 P t h r (fun x => resA P t h rs (fun xs => K (x :: xs)))
def pack : List AV → AV
  | [x] => x
  | xs => .tup xs

def modeOf : Option Value → FrameMode
  | none => .returning
  | some v => .panicking [{ v, recovered := false }]

def panRel (M : Mem) (hb : List HB) : Option AV → Option Value → Prop
  | none, none => True
  | some x, some v => VRel M hb x v
  | _, _ => False

theorem panRel.mono {M M' : Mem} {hb hb' : List HB} {x : Option AV} {v : Option Value} (h : panRel M hb x v) (hM : M.Le M') (hh : HBLe hb hb') : panRel M' hb' x v := by
  cases x <;> cases v <;> try exact h
  exact (VRel.mem hM h).hb hh

/-- A function that is called as a deferred one: whether there is a panic, behind it; and the boxes. -/
def DefT (P : Program) (f : FuncId) (args : List AV) (pan : Option AV) (h : List Box) (K : Option AV → List Box → Prop) : Prop :=
  ∀ F M hb (vs : Array Value) (pv : Option Value), HRel F M hb h → MOk F M → ListRel M hb args vs → panRel M hb pan pv →
    FnOK P f ∧ CallsDIn Fence.wide 0 P f vs (modeOf pv) M.w (fun e u' w' => ∃ v, e = .returned v ∧ ∃ (pan' : Option AV) (pv' : Option Value) (h' : List Box) (M' : Mem) (hb' : List HB),
      K pan' h' ∧ panRel M' hb' pan' pv' ∧ settle u' = modeOf pv' ∧ M'.w = w' ∧ HRel F M' hb' h' ∧ MOk F M' ∧ Gu F M M' ∧ HBLe hb hb')

/-- The marks of loops among the deferred calls are passed; then the results. -/
def leaveA (P : Program) (rs : List ResultVar) (t : Tm) (R : AE → List Box → Prop) : Option AV → List AD → List Box → Prop
  | pan, [], h => match pan with
    | none => resA P t h rs (fun xs => R (.ret (pack xs)) h)
    | some x => R (.panic x) h
  | pan, .mark id :: ds, h => h[id]? = some .defer ∧ leaveA P rs t R pan ds (h.set id .dead)
  | pan, .call f args caps :: ds, h => DefT P f (args ++ caps) pan h (fun pan' h' => leaveA P rs t R pan' ds h')

theorem ListRel.app' {M : Mem} {hb : List HB} {l l' : List AV} {c c' : Array Value} (h : ListRel M hb l c) (h' : ListRel M hb l' c') : ListRel M hb (l ++ l') (c ++ c') := h.app h'
theorem run_callFunc' {P : Program} {f : FuncId} (hf : FnOK P f) (args : Array Value) (w : World) : (callFunc f args).run P w = .ok (.enter f args) w := run_callFunc hf args w
theorem run_loadVar_as {P : Program} {t : TypeId} {v u : Value} {w : World} (h : (Instr.loadAt t v).run P w = .ok u w) : ((do loadVar t (← asAddr v) : Sem Value)).run P w = .ok u w := by
  unfold Instr.loadAt Instr.sureAddr at h
  unfold asAddr
  split at h
  · exact h
  · simp at h

/-- One result variable, read. -/
def res1 (tmps : Array Value) (r : ResultVar) : Sem Value :=
  match r with
  | .tmp t => pure (tmps.getD t undef)
  | .cell a t => do loadVar t (← asAddr (tmps.getD a undef))

theorem resA_sound {P : Program} {F : Nat → Prop} {M : Mem} {hb : List HB} {t : Tm} {tmps : Array Value} (ht : TmpsRel M hb t tmps) {h : List Box} (H : HRel F M hb h) : ∀ (rs : List ResultVar) {K : List AV → Prop}, resA P t h rs K →
    ∃ (xs : List AV) (vs : List Value), K xs ∧ xs.length = vs.length ∧ (∀ (i : Nat) (x : AV), xs[i]? = some x → VRel M hb x (vs.getD i undef)) ∧
      (rs.mapM (res1 tmps)).run P M.w = .ok vs M.w := by
  intro rs
  induction rs with
  | nil => intro K hk; exact ⟨[], [], hk, rfl, fun i x hx => by simp at hx, by simp⟩
  | cons r rs ih =>
    intro K hk
    have hone : ∃ x v, resA P t h rs (fun xs => K (x :: xs)) ∧ VRel M hb x v ∧ (res1 tmps r).run P M.w = .ok v M.w := by
      cases r with
      | tmp i => exact ⟨_, _, hk, ht.2 i, rfl⟩
      | cell i ty =>
        obtain ⟨x, u, k1, k2, k3⟩ := loadA_sound H (ht.2 i) hk
        exact ⟨x, u, k1, k3, run_loadVar_as k2⟩
    obtain ⟨x, v, k1, k2, k3⟩ := hone
    obtain ⟨xs, vs, q1, q2, q3, q4⟩ := ih k1
    refine ⟨x :: xs, v :: vs, q1, by simp [q2], fun i y hy => ?_, ?_⟩
    · cases i with
      | zero => simp at hy; subst hy; simpa using k2
      | succ i => simpa using q3 i y (by simpa using hy)
    · rw [List.mapM_cons, Sem.run_bind, k3, Result.andThen_ok, Sem.run_bind, q4]
      rfl

theorem results_sound {P : Program} {F : Nat → Prop} {M : Mem} {hb : List HB} {t : Tm} {tmps : Array Value} (ht : TmpsRel M hb t tmps) {h : List Box} (H : HRel F M hb h) {fn : Func} {K : List AV → Prop} (hk : resA P t h fn.results.toList K) :
    ∃ (xs : List AV) (v : Value), K xs ∧ VRel M hb (pack xs) v ∧ (results fn tmps).run P M.w = .ok v M.w := by
  obtain ⟨xs, vs, k1, k2, k3, k4⟩ := resA_sound ht H fn.results.toList hk
  have hr : (results fn tmps).run P M.w = .ok (if h : vs.toArray.size = 1 then vs.toArray[0] else .tuple vs.toArray) M.w := by
    have he : results fn tmps = (do let vs ← fn.results.mapM (res1 tmps); pure (if h : vs.size = 1 then vs[0] else .tuple vs)) := rfl
    rw [he, Array.mapM_eq_mapM_toList, Sem.run_bind]
    have : Sem.run P (List.toArray <$> List.mapM (res1 tmps) fn.results.toList) M.w = .ok vs.toArray M.w := by
      rw [map_eq_pure_bind, Sem.run_bind, k4]; rfl
    rw [this]
    rfl
  by_cases h1 : vs.length = 1
  · obtain ⟨v, rfl⟩ := List.length_eq_one_iff.1 h1
    obtain ⟨x, rfl⟩ := List.length_eq_one_iff.1 (k2.trans h1)
    exact ⟨[x], v, k1, k3 0 x rfl, by simpa using hr⟩
  · refine ⟨xs, .tuple vs.toArray, k1, ?_, by rw [hr]; simp [h1]⟩
    have hp : pack xs = .tup xs := by
      unfold pack
      split
      · rename_i x; simp at k2; omega
      · rfl
    rw [hp]
    refine .tup (by simp [k2]) fun i x hx => ?_
    have := k3 i x hx
    simpa [Array.getD_eq_getD_getElem?, List.getD_eq_getElem?_getD] using this

end Go.PM

namespace Go.PM

def Mem.obj (M : Mem) (b : Nat) (o : Obj) : Mem := ⟨M.w.putObj b o, M.lo⟩

theorem obj_other (M : Mem) (b : Nat) (o : Obj) {k : Nat} (h : k ≠ b) : (M.obj b o).w.heap[k]? = M.w.heap[k]? ∧ (M.obj b o).lo k = M.lo k := ⟨World.putObj_heap_other h, rfl⟩

theorem obj_le {M : Mem} {b : Nat} {o : Obj} (h : ∀ i, M.w.cell? ⟨b, i, none⟩ = none) : M.Le (M.obj b o) := by
  intro k i hi
  have hne : k ≠ b := fun he => by have := hi.2; rw [he, h] at this; cases this
  have := cell?_heap (w := M.w) (w' := (M.obj b o).w) (obj_other M b o hne).1 i
  exact ⟨⟨hi.1, by rw [this]; exact hi.2⟩, by unfold Mem.get; rw [this]⟩

theorem obj_gu {F : Nat → Prop} {M : Mem} {b : Nat} {o : Obj} (h : ∀ i, M.w.cell? ⟨b, i, none⟩ = none) (hF : ¬ F b) : Gu F M (M.obj b o) :=
  ⟨by simp [Mem.obj], rfl, rfl, rfl, obj_le h, fun k hk => obj_other M b o (fun he => hF (he ▸ hk))⟩

theorem obj_ok {F : Nat → Prop} {M : Mem} (ok : MOk F M) (b : Nat) (o : Obj) : MOk F (M.obj b o) :=
  ⟨fun k hk => ok.top k (by simpa [Mem.obj] using hk), fun k hk => by simpa [Mem.obj] using ok.fr k hk⟩

/-- A box of another kind than cells turns. -/
theorem HRel.obj {F : Nat → Prop} {M : Mem} {hb : List HB} {h : List Box} (H : HRel F M hb h) {id : Nat} {b b' : Box} {e : HB} (h1 : h[id]? = some b) (h2 : hb[id]? = some e) (ho : b.owns e = true) {o : Obj}
    (hc : ∀ i, M.w.cell? ⟨e.blk, i, none⟩ = none) (hB : BoxRel (M.obj e.blk o) hb b' e) : HRel F (M.obj e.blk o) hb (h.set id b') := by
  have := H.update (M' := M.obj e.blk o) (b' := b') (e' := e) h1 h2 (obj_le hc) (by simp [Mem.obj]) (HBLe.set h2 (Nat.le_refl _) rfl (fun _ => rfl) (fun _ => rfl)) (fun k _ hk => obj_other M _ _ (hk ho)) (by rw [set_self h2]; exact hB) (fun _ => .inl ⟨ho, rfl⟩)
  rwa [set_self h2] at this

theorem cell?_notCells {w : World} {b : Nat} {o : Obj} (h : w.heap[b]? = some o) (hn : ∀ c ty fr, o ≠ .cells c ty fr) (i : Nat) : w.cell? ⟨b, i, none⟩ = none := by
  unfold World.cell?
  rw [h]
  cases o <;> first | rfl | (exact absurd rfl (hn _ _ _))

theorem leaveA_sound {P : Program} {F : Nat → Prop} {M0 : Mem} {hb0 : List HB} {fn : Func} {R : AE → List Box → Prop} {t : Tm} {tmps : Array Value} :
    ∀ (ds : List AD) (pan : Option AV) (pv : Option Value) (hb : List HB) (M : Mem) (h : List Box) (defers : List Deferred), HBLe hb0 hb → Gu F M0 M → TmpsRel M hb t tmps → DfRel M hb ds defers → HRel F M hb h → MOk F M → panRel M hb pan pv → leaveA P fn.results.toList t R pan ds h →
    LeavesInM Fence.wide 0 P fn tmps (CallR F M0 hb0 R) defers (modeOf pv) M.w := by
  intro ds
  induction ds with
  | nil =>
    intro pan pv hb M h defers hH hG ht hd H ok hp hk
    cases defers with
    | cons d ds => exact hd.elim
    | nil =>
      cases pan <;> cases pv <;> try exact hp.elim
      · obtain ⟨xs, v, k1, k2, k3⟩ := results_sound ht H hk
        exact ⟨v, k3, .ret (pack xs), h, M, hb, k1, k2, rfl, H, ok, hG, hH⟩
      · rename_i x v
        exact ⟨.panic x, h, M, hb, hk, ⟨v, rfl, hp⟩, rfl, H, ok, hG, hH⟩
  | cons d ds ih =>
    intro pan pv hb M h defers hH hG ht hd H ok hp hk
    cases defers with
    | nil => exact hd.elim
    | cons d' ds' =>
      obtain ⟨hd1, hd2⟩ := hd
      have hrun : modeOf pv ≠ .run := by cases pv <;> simp [modeOf]
      cases d with
      | call f args caps =>
        obtain ⟨a, c, rfl, ha, hc⟩ := hd1
        obtain ⟨k1, k2⟩ := hk F M hb (a ++ c) pv H ok (ha.app' hc) hp
        refine ⟨hrun, .inr ⟨fun h => by simp [Fence.wide] at h, .func f, c, f, a ++ c, rfl, by simp [invoke, run_callFunc' k1], fun _ _ => trivial, ?_⟩⟩
        refine CallsDIn.mono k2 ?_
        rintro e u' w' ⟨v, rfl, pan', pv', h', M', hb', q1, q2, q3, rfl, q5, q6, q7, q8⟩
        show LeavesInM _ _ _ _ _ _ _ (settle u') _
        rw [q3]
        exact ih pan' pv' hb' M' h' ds' (hH.trans q8) (hG.trans q7) (ht.mono q7.le q8) (hd2.mono q7.le q8) q5 q6 q2 q1
      | mark id =>
        obtain ⟨hh, hk⟩ := hk
        obtain ⟨e, q1, q2, rfl⟩ := hd1
        obtain ⟨_, hobj⟩ := H.box id _ e hh q1
        have hown := H.own id _ e hh q1 rfl
        have hc : ∀ i, M.w.cell? ⟨e.blk, i, none⟩ = none := cell?_notCells hobj (fun _ _ _ he => by cases he)
        have hle := obj_le (o := .deferred none) hc
        refine ⟨hrun, .inl ⟨e.blk, _, rfl, run_takeDeferred hobj, ?_⟩⟩
        exact ih pan pv hb (M.obj e.blk (.deferred none)) (h.set id .dead) ds' hH (hG.trans (obj_gu hc hown.2)) (ht.mono hle (.refl hb)) (hd2.mono hle (.refl hb)) (H.obj hh q1 rfl hc trivial) (obj_ok ok _ _) (hp.mono hle (.refl hb)) hk

/-- What a function's body must come to. -/
def bodyA (P : Program) (fn : Func) (R : AE → List Box → Prop) : AX → St → Prop
  | .normal, s | .ret, s => leaveA P fn.results.toList s.t R none s.d s.h
  | .panic x, s => leaveA P fn.results.toList s.t R (some x) s.d s.h
  | _, _ => False

theorem CallT.intro {P : Program} {f : FuncId} {fn : Func} {c : Code} {args : List AV} {h : List Box} {R : AE → List Box → Prop} (hf : P.funcs[f]? = some fn) (hn : fn.name ≠ "runtime.NumGoroutine") (hb : fn.body = some c)
    (hc : CodeT P none c ⟨enterTm fn.ntmps args, h, []⟩ (bodyA P fn R)) : CallT P f args h R := by
  refine ⟨⟨fn, hf, hn, by rw [hb]; rfl⟩, fun F M hb0 vs H ok hv => (callsIn_wide (n := 0)).1 ?_⟩
  refine callsIn_of_wp_marks hf hb trivial ?_ rfl
  have := hc F M hb0 { tmps := vs ++ Array.replicate (fn.ntmps - vs.size) undef, defers := [] } none ⟨enterTm_rel hv _, trivial, H, ok⟩ trivial
  refine wpIn_mono this ?_
  rintro e a w ⟨x, s', M', hb', k1, k2, rfl, k4, k5, k6⟩
  cases x <;> cases e <;> try (first | exact k2.elim | exact k1.elim)
  · exact leaveA_sound s'.d none none hb' M' s'.h a.defers k6 k5 k4.tm k4.df k4.hp k4.ok trivial k1
  · exact leaveA_sound s'.d none none hb' M' s'.h a.defers k6 k5 k4.tm k4.df k4.hp k4.ok trivial k1
  · obtain ⟨v, rfl, hv'⟩ := k2
    exact leaveA_sound s'.d (some _) (some v) hb' M' s'.h a.defers k6 k5 k4.tm k4.df k4.hp k4.ok hv' k1

end Go.PM

namespace Go.PM

def putsTm (t : Tm) : List Tmp → List AV → Tm
  | p :: ps, x :: xs => putsTm (t.put p x) ps xs
  | _, _ => t

theorem puts_rel {M : Mem} {hb : List HB} : ∀ (ps : List Tmp) (xs : List AV) (vs : List Value) (t : Tm) (tmps : Array Value), TmpsRel M hb t tmps → xs.length = vs.length → (∀ (i : Nat) (x : AV), xs[i]? = some x → VRel M hb x (vs.getD i undef)) →
    TmpsRel M hb (putsTm t ps xs) ((ps.zip vs).foldl (fun tmps (t, a) => tmps.setIfInBounds t a) tmps) := by
  intro ps
  induction ps with
  | nil => intro xs vs t tmps h _ _; simpa [putsTm] using h
  | cons p ps ih =>
    intro xs vs t tmps h hl hv
    cases xs with
    | nil => cases vs with
      | nil => simpa [putsTm] using h
      | cons v vs => simp at hl
    | cons x xs => cases vs with
      | nil => simp at hl
      | cons v vs =>
        simp only [putsTm, List.zip_cons_cons, List.foldl_cons]
        refine ih xs vs _ _ (h.set p ?_) (by simpa using hl) (fun i y hy => ?_)
        · simpa using hv 0 x rfl
        · simpa using hv (i + 1) y (by simpa using hy)

/-- The end of a round. -/
def endA (id : Nat) (R : AE → List Box → Prop) (jump : Option Code) (s : St) : Prop :=
  match s.h[id]? with
  | some (.loop fn t ps asg b _ _) => R (.ret (.val (.bool jump.isNone))) (s.h.set id (.loop fn t ps asg b (if jump.isNone then .ready else .done) jump))
  | _ => False
def roundA (id : Nat) (R : AE → List Box → Prop) : AX → St → Prop
  | .normal, s => endA id R none s
  | .ret, s => endA id R (some .ret) s
  | .exit i, s => endA id R (some (.exit i)) s
  | .goto l, s => endA id R (some (.goto l)) s
  | .panic _, _ => False

theorem loop_put {F : Nat → Prop} {M : Mem} {hb : List HB} {h : List Box} (H : HRel F M hb h) (ok : MOk F M) {id : Nat} {fn : FuncId} {t : Tm} {ps : List Tmp} {asg b : Code} {st : LoopState} {pend : Option Code} (hh : h[id]? = some (.loop fn t ps asg b st pend)) {e : HB} (he : hb[id]? = some e) :
    ∃ r : Loop, M.w.heap[e.blk]? = some (.loop r) ∧ r.fn = fn ∧ r.state = st ∧ r.pending = pend ∧ r.params.toList = ps ∧ r.assign = asg ∧ r.body = b ∧ TmpsRel M hb t r.tmps ∧
      ∀ (st' : LoopState) (pend' : Option Code), ∃ M' : Mem, M'.w = M.w.putObj e.blk (.loop { r with state := st', pending := pend' }) ∧ HRel F M' hb (h.set id (.loop fn t ps asg b st' pend')) ∧ MOk F M' ∧ Gu F M M' := by
  obtain ⟨q2, r, q3, q4, q5, q6, q7, q8, q9, q10⟩ := H.box id _ e hh he
  have hown := H.own id _ e hh he rfl
  have hc : ∀ i, M.w.cell? ⟨e.blk, i, none⟩ = none := cell?_notCells q3 (fun _ _ _ he => by cases he)
  refine ⟨r, q3, q4, q9, q10, q6, q7, q8, q5, fun st' pend' => ⟨M.obj e.blk (.loop { r with state := st', pending := pend' }), rfl, ?_, obj_ok ok _ _, obj_gu hc hown.2⟩⟩
  refine H.obj hh he rfl hc ⟨q2, _, World.putObj_heap_same hown.1, q4, q5.mono (obj_le hc) (.refl hb), q6, q7, q8, rfl, rfl⟩

theorem endA_sound {P : Program} {F : Nat → Prop} {M0 : Mem} {hb0 : List HB} {id : Nat} {R : AE → List Box → Prop} {jump : Option Code} {s : St} {M : Mem} {hb : List HB} {a : Act} (hs : SRel F M hb s a) (hG : Gu F M0 M) (hH : HBLe hb0 hb) {e : HB} (he : hb[id]? = some e)
    (hk : endA id R jump s) : ∃ v w', (Instr.endRound e.blk jump).run P M.w = .ok v w' ∧ CallR F M0 hb0 R (.returned v) w' := by
  unfold endA at hk
  split at hk
  · rename_i fn t ps asg b st pend hh
    obtain ⟨r, q1, q2, q3, q4, q5, q6, q7, q8, q9⟩ := loop_put hs.hp hs.ok hh he
    obtain ⟨M', g1, g2, g3, g4⟩ := q9 (if jump.isNone then .ready else .done) jump
    exact ⟨_, _, run_endRound jump q1, _, _, M', hb, hk, .val rfl, g1, g2, g3, hG.trans g4, hH⟩
  · exact hk.elim

/-- A round: the assignments to the loop's variables, then the body. -/
theorem YieldT.intro {P : Program} {id : Nat} {args : List AV} {h : List Box} {R : AE → List Box → Prop} {fn : FuncId} {t : Tm} {ps : List Tmp} {asg b : Code} {st : LoopState} {pend : Option Code} (hh : h[id]? = some (.loop fn t ps asg b st pend)) (hl : args.length = ps.length)
    (hc : CodeT P (some id) asg ⟨putsTm t ps args, h, []⟩ (AX.thn (fun s1 => match s1.h[id]? with
      | some (.loop fn t ps asg b' .ready pend) => CodeT P (some id) b ⟨s1.t, s1.h.set id (.loop fn t ps asg b' .busy pend), s1.d⟩ (roundA id R)
      | _ => False) (fun _ _ => False))) : YieldT P id args h R := by
  intro F M hb vs H ok hv
  obtain ⟨e, he⟩ : ∃ e, hb[id]? = some e := by
    have : id < hb.length := by rw [H.len]; exact (List.getElem?_eq_some_iff.1 hh).1
    exact ⟨_, List.getElem?_eq_getElem this⟩
  have hfix : e.fix = true := (H.box id _ e hh he).1
  obtain ⟨r, q1, q2, q3, q4, q5, q6, q7, q8, _⟩ := loop_put H ok hh he
  refine ⟨e, he, hfix, r.fn, _, r.assign, r.body, run_yield q1 ?_, ?_⟩
  · rw [← hv.1, hl, ← q5]; simp
  refine roundIn_of_wpIn trivial ?_
  have ht : TmpsRel M hb (putsTm t ps args) ((r.params.zip vs).foldl (fun tmps (t, a) => tmps.setIfInBounds t a) r.tmps) := by
    have := puts_rel ps args vs.toList t r.tmps q8 (by simp [hv.1]) (fun i x hx => by
      have := hv.2 i x hx
      simpa [Array.getD_eq_getD_getElem?, List.getD_eq_getElem?_getD] using this)
    rw [← q5] at this ⊢
    rw [← Array.foldl_toList]
    simpa using this
  rw [q6, q7]
  have h1 := hc F M hb { tmps := (r.params.zip vs).foldl (fun tmps (t, a) => tmps.setIfInBounds t a) r.tmps, defers := [] } (some e.blk) ⟨ht, trivial, H, ok⟩ ⟨e, he, hfix, rfl⟩
  refine wpIn_mono (F := Fence.wide.inRound e.blk) h1 ?_
  rintro x' a' w' ⟨x, s1, M1, hb1, k1, k2, rfl, k4, k5, k6⟩
  obtain ⟨e1, j1, _, _, j4, _⟩ := k6 id e he
  rw [j4 hfix] at j1
  cases x <;> cases x' <;> try (first | exact k2.elim | exact k1.elim)
  simp only [AX.thn] at k1
  split at k1
  · rename_i fn' t' ps' asg' b' pend' hh1
    obtain ⟨r1, p1, p2, p3, p4, p5, p6, p7, p8, p9⟩ := loop_put k4.hp k4.ok hh1 j1
    obtain ⟨M2, g1, g2, g3, g4⟩ := p9 .busy pend'
    refine ⟨_, run_beginRound p1 p3, ?_⟩
    have hw : M2.w = M1.w.putObj e.blk (.loop { r1 with state := .busy }) := by rw [g1, ← p4]
    rw [← hw]
    have h2 := k1 F M2 hb1 a' (some e.blk) ⟨k4.tm.mono g4.le (.refl _), k4.df.mono g4.le (.refl _), g2, g3⟩ ⟨e, j1, hfix, rfl⟩
    refine wpIn_mono (F := Fence.wide.inRound e.blk) h2 ?_
    rintro x' a'' w' ⟨x, s3, M3, hb3, m1, m2, rfl, m4, m5, m6⟩
    obtain ⟨e3, n1, _, _, n4, _⟩ := m6 id e j1
    rw [n4 hfix] at n1
    cases x <;> cases x' <;> try (first | exact m2.elim | exact m1.elim)
    · exact endA_sound m4 (k5.trans (g4.trans m5)) (k6.trans m6) n1 m1
    · obtain rfl := m2
      exact endA_sound m4 (k5.trans (g4.trans m5)) (k6.trans m6) n1 m1
    · obtain rfl := m2
      exact endA_sound m4 (k5.trans (g4.trans m5)) (k6.trans m6) n1 m1
    · exact endA_sound m4 (k5.trans (g4.trans m5)) (k6.trans m6) n1 m1
  · exact k1.elim

/-- Behind the function that was ranged over. -/
def rangeA (P : Program) (rd : Option Nat) (s : St) (Φ : AX → St → Prop) : AE → List Box → Prop
  | .ret _, h => match h[s.h.length + 1]? with
    | some (.loop fn t ps asg b st pend) => st ≠ .busy ∧ (match pend with
      | none => Φ .normal ⟨s.t, h.set (s.h.length + 1) (.loop fn t ps asg b .exhausted pend), .mark s.h.length :: s.d⟩
      | some c => CodeT P rd c ⟨s.t, h.set (s.h.length + 1) (.loop fn t ps asg b .exhausted pend), .mark s.h.length :: s.d⟩ Φ)
    | _ => False
  | .panic x, h => Φ (.panic x) ⟨s.t, h, .mark s.h.length :: s.d⟩

theorem CodeT.rangeFunc {P : Program} {s : St} {Φ : AX → St → Prop} {g : Operand} {ps : Array Tmp} {asg b : Code} {f : FuncId} {caps : List AV} (hg : s.ev g = .fn f caps)
    (hc : ∀ fn, CallT P f (.yld (s.h.length + 1) :: caps) (s.h ++ [.defer] ++ [.loop fn s.t ps.toList asg b .ready none]) (rangeA P none s Φ)) : CodeT P none (.rangeFunc g ps asg b) s Φ := by
  intro F M hb a ro hs hr
  cases ro with
  | some _ => exact hr.elim
  | none =>
  refine wpIn_rangeFunc fun fn _ => ?_
  have hv := hs.ev g
  rw [hg] at hv
  generalize hgv : a.eval g = v at hv
  cases hv with
  | @fn _ _ _ us h1 h2 =>
    let M1 := M.new (.deferred (some [])) 0
    let hb1 := hb ++ [⟨M.w.heap.size, 0, 0, 0, true, true⟩]
    have hA1 : Adds M M1 := Adds.new _ _ _
    have ok1 : MOk F M1 := hs.ok.new _ _
    have g1 := hA1.gu hs.ok
    have H1 : HRel F M1 hb1 (s.h ++ [.defer]) := hs.hp.push hA1 hs.ok .defer ⟨M.w.heap.size, 0, 0, 0, true, true⟩ ⟨rfl, Mem.new_heap M _ _⟩ (fun _ => ⟨Nat.le_refl _, by rw [Mem.new_size]; exact Nat.lt_succ_self _⟩)
    let r : Loop := { state := .ready, pending := none, fn, tmps := a.tmps, params := ps, assign := asg, body := b, defers := M.w.heap.size }
    let M2 := M1.new (.loop r) 0
    let hb2 := hb1 ++ [⟨M1.w.heap.size, 0, 0, 0, true, true⟩]
    have hA2 : Adds M1 M2 := Adds.new _ _ _
    have ok2 : MOk F M2 := ok1.new _ _
    have g2 := hA2.gu ok1
    have hle1 : HBLe hb hb1 := .append _ _
    have hle2 : HBLe hb1 hb2 := .append _ _
    have hsz2 : M1.w.heap.size < M2.w.heap.size := by
      have : M2.w.heap.size = M1.w.heap.size + 1 := Mem.new_size _ _ _
      omega
    have H2 : HRel F M2 hb2 (s.h ++ [.defer] ++ [.loop fn s.t ps.toList asg b .ready none]) := H1.push hA2 ok1 _ ⟨M1.w.heap.size, 0, 0, 0, true, true⟩
      ⟨rfl, r, Mem.new_heap M1 _ _, rfl, hs.tm.mono (g1.trans g2).le (hle1.trans hle2), rfl, rfl, rfl, rfl, rfl⟩ (fun _ => ⟨Nat.le_refl _, hsz2⟩)
    have hsz1 : M1.w.heap.size = M.w.heap.size + 1 := Mem.new_size _ _ _
    have hd : hb2[s.h.length]? = some ⟨M.w.heap.size, 0, 0, 0, true, true⟩ := by
      simp only [hb2, hb1, List.append_assoc]
      rw [List.getElem?_append_right (by rw [hs.hp.len]; exact Nat.le_refl _), hs.hp.len]
      simp
    have hlp : hb2[s.h.length + 1]? = some ⟨M.w.heap.size + 1, 0, 0, 0, true, true⟩ := by
      simp only [hb2, hb1, List.append_assoc]
      rw [List.getElem?_append_right (by rw [hs.hp.len]; omega), hs.hp.len]
      simp [hsz1]
    have hargs : ListRel M2 hb2 (.yld (s.h.length + 1) :: caps) (#[.func (.yield (M.w.heap.size + 1)) #[] #[]] ++ us) := by
      refine ⟨by simp [h1]; omega, fun i x hx => ?_⟩
      cases i with
      | zero =>
        simp at hx; subst hx
        have he : (#[Value.func (.yield (M.w.heap.size + 1)) #[] #[]] ++ us).getD 0 undef = .func (.yield (M.w.heap.size + 1)) #[] #[] := by
          rw [Array.getD_eq_getD_getElem?, Array.getElem?_append_left (by simp)]
          rfl
        rw [he]
        exact .yld _ hlp rfl
      | succ i =>
        have hx' : caps[i]? = some x := by simpa using hx
        have := (h2 i x hx').mem (g1.trans g2).le |>.hb (hle1.trans hle2)
        have he : (#[Value.func (.yield (M.w.heap.size + 1)) #[] #[]] ++ us).getD (i + 1) undef = us.getD i undef := by
          simp only [Array.getD_eq_getD_getElem?]
          rw [Array.getElem?_append_right (by simp)]
          simp
        rw [he]; exact this
    refine ⟨M.w.heap.size + 1, _, M2.w, { target := .fn (.func f) us, args := #[.func (.yield (M.w.heap.size + 1)) #[] #[]] }, M2.w, f, #[.func (.yield (M.w.heap.size + 1)) #[] #[]] ++ us, M2.w, run_enterLoop_outer (w := M.w) fn a.tmps ps asg b, ?_, fun _ _ => trivial, ?_, fun h => by simp [fenceAt, Fence.wide] at h, callsIn_fenceAt.2 ?_⟩
    · have he : (rangeCall g (M.w.heap.size + 1)).args.map a.eval = #[.func (.yield (M.w.heap.size + 1)) #[] #[]] := by simp [Act.eval]
      unfold resolve
      rw [he]
      show (Deferred.ofValue (a.eval g) _).run P _ = _
      rw [hgv]
      rfl
    · exact run_callFunc (hc fn).1 _ _
    refine Calls.mono ((hc fn).2 F M2 hb2 _ H2 ok2 hargs) ?_
    rintro e w' ⟨r', h', M', hb', k1, k2, rfl, k4, k5, k6, k7⟩
    have hG := (g1.trans g2).trans k6
    have hH := (hle1.trans hle2).trans k7
    have hdf : DfRel M' hb' (.mark s.h.length :: s.d) ([{ target := .collected M.w.heap.size, args := #[] }] ++ a.defers) := by
      obtain ⟨e', n1, _, _, n4, _⟩ := k7 _ _ hd
      rw [n4 rfl] at n1
      exact ⟨⟨_, n1, rfl, rfl⟩, hs.df.mono hG.le hH⟩
    cases r' <;> cases e <;> try exact k2.elim
    · simp only [rangeA] at k1
      split at k1
      · rename_i fn' t' ps' asg' b' st pend hh1
        obtain ⟨hbusy, k1⟩ := k1
        obtain ⟨e', n1, _, _, n4, _⟩ := k7 _ _ hlp
        rw [n4 rfl] at n1
        obtain ⟨r1, p1, p2, p3, p4, p5, p6, p7, p8, p9⟩ := loop_put k4 k5 hh1 n1
        obtain ⟨M3, m1, m2, m3, m4⟩ := p9 .exhausted pend
        refine ⟨pend, M3.w, ?_, ?_⟩
        · have := run_endLoop (P := P) p1 (by rw [p3]; exact hbusy)
          rw [p4] at this
          rw [m1, ← p4] at *
          simpa [p4] using this
        · have hs3 : SRel F M3 hb' ⟨s.t, h'.set (s.h.length + 1) (.loop fn' t' ps' asg' b' .exhausted pend), .mark s.h.length :: s.d⟩ { a with defers := [{ target := .collected M.w.heap.size, args := #[] }] ++ a.defers } :=
            ⟨hs.tm.mono (hG.trans m4).le hH, hdf.mono m4.le (.refl _), m2, m3⟩
          cases pend with
          | none => exact ⟨.normal, _, M3, hb', k1, trivial, rfl, hs3, hG.trans m4, hH⟩
          | some c => exact wpIn_mono (k1 F M3 hb' _ none hs3 trivial) fun _ _ _ hq => hq.trans (hG.trans m4) hH
      · exact k1.elim
    · obtain ⟨v, rfl, hv'⟩ := k2
      exact ⟨.panic _, _, M', hb', k1, ⟨v, rfl, hv'⟩, rfl, ⟨hs.tm.mono hG.le hH, hdf, k4, k5⟩, hG, hH⟩

end Go.PM

namespace Go.PM

/-- The variables are what they were. -/
def Stable (h h' : List Box) : Prop := ∀ (id : Nat) (cs : List AV), h[id]? = some (.cells cs) → h'[id]? = some (.cells cs)
theorem Stable.refl (h : List Box) : Stable h h := fun _ _ hh => hh
theorem Stable.trans {a b c : List Box} (h : Stable a b) (h' : Stable b c) : Stable a c := fun id cs hh => h' id cs (h id cs hh)
theorem Stable.append (h l : List Box) : Stable h (h ++ l) := fun id cs hh => by
  have hi := (List.getElem?_eq_some_iff.1 hh).1
  rw [List.getElem?_append_left hi]; exact hh
theorem Stable.setRow {h : List Box} {id : Nat} {mt ver sz es} (hh : h[id]? = some (.row mt ver sz es)) (b : Box) : Stable h (h.set id b) := fun i cs hi => by
  by_cases he : id = i
  · subst he; rw [hh] at hi; cases hi
  · rw [List.getElem?_set_ne he]; exact hi
theorem stable_nil (h : List Box) : Stable [] h := fun id cs hh => by simp at hh
theorem stable_cells (cs : List AV) (b : Box) (h h' : List Box) : Stable (.cells cs :: h) (b :: h') ↔ b = .cells cs ∧ Stable h h' := by
  refine ⟨fun hs => ⟨by simpa using hs 0 cs rfl, fun id cs hh => by simpa using hs (id + 1) cs (by simpa using hh)⟩, fun hs id cs' hh => ?_⟩
  cases id with
  | zero => simp at hh; subst hh; simp [hs.1]
  | succ id => simpa using hs.2 id cs' (by simpa using hh)
theorem stable_row (mt : Bool) (ver sz : Nat) (es : List AV) (b : Box) (h h' : List Box) : Stable (.row mt ver sz es :: h) (b :: h') ↔ Stable h h' := by
  refine ⟨fun hs id cs hh => by simpa using hs (id + 1) cs (by simpa using hh), fun hs id cs' hh => ?_⟩
  cases id with
  | zero => simp at hh
  | succ id => simpa using hs id cs' (by simpa using hh)
theorem stable_dead (b : Box) (h h' : List Box) : Stable (.dead :: h) (b :: h') ↔ Stable h h' := by
  refine ⟨fun hs id cs hh => by simpa using hs (id + 1) cs (by simpa using hh), fun hs id cs' hh => ?_⟩
  cases id with
  | zero => simp at hh
  | succ id => simpa using hs id cs' (by simpa using hh)
theorem stable_defer (b : Box) (h h' : List Box) : Stable (.defer :: h) (b :: h') ↔ Stable h h' := by
  refine ⟨fun hs id cs hh => by simpa using hs (id + 1) cs (by simpa using hh), fun hs id cs' hh => ?_⟩
  cases id with
  | zero => simp at hh
  | succ id => simpa using hs id cs' (by simpa using hh)
theorem stable_loop (fn : FuncId) (t : Tm) (ps : List Tmp) (asg bd : Code) (st : LoopState) (pend : Option Code) (b : Box) (h h' : List Box) : Stable (.loop fn t ps asg bd st pend :: h) (b :: h') ↔ Stable h h' := by
  refine ⟨fun hs id cs hh => by simpa using hs (id + 1) cs (by simpa using hh), fun hs id cs' hh => ?_⟩
  cases id with
  | zero => simp at hh
  | succ id => simpa using hs id cs' (by simpa using hh)

/-- A value that leads into no row. -/
def AV.noRow : AV → Bool
  | .hsl .. | .eptr .. => false
  | _ => true

theorem loadAV_det {T : Ty} {cs : List AV} {off : Nat} {K : AV → Prop} (hk : loadAV T cs off K) : ∃ v, K v ∧ ∀ K', K' v → loadAV T cs off K' := by
  unfold loadAV at *
  obtain ⟨h1, h2⟩ := hk
  split at h2
  · rename_i ha; exact ⟨_, h2, fun K' hK => ⟨h1, by rw [if_pos ha]; exact hK⟩⟩
  · rename_i ha; exact ⟨_, h2.2, fun K' hK => ⟨h1, by rw [if_neg ha]; exact ⟨h2.1, hK⟩⟩⟩

theorem loadA_det {P : Program} {h : List Box} {t : TypeId} {p : AV} {K : AV → Prop} (hn : p.noRow = true) (hk : loadA P h t p K) : ∃ v, K v ∧ ∀ h', Stable h h' → ∀ K', K' v → loadA P h' t p K' := by
  unfold loadA at *
  cases hT : tyOf P t with
  | none => rw [hT] at hk; exact hk.elim
  | some T =>
    rw [hT] at hk
    simp only at hk ⊢
    split at hk
    · split at hk
      · rename_i cs hh
        obtain ⟨v, k1, k2⟩ := loadAV_det hk
        exact ⟨v, k1, fun h' hs K' hK => by simp only [hs _ _ hh]; exact k2 K' hK⟩
      · exact hk.elim
    · cases hn
    · obtain ⟨v, k1, k2⟩ := loadAV_det hk
      exact ⟨v, k1, fun _ _ => k2⟩
    · exact hk.elim

theorem fieldAddrA_det {P : Program} {st : TypeId} {p : AV} {f : Nat} {K : AV → Prop} (hk : fieldAddrA P st p f K) : ∃ v, K v ∧ ∀ K', K' v → fieldAddrA P st p f K' := by
  unfold fieldAddrA at *
  split at hk
  · exact hk.elim
  · rename_i off T hT
    obtain ⟨h1, hk⟩ := hk
    split at hk
    · exact ⟨_, hk, fun K' hK => ⟨h1, hK⟩⟩
    · exact ⟨_, hk, fun K' hK => ⟨h1, hK⟩⟩
    · exact ⟨_, hk, fun K' hK => ⟨h1, hK⟩⟩
    · exact hk.elim

theorem indexAddrA_det {P : Program} {h : List Box} {t : TypeId} {p i : AV} {K : AV → Prop} (hn : p.noRow = true) (hk : indexAddrA P h t p i K) : ∃ v, K v ∧ ∀ h' K', K' v → indexAddrA P h' t p i K' := by
  unfold indexAddrA at *
  split at hk
  · split at hk
    · split at hk
      · rename_i e T hE
        obtain ⟨h1, h2, h3, hk⟩ := hk
        exact ⟨_, hk, fun _ K' hK => ⟨h1, h2, h3, hK⟩⟩
      · exact hk.elim
    · cases hn
    · split at hk
      · split at hk
        · obtain ⟨h1, h2, hk⟩ := hk
          exact ⟨_, hk, fun _ K' hK => ⟨h1, h2, hK⟩⟩
        · exact hk.elim
      · exact hk.elim
    · exact hk.elim
  · exact hk.elim

theorem ite_det {b : Bool} {x y : AV} {q : Prop} {K : AV → Prop} (h : if b = true then K x else q ∧ K y) : ∃ v, K v ∧ ∀ K' : AV → Prop, K' v → (if b = true then K' x else q ∧ K' y) := by
  cases b
  · exact ⟨y, h.2, fun K' hK => ⟨h.1, hK⟩⟩
  · exact ⟨x, h, fun K' hK => hK⟩

theorem indexA_det {P : Program} {t : TypeId} {p i : AV} {K : AV → Prop} (hk : indexA P t p i K) : ∃ v, K v ∧ ∀ K', K' v → indexA P t p i K' := by
  unfold indexA at *
  split at hk
  · split at hk
    · obtain ⟨h1, h2, h3, hk⟩ := hk
      exact ⟨_, hk, fun K' hK => ⟨h1, h2, h3, hK⟩⟩
    · split at hk
      · rename_i hu
        split at hk
        · rename_i T hT
          obtain ⟨h1, h2, h3, hk⟩ := hk
          obtain ⟨v, k1, k2⟩ := ite_det hk
          exact ⟨v, k1, fun K' hK => ⟨h1, h2, h3, k2 K' hK⟩⟩
        · exact hk.elim
      · exact hk.elim
    · exact hk.elim
  · exact hk.elim

theorem fieldA_det {P : Program} {t : TypeId} {x : AV} {f : Nat} {K : AV → Prop} (hk : fieldA P t x f K) : ∃ v, K v ∧ ∀ K', K' v → fieldA P t x f K' := by
  unfold fieldA at *
  split at hk
  · split at hk
    · obtain ⟨h1, hk⟩ := hk
      obtain ⟨v, k1, k2⟩ := ite_det hk
      exact ⟨v, k1, fun K' hK => ⟨h1, k2 K' hK⟩⟩
    · exact hk.elim
  · exact hk.elim

theorem sliceA_det {P : Program} {h : List Box} {t : TypeId} {x : AV} {lo hi mx : Option AV} {K : AV → Prop} (hn : x.noRow = true) (hk : sliceA P h t x lo hi mx K) : ∃ v, K v ∧ ∀ h' K', K' v → sliceA P h' t x lo hi mx K' := by
  unfold sliceA at *
  split at hk
  · split at hk
    · split at hk
      · obtain ⟨h0, hk⟩ := hk
        split at hk
        · obtain ⟨h1, h2, h3, hk⟩ := hk
          exact ⟨_, hk, fun _ K' hK => ⟨h0, h1, h2, h3, hK⟩⟩
        · obtain ⟨h1, h2, h3, h4, hk⟩ := hk
          exact ⟨_, hk, fun _ K' hK => ⟨h0, h1, h2, h3, h4, hK⟩⟩
        · exact hk.elim
      · exact hk.elim
    · cases hn
    · obtain ⟨h1, h2, h3, h4, h5, hk⟩ := hk
      exact ⟨_, hk, fun _ K' hK => ⟨h1, h2, h3, h4, h5, hK⟩⟩
    · exact hk.elim
  · exact hk.elim

theorem convA_det {P : Program} {src dst : TypeId} {x : AV} {K : AV → Prop} (hk : convA P src dst x K) : ∃ v, K v ∧ ∀ K', K' v → convA P src dst x K' := by
  unfold convA at *
  split at hk
  · exact ⟨_, hk, fun K' hK => by simpa only using hK⟩
  · exact ⟨_, hk, fun K' hK => hK⟩
  · exact ⟨_, hk.2.2, fun K' hK => ⟨hk.1, hk.2.1, hK⟩⟩
  · exact hk.elim

theorem lookA_det {P : Program} {h : List Box} {b : Builtin} {ts : List TypeId} {xs : List AV} {K : AV → Prop} (hn : xs.all AV.noRow = true) (hk : lookA P h b ts xs K) : ∃ v, K v ∧ ∀ h' K', K' v → lookA P h' b ts xs K' := by
  unfold lookA at *
  split at hk
  · exact ⟨_, hk.2, fun _ K' hK => ⟨hk.1, hK⟩⟩
  · exact ⟨_, hk.2, fun _ K' hK => ⟨hk.1, hK⟩⟩
  · simp [AV.noRow] at hn
  · split at hk
    · split at hk
      · exact ⟨_, hk, fun _ K' hK => hK⟩
      · exact hk.elim
    · exact ⟨_, hk, fun _ K' hK => hK⟩
    · exact hk.elim
  · split at hk
    · exact ⟨_, hk, fun _ K' hK => hK⟩
    · exact hk.elim
  · exact ⟨_, hk, fun _ K' hK => hK⟩
  · exact ⟨_, hk, fun _ K' hK => hK⟩
  · exact hk.elim

theorem binP_det {u : Option TypeDesc} {op : BinOp} {x y : Value} {K : Value → Prop} (hk : binP u op x y K) : ∃ v, K v ∧ ∀ K', K' v → binP u op x y K' := by
  unfold binP at *
  split at hk <;> first
    | exact hk.elim
    | exact ⟨_, hk, fun K' hK => hK⟩
    | exact ⟨_, hk.2, fun K' hK => ⟨hk.1, hK⟩⟩
    | exact ⟨_, hk.2.2, fun K' hK => ⟨hk.1, hk.2.1, hK⟩⟩

theorem aggEqA_det {P : Program} {t : TypeId} {op : BinOp} {xs ys : List AV} {K : Bool → Prop} (hk : aggEqA P t op xs ys K) : ∃ v, K v ∧ ∀ K', K' v → aggEqA P t op xs ys K' := by
  unfold aggEqA at *
  obtain ⟨h1, h2, h3, hk⟩ := hk
  split at hk
  · split at hk
    · exact ⟨_, hk, fun K' hK => ⟨h1, h2, h3, hK⟩⟩
    · exact ⟨_, hk, fun K' hK => ⟨h1, h2, h3, hK⟩⟩
    · exact hk.elim
  · exact hk.elim
theorem binP_mono {u : Option TypeDesc} {op : BinOp} {x y : Value} {K K' : Value → Prop} (hk : binP u op x y K) (h : ∀ v, K v → K' v) : binP u op x y K' := by
  unfold binP at *
  split at hk <;> first
    | exact hk.elim
    | exact h _ hk
    | exact ⟨hk.1, h _ hk.2⟩
    | exact ⟨hk.1, hk.2.1, h _ hk.2.2⟩

/-- No comparison with nil. -/
def noNil : Op → Bool
  | .binOp _ _ _ y _ => !isNilConst y
  | _ => true

/-- What is looked at leads into no row. -/
def evNoRow (s : St) (op : Op) : Prop := ∀ x ∈ op.operands, (s.ev x).noRow = true

theorem opQ_det {P : Program} {t : Tm} {h : List Box} {d : List AD} {op : Op} {K : AV → Prop} (hn : noNil op = true) (hr : evNoRow ⟨t, h, d⟩ op) (hk : opQ P ⟨t, h, d⟩ op K) : ∃ v, K v ∧ ∀ h' d', Stable h h' → ∀ K', K' v → opQ P ⟨t, h', d'⟩ op K' := by
  have hev : ∀ h' d', (⟨t, h', d'⟩ : St).ev = (⟨t, h, d⟩ : St).ev := fun _ _ => funext fun x => by cases x <;> rfl
  unfold evNoRow at hr
  unfold opQ at *
  simp only [hev]
  split at hk
  · exact ⟨_, hk, fun _ _ _ K' hK => hK⟩
  · exact ⟨_, hk, fun _ _ _ K' hK => hK⟩
  · split at hk
    · rename_i b hb
      cases b
      · exact ⟨_, hk.2 rfl, fun _ _ _ K' hK => ⟨fun hh => (by cases hh), fun _ => hK⟩⟩
      · exact ⟨_, hk.1 rfl, fun _ _ _ K' hK => ⟨fun _ => hK, fun hh => (by cases hh)⟩⟩
    · exact hk.elim
  · split at hk <;> first
      | exact hk.elim
      | exact ⟨_, hk, fun _ _ _ K' hK => hK⟩
  · rename_i op tt x y _
    have hny : ¬ isNilConst y = true := by simpa [noNil] using hn
    simp only [if_neg hny] at hk ⊢
    split at hk
    · obtain ⟨v, k1, k2⟩ := binP_det hk
      exact ⟨_, k1, fun _ _ _ K' hK => k2 (fun v => K' (.val v)) hK⟩
    · obtain ⟨v, k1, k2⟩ := aggEqA_det hk
      exact ⟨_, k1, fun _ _ _ K' hK => k2 (fun b => K' (.val (.bool b))) hK⟩
    · exact hk.elim
  · split at hk <;> first
      | exact hk.elim
      | exact ⟨_, hk, fun _ _ _ K' hK => hK⟩
  · obtain ⟨v, k1, k2⟩ := convA_det hk
    exact ⟨v, k1, fun _ _ _ => k2⟩
  · split at hk
    · exact hk.elim
    · exact ⟨_, hk, fun _ _ _ K' hK => hK⟩
    · exact hk.elim
  · exact ⟨_, hk.2, fun _ _ _ K' hK => ⟨hk.1, hK⟩⟩
  · obtain ⟨v, k1, k2⟩ := fieldA_det hk
    exact ⟨v, k1, fun _ _ _ => k2⟩
  · obtain ⟨v, k1, k2⟩ := fieldAddrA_det hk.2
    exact ⟨v, k1, fun _ _ _ K' hK => ⟨hk.1, k2 K' hK⟩⟩
  · obtain ⟨v, k1, k2⟩ := indexA_det hk
    exact ⟨v, k1, fun _ _ _ => k2⟩
  · rename_i tt x i
    obtain ⟨v, k1, k2⟩ := indexAddrA_det (hr x (by simp [Op.operands])) hk
    exact ⟨v, k1, fun h' _ _ => k2 h'⟩
  · rename_i tt x lo hi mx
    obtain ⟨v, k1, k2⟩ := sliceA_det (hr x (by simp [Op.operands])) hk
    exact ⟨v, k1, fun h' _ _ => k2 h'⟩
  · rename_i tt p
    obtain ⟨v, k1, k2⟩ := loadA_det (hr p (by simp [Op.operands])) hk
    exact ⟨v, k1, fun h' _ hs => k2 h' hs⟩
  · split at hk
    · exact ⟨_, hk.2, fun _ _ _ K' hK => ⟨hk.1, hK⟩⟩
    · exact hk.elim
  · rename_i c
    split at hk
    · rename_i b hb
      obtain ⟨v, k1, k2⟩ := lookA_det (by
        rw [List.all_eq_true]
        intro x hx
        obtain ⟨y, hy, rfl⟩ := List.mem_map.1 hx
        exact hr y (by simp only [Op.operands, Call.operands]; exact Array.mem_append.2 (.inr (by simpa using hy)))) hk
      exact ⟨v, k1, fun h' _ _ => k2 h'⟩
    · exact hk.elim
  · exact hk.elim

/-! ### It looks at nothing but its operands -/
theorem opQ_congr {P : Program} {t t1 : Tm} {h : List Box} {d d1 : List AD} {op : Op} {K : AV → Prop} (he : ∀ x ∈ op.operands, (⟨t, h, d⟩ : St).ev x = (⟨t1, h, d1⟩ : St).ev x) (hk : opQ P ⟨t, h, d⟩ op K) : opQ P ⟨t1, h, d1⟩ op K := by
  have hmap : ∀ l : Array Operand, (∀ x ∈ l, (⟨t, h, d⟩ : St).ev x = (⟨t1, h, d1⟩ : St).ev x) → l.toList.map (⟨t, h, d⟩ : St).ev = l.toList.map (⟨t1, h, d1⟩ : St).ev := fun l hl => List.map_congr_left fun x hx => hl x (by simpa using hx)
  cases op <;> simp only [Op.operands] at he <;> simp only [opQ] at hk ⊢ <;> try exact hk
  case move x => rw [← he x (by simp)]; exact hk
  case assign x => rw [← he x (by simp)]; exact hk
  case pick c a b => rw [← he a (by simp), ← he b (by simp), ← he c (by simp)]; exact hk
  case nilCheck x => rw [← he x (by simp)]; exact hk
  case binOp o tt x y _ => rw [← he x (by simp), ← he y (by simp)]; exact hk
  case unOp o tt x => rw [← he x (by simp)]; exact hk
  case convert s d x => rw [← he x (by simp)]; exact hk
  case makeInterface tt x => rw [← he x (by simp)]; exact hk
  case makeFunc f first caps =>
    cases f with
    | func f =>
      simp only at hk ⊢
      rw [← hmap caps fun x hx => he x (by simp [hx])]; exact hk
    | _ => exact hk
  case field tt x f => rw [← he x (by simp)]; exact hk
  case fieldAddr tt x f => rw [← he x (by simp)]; exact hk
  case index tt x i => rw [← he x (by simp), ← he i (by simp)]; exact hk
  case indexAddr tt x i => rw [← he x (by simp), ← he i (by simp)]; exact hk
  case slice tt x lo hi mx =>
    have ho : ∀ o : Option Operand, (∀ y, o = some y → (⟨t, h, d⟩ : St).ev y = (⟨t1, h, d1⟩ : St).ev y) → o.map (⟨t, h, d⟩ : St).ev = o.map (⟨t1, h, d1⟩ : St).ev := fun o hy => by
      cases o with
      | none => rfl
      | some y => simp [hy y rfl]
    rw [← he x (by simp), ← ho lo (fun y hy => he y (by simp [hy])), ← ho hi (fun y hy => he y (by simp [hy])), ← ho mx (fun y hy => he y (by simp [hy]))]; exact hk
  case load tt x => rw [← he x (by simp)]; exact hk
  case extract x i => rw [← he x (by simp)]; exact hk
  case call c =>
    cases hc : c.callee <;> simp only [hc] at hk ⊢ <;> try exact hk
    rw [← hmap c.args fun x hx => he x (by simp [Call.operands, hc, hx])]; exact hk

end Go.PM

namespace Go.PM

theorem loadA_det0 {P : Program} {h : List Box} {t : TypeId} {p : AV} {K : AV → Prop} (hk : loadA P h t p K) : ∃ v, K v ∧ ∀ K', K' v → loadA P h t p K' := by
  unfold loadA at *
  cases hT : tyOf P t with
  | none => rw [hT] at hk; exact hk.elim
  | some T =>
    rw [hT] at hk
    simp only at hk ⊢
    split at hk
    · split at hk
      · obtain ⟨v, k1, k2⟩ := loadAV_det hk
        exact ⟨v, k1, k2⟩
      · exact hk.elim
    · split at hk
      · obtain ⟨h1, h2, hk⟩ := hk
        obtain ⟨v, k1, k2⟩ := loadAV_det hk
        exact ⟨v, k1, fun K' hK => ⟨h1, h2, k2 K' hK⟩⟩
      · exact hk.elim
    · obtain ⟨v, k1, k2⟩ := loadAV_det hk
      exact ⟨v, k1, k2⟩
    · exact hk.elim

theorem indexAddrA_det0 {P : Program} {h : List Box} {t : TypeId} {p i : AV} {K : AV → Prop} (hk : indexAddrA P h t p i K) : ∃ v, K v ∧ ∀ K', K' v → indexAddrA P h t p i K' := by
  unfold indexAddrA at *
  split at hk
  · split at hk
    · split at hk
      · obtain ⟨h1, h2, h3, hk⟩ := hk
        exact ⟨_, hk, fun K' hK => ⟨h1, h2, h3, hK⟩⟩
      · exact hk.elim
    · split at hk
      · obtain ⟨h1, h2, h3, h4, h5, hk⟩ := hk
        exact ⟨_, hk, fun K' hK => ⟨h1, h2, h3, h4, h5, hK⟩⟩
      · exact hk.elim
    · split at hk
      · split at hk
        · obtain ⟨h1, h2, hk⟩ := hk
          exact ⟨_, hk, fun K' hK => ⟨h1, h2, hK⟩⟩
        · exact hk.elim
      · exact hk.elim
    · exact hk.elim
  · exact hk.elim

theorem sliceA_det0 {P : Program} {h : List Box} {t : TypeId} {x : AV} {lo hi mx : Option AV} {K : AV → Prop} (hk : sliceA P h t x lo hi mx K) : ∃ v, K v ∧ ∀ K', K' v → sliceA P h t x lo hi mx K' := by
  unfold sliceA at *
  split at hk
  · split at hk
    · split at hk
      · obtain ⟨h0, hk⟩ := hk
        split at hk
        · obtain ⟨h1, h2, h3, hk⟩ := hk
          exact ⟨_, hk, fun K' hK => ⟨h0, h1, h2, h3, hK⟩⟩
        · obtain ⟨h1, h2, h3, h4, hk⟩ := hk
          exact ⟨_, hk, fun K' hK => ⟨h0, h1, h2, h3, h4, hK⟩⟩
        · exact hk.elim
      · exact hk.elim
    · split at hk
      · obtain ⟨h1, h2, h3, h4, h5, h6, hk⟩ := hk
        exact ⟨_, hk, fun K' hK => ⟨h1, h2, h3, h4, h5, h6, hK⟩⟩
      · exact hk.elim
    · obtain ⟨h1, h2, h3, h4, h5, hk⟩ := hk
      exact ⟨_, hk, fun K' hK => ⟨h1, h2, h3, h4, h5, hK⟩⟩
    · exact hk.elim
  · exact hk.elim

theorem lookA_det0 {P : Program} {h : List Box} {b : Builtin} {ts : List TypeId} {xs : List AV} {K : AV → Prop} (hk : lookA P h b ts xs K) : ∃ v, K v ∧ ∀ K', K' v → lookA P h b ts xs K' := by
  unfold lookA at *
  split at hk
  · exact ⟨_, hk.2, fun K' hK => ⟨hk.1, hK⟩⟩
  · exact ⟨_, hk.2, fun K' hK => ⟨hk.1, hK⟩⟩
  · exact ⟨_, hk.2.2, fun K' hK => ⟨hk.1, hk.2.1, hK⟩⟩
  · split at hk
    · split at hk
      · exact ⟨_, hk, fun K' hK => hK⟩
      · exact hk.elim
    · exact ⟨_, hk, fun K' hK => hK⟩
    · exact hk.elim
  · split at hk
    · exact ⟨_, hk, fun K' hK => hK⟩
    · exact hk.elim
  · exact ⟨_, hk, fun K' hK => hK⟩
  · exact ⟨_, hk, fun K' hK => hK⟩
  · exact hk.elim

theorem opQ_det0 {P : Program} {s : St} {op : Op} {K : AV → Prop} (hn : noNil op = true) (hk : opQ P s op K) : ∃ v, K v ∧ ∀ K', K' v → opQ P s op K' := by
  unfold opQ at *
  split at hk
  · exact ⟨_, hk, fun K' hK => hK⟩
  · exact ⟨_, hk, fun K' hK => hK⟩
  · split at hk
    · rename_i b hb
      cases b
      · exact ⟨_, hk.2 rfl, fun K' hK => ⟨fun hh => (by cases hh), fun _ => hK⟩⟩
      · exact ⟨_, hk.1 rfl, fun K' hK => ⟨fun _ => hK, fun hh => (by cases hh)⟩⟩
    · exact hk.elim
  · split at hk <;> first
      | exact hk.elim
      | exact ⟨_, hk, fun K' hK => hK⟩
  · rename_i op tt x y _
    have hny : ¬ isNilConst y = true := by simpa [noNil] using hn
    simp only [if_neg hny] at hk ⊢
    split at hk
    · obtain ⟨v, k1, k2⟩ := binP_det hk
      exact ⟨_, k1, fun K' hK => k2 (fun v => K' (.val v)) hK⟩
    · obtain ⟨v, k1, k2⟩ := aggEqA_det hk
      exact ⟨_, k1, fun K' hK => k2 (fun b => K' (.val (.bool b))) hK⟩
    · exact hk.elim
  · split at hk <;> first
      | exact hk.elim
      | exact ⟨_, hk, fun K' hK => hK⟩
  · exact convA_det hk
  · split at hk
    · exact hk.elim
    · exact ⟨_, hk, fun K' hK => hK⟩
    · exact hk.elim
  · exact ⟨_, hk.2, fun K' hK => ⟨hk.1, hK⟩⟩
  · exact fieldA_det hk
  · obtain ⟨v, k1, k2⟩ := fieldAddrA_det hk.2
    exact ⟨v, k1, fun K' hK => ⟨hk.1, k2 K' hK⟩⟩
  · exact indexA_det hk
  · exact indexAddrA_det0 hk
  · exact sliceA_det0 hk
  · exact loadA_det0 hk
  · split at hk
    · exact ⟨_, hk.2, fun K' hK => ⟨hk.1, hK⟩⟩
    · exact hk.elim
  · split at hk
    · exact lookA_det0 hk
    · exact hk.elim
  · exact hk.elim

/-! ### Operations that change memory -/
theorem allocA_det {P : Program} {h : List Box} {t : TypeId} {K : AV → List Box → Prop} (hk : allocA P h t K) : ∃ v h', K v h' ∧ ∀ K', K' v h' → allocA P h t K' := by
  unfold allocA at *
  split at hk
  · exact ⟨_, _, hk.2, fun K' hK => ⟨hk.1, hK⟩⟩
  · exact hk.elim
theorem boxA_det {h : List Box} {x : AV} {K : AV → List Box → Prop} (hk : boxA h x K) : ∃ v h', K v h' ∧ ∀ K', K' v h' → boxA h x K' := ⟨_, _, hk.2, fun _ hK => ⟨hk.1, hK⟩⟩
theorem fillA_det {place : Nat → Option (Nat × Nat)} : ∀ (ps : List (Nat × AV)) (cells : List AV) {K : List AV → Prop}, fillA place cells ps K → ∃ cs, K cs ∧ ∀ K', K' cs → fillA place cells ps K' := by
  intro ps
  induction ps with
  | nil => intro cells K hk; exact ⟨_, hk, fun K' hK => hK⟩
  | cons p ps ih =>
    obtain ⟨i, x⟩ := p
    intro cells K hk
    simp only [fillA] at hk ⊢
    split at hk
    · obtain ⟨h1, h2, h3, hk⟩ := hk
      obtain ⟨cs, k1, k2⟩ := ih _ hk
      exact ⟨cs, k1, fun K' hK => ⟨h1, h2, h3, k2 K' hK⟩⟩
    · exact hk.elim
theorem buildA_det {P : Program} {t : TypeId} {ps : List (Nat × AV)} {K : AV → Prop} (hk : buildA P t ps K) : ∃ v, K v ∧ ∀ K', K' v → buildA P t ps K' := by
  unfold buildA at *
  split at hk
  · obtain ⟨h1, h2, h3, hk⟩ := hk
    obtain ⟨cs, k1, k2⟩ := fillA_det _ _ hk
    exact ⟨_, k1, fun K' hK => ⟨h1, h2, h3, k2 (fun cs => K' (.agg cs)) hK⟩⟩
  · exact hk.elim
theorem frz0_det {h : List Box} {x : AV} {K : AV → List Box → Prop} (hk : frz0 h x K) : ∃ v h', K v h' ∧ ∀ K', K' v h' → frz0 h x K' := by
  unfold frz0 at *
  split at hk
  · split at hk
    · exact ⟨_, _, hk.2.2, fun K' hK => ⟨hk.1, hk.2.1, hK⟩⟩
    · exact hk.elim
  · exact ⟨_, _, hk.2, fun K' hK => ⟨hk.1, hK⟩⟩
theorem frz0_mono {h : List Box} {x : AV} {K K' : AV → List Box → Prop} (hk : frz0 h x K) (hm : ∀ v h, K v h → K' v h) : frz0 h x K' := by
  unfold frz0 at *
  split at hk
  · split at hk
    · exact ⟨hk.1, hk.2.1, hm _ _ hk.2.2⟩
    · exact hk.elim
  · exact ⟨hk.1, hm _ _ hk.2⟩
theorem frzL_det : ∀ (xs : List AV) (h : List Box) {K : List AV → List Box → Prop}, frzL xs h K → ∃ vs h', K vs h' ∧ ∀ K', K' vs h' → frzL xs h K' := by
  intro xs
  induction xs with
  | nil => intro h K hk; exact ⟨_, _, hk, fun K' hK => hK⟩
  | cons x xs ih =>
    intro h K hk
    obtain ⟨v, h1, k1, k2⟩ := frz0_det hk
    obtain ⟨vs, h2, k3, k4⟩ := ih h1 k1
    exact ⟨v :: vs, h2, k3, fun K' hK => k2 _ (k4 _ hK)⟩
where
  frzL_mono : ∀ (xs : List AV) (h : List Box) {K K' : List AV → List Box → Prop}, frzL xs h K → (∀ v h, K v h → K' v h) → frzL xs h K' := by
    intro xs
    induction xs with
    | nil => intro h K K' hk hm; exact hm _ _ hk
    | cons x xs ih => intro h K K' hk hm; exact frz0_mono hk fun v h' hh => ih h' hh fun vs h'' hk => hm _ _ hk
theorem frzA_det {h : List Box} {x : AV} {K : AV → List Box → Prop} (hk : frzA h x K) : ∃ v h', K v h' ∧ ∀ K', K' v h' → frzA h x K' := by
  unfold frzA at *
  split at hk
  · obtain ⟨vs, h', k1, k2⟩ := frzL_det _ _ hk
    exact ⟨_, _, k1, fun K' hK => k2 _ hK⟩
  · exact frz0_det hk
theorem frzA_mono {h : List Box} {x : AV} {K K' : AV → List Box → Prop} (hk : frzA h x K) (hm : ∀ v h, K v h → K' v h) : frzA h x K' := by
  unfold frzA at *
  split at hk
  · exact frzL_det.frzL_mono _ _ hk fun v h hh => hm _ _ hh
  · exact frz0_mono hk hm
theorem frzAs_mono : ∀ (xs : List AV) (h : List Box) {K K' : List AV → List Box → Prop}, frzAs xs h K → (∀ v h, K v h → K' v h) → frzAs xs h K' := by
  intro xs
  induction xs with
  | nil => intro h K K' hk hm; exact hm _ _ hk
  | cons x xs ih => intro h K K' hk hm; exact frzA_mono hk fun v h' hh => ih h' hh fun vs h'' hk => hm _ _ hk
theorem frzAs_det : ∀ (xs : List AV) (h : List Box) {K : List AV → List Box → Prop}, frzAs xs h K → ∃ vs h', K vs h' ∧ ∀ K', K' vs h' → frzAs xs h K' := by
  intro xs
  induction xs with
  | nil => intro h K hk; exact ⟨_, _, hk, fun K' hK => hK⟩
  | cons x xs ih =>
    intro h K hk
    obtain ⟨v, h1, k1, k2⟩ := frzA_det hk
    obtain ⟨vs, h2, k3, k4⟩ := ih h1 k1
    exact ⟨v :: vs, h2, k3, fun K' hK => k2 _ (k4 _ hK)⟩
theorem frzC_det {h : List Box} {x : AV} {K : AV → List Box → Prop} (hk : frzC h x K) : ∃ v h', K v h' ∧ ∀ K', K' v h' → frzC h x K' := by
  unfold frzC at *
  split at hk
  · obtain ⟨vs, h', k1, k2⟩ := frzL_det _ _ hk
    exact ⟨_, _, k1, fun K' hK => k2 _ hK⟩
  · split at hk
    · obtain ⟨vs, h', k1, k2⟩ := frzL_det _ _ hk
      exact ⟨_, _, k1, fun K' hK => k2 _ hK⟩
    · exact hk.elim
  · exact frz0_det hk
theorem frzC_mono {h : List Box} {x : AV} {K K' : AV → List Box → Prop} (hk : frzC h x K) (hm : ∀ v h, K v h → K' v h) : frzC h x K' := by
  unfold frzC at *
  split at hk
  · exact frzL_det.frzL_mono _ _ hk fun v h hh => hm _ _ hh
  · split at hk
    · exact frzL_det.frzL_mono _ _ hk fun v h hh => hm _ _ hh
    · exact hk.elim
  · exact frz0_mono hk hm
theorem frzCs_mono : ∀ (xs : List AV) (h : List Box) {K K' : List AV → List Box → Prop}, frzCs xs h K → (∀ v h, K v h → K' v h) → frzCs xs h K' := by
  intro xs
  induction xs with
  | nil => intro h K K' hk hm; exact hm _ _ hk
  | cons x xs ih => intro h K K' hk hm; exact frzC_mono hk fun v h' hh => ih h' hh fun vs h'' hk => hm _ _ hk
theorem frzCs_det : ∀ (xs : List AV) (h : List Box) {K : List AV → List Box → Prop}, frzCs xs h K → ∃ vs h', K vs h' ∧ ∀ K', K' vs h' → frzCs xs h K' := by
  intro xs
  induction xs with
  | nil => intro h K hk; exact ⟨_, _, hk, fun K' hK => hK⟩
  | cons x xs ih =>
    intro h K hk
    obtain ⟨v, h1, k1, k2⟩ := frzC_det hk
    obtain ⟨vs, h2, k3, k4⟩ := ih h1 k1
    exact ⟨v :: vs, h2, k3, fun K' hK => k2 _ (k4 _ hK)⟩

theorem buildSliceA_det {P : Program} {h : List Box} {t : TypeId} {n : Nat} {idx : List Nat} {xs : List AV} {K : AV → List Box → Prop} (hk : buildSliceA P h t n idx xs K) : ∃ v h', K v h' ∧ ∀ K', K' v h' → buildSliceA P h t n idx xs K' := by
  unfold buildSliceA at *
  split at hk
  · obtain ⟨h1, h2, h3, h4, hk⟩ := hk
    obtain ⟨vs, h', k1, k2⟩ := frzAs_det _ _ hk
    exact ⟨_, _, k1.2, fun K' hK => ⟨h1, h2, h3, h4, k2 _ ⟨k1.1, hK⟩⟩⟩
  · exact hk.elim
theorem storeA_det {P : Program} {h : List Box} {t : TypeId} {p x : AV} {K : List Box → Prop} (hk : storeA P h t p x K) : ∃ h', K h' ∧ ∀ K', K' h' → storeA P h t p x K' := by
  unfold storeA at *
  split at hk
  · exact hk.elim
  · obtain ⟨h1, h2, hk⟩ := hk
    split at hk
    · split at hk
      · exact ⟨_, hk.2, fun K' hK => ⟨h1, h2, hk.1, hK⟩⟩
      · exact hk.elim
    · split at hk
      · obtain ⟨h3, h4, h5, h6, h7, hk⟩ := hk
        exact ⟨_, hk, fun K' hK => ⟨h1, h2, h3, h4, h5, h6, h7, hK⟩⟩
      · exact hk.elim
    · exact hk.elim
theorem makeSliceA_det {P : Program} {h : List Box} {t : TypeId} {l c : AV} {K : AV → List Box → Prop} (hk : makeSliceA P h t l c K) : ∃ v h', K v h' ∧ ∀ K', K' v h' → makeSliceA P h t l c K' := by
  unfold makeSliceA at *
  split at hk
  · obtain ⟨h1, h2, h3, h4, h5, h6, h7, hk⟩ := hk
    exact ⟨_, _, hk, fun K' hK => ⟨h1, h2, h3, h4, h5, h6, h7, hK⟩⟩
  · exact hk.elim
theorem srcA_det {P : Program} {h : List Box} {u : TypeId} {size : Nat} {y : AV} {K : List AV → Prop} (hk : srcA P h u size y K) : ∃ ys, K ys ∧ ∀ K' : List AV → Prop, K' ys → srcA P h u size y K' := by
  unfold srcA at *
  split at hk
  · exact ⟨_, hk.2.2, fun K' h' => ⟨hk.1, hk.2.1, h'⟩⟩
  · split at hk
    · exact ⟨_, hk.2.2.2.2, fun K' h' => ⟨hk.1, hk.2.1, hk.2.2.1, hk.2.2.2.1, h'⟩⟩
    · exact hk.elim
  · exact ⟨_, hk.2.2, fun K' h' => ⟨hk.1, hk.2.1, h'⟩⟩
  · exact hk.elim
theorem appendA_det {P : Program} {h : List Box} {ts : List TypeId} {xs : List AV} {K : AV → List Box → Prop} (hk : appendA P h ts xs K) : ∃ v h', K v h' ∧ ∀ K', K' v h' → appendA P h ts xs K' := by
  unfold appendA at *
  split at hk
  · split at hk
    · obtain ⟨h1, h2, hk⟩ := hk
      obtain ⟨ys, k1, k2⟩ := srcA_det hk
      split at k1
      · split at k1
        · obtain ⟨g1, g2, g3, g4, g5, k1⟩ := k1
          exact ⟨_, _, k1, fun K' hK => ⟨h1, h2, k2 _ ⟨g1, g2, g3, g4, g5, hK⟩⟩⟩
        · exact k1.elim
      · exact ⟨_, _, k1.2, fun K' hK => ⟨h1, h2, k2 _ ⟨k1.1, hK⟩⟩⟩
      · exact k1.elim
    · exact hk.elim
  · exact hk.elim
theorem copyA_det {P : Program} {h : List Box} {ts : List TypeId} {xs : List AV} {K : AV → List Box → Prop} (hk : copyA P h ts xs K) : ∃ v h', K v h' ∧ ∀ K', K' v h' → copyA P h ts xs K' := by
  unfold copyA at *
  split at hk
  · split at hk
    · obtain ⟨h1, h2, h3, h4, hk⟩ := hk
      obtain ⟨ys, k1, k2⟩ := srcA_det hk
      exact ⟨_, _, k1.2, fun K' hK => ⟨h1, h2, h3, h4, k2 _ ⟨k1.1, hK⟩⟩⟩
    · exact hk.elim
  · exact hk.elim

end Go.PM

namespace Go.PM

inductive Cls where
  | free | read | upd | set
  deriving DecidableEq

/-- A call of one outcome that looks at no box. -/
def CallF (P : Program) (f : FuncId) (args : List AV) (K : AV → Prop) : Prop := args.all AV.pure = true ∧ ∃ v, PureT P f args (· = v) ∧ K v
/-- A call of one outcome that looks at variables alone. -/
def CallS (P : Program) (f : FuncId) (args : List AV) (h : List Box) (K : AV → Prop) : Prop := ∃ v, (∀ h', Stable h h' → CallT P f args h' (fun r h'' => h'' = h' ∧ r = .ret v)) ∧ K v
/-- A call of one outcome, boxes and all. -/
def CallY (P : Program) (f : FuncId) (args : List AV) (h : List Box) (K : AV → List Box → Prop) : Prop := ∃ v h', CallT P f args h (fun r h'' => r = .ret v ∧ h'' = h') ∧ K v h'
/-- A call of one outcome, what it is given frozen first. -/
def CallZ (P : Program) (f : FuncId) (args : List AV) (h : List Box) (K : AV → List Box → Prop) : Prop := FnOK P f ∧ (frzCs args h (fun args' h' => CallY P f args' h' K) ∨ CallY P f args h K)
theorem CallY.pure {P : Program} {f : FuncId} {args : List AV} {h : List Box} {K : AV → List Box → Prop} {v : AV} (hc : PureT P f args (· = v)) (hp : args.all AV.pure = true) (hk : K v h) : CallY P f args h K :=
  ⟨v, h, (CallT.frame (R := fun r => r = .ret v) hp (CallT.mono hc fun r _ ⟨h1, x, h2, h3⟩ => ⟨h1, by rw [h2, h3]⟩)).mono (fun _ _ h => ⟨h.2, h.1⟩), hk⟩

def noHeap : Op → Bool
  | .move _ | .assign _ | .pick .. | .nilCheck _ | .unOp .. | .convert .. | .makeInterface .. | .makeFunc .. | .field .. | .fieldAddr .. | .index .. | .extract .. => true
  | .binOp _ _ _ y _ => !isNilConst y
  | _ => false

/-- Operations of which any order but the lexical one is told nothing. -/
def heapA (P : Program) (o : Oper) (s : St) (K : AV → List Box → Prop) : Prop :=
  match o.op with
  | .alloc t => allocA P s.h t K
  | .box _ x => boxA s.h (s.ev x) K
  | .buildSlice t n ps => buildSliceA P s.h t n (ps.toList.map (·.1)) (ps.toList.map fun p => s.ev p.2) K
  | .store t p x => storeA P s.h t (s.ev p) (s.ev x) (fun h => K .dead h)
  | .makeSlice t l c => makeSliceA P s.h t (s.ev l) (s.ev c) K
  | .call c => match c.callee with
    | .builtin .append => appendA P s.h c.argTypes.toList (c.args.toList.map s.ev) K
    | .builtin .copy => copyA P s.h c.argTypes.toList (c.args.toList.map s.ev) K
    | .builtin b => lookA P s.h b c.argTypes.toList (c.args.toList.map s.ev) (fun v => K v s.h)
    | .value f => match s.ev f with
      | .fn f caps => CallZ P f (c.args.toList.map s.ev ++ caps) s.h K
      | _ => False
    | _ => False
  | op => noNil op = true ∧ opQ P s op (fun v => K v s.h)

/-- A slice's literal of which nothing has to be frozen. -/
def buildSliceF (P : Program) (t : TypeId) (n : Nat) (idx : List Nat) (xs : List AV) (K : AV → Prop) : Prop :=
  match elemOfSlice P t with
  | some (_, T) => idx = List.range n ∧ xs.length = n ∧ n * T.size ≤ 16777216 ∧ T.zero.cells.size = T.size ∧ (∀ h, frzAs xs h (fun es h' => es = xs ∧ h' = h)) ∧ uniB T.size xs = true ∧ K (.sl true xs)
  | none => False
theorem buildSliceF_A {P : Program} {h : List Box} {t : TypeId} {n : Nat} {idx : List Nat} {xs : List AV} {K : AV → List Box → Prop} (hk : buildSliceF P t n idx xs (fun v => K v h)) : buildSliceA P h t n idx xs K := by
  unfold buildSliceF at hk
  unfold buildSliceA
  split at hk
  · rename_i e T he
    obtain ⟨h1, h2, h3, h4, h5, h6, h7⟩ := hk
    rw [he]
    exact ⟨h1, h2, h3, h4, frzAs_mono _ _ (h5 h) fun v h' ⟨e1, e2⟩ => by subst e1 e2; exact ⟨h6, h7⟩⟩
  · exact hk.elim
theorem buildSliceF_det {P : Program} {t : TypeId} {n : Nat} {idx : List Nat} {xs : List AV} {K : AV → Prop} (hk : buildSliceF P t n idx xs K) : ∃ v, K v ∧ ∀ K' : AV → Prop, K' v → buildSliceF P t n idx xs K' := by
  unfold buildSliceF at *
  split at hk
  · obtain ⟨h1, h2, h3, h4, h5, h6, h7⟩ := hk
    exact ⟨_, h7, fun K' hK => ⟨h1, h2, h3, h4, h5, h6, hK⟩⟩
  · exact hk.elim

def effV (P : Program) (o : Oper) (c : Cls) (s : St) (K : AV → List Box → Prop) : Prop :=
  match c with
  | .free => match o.op with
    | .build t ps => buildA P t (ps.toList.map fun p => (p.1, s.ev p.2)) (fun v => K v s.h)
    | .buildSlice t n ps => buildSliceF P t n (ps.toList.map (·.1)) (ps.toList.map fun p => s.ev p.2) (fun v => K v s.h)
    | .call c => match c.callee with
      | .value f => match s.ev f with
        | .fn f caps => CallF P f (c.args.toList.map s.ev ++ caps) (fun v => K v s.h)
        | _ => False
      | _ => False
    | op => noHeap op = true ∧ opQ P s op (fun v => K v s.h)
  | .read => match o.op with
    | .call c => match c.callee with
      | .value f => match s.ev f with
        | .fn f caps => CallS P f (c.args.toList.map s.ev ++ caps) s.h (fun v => K v s.h)
        | _ => False
      | .builtin .append | .builtin .copy => False
      | .builtin _ => evNoRow s o.op ∧ opQ P s o.op (fun v => K v s.h)
      | _ => False
    | op => noNil op = true ∧ evNoRow s op ∧ opQ P s op (fun v => K v s.h)
  | .upd => heapA P o s (fun v h' => Stable s.h h' ∧ K v h')
  | .set => heapA P o s K

theorem evs_congr {s s1 : St} {l : Array Operand} (hl : ∀ x ∈ l, s.ev x = s1.ev x) : l.toList.map s.ev = l.toList.map s1.ev := List.map_congr_left fun x hx => hl x (by simpa using hx)
theorem evs2_congr {s s1 : St} {l : Array (Nat × Operand)} (hl : ∀ x ∈ (l.toList.map (·.2)).toArray, s.ev x = s1.ev x) : (l.toList.map fun p => s.ev p.2) = (l.toList.map fun p => s1.ev p.2) :=
  List.map_congr_left fun x hx => hl x.2 (by simp only [List.mem_toArray, List.mem_map]; exact ⟨x, hx, rfl⟩)
theorem evs3_congr {s s1 : St} {l : Array (Nat × Operand)} (hl : ∀ x ∈ (l.toList.map (·.2)).toArray, s.ev x = s1.ev x) : (l.toList.map fun p => (p.1, s.ev p.2)) = (l.toList.map fun p => (p.1, s1.ev p.2)) :=
  List.map_congr_left fun x hx => by rw [hl x.2 (by simp only [List.mem_toArray, List.mem_map]; exact ⟨x, hx, rfl⟩)]

theorem heapA_congr {P : Program} {o : Oper} {t t1 : Tm} {h : List Box} {d d1 : List AD} {K : AV → List Box → Prop} (he : ∀ x ∈ o.op.operands, (⟨t, h, d⟩ : St).ev x = (⟨t1, h, d1⟩ : St).ev x) (hk : heapA P o ⟨t, h, d⟩ K) : heapA P o ⟨t1, h, d1⟩ K := by
  unfold heapA at hk ⊢
  split at hk
  · exact hk
  · rename_i x hop; rw [hop] at he; rw [← he x (by simp [Op.operands])]; exact hk
  · rename_i t n ps hop; rw [hop] at he; rw [← evs2_congr he]; exact hk
  · rename_i t p x hop; rw [hop] at he; rw [← he p (by simp [Op.operands]), ← he x (by simp [Op.operands])]; exact hk
  · rename_i t p x hop; rw [hop] at he; rw [← he p (by simp [Op.operands]), ← he x (by simp [Op.operands])]; exact hk
  · rename_i c hop
    rw [hop] at he
    have ha : ∀ x ∈ c.args, (⟨t, h, d⟩ : St).ev x = (⟨t1, h, d1⟩ : St).ev x := fun x hx => he x (by simp only [Op.operands, Call.operands]; exact Array.mem_append.2 (.inr hx))
    split at hk
    · rw [← evs_congr ha]; exact hk
    · rw [← evs_congr ha]; exact hk
    · rw [← evs_congr ha]; exact hk
    · rename_i f hc
      rw [← evs_congr ha, ← he f (by simp [Op.operands, Call.operands, hc])]; exact hk
    · exact hk
  · exact ⟨hk.1, opQ_congr he hk.2⟩

theorem effV_congr {P : Program} {o : Oper} {c : Cls} {t t1 : Tm} {h : List Box} {d d1 : List AD} {K : AV → List Box → Prop} (he : ∀ x ∈ o.op.operands, (⟨t, h, d⟩ : St).ev x = (⟨t1, h, d1⟩ : St).ev x) (hk : effV P o c ⟨t, h, d⟩ K) : effV P o c ⟨t1, h, d1⟩ K := by
  unfold effV at hk ⊢
  cases c with
  | free =>
    simp only at hk ⊢
    split at hk
    · rename_i t ps hop; rw [hop] at he; rw [← evs3_congr he]; exact hk
    · rename_i t n ps hop; rw [hop] at he; rw [← evs2_congr he]; exact hk
    · rename_i c hop
      rw [hop] at he
      have ha : ∀ x ∈ c.args, (⟨t, h, d⟩ : St).ev x = (⟨t1, h, d1⟩ : St).ev x := fun x hx => he x (by simp only [Op.operands, Call.operands]; exact Array.mem_append.2 (.inr hx))
      split at hk
      · rename_i f hc
        rw [← evs_congr ha, ← he f (by simp [Op.operands, Call.operands, hc])]; exact hk
      · exact hk
    · exact ⟨hk.1, opQ_congr he hk.2⟩
  | read =>
    simp only at hk ⊢
    have hnr : evNoRow ⟨t, h, d⟩ o.op → evNoRow ⟨t1, h, d1⟩ o.op := fun hn x hx => by rw [← he x hx]; exact hn x hx
    split at hk
    · rename_i c hop
      split at hk
      · rename_i f hc
        rw [hop] at he
        have ha : ∀ x ∈ c.args, (⟨t, h, d⟩ : St).ev x = (⟨t1, h, d1⟩ : St).ev x := fun x hx => he x (by simp only [Op.operands, Call.operands]; exact Array.mem_append.2 (.inr hx))
        rw [← evs_congr ha, ← he f (by simp [Op.operands, Call.operands, hc])]; exact hk
      · exact hk
      · exact hk
      · exact ⟨hnr hk.1, opQ_congr he hk.2⟩
      · exact hk
    · exact ⟨hk.1, hnr hk.2.1, opQ_congr he hk.2.2⟩
  | upd => exact heapA_congr he hk
  | set => exact heapA_congr he hk

/-- The same at other boxes: nothing is looked at. -/
theorem noHeap_opQ {P : Program} {t : Tm} {h h' : List Box} {d d' : List AD} {op : Op} {K : AV → Prop} (hn : noHeap op = true) (hk : opQ P ⟨t, h, d⟩ op K) : opQ P ⟨t, h', d'⟩ op K := by
  have hev : (⟨t, h', d'⟩ : St).ev = (⟨t, h, d⟩ : St).ev := funext fun x => by cases x <;> rfl
  cases op <;> simp only [noHeap] at hn <;> try (cases hn; done)
  case makeFunc f first caps => cases f <;> simp only [opQ, hev] at hk ⊢ <;> exact hk
  all_goals (simp only [opQ, hev] at hk ⊢; exact hk)
theorem noHeap_noNil {op : Op} (hn : noHeap op = true) : noNil op = true := by cases op <;> first | rfl | exact hn

theorem heapA_det {P : Program} {o : Oper} {s : St} {K : AV → List Box → Prop} (hk : heapA P o s K) : ∃ v h', K v h' ∧ ∀ K', K' v h' → heapA P o s K' := by
  unfold heapA at *
  split at hk
  · exact allocA_det hk
  · exact boxA_det hk
  · exact buildSliceA_det hk
  · obtain ⟨h', k1, k2⟩ := storeA_det hk
    exact ⟨_, h', k1, fun K' hK => k2 (fun h => K' .dead h) hK⟩
  · exact makeSliceA_det hk
  · split at hk
    · exact appendA_det hk
    · exact copyA_det hk
    · obtain ⟨v, k1, k2⟩ := lookA_det0 hk
      exact ⟨v, _, k1, fun K' hK => k2 (fun v => K' v s.h) hK⟩
    · split at hk
      · obtain ⟨h1, hk | ⟨v, h2, k1, k2⟩⟩ := hk
        · obtain ⟨vs, h', ⟨v, h2, k1, k2⟩, k3⟩ := frzCs_det _ _ hk
          exact ⟨v, h2, k2, fun K' hK => ⟨h1, .inl (k3 _ ⟨v, h2, k1, hK⟩)⟩⟩
        · exact ⟨v, h2, k2, fun K' hK => ⟨h1, .inr ⟨v, h2, k1, hK⟩⟩⟩
      · exact hk.elim
    · exact hk.elim
  · obtain ⟨v, k1, k2⟩ := opQ_det0 hk.1 hk.2
    exact ⟨v, _, k1, fun K' hK => ⟨hk.1, k2 (fun v => K' v s.h) hK⟩⟩

/-- One outcome; what the class of an operation says of it. -/
theorem effV_det {P : Program} {o : Oper} {c : Cls} {t : Tm} {h : List Box} {d : List AD} {K : AV → List Box → Prop} (hk : effV P o c ⟨t, h, d⟩ K) :
    ∃ v h', K v h' ∧ (∀ K', K' v h' → effV P o c ⟨t, h, d⟩ K') ∧ (c = .free → h' = h ∧ ∀ h1 K', K' v h1 → effV P o c ⟨t, h1, d⟩ K') ∧
      (c = .read → h' = h ∧ ∀ h1, Stable h h1 → ∀ K', K' v h1 → effV P o c ⟨t, h1, d⟩ K') ∧ (c = .upd → Stable h h') := by
  have hev : ∀ h' d', (⟨t, h', d'⟩ : St).ev = (⟨t, h, d⟩ : St).ev := fun _ _ => funext fun x => by cases x <;> rfl
  cases c with
  | free =>
    have : ∃ v, K v h ∧ ∀ h1 K', K' v h1 → effV P o .free ⟨t, h1, d⟩ K' := by
      unfold effV at *
      simp only [hev] at hk ⊢
      split at hk
      · obtain ⟨v, k1, k2⟩ := buildA_det hk
        exact ⟨v, k1, fun h1 K' hK => k2 (fun v => K' v h1) hK⟩
      · obtain ⟨v, k1, k2⟩ := buildSliceF_det hk
        exact ⟨v, k1, fun h1 K' hK => k2 (fun v => K' v h1) hK⟩
      · split at hk
        · split at hk
          · obtain ⟨hp, v, k1, k2⟩ := hk
            exact ⟨v, k2, fun h1 K' hK => ⟨hp, v, k1, hK⟩⟩
          · exact hk.elim
        · exact hk.elim
      · obtain ⟨v, k1, k2⟩ := opQ_det0 (noHeap_noNil hk.1) hk.2
        exact ⟨v, k1, fun h1 K' hK => ⟨hk.1, noHeap_opQ hk.1 (k2 (fun v => K' v h1) hK)⟩⟩
    obtain ⟨v, k1, k2⟩ := this
    exact ⟨v, h, k1, k2 h, fun _ => ⟨rfl, k2⟩, fun hc => (by cases hc), fun hc => (by cases hc)⟩
  | read =>
    have : ∃ v, K v h ∧ ∀ h1, Stable h h1 → ∀ K', K' v h1 → effV P o .read ⟨t, h1, d⟩ K' := by
      unfold effV at *
      have hno : ∀ h', evNoRow ⟨t, h', d⟩ o.op = evNoRow ⟨t, h, d⟩ o.op := fun h' => by unfold evNoRow; rw [hev]
      simp only at hk ⊢
      split at hk
      · rename_i c hop
        split at hk
        · simp only [hev] at hk ⊢
          split at hk
          · obtain ⟨v, k1, k2⟩ := hk
            exact ⟨v, k2, fun h1 hs K' hK => ⟨v, fun h2 hs2 => k1 h2 (hs.trans hs2), hK⟩⟩
          · exact hk.elim
        · exact hk.elim
        · exact hk.elim
        · obtain ⟨v, k1, k2⟩ := opQ_det (by rw [hop]; rfl) hk.1 hk.2
          refine ⟨v, k1, fun h1 hs K' hK => ?_⟩
          simp only [hno]
          exact ⟨hk.1, k2 h1 d hs _ hK⟩
        · exact hk.elim
      · obtain ⟨v, k1, k2⟩ := opQ_det hk.1 hk.2.1 hk.2.2
        exact ⟨v, k1, fun h1 hs K' hK => ⟨hk.1, (hno h1).mpr hk.2.1, k2 h1 d hs _ hK⟩⟩
    obtain ⟨v, k1, k2⟩ := this
    exact ⟨v, h, k1, k2 h (.refl h), fun hc => (by cases hc), fun _ => ⟨rfl, k2⟩, fun hc => (by cases hc)⟩
  | upd =>
    obtain ⟨v, h', ⟨k1, k2⟩, k3⟩ := heapA_det (show heapA P o ⟨t, h, d⟩ (fun v h' => Stable h h' ∧ K v h') from hk)
    exact ⟨v, h', k2, fun K' hK => k3 (fun v h' => Stable h h' ∧ K' v h') ⟨k1, hK⟩, fun hc => (by cases hc), fun hc => (by cases hc), fun _ => k1⟩
  | set =>
    obtain ⟨v, h', k1, k2⟩ := heapA_det (show heapA P o ⟨t, h, d⟩ K from hk)
    exact ⟨v, h', k1, k2, fun hc => (by cases hc), fun hc => (by cases hc), fun hc => (by cases hc)⟩

end Go.PM

namespace Go.PM

def dstOf (ops : Array Oper) (i : Nat) : Option Tmp := (ops[i]?).bind (·.dst)

def stepV (P : Program) (ops : Array Oper) (p : Nat × Cls) (s : St) (K : AV → List Box → Prop) : Prop :=
  match ops[p.1]? with
  | none => False
  | some o => match o.guard with
    | none => effV P o p.2 s K
    | some (j, want) => match guardT ops j with
      | some d => match s.t.get d with
        | .val (.bool b) => (b = want → effV P o p.2 s K) ∧ (b = !want → K (.tup []) s.h)
        | .tup [] => K (.tup []) s.h
        | _ => False
      | none => False

theorem stepV_det {P : Program} {ops : Array Oper} {i : Nat} {c : Cls} {t : Tm} {h : List Box} {d : List AD} {K : AV → List Box → Prop} (hk : stepV P ops (i, c) ⟨t, h, d⟩ K) :
    ∃ v h', K v h' ∧ (∀ K', K' v h' → stepV P ops (i, c) ⟨t, h, d⟩ K') ∧ (c = .free → h' = h ∧ ∀ h1 K', K' v h1 → stepV P ops (i, c) ⟨t, h1, d⟩ K') ∧
      (c = .read → h' = h ∧ ∀ h1, Stable h h1 → ∀ K', K' v h1 → stepV P ops (i, c) ⟨t, h1, d⟩ K') ∧ (c = .upd → Stable h h') := by
  unfold stepV at *
  simp only at hk ⊢
  split at hk
  · exact hk.elim
  · rename_i o ho
    split at hk
    · exact effV_det hk
    · rename_i j want hg
      split at hk
      · rename_i dd hd
        split at hk
        · rename_i b hb
          by_cases hbw : b = want
          · obtain ⟨v, h', k1, k2, k3, k4, k5⟩ := effV_det (hk.1 hbw)
            have hno : ¬ b = !want := by cases b <;> cases want <;> simp_all
            exact ⟨v, h', k1, fun K' hK => ⟨fun _ => k2 K' hK, fun hh => (hno hh).elim⟩, fun hc => ⟨(k3 hc).1, fun h1 K' hK => ⟨fun _ => (k3 hc).2 h1 K' hK, fun hh => (hno hh).elim⟩⟩,
              fun hc => ⟨(k4 hc).1, fun h1 hs K' hK => ⟨fun _ => (k4 hc).2 h1 hs K' hK, fun hh => (hno hh).elim⟩⟩, k5⟩
          · have hyes : b = !want := by cases b <;> cases want <;> simp_all
            exact ⟨.tup [], h, hk.2 hyes, fun K' hK => ⟨fun hh => (hbw hh).elim, fun _ => hK⟩, fun _ => ⟨rfl, fun h1 K' hK => ⟨fun hh => (hbw hh).elim, fun _ => hK⟩⟩,
              fun _ => ⟨rfl, fun h1 hs K' hK => ⟨fun hh => (hbw hh).elim, fun _ => hK⟩⟩, fun _ => .refl h⟩
        · exact ⟨.tup [], h, hk, fun K' hK => hK, fun _ => ⟨rfl, fun h1 K' hK => hK⟩, fun _ => ⟨rfl, fun h1 hs K' hK => hK⟩, fun _ => .refl h⟩
        · exact hk.elim
      · exact hk.elim

theorem ev_looks {ops : Array Oper} {o : Oper} {t t1 : Tm} {h : List Box} {d d1 : List AD} (he : ∀ i ∈ o.looksAt ops, t.get i = t1.get i) : ∀ x ∈ o.op.operands, (⟨t, h, d⟩ : St).ev x = (⟨t1, h, d1⟩ : St).ev x := by
  intro x hx
  cases x with
  | tmp i => exact he i (List.mem_append_left _ (List.mem_filterMap.2 ⟨.tmp i, by simpa using hx, rfl⟩))
  | _ => rfl

theorem stepV_congr {P : Program} {ops : Array Oper} {i : Nat} {c : Cls} {t t1 : Tm} {h : List Box} {d d1 : List AD} {K : AV → List Box → Prop} (he : ∀ o, ops[i]? = some o → ∀ j ∈ o.looksAt ops, t.get j = t1.get j) (hk : stepV P ops (i, c) ⟨t, h, d⟩ K) : stepV P ops (i, c) ⟨t1, h, d1⟩ K := by
  unfold stepV at *
  simp only at hk ⊢
  split at hk
  · exact hk.elim
  · rename_i o ho
    have hev := ev_looks (h := h) (d := d) (d1 := d1) (he o ho)
    split at hk
    · exact effV_congr hev hk
    · rename_i j want hg
      split at hk
      · rename_i dd hd
        have hdd : t.get dd = t1.get dd := he o ho dd (List.mem_append_right _ (by simp only [hg]; unfold guardT at hd; rw [hd]; simp))
        rw [hdd] at hk
        split at hk
        · exact ⟨fun hh => effV_congr hev (hk.1 hh), hk.2⟩
        · exact hk
        · exact hk.elim
      · exact hk.elim

def RunK (P : Program) (ops : Array Oper) : List (Nat × Cls) → St → (St → Prop) → Prop
  | [], s, K => K s
  | p :: l, s, K => stepV P ops p s (fun v h => RunK P ops l ⟨s.t.putO (dstOf ops p.1) v, h, s.d⟩ K)

/-- The same state. -/
structure Same (s s' : St) : Prop where
  n : s.t.n = s'.t.n
  get : ∀ i, s.t.get i = s'.t.get i
  h : s.h = s'.h
  d : s.d = s'.d
theorem Same.refl (s : St) : Same s s := ⟨rfl, fun _ => rfl, rfl, rfl⟩
theorem Same.symm {s s' : St} (h : Same s s') : Same s' s := ⟨h.n.symm, fun i => (h.get i).symm, h.h.symm, h.d.symm⟩
theorem Same.trans {a b c : St} (h : Same a b) (k : Same b c) : Same a c := ⟨h.n.trans k.n, fun i => (h.get i).trans (k.get i), h.h.trans k.h, h.d.trans k.d⟩
theorem Same.put {s s' : St} (hs : Same s s') (dst : Option Tmp) (v : AV) : Same (s.put dst v) (s'.put dst v) := by
  cases dst with
  | none => exact hs
  | some d => exact ⟨by simp only [St.put, Tm.putO, Tm.n_put]; exact hs.n, fun i => by simp only [St.put, Tm.putO, Tm.get_put, hs.n, hs.get], hs.h, hs.d⟩
theorem SRel.same {F : Nat → Prop} {M : Mem} {hb : List HB} {s s' : St} {a : Act} (h : SRel F M hb s a) (hs : Same s s') : SRel F M hb s' a :=
  ⟨⟨hs.n ▸ h.tm.1, fun i => hs.get i ▸ h.tm.2 i⟩, hs.d ▸ h.df, hs.h ▸ h.hp, h.ok⟩

theorem RunK.same {P : Program} {ops : Array Oper} : ∀ (l : List (Nat × Cls)) {s s' : St} {K : St → Prop}, (∀ s s', Same s s' → K s → K s') → Same s s' → RunK P ops l s K → RunK P ops l s' K := by
  intro l
  induction l with
  | nil => exact fun hK hs hk => hK _ _ hs hk
  | cons p l ih =>
    intro s s' K hK hs hk
    obtain ⟨i, c⟩ := p
    obtain ⟨t, h, d⟩ := s
    obtain ⟨t', h', d'⟩ := s'
    obtain rfl : h = h' := hs.h
    obtain rfl : d = d' := hs.d
    simp only [RunK] at hk ⊢
    obtain ⟨v, h1, k1, k2, _⟩ := stepV_det hk
    refine stepV_congr (fun o _ j _ => hs.get j) (k2 _ ?_)
    exact ih hK (Same.put (s := ⟨t, h1, d⟩) (s' := ⟨t', h1, d⟩) ⟨hs.n, hs.get, rfl, rfl⟩ _ _) k1

def compat (ops : Array Oper) (x y : Nat × Cls) : Bool :=
  (match ops[x.1]?, ops[y.1]? with
   | some a, some b => a.apart ops b
   | _, _ => false) && (x.2 == .free || y.2 == .free || (x.2 == .read && (y.2 == .read || y.2 == .upd)))

theorem put_swap (t : Tm) (h : List Box) (d : List AD) (a b : Option Tmp) (x y : AV) (hab : ∀ k, a = some k → b ≠ some k) : Same ⟨(t.putO a x).putO b y, h, d⟩ ⟨(t.putO b y).putO a x, h, d⟩ := by
  cases a with
  | none => exact .refl _
  | some i => cases b with
    | none => exact .refl _
    | some j =>
      have hne : i ≠ j := fun h => hab i rfl (by rw [h])
      refine ⟨by simp only [Tm.putO, Tm.n_put], fun k => ?_, rfl, rfl⟩
      simp only [Tm.putO, Tm.get_put, Tm.n_put]
      by_cases h1 : i = k <;> by_cases h2 : j = k <;> simp_all

theorem get_put_of {t : Tm} {dst : Option Tmp} {v : AV} {j : Nat} (hn : ∀ k, dst = some k → k ≠ j) : (t.putO dst v).get j = t.get j := by
  cases dst with
  | none => rfl
  | some k => simp only [Tm.putO, Tm.get_put]; rw [if_neg (fun hh => hn k rfl hh.1)]

theorem RunK.swap {P : Program} {ops : Array Oper} {x y : Nat × Cls} {l : List (Nat × Cls)} {s : St} {K : St → Prop} (hK : ∀ s s', Same s s' → K s → K s') (hc : compat ops x y = true) (hk : RunK P ops (x :: y :: l) s K) : RunK P ops (y :: x :: l) s K := by
  obtain ⟨i, c⟩ := x
  obtain ⟨j, c'⟩ := y
  obtain ⟨t, h, d⟩ := s
  simp only [compat, Bool.and_eq_true] at hc
  obtain ⟨hap, hcl⟩ := hc
  cases hoi : ops[i]? with
  | none => simp [hoi] at hap
  | some oi => cases hoj : ops[j]? with
    | none => simp [hoi, hoj] at hap
    | some oj =>
      simp only [hoi, hoj] at hap
      obtain ⟨a1, a2, a3⟩ := Oper.apart_spec hap
      have hdi : dstOf ops i = oi.dst := by simp [dstOf, hoi]
      have hdj : dstOf ops j = oj.dst := by simp [dstOf, hoj]
      simp only [RunK] at hk ⊢
      obtain ⟨vx, hx, k1, k2, k3, k4, k5⟩ := stepV_det hk
      obtain ⟨vy, hy, q1, q2, q3, q4, q5⟩ := stepV_det k1
      have hcy : ∀ {h0 : List Box} {K' : AV → List Box → Prop}, stepV P ops (j, c') ⟨t.putO (dstOf ops i) vx, h0, d⟩ K' → stepV P ops (j, c') ⟨t, h0, d⟩ K' :=
        fun hh => stepV_congr (fun o ho m hm => by
          rw [hoj] at ho; cases ho
          exact get_put_of fun k hk' he => a1 k (by rw [← hdi]; exact hk') (he ▸ hm)) hh
      have hcx : ∀ {h0 : List Box} {K' : AV → List Box → Prop}, stepV P ops (i, c) ⟨t, h0, d⟩ K' → stepV P ops (i, c) ⟨t.putO (dstOf ops j) vy, h0, d⟩ K' :=
        fun hh => stepV_congr (fun o ho m hm => by
          rw [hoi] at ho; cases ho
          exact (get_put_of fun k hk' he => a3 k (by rw [← hdj]; exact hk') (he ▸ hm)).symm) hh
      have hfin : ∀ hf : List Box, RunK P ops l ⟨(t.putO (dstOf ops i) vx).putO (dstOf ops j) vy, hf, d⟩ K → RunK P ops l ⟨(t.putO (dstOf ops j) vy).putO (dstOf ops i) vx, hf, d⟩ K :=
        fun hf hr => RunK.same l hK (put_swap t hf d _ _ vx vy fun k hk' => by rw [hdi] at hk'; rw [hdj]; exact a2 k hk') hr
      simp only [Bool.or_eq_true, Bool.and_eq_true, beq_iff_eq] at hcl
      rcases hcl with (hfx | hfy) | ⟨hrx, hry⟩
      · obtain ⟨e1, k3⟩ := k3 hfx
        rw [e1] at q2
        exact hcy (q2 _ (hcx (k3 hy _ (hfin hy q1))))
      · obtain ⟨e1, q3⟩ := q3 hfy
        rw [e1] at q1
        exact hcy (q3 h _ (hcx (k2 _ (hfin hx q1))))
      · obtain ⟨e1, k4⟩ := k4 hrx
        rw [e1] at q2
        refine hcy (q2 _ (hcx (k4 hy ?_ _ (hfin hy q1))))
        rcases hry with hry | hry
        · rw [(q4 hry).1, e1]; exact .refl h
        · have := q5 hry; rwa [e1] at this

theorem RunK.pull {P : Program} {ops : Array Oper} {e : Nat × Cls} {q : List (Nat × Cls)} {K : St → Prop} (hK : ∀ s s', Same s s' → K s → K s') : ∀ (p : List (Nat × Cls)) {s : St}, (∀ x ∈ p, compat ops x e = true) → RunK P ops (p ++ e :: q) s K → RunK P ops (e :: (p ++ q)) s K := by
  intro p
  induction p with
  | nil => exact fun _ hk => hk
  | cons x p ih =>
    intro s hc hk
    refine RunK.swap hK (hc x List.mem_cons_self) ?_
    obtain ⟨i, c⟩ := x
    obtain ⟨t, h, d⟩ := s
    simp only [List.cons_append, RunK] at hk
    obtain ⟨v, h', k1, k2, _⟩ := stepV_det hk
    show stepV P ops (i, c) ⟨t, h, d⟩ _
    exact k2 _ (ih (fun y hy => hc y (List.mem_cons_of_mem _ hy)) k1)

end Go.PM

namespace Go.PM

theorem evs_app {P : Program} {f : FuncId} {args : List AV} {s : St} {dst : Option Tmp} {K : St → Prop} {Φ : AX → St → Prop} (h : CallF P f args (fun v => K ⟨s.t.putO dst v, s.h, s.d⟩)) : CallT P f args s.h (callK s dst K Φ) := by
  obtain ⟨hp, v, k1, k2⟩ := h
  exact k1.call hp fun x hx => by subst hx; exact k2

theorem heapA_opA {P : Program} {o : Oper} {s : St} {K : St → Prop} {Φ : AX → St → Prop} (hk : heapA P o s (fun v h => K ⟨s.t.putO o.dst v, h, s.d⟩)) : opA P o s K Φ := by
  unfold heapA at hk
  unfold opA
  split at hk
  · rename_i hop; simp only [hop]; exact hk
  · rename_i hop; simp only [hop]; exact hk
  · rename_i hop; simp only [hop]; exact hk
  · rename_i hop; simp only [hop]; exact hk
  · rename_i hop; simp only [hop]; exact hk
  · rename_i c hop
    simp only [hop]
    split at hk
    · rename_i hc; simp only [hc]; exact hk
    · rename_i hc; simp only [hc]; exact hk
    · rename_i b h1 h2 hc
      simp only [hc]
      exact hk
    · rename_i f hc
      simp only [hc]
      split at hk
      · rename_i g caps hf
        simp only [hf]
        rcases hk.2 with hk2 | ⟨v, h2, k1, k2⟩
        · refine CallT.args hk.1 (frzCs_mono _ _ hk2 fun args' h' hh => ?_)
          obtain ⟨v, h2, k1, k2⟩ := hh
          exact k1.mono fun r h'' ⟨e1, e2⟩ => by subst e1 e2; exact k2
        · exact k1.mono fun r h'' ⟨e1, e2⟩ => by subst e1 e2; exact k2
      · exact hk.elim
    · exact hk.elim
  · rename_i op h1 h2 h3 h4 h5 h6
    have hb : ∀ t ps, o.op ≠ .build t ps := fun t ps he => by
      have := hk.2; rw [he] at this; exact this
    have hp : ∀ x, o.op ≠ .panic x := fun x he => by
      have := hk.2; rw [he] at this; exact this
    split
    · rename_i t he; exact absurd he (h1 t)
    · rename_i t x he; exact absurd he (h2 t x)
    · rename_i t ps he; exact absurd he (hb t ps)
    · rename_i t n ps he; exact absurd he (h3 t n ps)
    · rename_i t p x he; exact absurd he (h4 t p x)
    · rename_i t l c he; exact absurd he (h5 t l c)
    · rename_i x he; exact absurd he (hp x)
    · rename_i c he; exact absurd he (h6 c)
    · exact hk.2

theorem opQ_opA {P : Program} {o : Oper} {s : St} {K : St → Prop} {Φ : AX → St → Prop} (hk : opQ P s o.op (fun v => K ⟨s.t.putO o.dst v, s.h, s.d⟩)) (hc : ∀ c, o.op ≠ .call c) : opA P o s K Φ := by
  unfold opA
  split
  · rename_i t he; rw [he] at hk; exact hk.elim
  · rename_i t he; rw [he] at hk; exact hk.elim
  · rename_i t he; rw [he] at hk; exact hk.elim
  · rename_i t he; rw [he] at hk; exact hk.elim
  · rename_i t he; rw [he] at hk; exact hk.elim
  · rename_i t he; rw [he] at hk; exact hk.elim
  · rename_i t he; rw [he] at hk; exact hk.elim
  · rename_i c he; exact absurd he (hc c)
  · exact hk

theorem effV_opA {P : Program} {o : Oper} {c : Cls} {s : St} {K : St → Prop} {Φ : AX → St → Prop} (hk : effV P o c s (fun v h => K ⟨s.t.putO o.dst v, h, s.d⟩)) : opA P o s K Φ := by
  unfold effV at hk
  cases c with
  | free =>
    simp only at hk
    split at hk
    · rename_i hop; unfold opA; simp only [hop]; exact hk
    · rename_i hop; unfold opA; simp only [hop]; exact buildSliceF_A hk
    · rename_i c hop
      unfold opA
      simp only [hop]
      split at hk
      · rename_i f hc
        simp only [hc]
        split at hk
        · rename_i hf; simp only [hf]; exact evs_app hk
        · exact hk.elim
      · exact hk.elim
    · rename_i h1 h2 h3
      exact opQ_opA hk.2 fun c he => absurd he (h3 c)
  | read =>
    simp only at hk
    split at hk
    · rename_i c hop
      split at hk
      · rename_i f hc
        unfold opA
        simp only [hop, hc]
        split at hk
        · rename_i hf
          simp only [hf]
          obtain ⟨v, k1, k2⟩ := hk
          refine (k1 s.h (.refl _)).mono ?_
          rintro r h' ⟨rfl, rfl⟩
          exact k2
        · exact hk.elim
      · exact hk.elim
      · exact hk.elim
      · rename_i b h1 h2 hc
        have h3 := hk.2
        unfold opQ at h3
        simp only [hop, hc] at h3
        unfold opA
        simp only [hop, hc]
        exact h3
      · exact hk.elim
    · rename_i h1
      exact opQ_opA hk.2.2 fun c he => absurd he (h1 c)
  | upd => exact heapA_opA (heapA_mono hk fun v h hh => hh.2)
  | set => exact heapA_opA hk
where
  heapA_mono {P : Program} {o : Oper} {s : St} {K K' : AV → List Box → Prop} (hk : heapA P o s K) (hm : ∀ v h, K v h → K' v h) : heapA P o s K' := by
    obtain ⟨v, h', k1, k2⟩ := heapA_det hk
    exact k2 _ (hm _ _ k1)

/-! ### Any order -/
def reachB (ops : Array Oper) : Nat → Nat → Nat → Bool
  | 0, _, _ => false
  | f + 1, x, i => match ops[i]? with
    | some o => o.after.any fun e => Region.binds .any e && (e.on == x || (decide (x < e.on) && reachB ops f x e.on))
    | none => false

def okPair (ops : Array Oper) (x y : Nat × Cls) : Bool := reachB ops ops.size x.1 y.1 || compat ops x y

def okOrder (ops : Array Oper) (π : List (Nat × Cls)) : Bool :=
  decide (π.map (·.1)).Nodup && (List.range ops.size).all (fun i => (π.map (·.1)).contains i) && π.all (fun p => decide (p.1 < ops.size)) && decide (π.Pairwise fun x y => okPair ops x y = true) &&
    (List.range ops.size).all fun i => match ops[i]? with
      | some o => o.after.all fun e => !Region.binds .any e || decide (e.on < i)
      | none => true

/-- What has been done is closed under what must be done first. -/
def Closed (ops : Array Oper) (listed : Array Bool) : Prop := ∀ i o, ops[i]? = some o → listed.getD i true = true → ∀ e ∈ o.after, Region.binds .any e = true → listed.getD e.on false = true

theorem getD_true {l : Array Bool} {i : Nat} (h : i < l.size) : l.getD i true = l.getD i false := by simp [Array.getD_eq_getD_getElem?, h]

theorem reach_listed {ops : Array Oper} {listed : Array Bool} (hs : listed.size = ops.size) (hc : Closed ops listed) : ∀ (f x i : Nat) (o : Oper), ops[i]? = some o → (∀ e ∈ o.after, Region.binds .any e = true → listed.getD e.on false = true) → reachB ops f x i = true → listed.getD x false = true := by
  intro f
  induction f with
  | zero => intro x i o _ _ h; cases h
  | succ f ih =>
    intro x i o ho hall h
    simp only [reachB, ho, Array.any_eq_true'] at h
    obtain ⟨e, he, h⟩ := h
    simp only [Bool.and_eq_true, Bool.or_eq_true, beq_iff_eq] at h
    obtain ⟨hb, h⟩ := h
    have h : e.on = x ∨ reachB ops f x e.on = true := h.imp id (fun hh => hh.2)
    have hl := hall e he hb
    rcases h with rfl | h
    · exact hl
    · have hlt : e.on < listed.size := by
        rcases Nat.lt_or_ge e.on listed.size with h' | h'
        · exact h'
        · simp [Array.getD_eq_getD_getElem?, Array.getElem?_eq_none h'] at hl
      have hoe : ops[e.on]? = some (ops[e.on]'(by omega)) := Array.getElem?_eq_getElem _
      exact ih x e.on _ hoe (hc e.on _ hoe (by rw [getD_true hlt]; exact hl)) h

structure Left (ops : Array Oper) (listed : Array Bool) (l : List (Nat × Cls)) : Prop where
  size : listed.size = ops.size
  closed : Closed ops listed
  nodup : (l.map (·.1)).Nodup
  mem : ∀ i, i ∈ l.map (·.1) ↔ i < ops.size ∧ listed.getD i true = false
  pairs : l.Pairwise fun x y => okPair ops x y = true
  back : ∀ (i : Nat) (o : Oper), ops[i]? = some o → ∀ e ∈ o.after, Region.binds .any e = true → e.on < i

theorem Left.ready {ops : Array Oper} {listed : Array Bool} {l : List (Nat × Cls)} (hl : Left ops listed l) (hne : l ≠ []) : Region.ready .any ops listed ≠ [] := by
  have hex : ∃ n, n ∈ l.map (·.1) := by
    cases l with
    | nil => exact absurd rfl hne
    | cons p l => exact ⟨p.1, by simp⟩
  obtain ⟨n, hn, hmin⟩ := least hex
  obtain ⟨hlt, hun⟩ := (hl.mem n).1 hn
  have hon : ops[n]? = some ops[n] := Array.getElem?_eq_getElem hlt
  have : n ∈ Region.ready .any ops listed := by
    rw [mem_ready]
    refine ⟨hun, _, hon, fun e he hb => ?_⟩
    have hlt' := hl.back n _ hon e he hb
    cases hd : listed.getD e.on false with
    | true => rfl
    | false =>
      have hm : e.on ∈ l.map (·.1) := (hl.mem e.on).2 ⟨by omega, by rw [getD_true (by rw [hl.size]; omega)]; exact hd⟩
      have := hmin _ hm
      omega
  intro he
  rw [he] at this
  cases this

theorem drawn_sound {P : Program} {F : Nat → Prop} {M0 : Mem} {hb0 : List HB} {ops : Array Oper} {Φ : AX → St → Prop} (hK : ∀ s s', Same s s' → Φ .normal s → Φ .normal s') (ro : Option Nat) :
    ∀ (k : Nat) (l : List (Nat × Cls)) (listed : Array Bool) (M : Mem) (hb : List HB) (s : St) (a : Act), l.length = k → Left ops listed l → Gu F M0 M → HBLe hb0 hb → SRel F M hb s a → RunK P ops l s (Φ .normal) →
    wpAnyIn (fenceAt ro) 0 P .any ops (Conc F M0 hb0 Φ) k listed a M.w := by
  intro k
  induction k with
  | zero =>
    intro l listed M hb s a hlen hL hG hH hs hk
    obtain rfl := List.eq_nil_of_length_eq_zero hlen
    refine ⟨?_, .normal, s, M, hb, hk, trivial, rfl, hs, hG, hH⟩
    rw [List.eq_nil_iff_forall_not_mem]
    intro i hi
    obtain ⟨h1, o, ho, _⟩ := (mem_ready).1 hi
    have : i < ops.size := (Array.getElem?_eq_some_iff.1 ho).1
    have := (hL.mem i).2 ⟨this, h1⟩
    simp at this
  | succ k ih =>
    intro l listed M hb s a hlen hL hG hH hs hk
    have hne : l ≠ [] := fun h => by rw [h] at hlen; cases hlen
    refine ⟨fun h => absurd h (hL.ready hne), fun i hi => ?_⟩
    obtain ⟨hun, o, ho, hall⟩ := (mem_ready).1 hi
    have hilt : i < ops.size := (Array.getElem?_eq_some_iff.1 ho).1
    obtain ⟨⟨i', c⟩, hmem, rfl⟩ := List.mem_map.1 ((hL.mem i).2 ⟨hilt, hun⟩)
    obtain ⟨p, q, rfl⟩ := List.append_of_mem hmem
    simp only at ho hall hun hilt hi ⊢
    have hpc : ∀ x ∈ p, compat ops x (i', c) = true := by
      intro x hx
      have hpair : okPair ops x (i', c) = true := by
        have := List.pairwise_append.1 hL.pairs
        exact this.2.2 x hx _ List.mem_cons_self
      simp only [okPair, Bool.or_eq_true] at hpair
      rcases hpair with h | h
      · have h1 := reach_listed hL.size hL.closed _ _ _ o ho hall h
        have h2 := (hL.mem x.1).1 (List.mem_map.2 ⟨x, List.mem_append_left _ hx, rfl⟩)
        rw [getD_true (by rw [hL.size]; exact h2.1)] at h2
        rw [h2.2] at h1
        cases h1
      · exact h
    have hrun := RunK.pull hK p hpc hk
    have hset : ∀ j, (listed.setIfInBounds i' true).getD j true = if i' = j then true else listed.getD j true := by
      intro j
      rw [Array.getD_eq_getD_getElem?, Array.getElem?_setIfInBounds]
      by_cases hij : i' = j
      · subst hij; simp [hL.size, hilt]
      · simp [hij, Array.getD_eq_getD_getElem?]
    have hset' : ∀ j, listed.getD j false = true → (listed.setIfInBounds i' true).getD j false = true := by
      intro j hj
      rw [Array.getD_eq_getD_getElem?, Array.getElem?_setIfInBounds]
      by_cases hij : i' = j
      · subst hij; simp [hL.size, hilt]
      · simpa [hij, Array.getD_eq_getD_getElem?] using hj
    have hnd := hL.nodup
    have hperm : (p ++ (i', c) :: q).map (·.1) = p.map (·.1) ++ i' :: q.map (·.1) := by simp
    rw [hperm] at hnd
    have hnotin : i' ∉ (p ++ q).map (·.1) := by
      have := List.nodup_append.1 hnd
      rw [List.map_append, List.mem_append]
      rintro (h | h)
      · exact this.2.2 _ h _ List.mem_cons_self rfl
      · exact (List.nodup_cons.1 this.2.1).1 h
    have hL' : Left ops (listed.setIfInBounds i' true) (p ++ q) := by
      refine ⟨by simp [hL.size], fun j oj hj hlj e he hb => ?_, ?_, fun j => ?_, ?_, hL.back⟩
      · rw [hset] at hlj
        by_cases hij : i' = j
        · subst hij; rw [ho] at hj; cases hj
          exact hset' _ (hall e he hb)
        · rw [if_neg hij] at hlj
          exact hset' _ (hL.closed j oj hj hlj e he hb)
      · rw [List.map_append]
        exact (List.Sublist.append (List.Sublist.refl _) (List.sublist_cons_self _ _)).nodup hnd
      · rw [hset]
        have h1 := hL.mem j
        rw [hperm] at h1
        by_cases hij : i' = j
        · subst hij
          simp only [if_true]
          exact ⟨fun h => absurd h hnotin, fun h => by cases h.2⟩
        · rw [if_neg hij, ← h1, List.map_append]
          simp only [List.mem_append, List.mem_cons]
          constructor
          · rintro (h | h)
            · exact .inl h
            · exact .inr (.inr h)
          · rintro (h | h | h)
            · exact .inl h
            · exact absurd h.symm hij
            · exact .inr h
      · exact hL.pairs.sublist (List.Sublist.append (List.Sublist.refl _) (List.sublist_cons_self _ _))
    have hlen' : (p ++ q).length = k := by simp at hlen ⊢; omega
    have hnext : ∀ (s' : St) (M' : Mem) (hb' : List HB) (a' : Act), RunK P ops (p ++ q) s' (Φ .normal) → SRel F M' hb' s' a' → Gu F M M' → HBLe hb hb' → wpAnyIn (fenceAt ro) 0 P .any ops (Conc F M0 hb0 Φ) k (listed.setIfInBounds i' true) a' M'.w :=
      fun s' M' hb' a' k1 k2 k3 k4 => ih (p ++ q) _ M' hb' s' a' hlen' hL' (hG.trans k3) (hH.trans k4) k2 k1
    have hdst : dstOf ops i' = o.dst := by simp [dstOf, ho]
    simp only [RunK, hdst] at hrun
    unfold stepV at hrun
    simp only [ho] at hrun
    unfold wpOpIn
    simp only [ho]
    have hop : effV P o c s (fun v h => RunK P ops (p ++ q) ⟨s.t.putO o.dst v, h, s.d⟩ (Φ .normal)) → o.wpIn (fenceAt ro) 0 P a M.w (wpAnyIn (fenceAt ro) 0 P .any ops (Conc F M0 hb0 Φ) k (listed.setIfInBounds i' true)) (Conc F M0 hb0 Φ) := fun h =>
      opA_sound (Φ := fun _ _ => False) ro hs (effV_opA (K := fun s' => RunK P ops (p ++ q) s' (Φ .normal)) h) hnext (fun x v s' M' hb' k1 => k1.elim)
    split at hrun
    · rename_i hg
      simp only [Region.wanted, hg, if_true]
      exact hop hrun
    · rename_i j want hg
      split at hrun
      · rename_i d hd
        split at hrun
        · rename_i b hbv
          rw [wanted_val hs.tm hg hd hbv]
          by_cases hbw : b = want
          · simp only [hbw, beq_self_eq_true, if_true]
            exact hop (hrun.1 hbw)
          · have : (b == want) = false := by simpa using hbw
            simp only [this, Bool.false_eq_true, if_false]
            refine ⟨fun _ _ => trivial, hnext _ M hb _ (hrun.2 ?_) (hs.put o.dst relUndef) (.refl _ _) (.refl _)⟩
            cases b <;> cases want <;> simp_all
        · rename_i hbv
          rw [wanted_tup hs.tm hg hd hbv]
          simp only [Bool.false_eq_true, if_false]
          exact ⟨fun _ _ => trivial, hnext _ M hb _ hrun (hs.put o.dst relUndef) (.refl _ _) (.refl _)⟩
        · exact hrun.elim
      · exact hrun.elim

/-- A region whose order is drawn, walked in the order π. -/
theorem CodeT.drawn0 {P : Program} {rd : Option Nat} {s : St} {Φ : AX → St → Prop} {id : Nat} {ops : Array Oper} (π : List (Nat × Cls)) (hm : P.follows .mixedOrders = true) (hok : okOrder ops π = true) (h : RunK P ops π s (Φ .normal))
    (hK : ∀ s s', Same s s' → Φ .normal s → Φ .normal s') : CodeT P rd (.region id ops true) s Φ := by
  intro F M hb a ro hs hr
  refine wpIn_region_any hm ?_
  simp only [okOrder, Bool.and_eq_true, decide_eq_true_eq] at hok
  obtain ⟨⟨⟨⟨h1, h2⟩, h3⟩, h4⟩, h5⟩ := hok
  have hL : Left ops (Array.replicate ops.size false) π := by
    refine ⟨by simp, fun i o ho hl => ?_, h1, fun i => ?_, h4, fun i o ho e he hb => ?_⟩
    · have : i < ops.size := (Array.getElem?_eq_some_iff.1 ho).1
      simp [Array.getD_eq_getD_getElem?, this] at hl
    · constructor
      · intro hi
        obtain ⟨p, hp, rfl⟩ := List.mem_map.1 hi
        have := List.all_eq_true.1 h3 p hp
        simp only [decide_eq_true_eq] at this
        exact ⟨this, by simp [Array.getD_eq_getD_getElem?, this]⟩
      · rintro ⟨hi, _⟩
        have := List.all_eq_true.1 h2 i (List.mem_range.2 hi)
        simpa using this
    · have hlt : i < ops.size := (Array.getElem?_eq_some_iff.1 ho).1
      have := List.all_eq_true.1 h5 i (List.mem_range.2 hlt)
      rw [ho] at this
      simp only [Array.all_eq_true'] at this
      have h6 := this e he
      simpa [hb] using h6
  have hlen : π.length = ops.size := by
    have hp : (π.map (·.1)).Perm (List.range ops.size) := by
      rw [List.perm_ext_iff_of_nodup h1 List.nodup_range]
      intro i
      rw [hL.mem i, List.mem_range]
      exact ⟨fun h => h.1, fun h => ⟨h, by simp [Array.getD_eq_getD_getElem?, h]⟩⟩
    have := hp.length_eq
    simpa using this
  have hA : Adds M M.drew := Adds.drew M
  have hG := hA.gu hs.ok
  exact drawn_sound (M0 := M) (hb0 := hb) (F := F) (P := P) (ops := ops) hK ro ops.size π (Array.replicate ops.size false) M.drew hb s a hlen hL hG (.refl _)
    ⟨hs.tm.mono hG.le (.refl _), hs.df.mono hG.le (.refl _), hs.hp.adds hA hs.ok, hs.ok.drew⟩ h

theorem CodeT.drawn {P : Program} {rd : Option Nat} {s : St} {Φ : AX → St → Prop} {id : Nat} {ops : Array Oper} (π : List (Nat × Cls)) (hm : P.follows .mixedOrders = true) (hok : okOrder ops π = true) (h : RunK P ops π s (Φ .normal)) :
    CodeT P rd (.region id ops true) s Φ := by
  have h1 : CodeT P rd (.region id ops true) s (fun x s' => ∃ s0, Same s0 s' ∧ Φ x s0) := by
    refine CodeT.drawn0 π hm hok ?_ (fun s s' hs ⟨s0, h0, hk⟩ => ⟨s0, h0.trans hs, hk⟩)
    exact runK_mono π (fun s hk => ⟨s, .refl s, hk⟩) h
  intro F M hb a ro hs hr
  refine wpIn_mono (h1 F M hb a ro hs hr) ?_
  rintro e a' w' ⟨x, s', M', hb', ⟨s0, h0, hk⟩, r1, r2, r3, r4, r5⟩
  exact ⟨x, s0, M', hb', hk, r1, r2, r3.same h0.symm, r4, r5⟩
where
  runK_mono {P : Program} {ops : Array Oper} : ∀ (l : List (Nat × Cls)) {s : St} {K K' : St → Prop}, (∀ s, K s → K' s) → RunK P ops l s K → RunK P ops l s K' := by
    intro l
    induction l with
    | nil => exact fun h hk => h _ hk
    | cons p l ih =>
      intro s K K' h hk
      obtain ⟨i, c⟩ := p
      obtain ⟨t, hh, d⟩ := s
      obtain ⟨v, h', k1, k2, _⟩ := stepV_det hk
      exact k2 _ (ih h k1)

end Go.PM

namespace Go.PM

theorem TmpsRel.know {M : Mem} {hb : List HB} {t : Tm} {tmps : Array Value} (h : TmpsRel M hb t tmps) (i : Nat) {x : AV} (hx : VRel M hb x (tmps.getD i undef)) : TmpsRel M hb (t.put i x) tmps := by
  refine ⟨by rw [Tm.n_put]; exact h.1, fun j => ?_⟩
  rw [Tm.get_put]
  split
  · rename_i hj; rw [← hj.1]; exact hx
  · exact h.2 j

theorem CodeT.promote {P : Program} {rd : Option Nat} {c : Code} {s : St} {Φ : AX → St → Prop} (i sz : Nat) (hi : s.t.get i = .sl true []) (h : CodeT P rd c ⟨s.t.put i (.hsl s.h.length 0 0 0), s.h ++ [.row true 0 sz []], s.d⟩ Φ) : CodeT P rd c s Φ := by
  intro F M hb a ro hs hr
  have hv := hs.tm.2 i
  rw [hi] at hv
  obtain ⟨hb1, p1, p2, p3⟩ := Go.PM.promote hs.hp hs.ok hv sz
  refine wpIn_mono (h F M hb1 a ro ⟨(hs.tm.mono (.refl _) p2).know i p3, hs.df.mono (.refl _) p2, p1, hs.ok⟩ (hr.mono p2)) fun _ _ _ hq => hq.trans (.refl _ _) p2

theorem CodeT.freeze {P : Program} {rd : Option Nat} {c : Code} {s : St} {Φ : AX → St → Prop} (i : Nat) (h : frzC s.h (s.t.get i) (fun x h' => CodeT P rd c ⟨s.t.put i x, h', s.d⟩ Φ)) : CodeT P rd c s Φ := by
  intro F M hb a ro hs hr
  obtain ⟨x, h', M', k1, k2, k3, k4, k5, k6⟩ := frzC_sound hs.hp hs.ok (hs.tm.2 i) h
  have := k1 F M' hb a ro ⟨(hs.tm.mono k6.le (.refl _)).know i k3.pure, hs.df.mono k6.le (.refl _), k4, k5⟩ hr
  rw [k2] at this
  exact wpIn_mono this fun _ _ _ hq => hq.trans k6 (.refl _)

/-! ### Forgetting -/
mutual
def AV.under (n : Nat) : AV → Bool
  | .hsl id _ _ _ | .ptr id _ | .eptr id _ _ _ | .yld id | .mp id => decide (id < n)
  | .fn _ caps => underL n caps
  | .iface _ x => x.under n
  | .agg cs => underL n cs
  | .tup vs => underL n vs
  | _ => true
def underL (n : Nat) : List AV → Bool
  | [] => true
  | x :: xs => x.under n && underL n xs
end

theorem underL_get {n : Nat} : ∀ {l : List AV} {i : Nat} {x : AV}, underL n l = true → l[i]? = some x → x.under n = true := by
  intro l
  induction l with
  | nil => intro i x _ h; simp at h
  | cons y l ih =>
    intro i x h hx
    simp only [underL, Bool.and_eq_true] at h
    cases i with
    | zero => simp at hx; subst hx; exact h.1
    | succ i => exact ih h.2 (by simpa using hx)

theorem get_take {hb : List HB} {n id : Nat} {e : HB} (h : hb[id]? = some e) (hlt : id < n) : (hb.take n)[id]? = some e := by rw [List.getElem?_take, if_pos hlt]; exact h

theorem VRel.take {M : Mem} {hb : List HB} {x : AV} {v : Value} {n : Nat} (h : VRel M hb x v) : x.under n = true → VRel M (hb.take n) x v := by
  induction h with
  | dead => exact fun _ => .dead
  | val h => exact fun _ => .val h
  | nil => exact fun _ => .nil
  | sl sz h1 h2 h3 h4 h5 h6 _ => exact fun _ => .sl sz h1 h2 h3 h4 h5 h6
  | hsl e h1 h2 h3 h4 h5 => exact fun hb => .hsl e (get_take h1 (by simpa [AV.under] using hb)) h2 h3 h4 h5
  | ptr e h1 h2 => exact fun hb => .ptr e (get_take h1 (by simpa [AV.under] using hb)) h2
  | eptr e h1 h2 h3 h4 h5 => exact fun hb => .eptr e (get_take h1 (by simpa [AV.under] using hb)) h2 h3 h4 h5
  | cptr h1 h2 h3 _ => exact fun _ => .cptr h1 h2 h3
  | fn h1 h2 ih => exact fun hb => .fn h1 fun i c hc => ih i c hc (underL_get (by simpa [AV.under] using hb) hc)
  | yld e h1 h2 => exact fun hb => .yld e (get_take h1 (by simpa [AV.under] using hb)) h2
  | iface h ih => exact fun hb => .iface (ih (by simpa [AV.under] using hb))
  | agg h1 h2 h3 ih => exact fun hb => .agg h1 h2 fun i c hc => ih i c hc (underL_get (by simpa [AV.under] using hb) hc)
  | tup h1 h2 ih => exact fun hb => .tup h1 fun i c hc => ih i c hc (underL_get (by simpa [AV.under] using hb) hc)
  | mp e h1 h2 => exact fun hb => .mp e (get_take h1 (by simpa [AV.under] using hb)) h2

def underT (n : Nat) (t : Tm) : Bool := t.l.all fun p => p.2.under n
theorem look_under {n : Nat} : ∀ {l : List (Nat × AV)} (i : Nat), (l.all fun p => p.2.under n) = true → (look l i).under n = true := by
  intro l
  induction l with
  | nil => intro i _; rfl
  | cons p l ih =>
    intro i h
    obtain ⟨k, v⟩ := p
    simp only [List.all_cons, Bool.and_eq_true] at h
    simp only [look]
    cases Nat.beq k i with
    | true => exact h.1
    | false => exact ih i h.2

def Box.under (n : Nat) : Box → Bool
  | .cells cs => underL n cs
  | .loop _ t _ _ _ _ _ => underT n t
  | .map _ => false
  | _ => true
def AD.under (n : Nat) : AD → Bool
  | .mark id => decide (id < n)
  | .call _ args caps => underL n args && underL n caps

/-- Known of the slots: each of these. -/
def keeps (t : Tm) (n : Nat) : List (Nat × AV) → Prop
  | [] => True
  | (k, v) :: l => t.get k = v ∧ v.under n = true ∧ keeps t n l
/-- The boxes: each as it was, or forgotten. -/
def keepsH (n : Nat) : List Box → List Box → Prop
  | _, [] => True
  | [], _ :: _ => False
  | b :: h, b' :: h' => (b' = .dead ∨ (b' = b ∧ b.under n = true)) ∧ keepsH n h h'
def keepsD (n : Nat) (d : List AD) : Prop := ∀ x ∈ d, AD.under n x = true

structure Weaker (s s' : St) : Prop where
  n : s'.t.n = s.t.n
  t : keeps s.t s'.h.length s'.t.l
  h : keepsH s'.h.length s.h s'.h
  d : s'.d = s.d
  db : keepsD s'.h.length s.d

theorem keeps_look {t : Tm} {n : Nat} : ∀ {l : List (Nat × AV)}, keeps t n l → ∀ i, look l i = .dead ∨ (look l i = t.get i ∧ (look l i).under n = true) := by
  intro l
  induction l with
  | nil => exact fun _ i => .inl rfl
  | cons p l ih =>
    obtain ⟨k, v⟩ := p
    intro h i
    obtain ⟨h1, h2, h3⟩ := h
    simp only [look]
    cases hb : Nat.beq k i with
    | true => obtain rfl := Nat.eq_of_beq_eq_true hb; exact .inr ⟨h1.symm, h2⟩
    | false => exact ih h3 i

theorem keepsH_get {n : Nat} : ∀ {h h' : List Box}, keepsH n h h' → h'.length ≤ h.length ∧ ∀ (i : Nat) (b : Box), h'[i]? = some b → b = .dead ∨ (h[i]? = some b ∧ b.under n = true) := by
  intro h
  induction h with
  | nil =>
    intro h' hk
    cases h' with
    | nil => exact ⟨Nat.le_refl _, fun i b hb => by simp at hb⟩
    | cons => exact hk.elim
  | cons b h ih =>
    intro h' hk
    cases h' with
    | nil => exact ⟨Nat.zero_le _, fun i b hb => by simp at hb⟩
    | cons b' h' =>
      obtain ⟨h1, h2⟩ := hk
      obtain ⟨k1, k2⟩ := ih h2
      refine ⟨by simp; exact k1, fun i x hx => ?_⟩
      cases i with
      | zero =>
        simp at hx; subst hx
        rcases h1 with h1 | ⟨h1, h3⟩
        · exact .inl h1
        · exact .inr ⟨by simp [h1], h1 ▸ h3⟩
      | succ i => exact k2 i x (by simpa using hx)

theorem TmpsRel.take {M : Mem} {hb : List HB} {t : Tm} {tmps : Array Value} {n : Nat} (h : TmpsRel M hb t tmps) (hb' : underT n t = true) : TmpsRel M (hb.take n) t tmps :=
  ⟨h.1, fun i => (h.2 i).take (look_under i hb')⟩

theorem BoxRel.take {M : Mem} {hb : List HB} {b : Box} {e : HB} {n : Nat} (h : BoxRel M hb b e) (hb' : b.under n = true) : BoxRel M (hb.take n) b e := by
  cases b with
  | dead => trivial
  | cells cs =>
    obtain ⟨h1, h2, c, h3, h4⟩ := h
    exact ⟨h1, h2, c, h3, h4.1, fun j x hx => ⟨(h4.2 j x hx).1, (h4.2 j x hx).2.take (underL_get hb' hx)⟩⟩
  | row mt ver sz es => exact h
  | loop fn t ps asg bd st pend =>
    obtain ⟨h1, r, h2, h3, h4, h5⟩ := h
    exact ⟨h1, r, h2, h3, h4.take hb', h5⟩
  | defer => exact h
  | map kvs => cases hb'

theorem HRel.weak {F : Nat → Prop} {M : Mem} {hb : List HB} {h h' : List Box} (H : HRel F M hb h) (hk : keepsH h'.length h h') : HRel F M (hb.take h'.length) h' := by
  obtain ⟨k1, k2⟩ := keepsH_get hk
  have hget : ∀ {i : Nat} {e : HB}, (hb.take h'.length)[i]? = some e → hb[i]? = some e := by
    intro i e he
    rw [List.getElem?_take] at he
    split at he
    · exact he
    · cases he
  refine ⟨by rw [List.length_take, H.len]; omega, fun i b e h1 h2 => ?_, fun i b e h1 h2 h3 => ?_, fun i j b b' e e' h1 h2 h3 h4 h5 h6 h7 => ?_⟩
  · rcases k2 i b h1 with rfl | ⟨g1, g2⟩
    · trivial
    · exact (H.box i b e g1 (hget h2)).take g2
  · rcases k2 i b h1 with rfl | ⟨g1, g2⟩
    · cases h3
    · exact H.own i b e g1 (hget h2) h3
  · rcases k2 i b h1 with rfl | ⟨g1, g2⟩
    · cases h5
    · rcases k2 j b' h3 with rfl | ⟨q1, q2⟩
      · cases h6
      · exact H.dis i j b b' e e' g1 (hget h2) q1 (hget h4) h5 h6 h7

theorem DfRel.take {M : Mem} {hb : List HB} {n : Nat} : ∀ {xs : List AD} {ds : List Deferred}, DfRel M hb xs ds → keepsD n xs → DfRel M (hb.take n) xs ds
  | [], [], _, _ => trivial
  | [], _ :: _, h, _ => h.elim
  | _ :: _, [], h, _ => h.elim
  | x :: xs, d :: ds, h, hk => by
    refine ⟨?_, DfRel.take h.2 fun y hy => hk y (List.mem_cons_of_mem _ hy)⟩
    have hb' := hk x List.mem_cons_self
    have h1 := h.1
    cases x with
    | mark id =>
      obtain ⟨e, g1, g2, g3⟩ := h1
      exact ⟨e, get_take g1 (by simpa [AD.under] using hb'), g2, g3⟩
    | call f args caps =>
      obtain ⟨a, c, g1, g2, g3⟩ := h1
      simp only [AD.under, Bool.and_eq_true] at hb'
      exact ⟨a, c, g1, ⟨g2.1, fun i x hx => (g2.2 i x hx).take (underL_get hb'.1 hx)⟩, ⟨g3.1, fun i x hx => (g3.2 i x hx).take (underL_get hb'.2 hx)⟩⟩

theorem SRel.weak {F : Nat → Prop} {M : Mem} {hb : List HB} {s s' : St} {a : Act} (hs : SRel F M hb s a) (hw : Weaker s s') : SRel F M (hb.take s'.h.length) s' a := by
  refine ⟨⟨hw.n.trans hs.tm.1, fun i => ?_⟩, ?_, hs.hp.weak hw.h, hs.ok⟩
  · rcases keeps_look hw.t i with h | ⟨h1, h2⟩
    · simp only [Tm.get, h]; exact .dead
    · have := hs.tm.2 i
      rw [← h1] at this
      exact this.take h2
  · rw [hw.d]; exact hs.df.take hw.db

def AX.under (n : Nat) : AX → Bool
  | .panic x => x.under n
  | _ => true

theorem HBLe.take {hb hb' : List HB} (h : HBLe hb hb') {n : Nat} (hn : hb.length ≤ n) : HBLe hb (hb'.take n) := by
  intro i e he
  obtain ⟨e', h1, h2⟩ := h i e he
  have hi : i < hb.length := (List.getElem?_eq_some_iff.1 he).1
  exact ⟨e', get_take h1 (by omega), h2⟩

/-- Behind some code: less is known, and boxes that the code has made are forgotten. -/
theorem CodeT.less {P : Program} {rd : Option Nat} {c : Code} {s : St} {Φ : AX → St → Prop} (h : CodeT P rd c s (fun x s' => ∃ s'', Weaker s' s'' ∧ s.h.length ≤ s''.h.length ∧ x.under s''.h.length = true ∧ Φ x s'')) : CodeT P rd c s Φ := by
  intro F M hb a ro hs hr
  refine wpIn_mono (h F M hb a ro hs hr) ?_
  rintro e a' w' ⟨x, s', M', hb', ⟨s'', hw, hlen, hx, hk⟩, r1, r2, r3, r4, r5⟩
  refine ⟨x, s'', M', hb'.take s''.h.length, hk, ?_, r2, r3.weak hw, r4, r5.take (by rw [hs.hp.len]; exact hlen)⟩
  cases x <;> cases e <;> try exact r1
  obtain ⟨v, h1, h2⟩ := r1
  exact ⟨v, h1, h2.take hx⟩

/-- Ahead of some code: less is known. -/
theorem CodeT.weak {P : Program} {rd : Option Nat} {c : Code} {s s' : St} {Φ : AX → St → Prop} (hw : Weaker s s') (hl : s'.h.length = s.h.length) (h : CodeT P rd c s' Φ) : CodeT P rd c s Φ := by
  intro F M hb a ro hs hr
  have := hs.weak hw
  rw [hl, ← hs.hp.len, List.take_length] at this
  exact h F M hb a ro this hr

end Go.PM

namespace Go.PM

mutual
def AV.lax : AV → AV
  | .sl _ es => .sl false (laxL es)
  | .cptr cs => .cptr (laxL cs)
  | .fn f caps => .fn f (laxL caps)
  | .iface t x => .iface t x.lax
  | .agg cs => .agg (laxL cs)
  | .tup vs => .tup (laxL vs)
  | x => x
def laxL : List AV → List AV
  | [] => []
  | x :: xs => x.lax :: laxL xs
end

theorem laxL_eq (l : List AV) : laxL l = l.map AV.lax := by
  induction l with
  | nil => rfl
  | cons x l ih => simp [laxL, ih]

theorem lax_cells (x : AV) : x.lax.cells = x.cells.map AV.lax := by
  cases x <;> simp [AV.lax, AV.cells, laxL_eq]
theorem lax_single (x : AV) : x.lax.single = x.single := by cases x <;> simp [AV.lax, AV.single]

theorem get_lax {l : List AV} {i : Nat} {y : AV} (h : (l.map AV.lax)[i]? = some y) : ∃ x, l[i]? = some x ∧ y = x.lax := by
  rw [List.getElem?_map, Option.map_eq_some_iff] at h
  obtain ⟨x, h1, h2⟩ := h
  exact ⟨x, h1, h2.symm⟩

theorem VRel.lax {M : Mem} {hb : List HB} {x : AV} {v : Value} (h : VRel M hb x v) : VRel M hb x.lax v := by
  induction h with
  | dead => exact .dead
  | val h => exact .val h
  | nil => exact .nil
  | @sl hb full es a cap sz h1 h2 h3 h4 h5 h6 ih =>
    simp only [AV.lax, laxL_eq]
    have hlen : (es.map AV.lax).length = es.length := by simp
    have := VRel.sl (M := M) (hb := hb) (full := false) (es := es.map AV.lax) (a := a) (cap := cap) sz h1 (by rw [hlen]; exact h2) (fun h => by cases h)
      (fun e he => by obtain ⟨x, hx, rfl⟩ := List.mem_map.1 he; rw [lax_cells, List.length_map]; exact h4 x hx)
      (fun i e j c he hc => by
        obtain ⟨x, hx, rfl⟩ := get_lax he
        rw [lax_cells] at hc
        obtain ⟨y, hy, rfl⟩ := get_lax hc
        exact ⟨(h5 i x j y hx hy).1, by rw [lax_single]; exact (h5 i x j y hx hy).2⟩)
      (fun i e j c he hc => by
        obtain ⟨x, hx, rfl⟩ := get_lax he
        rw [lax_cells] at hc
        obtain ⟨y, hy, rfl⟩ := get_lax hc
        exact ih i x j y hx hy)
    rwa [hlen] at this
  | hsl e h1 h2 h3 h4 h5 => exact .hsl e h1 h2 h3 h4 h5
  | ptr e h1 h2 => exact .ptr e h1 h2
  | eptr e h1 h2 h3 h4 h5 => exact .eptr e h1 h2 h3 h4 h5
  | cptr h1 h2 h3 ih =>
    simp only [AV.lax, laxL_eq]
    exact .cptr h1 (fun j c hc => by obtain ⟨y, hy, rfl⟩ := get_lax hc; exact ⟨(h2 j y hy).1, by rw [lax_single]; exact (h2 j y hy).2⟩) (fun j c hc => by obtain ⟨y, hy, rfl⟩ := get_lax hc; exact ih j y hy)
  | fn h1 h2 ih =>
    simp only [AV.lax, laxL_eq]
    exact .fn (by simpa using h1) (fun i c hc => by obtain ⟨y, hy, rfl⟩ := get_lax hc; exact ih i y hy)
  | yld e h1 h2 => exact .yld e h1 h2
  | iface h ih => exact .iface ih
  | agg h1 h2 h3 ih =>
    simp only [AV.lax, laxL_eq]
    exact .agg (by simpa using h1) (fun i c hc => by obtain ⟨y, hy, rfl⟩ := get_lax hc; rw [lax_single]; exact h2 i y hy) (fun i c hc => by obtain ⟨y, hy, rfl⟩ := get_lax hc; exact ih i y hy)
  | tup h1 h2 ih =>
    simp only [AV.lax, laxL_eq]
    exact .tup (by simpa using h1) (fun i c hc => by obtain ⟨y, hy, rfl⟩ := get_lax hc; exact ih i y hy)
  | mp e h1 h2 => exact .mp e h1 h2

def AE.lax : AE → AE
  | .ret x => .ret x.lax
  | .panic x => .panic x.lax

/-- Of what is handed back the spare capacities are forgotten. -/
theorem CallT.laxR {P : Program} {f : FuncId} {args : List AV} {h : List Box} {R : AE → List Box → Prop} (hc : CallT P f args h (fun r h' => R r.lax h')) : CallT P f args h R := by
  refine ⟨hc.1, fun F M hb vs H ok hv => Calls.mono (hc.2 F M hb vs H ok hv) ?_⟩
  rintro e w' ⟨r, h', M', hb', k1, k2, k3, k4, k5, k6, k7⟩
  refine ⟨r.lax, h', M', hb', k1, ?_, k3, k4, k5, k6, k7⟩
  cases r <;> cases e <;> try exact k2.elim
  · exact VRel.lax k2
  · obtain ⟨v, h1, h2⟩ := k2
    exact ⟨v, h1, h2.lax⟩

/-- Of what is given likewise. -/
theorem CallT.laxA {P : Program} {f : FuncId} {args : List AV} {h : List Box} {R : AE → List Box → Prop} (hc : CallT P f (args.map AV.lax) h R) : CallT P f args h R := by
  refine ⟨hc.1, fun F M hb vs H ok hv => hc.2 F M hb vs H ok ⟨by simpa using hv.1, fun i x hx => ?_⟩⟩
  obtain ⟨y, hy, rfl⟩ := get_lax hx
  exact (hv.2 i y hy).lax

mutual
theorem pure0_lax : ∀ (x : AV), x.lax.pure0 = x.pure0
  | .dead | .val _ | .sl .. | .hsl .. | .ptr .. | .eptr .. | .cptr _ | .yld _ | .agg _ | .tup _ | .mp _ => by simp [AV.lax, AV.pure0]
  | .fn _ caps => by simp only [AV.lax, AV.pure0]; exact pureL_lax caps
  | .iface t x => by simp only [AV.lax, AV.pure0]; exact pure0_lax x
theorem pureL_lax : ∀ (l : List AV), pureL (laxL l) = pureL l
  | [] => rfl
  | x :: xs => by simp only [laxL, pureL]; rw [pure0_lax x, pureL_lax xs]
end

/-- A call that is given a nil slice: it gets a row. -/
theorem CallT.nil0 {P : Program} {f : FuncId} {args : List AV} {h : List Box} {R : AE → List Box → Prop} (sz : Nat) (hc : CallT P f (.hsl h.length 0 0 0 :: args) (h ++ [.row true 0 sz []]) R) : CallT P f (.sl true [] :: args) h R := by
  refine ⟨hc.1, fun F M hb vs H ok hv => ?_⟩
  have h0 := hv.2 0 _ rfl
  obtain ⟨hb1, p1, p2, p3⟩ := promote H ok h0 sz
  refine Calls.mono (hc.2 F M hb1 vs p1 ok ⟨hv.1, fun i x hx => ?_⟩) fun e w' ⟨r, h', M', hb', j1, j2, j3, j4, j5, j6, j7⟩ => ⟨r, h', M', hb', j1, j2, j3, j4, j5, j6, p2.trans j7⟩
  cases i with
  | zero => simp at hx; subst hx; exact p3
  | succ i => exact (hv.2 (i + 1) x (by simpa using hx)).hb p2

end Go.PM

namespace Go.PM

theorem CodeT.seqK {P : Program} {rd : Option Nat} {x y : Code} {s : St} {Φ : AX → St → Prop} (h : ∀ K : St → Prop, (∀ s1, CodeT P rd y s1 Φ → K s1) → CodeT P rd x s (AX.thn K Φ)) : CodeT P rd (.seq x y) s Φ := CodeT.seq (h _ fun _ h => h)

/-- Behind some code, where it ends normally: less is known, and boxes that it has made are forgotten. -/
theorem CodeT.lessN {P : Program} {rd : Option Nat} {c : Code} {s : St} {K : St → Prop} {Φ : AX → St → Prop} (h : CodeT P rd c s (AX.thn (fun s' => ∃ s'', Weaker s' s'' ∧ s.h.length ≤ s''.h.length ∧ K s'') Φ)) : CodeT P rd c s (AX.thn K Φ) := by
  intro F M hb a ro hs hr
  refine wpIn_mono (h F M hb a ro hs hr) ?_
  rintro e a' w' ⟨x, s', M', hb', hk, r1, r2, r3, r4, r5⟩
  cases x <;> cases e <;> try exact r1.elim
  · obtain ⟨s'', hw, hlen, hk⟩ := hk
    exact ⟨.normal, s'', M', hb'.take s''.h.length, hk, trivial, r2, r3.weak hw, r4, r5.take (by rw [hs.hp.len]; exact hlen)⟩
  case exit.exit i j => exact ⟨.exit i, s', M', hb', hk, r1, r2, r3, r4, r5⟩
  case goto.goto i j => exact ⟨.goto i, s', M', hb', hk, r1, r2, r3, r4, r5⟩
  case ret.ret => exact ⟨.ret, s', M', hb', hk, r1, r2, r3, r4, r5⟩
  case panic.panic x ch => exact ⟨.panic x, s', M', hb', hk, r1, r2, r3, r4, r5⟩

/-- A loop of at most N rounds: ahead of round i the state is S i. -/
theorem CodeT.count {P : Program} {rd : Option Nat} {c : Code} {Φ : AX → St → Prop} (S : Nat → St) (N : Nat) {i : Nat} (hi : i ≤ N)
    (round : ∀ i, i ≤ N → CodeT P rd c (S i) (AX.thn (fun s' => i < N ∧ Weaker s' (S (i + 1)) ∧ (S i).h.length ≤ (S (i + 1)).h.length) Φ)) : CodeT P rd (.loop c) (S i) Φ := by
  refine CodeT.loop (fun n s => ∃ i, i ≤ N ∧ n = N - i ∧ s = S i) (n := N - i) ⟨i, hi, rfl, rfl⟩ ?_
  rintro n s ⟨i, hi, rfl, rfl⟩
  refine CodeT.lessN (CodeT.mono (round i hi) ?_)
  intro x s' hx
  cases x <;> try exact hx
  obtain ⟨h1, h2, h3⟩ := hx
  exact ⟨S (i + 1), h2, h3, N - (i + 1), by omega, i + 1, h1, rfl, rfl⟩

theorem PureT.go {P : Program} {f : FuncId} {args : List AV} {R : AV → Prop} {t : Tm} {h : List Box} {d : List AD} {dst : Option Tmp} {K : St → Prop} {Φ : AX → St → Prop} (hc : PureT P f args R) (hp : args.all AV.pure = true) (hk : ∀ x, R x → K ⟨t.putO dst x, h, d⟩) :
    CallT P f args h (callK ⟨t, h, d⟩ dst K Φ) := PureT.call (s := ⟨t, h, d⟩) hc hp hk

theorem look_nil (i : Nat) : look [] i = .dead := rfl
theorem look_cons (k : Nat) (v : AV) (l : List (Nat × AV)) (i : Nat) : look ((k, v) :: l) i = if k = i then v else look l i := by
  simp only [look]
  cases h : Nat.beq k i with
  | true => simp only; rw [if_pos (Nat.eq_of_beq_eq_true h)]
  | false => simp only; rw [if_neg (Nat.ne_of_beq_eq_false h)]
theorem get_mk (n : Nat) (l : List (Nat × AV)) (i : Nat) : Tm.get ⟨n, l⟩ i = look l i := rfl
theorem put_mk (n : Nat) (l : List (Nat × AV)) (d : Nat) (v : AV) : Tm.put ⟨n, l⟩ d v = if d < n then ⟨n, (d, v) :: l⟩ else ⟨n, l⟩ := by
  unfold Tm.put
  cases h : Nat.blt d n with
  | true => have hlt : d < n := Nat.le_of_ble_eq_true h; simp only; rw [if_pos hlt]
  | false => simp only; rw [if_neg (fun hh => by rw [show Nat.blt d n = true from Nat.ble_eq_true_of_le hh] at h; cases h)]
theorem putO_some (t : Tm) (d : Nat) (v : AV) : t.putO (some d) v = t.put d v := rfl
theorem putO_none (t : Tm) (v : AV) : t.putO none v = t := rfl
theorem St_put (t : Tm) (h : List Box) (ds : List AD) (d : Option Tmp) (v : AV) : (⟨t, h, ds⟩ : St).put d v = ⟨t.putO d v, h, ds⟩ := rfl
theorem ev_tmp (t : Tm) (h : List Box) (d : List AD) (i : Nat) : (⟨t, h, d⟩ : St).ev (.tmp i) = t.get i := rfl
theorem ev_const (t : Tm) (h : List Box) (d : List AD) (v : Value) : (⟨t, h, d⟩ : St).ev (.const v) = ofVal v := rfl
theorem ev_func (t : Tm) (h : List Box) (d : List AD) (f : FuncId) : (⟨t, h, d⟩ : St).ev (.func f) = .fn f [] := rfl
theorem ofVal_int (k : IntKind) (n : Int) : ofVal (.int k n) = .val (.int k n) := rfl
theorem ofVal_bool (b : Bool) : ofVal (.bool b) = .val (.bool b) := rfl
theorem ofVal_str (b : ByteArray) : ofVal (.string b) = .val (.string b) := rfl
theorem ofVal_nilSlice : ofVal (.slice none 0 0) = .sl true [] := rfl
theorem ofVal_nilPtr : ofVal (.pointer none) = .val (.pointer none) := rfl
theorem thn_normal (K : St → Prop) (Φ : AX → St → Prop) (s : St) : AX.thn K Φ .normal s = K s := rfl
theorem thn_ret (K : St → Prop) (Φ : AX → St → Prop) (s : St) : AX.thn K Φ .ret s = Φ .ret s := rfl
theorem thn_exit (K : St → Prop) (Φ : AX → St → Prop) (i : Nat) (s : St) : AX.thn K Φ (.exit i) s = Φ (.exit i) s := rfl
theorem thn_panic (K : St → Prop) (Φ : AX → St → Prop) (x : AV) (s : St) : AX.thn K Φ (.panic x) s = Φ (.panic x) s := rfl
theorem inB_normal (id : Nat) (Φ : AX → St → Prop) (s : St) : AX.inB id Φ .normal s = Φ .normal s := rfl
theorem inB_ret (id : Nat) (Φ : AX → St → Prop) (s : St) : AX.inB id Φ .ret s = Φ .ret s := rfl
theorem inB_exit (id : Nat) (Φ : AX → St → Prop) (i : Nat) (s : St) : AX.inB id Φ (.exit i) s = if i = id then Φ .normal s else Φ (.exit i) s := rfl

/-! ### Values that are handed on -/
theorem cells_val (v : Value) : (AV.val v).cells = [.val v] := rfl
theorem cells_sl (f : Bool) (es : List AV) : (AV.sl f es).cells = [.sl f es] := rfl
theorem cells_hsl (a b c d : Nat) : (AV.hsl a b c d).cells = [.hsl a b c d] := rfl
theorem cells_ptr (a b : Nat) : (AV.ptr a b).cells = [.ptr a b] := rfl
theorem cells_cptr (a : List AV) : (AV.cptr a).cells = [.cptr a] := rfl
theorem cells_fn (f : FuncId) (a : List AV) : (AV.fn f a).cells = [.fn f a] := rfl
theorem cells_iface (t : TypeId) (a : AV) : (AV.iface t a).cells = [.iface t a] := rfl
theorem cells_agg (cs : List AV) : (AV.agg cs).cells = cs := rfl
theorem frz0_val (h : List Box) (v : Value) (K : AV → List Box → Prop) : frz0 h (.val v) K = K (.val v) h := by simp [frz0, AV.pure0]
theorem frz0_sl (h : List Box) (f : Bool) (es : List AV) (K : AV → List Box → Prop) : frz0 h (.sl f es) K = K (.sl f es) h := by simp [frz0, AV.pure0]
theorem frz0_cptr (h : List Box) (es : List AV) (K : AV → List Box → Prop) : frz0 h (.cptr es) K = K (.cptr es) h := by simp [frz0, AV.pure0]
theorem frz0_hsl (h : List Box) (id ver off len : Nat) (K : AV → List Box → Prop) : frz0 h (.hsl id ver off len) K = match h[id]? with
    | some (.row _ ver' sz es) => ver = ver' ∧ off + len ≤ es.length ∧ K (.sl false ((es.take (off + len)).drop off)) (h.set id (.row false ver sz es))
    | _ => False := rfl
theorem frzL_nil (h : List Box) (K : List AV → List Box → Prop) : frzL [] h K = K [] h := rfl
theorem frzL_cons (x : AV) (xs : List AV) (h : List Box) (K : List AV → List Box → Prop) : frzL (x :: xs) h K = frz0 h x (fun x' h' => frzL xs h' (fun xs' h'' => K (x' :: xs') h'')) := rfl
theorem frzA_val (h : List Box) (v : Value) (K : AV → List Box → Prop) : frzA h (.val v) K = K (.val v) h := by simp [frzA, frz0_val]
theorem frzA_sl (h : List Box) (f : Bool) (es : List AV) (K : AV → List Box → Prop) : frzA h (.sl f es) K = K (.sl f es) h := by simp [frzA, frz0_sl]
theorem frzA_hsl (h : List Box) (id ver off len : Nat) (K : AV → List Box → Prop) : frzA h (.hsl id ver off len) K = frz0 h (.hsl id ver off len) K := rfl
theorem frzA_agg (h : List Box) (cs : List AV) (K : AV → List Box → Prop) : frzA h (.agg cs) K = frzL cs h (fun cs' h' => K (.agg cs') h') := rfl
theorem frzAs_nil (h : List Box) (K : List AV → List Box → Prop) : frzAs [] h K = K [] h := rfl
theorem frzAs_cons (x : AV) (xs : List AV) (h : List Box) (K : List AV → List Box → Prop) : frzAs (x :: xs) h K = frzA h x (fun x' h' => frzAs xs h' (fun xs' h'' => K (x' :: xs') h'')) := rfl
theorem frzC_val (h : List Box) (v : Value) (K : AV → List Box → Prop) : frzC h (.val v) K = K (.val v) h := by simp [frzC, frz0_val]
theorem frzC_sl (h : List Box) (f : Bool) (es : List AV) (K : AV → List Box → Prop) : frzC h (.sl f es) K = K (.sl f es) h := by simp [frzC, frz0_sl]
theorem frzC_cptr (h : List Box) (es : List AV) (K : AV → List Box → Prop) : frzC h (.cptr es) K = K (.cptr es) h := by simp [frzC, frz0_cptr]
theorem frzC_hsl (h : List Box) (id ver off len : Nat) (K : AV → List Box → Prop) : frzC h (.hsl id ver off len) K = frz0 h (.hsl id ver off len) K := rfl
theorem frzC_agg (h : List Box) (cs : List AV) (K : AV → List Box → Prop) : frzC h (.agg cs) K = frzL cs h (fun cs' h' => K (.agg cs') h') := rfl
theorem frzC_ptr (h : List Box) (id off : Nat) (K : AV → List Box → Prop) : frzC h (.ptr id off) K = match h[id]? with
    | some (.cells cs) => frzL cs (h.set id .dead) (fun cs' h' => K (.cptr (cs'.drop off)) h')
    | _ => False := rfl
theorem frzCs_nil (h : List Box) (K : List AV → List Box → Prop) : frzCs [] h K = K [] h := rfl
theorem frzCs_cons (x : AV) (xs : List AV) (h : List Box) (K : List AV → List Box → Prop) : frzCs (x :: xs) h K = frzC h x (fun x' h' => frzCs xs h' (fun xs' h'' => K (x' :: xs') h'')) := rfl
theorem frzV_tup (h : List Box) (vs : List AV) (K : AV → List Box → Prop) : frzV h (.tup vs) K = frzCs vs h (fun vs' h' => K (.tup vs') h') := rfl
theorem frzV_val (h : List Box) (v : Value) (K : AV → List Box → Prop) : frzV h (.val v) K = K (.val v) h := by simp [frzV, frzC_val]
theorem frzV_sl (h : List Box) (f : Bool) (es : List AV) (K : AV → List Box → Prop) : frzV h (.sl f es) K = K (.sl f es) h := by simp [frzV, frzC_sl]
theorem frzV_hsl (h : List Box) (id ver off len : Nat) (K : AV → List Box → Prop) : frzV h (.hsl id ver off len) K = frz0 h (.hsl id ver off len) K := rfl
theorem frzV_agg (h : List Box) (cs : List AV) (K : AV → List Box → Prop) : frzV h (.agg cs) K = frzL cs h (fun cs' h' => K (.agg cs') h') := rfl
theorem frzV_ptr (h : List Box) (id off : Nat) (K : AV → List Box → Prop) : frzV h (.ptr id off) K = frzC h (.ptr id off) K := rfl
theorem frzR_ret (R : AE → List Box → Prop) (x : AV) (h : List Box) : frzR R (.ret x) h = frzV h x (fun x' h' => R (.ret x') h') := rfl
theorem frzR_panic (R : AE → List Box → Prop) (x : AV) (h : List Box) : frzR R (.panic x) h = frzV h x (fun x' h' => R (.panic x') h') := rfl
theorem bodyA_ret (P : Program) (fn : Func) (R : AE → List Box → Prop) (t : Tm) (h : List Box) (d : List AD) : bodyA P fn R .ret ⟨t, h, d⟩ = leaveA P fn.results.toList t R none d h := rfl
theorem bodyA_normal (P : Program) (fn : Func) (R : AE → List Box → Prop) (t : Tm) (h : List Box) (d : List AD) : bodyA P fn R .normal ⟨t, h, d⟩ = leaveA P fn.results.toList t R none d h := rfl
theorem bodyA_panic (P : Program) (fn : Func) (R : AE → List Box → Prop) (x : AV) (t : Tm) (h : List Box) (d : List AD) : bodyA P fn R (.panic x) ⟨t, h, d⟩ = leaveA P fn.results.toList t R (some x) d h := rfl
theorem leaveA_nil (P : Program) (rs : List ResultVar) (t : Tm) (R : AE → List Box → Prop) (h : List Box) : leaveA P rs t R none [] h = resA P t h rs (fun xs => R (.ret (pack xs)) h) := rfl
theorem leaveA_pan (P : Program) (rs : List ResultVar) (t : Tm) (R : AE → List Box → Prop) (x : AV) (h : List Box) : leaveA P rs t R (some x) [] h = R (.panic x) h := rfl
theorem leaveA_mark (P : Program) (rs : List ResultVar) (t : Tm) (R : AE → List Box → Prop) (pan : Option AV) (id : Nat) (ds : List AD) (h : List Box) : leaveA P rs t R pan (.mark id :: ds) h = (h[id]? = some .defer ∧ leaveA P rs t R pan ds (h.set id .dead)) := rfl
theorem resA_nil (P : Program) (t : Tm) (h : List Box) (K : List AV → Prop) : resA P t h [] K = K [] := rfl
theorem resA_tmp (P : Program) (t : Tm) (h : List Box) (i : Tmp) (rs : List ResultVar) (K : List AV → Prop) : resA P t h (.tmp i :: rs) K = resA P t h rs (fun xs => K (t.get i :: xs)) := rfl
theorem resA_cell (P : Program) (t : Tm) (h : List Box) (i : Tmp) (ty : TypeId) (rs : List ResultVar) (K : List AV → Prop) : resA P t h (.cell i ty :: rs) K = loadA P h ty (t.get i) (fun x => resA P t h rs (fun xs => K (x :: xs))) := rfl
theorem pack_one (x : AV) : pack [x] = x := rfl
theorem pack_nil : pack [] = .tup [] := rfl
theorem pack_two (x y : AV) (l : List AV) : pack (x :: y :: l) = .tup (x :: y :: l) := rfl
theorem callK_ret (s : St) (dst : Option Tmp) (K : St → Prop) (Φ : AX → St → Prop) (x : AV) (h : List Box) : callK s dst K Φ (.ret x) h = K ((⟨s.t, h, s.d⟩ : St).put dst x) := rfl
theorem callK_panic (s : St) (dst : Option Tmp) (K : St → Prop) (Φ : AX → St → Prop) (x : AV) (h : List Box) : callK s dst K Φ (.panic x) h = Φ (.panic x) ⟨s.t, h, s.d⟩ := rfl

theorem guardT_list (l : List Oper) (j : Nat) : guardT l.toArray j = (l[j]?).bind (·.dst) := by simp [guardT]
theorem under_val (n : Nat) (v : Value) : (AV.val v).under n = true := rfl
theorem under_sl (n : Nat) (f : Bool) (es : List AV) : (AV.sl f es).under n = true := rfl
theorem under_cptr (n : Nat) (es : List AV) : (AV.cptr es).under n = true := rfl
theorem under_dead (n : Nat) : AV.dead.under n = true := rfl
theorem under_ptr (n id off : Nat) : (AV.ptr id off).under n = decide (id < n) := rfl
theorem under_hsl (n a b c d : Nat) : (AV.hsl a b c d).under n = decide (a < n) := rfl
theorem under_yld (n id : Nat) : (AV.yld id).under n = decide (id < n) := rfl
theorem under_fn (n : Nat) (f : FuncId) (caps : List AV) : (AV.fn f caps).under n = underL n caps := rfl
theorem under_agg (n : Nat) (cs : List AV) : (AV.agg cs).under n = underL n cs := rfl
theorem under_tup (n : Nat) (cs : List AV) : (AV.tup cs).under n = underL n cs := rfl
theorem underL_nil (n : Nat) : underL n [] = true := rfl
theorem underL_cons (n : Nat) (x : AV) (xs : List AV) : underL n (x :: xs) = (x.under n && underL n xs) := rfl
theorem keeps_nil (t : Tm) (n : Nat) : keeps t n [] = True := rfl
theorem keeps_cons (t : Tm) (n k : Nat) (v : AV) (l : List (Nat × AV)) : keeps t n ((k, v) :: l) = (t.get k = v ∧ v.under n = true ∧ keeps t n l) := rfl
theorem keepsH_nil (n : Nat) (h : List Box) : keepsH n h [] = True := by cases h <;> rfl
theorem keepsH_cons (n : Nat) (b b' : Box) (h h' : List Box) : keepsH n (b :: h) (b' :: h') = ((b' = .dead ∨ (b' = b ∧ b.under n = true)) ∧ keepsH n h h') := rfl
theorem boxu_cells (n : Nat) (cs : List AV) : (Box.cells cs).under n = underL n cs := rfl
theorem boxu_row (n : Nat) (mt : Bool) (ver sz : Nat) (es : List AV) : (Box.row mt ver sz es).under n = true := rfl
theorem boxu_dead (n : Nat) : Box.dead.under n = true := rfl
theorem boxu_defer (n : Nat) : Box.defer.under n = true := rfl
theorem keepsD_nil (n : Nat) : keepsD n [] := fun _ h => by cases h

section
variable (P : Program) (ops : Array Oper) (Φ : AX → St → Prop) (dst : Option Tmp) (ty : TypeId) (pos : String) (after : Array Edge) (rest : List Oper) (s : St) (K : St → Prop) (g : Option (Nat × Bool))
theorem OpsA_nil : OpsA P ops Φ [] s = Φ .normal s := rfl
theorem OpsA_cons (op : Op) : OpsA P ops Φ (⟨dst, op, ty, pos, after, none⟩ :: rest) s = opA P ⟨dst, op, ty, pos, after, none⟩ s (OpsA P ops Φ rest) Φ := rfl
theorem if_bool (b want : Bool) (A B : Prop) : ((b = want → A) ∧ (b = !want → B)) = if b = want then A else B := by
  cases b <;> cases want <;> simp
def guardV (ops : Array Oper) (t : Tm) (j : Nat) : AV := match guardT ops j with
  | some d => t.get d
  | none => .dead
def guardA (v : AV) (want : Bool) (A B : Prop) : Prop := match v with
  | .val (.bool b) => if b = want then A else B
  | .tup [] => B
  | _ => False
theorem guardA_bool (b want : Bool) (A B : Prop) : guardA (.val (.bool b)) want A B = if b = want then A else B := rfl
/-- Simp looks at neither of these. -/
structure Kept (A B : Prop) : Type
/-- A choice; simp looks at its condition alone. -/
def gif (b : Bool) (A B : Prop) (_ : Kept A B) : Prop := if b = true then A else B
theorem gif_t (A B : Prop) (k : Kept A B) : gif true A B k = A := by simp [gif]
theorem gif_f (A B : Prop) (k : Kept A B) : gif false A B k = B := by simp [gif]
/-- A condition that comes first; simp does not look behind it. -/
def gate (c A : Prop) (_ : Kept A A) : Prop := c ∧ A
theorem gate_t (A : Prop) (k : Kept A A) : gate True A k = A := by simp [gate]
theorem gate_i {c A : Prop} {k : Kept A A} (hc : c) (ha : A) : gate c A k := ⟨hc, ha⟩
theorem guardA_t (b : Bool) (A B : Prop) : guardA (.val (.bool b)) true A B = gif b A B ⟨⟩ := rfl
theorem guardA_f (b : Bool) (A B : Prop) : guardA (.val (.bool b)) false A B = gif b B A ⟨⟩ := by cases b <;> simp [guardA, gif]
theorem guardA_tup (want : Bool) (A B : Prop) : guardA (.tup []) want A B = B := rfl
@[congr] theorem guardA_congr {v v' : AV} {want : Bool} {A B : Prop} (h : v = v') : guardA v want A B = guardA v' want A B := by rw [h]
def pickA (v : AV) (A B : Prop) : Prop := match v with
  | .val (.bool t) => gif t A B ⟨⟩
  | _ => False
theorem pickA_val (b : Bool) (A B : Prop) : pickA (.val (.bool b)) A B = gif b A B ⟨⟩ := rfl
@[congr] theorem pickA_congr {v v' : AV} {A B : Prop} (h : v = v') : pickA v A B = pickA v' A B := by rw [h]
theorem guardV_list (l : List Oper) (t : Tm) (j : Nat) : guardV l.toArray t j = match (l[j]?).bind (·.dst) with
  | some d => t.get d
  | none => .dead := by simp [guardV, guardT]
theorem guardV_zero (d : Tmp) (op : Op) (l : List Oper) (t : Tm) : guardV (List.toArray (⟨some d, op, ty, pos, after, g⟩ :: l)) t 0 = t.get d := by simp [guardV, guardT]
theorem guardV_succ (o : Oper) (l : List Oper) (t : Tm) (j : Nat) : guardV (List.toArray (o :: l)) t (j + 1) = guardV l.toArray t j := by simp [guardV, guardT]
theorem OpsA_guard (op : Op) (j : Nat) (want : Bool) : OpsA P ops Φ (⟨dst, op, ty, pos, after, some (j, want)⟩ :: rest) s = guardA (guardV ops s.t j) want (opA P ⟨dst, op, ty, pos, after, some (j, want)⟩ s (OpsA P ops Φ rest) Φ) (OpsA P ops Φ rest (s.put dst (.tup []))) := by
  simp only [OpsA, guardV]
  cases guardT ops j with
  | none => rfl
  | some d =>
    simp only [guardA]
    generalize s.t.get d = v
    cases v <;> try rfl
    · rename_i v
      cases v <;> try rfl
      exact if_bool _ _ _ _
    · rename_i l
      cases l <;> rfl
theorem opA_move (x : Operand) : opA P ⟨dst, .move x, ty, pos, after, g⟩ s K Φ = K (s.put dst (s.ev x)) := rfl
theorem opA_assign (x : Operand) : opA P ⟨dst, .assign x, ty, pos, after, g⟩ s K Φ = K (s.put dst (s.ev x)) := rfl
theorem opA_alloc (t : TypeId) : opA P ⟨dst, .alloc t, ty, pos, after, g⟩ s K Φ = allocA P s.h t (fun v h => K ((⟨s.t, h, s.d⟩ : St).put dst v)) := rfl
theorem opA_box (t : TypeId) (x : Operand) : opA P ⟨dst, .box t x, ty, pos, after, g⟩ s K Φ = boxA s.h (s.ev x) (fun v h => K ((⟨s.t, h, s.d⟩ : St).put dst v)) := rfl
theorem opA_build (t : TypeId) (ps : Array (Nat × Operand)) : opA P ⟨dst, .build t ps, ty, pos, after, g⟩ s K Φ = buildA P t (ps.toList.map fun p => (p.1, s.ev p.2)) (fun v => K (s.put dst v)) := rfl
theorem opA_buildSlice (t : TypeId) (n : Nat) (ps : Array (Nat × Operand)) : opA P ⟨dst, .buildSlice t n ps, ty, pos, after, g⟩ s K Φ = buildSliceA P s.h t n (ps.toList.map (·.1)) (ps.toList.map fun p => s.ev p.2) (fun v h => K ((⟨s.t, h, s.d⟩ : St).put dst v)) := rfl
theorem opA_store (t : TypeId) (p x : Operand) : opA P ⟨dst, .store t p x, ty, pos, after, g⟩ s K Φ = storeA P s.h t (s.ev p) (s.ev x) (fun h => K ((⟨s.t, h, s.d⟩ : St).put dst .dead)) := rfl
theorem opA_makeSlice (t : TypeId) (l c : Operand) : opA P ⟨dst, .makeSlice t l c, ty, pos, after, g⟩ s K Φ = makeSliceA P s.h t (s.ev l) (s.ev c) (fun v h => K ((⟨s.t, h, s.d⟩ : St).put dst v)) := rfl
theorem opA_pick (c a b : Operand) : opA P ⟨dst, .pick c a b, ty, pos, after, g⟩ s K Φ = pickA (s.ev c) (K (s.put dst (s.ev a))) (K (s.put dst (s.ev b))) := by
  show (match s.ev c with
    | .val (.bool t) => (t = true → K (s.put dst (s.ev a))) ∧ (t = false → K (s.put dst (s.ev b)))
    | _ => False) = _
  generalize s.ev c = v
  cases v <;> try rfl
  rename_i v
  cases v <;> try rfl
  exact if_bool _ true _ _
theorem opA_nilCheck (x : Operand) : opA P ⟨dst, .nilCheck x, ty, pos, after, g⟩ s K Φ = match s.ev x with
    | .ptr id o => K (s.put dst (.ptr id o))
    | .cptr cs => K (s.put dst (.cptr cs))
    | .fn f caps => K (s.put dst (.fn f caps))
    | .yld id => K (s.put dst (.yld id))
    | _ => False := rfl
theorem opA_binOp (op : BinOp) (t t' : TypeId) (x y : Operand) : opA P ⟨dst, .binOp op t x y t', ty, pos, after, g⟩ s K Φ = if isNilConst y = true then match op, y with
      | .eql, .const z => nilA P t (s.ev x) z (fun b => K (s.put dst (.val (.bool b))))
      | .neq, .const z => nilA P t (s.ev x) z (fun b => K (s.put dst (.val (.bool (!b)))))
      | _, _ => False
    else match s.ev x, s.ev y with
      | .val a, .val b => binP (P.underlying t) op a b (fun v => K (s.put dst (.val v)))
      | .agg xs, .agg ys => aggEqA P t op xs ys (fun b => K (s.put dst (.val (.bool b))))
      | _, _ => False := rfl
theorem opA_unOp (op : UnOp) (t : TypeId) (x : Operand) : opA P ⟨dst, .unOp op t x, ty, pos, after, g⟩ s K Φ = match op, s.ev x with
    | .not, .val (.bool b) => K (s.put dst (.val (.bool (!b))))
    | .neg, .val (.int k n) => K (s.put dst (.val (.int k (k.wrap (0 - n)))))
    | _, _ => False := rfl
theorem opA_convert (a b : TypeId) (x : Operand) : opA P ⟨dst, .convert a b x, ty, pos, after, g⟩ s K Φ = convA P a b (s.ev x) (fun v => K (s.put dst v)) := rfl
theorem opA_makeFunc (f : FuncId) (first caps : Array Operand) : opA P ⟨dst, .makeFunc (.func f) first caps, ty, pos, after, g⟩ s K Φ = (first = #[] ∧ K (s.put dst (.fn f (caps.toList.map s.ev)))) := rfl
theorem opA_field (t : TypeId) (x : Operand) (f : Nat) : opA P ⟨dst, .field t x f, ty, pos, after, g⟩ s K Φ = fieldA P t (s.ev x) f (fun v => K (s.put dst v)) := rfl
theorem opA_fieldAddr (t : TypeId) (x : Operand) (f : Nat) : opA P ⟨dst, .fieldAddr t x f, ty, pos, after, g⟩ s K Φ = ((match s.ev x with | .eptr .. => False | _ => True) ∧ fieldAddrA P t (s.ev x) f (fun v => K (s.put dst v))) := rfl
theorem opA_index (t : TypeId) (x i : Operand) : opA P ⟨dst, .index t x i, ty, pos, after, g⟩ s K Φ = indexA P t (s.ev x) (s.ev i) (fun v => K (s.put dst v)) := rfl
theorem opA_indexAddr (t : TypeId) (x i : Operand) : opA P ⟨dst, .indexAddr t x i, ty, pos, after, g⟩ s K Φ = indexAddrA P s.h t (s.ev x) (s.ev i) (fun v => K (s.put dst v)) := rfl
theorem opA_slice (t : TypeId) (x : Operand) (lo hi mx : Option Operand) : opA P ⟨dst, .slice t x lo hi mx, ty, pos, after, g⟩ s K Φ = sliceA P s.h t (s.ev x) (lo.map s.ev) (hi.map s.ev) (mx.map s.ev) (fun v => K (s.put dst v)) := rfl
theorem opA_load (t : TypeId) (p : Operand) : opA P ⟨dst, .load t p, ty, pos, after, g⟩ s K Φ = loadA P s.h t (s.ev p) (fun v => K (s.put dst v)) := rfl
theorem opA_extract (x : Operand) (i : Nat) : opA P ⟨dst, .extract x i, ty, pos, after, g⟩ s K Φ = match s.ev x with
    | .tup vs => i < vs.length ∧ K (s.put dst (vs.getD i .dead))
    | _ => False := rfl
theorem opA_append (args : Array Operand) (ts : Array TypeId) : opA P ⟨dst, .call ⟨.builtin .append, args, ts⟩, ty, pos, after, g⟩ s K Φ = appendA P s.h ts.toList (args.toList.map s.ev) (fun v h => K ((⟨s.t, h, s.d⟩ : St).put dst v)) := rfl
theorem opA_copy (args : Array Operand) (ts : Array TypeId) : opA P ⟨dst, .call ⟨.builtin .copy, args, ts⟩, ty, pos, after, g⟩ s K Φ = copyA P s.h ts.toList (args.toList.map s.ev) (fun v h => K ((⟨s.t, h, s.d⟩ : St).put dst v)) := rfl
theorem opA_len (args : Array Operand) (ts : Array TypeId) : opA P ⟨dst, .call ⟨.builtin .len, args, ts⟩, ty, pos, after, g⟩ s K Φ = lookA P s.h .len ts.toList (args.toList.map s.ev) (fun v => K (s.put dst v)) := rfl
theorem opA_min (args : Array Operand) (ts : Array TypeId) : opA P ⟨dst, .call ⟨.builtin .min, args, ts⟩, ty, pos, after, g⟩ s K Φ = lookA P s.h .min ts.toList (args.toList.map s.ev) (fun v => K (s.put dst v)) := rfl
theorem opA_max (args : Array Operand) (ts : Array TypeId) : opA P ⟨dst, .call ⟨.builtin .max, args, ts⟩, ty, pos, after, g⟩ s K Φ = lookA P s.h .max ts.toList (args.toList.map s.ev) (fun v => K (s.put dst v)) := rfl
theorem opA_call (f : FuncId) (args : Array Operand) (ts : Array TypeId) : opA P ⟨dst, .call ⟨.value (.func f), args, ts⟩, ty, pos, after, g⟩ s K Φ = CallT P f (args.toList.map s.ev ++ []) s.h (callK s dst K Φ) := rfl
theorem opA_callV (i : Tmp) (args : Array Operand) (ts : Array TypeId) : opA P ⟨dst, .call ⟨.value (.tmp i), args, ts⟩, ty, pos, after, g⟩ s K Φ = match s.t.get i with
      | .fn f caps => CallT P f (args.toList.map s.ev ++ caps) s.h (callK s dst K Φ)
      | .yld id => YieldT P id (args.toList.map s.ev) s.h (callK s dst K Φ)
      | _ => False := rfl
theorem opA_panic (x : Operand) : opA P ⟨dst, .panic x, ty, pos, after, g⟩ s K Φ = match s.ev x with
    | .iface t v => Φ (.panic (.iface t v)) s
    | _ => False := rfl
end

theorem indexAddrA_at (P : Program) (h : List Box) (t : TypeId) (p i : AV) (K : AV → Prop) : indexAddrA P h t p i K = match i with
  | .val (.int _ n) => match p with
    | .sl _ es => match elemOfSlice P t with
      | some (_, T) => gate (0 ≤ n ∧ n < es.length) ((es.getD n.toNat .dead).cells.length = T.size ∧ K (.cptr (es.getD n.toNat .dead).cells)) ⟨⟩
      | none => False
    | .hsl id ver off len => match elemOfSlice P t, h[id]? with
      | some (_, T), some (.row _ ver' sz es) => ver = ver' ∧ sz = T.size ∧ 0 ≤ n ∧ n < len ∧ off + len ≤ es.length ∧ K (.eptr id ver (off + n.toNat) 0)
      | _, _ => False
    | .ptr id o => match P.underlying t with
      | some (.array len e) => match tyOf P e with
        | some T => 0 ≤ n ∧ n < len ∧ K (.ptr id (o + n.toNat * T.size))
        | none => False
      | _ => False
    | _ => False
  | _ => False := by
  unfold indexAddrA
  simp only [gate, and_assoc]
  rfl
theorem loadA_at (P : Program) (h : List Box) (t : TypeId) (p : AV) (K : AV → Prop) : loadA P h t p K = match tyOf P t with
  | none => False
  | some T => match p with
    | .ptr id off => match h[id]? with
      | some (.cells cs) => loadAV T cs off K
      | _ => False
    | .eptr id ver i off => match h[id]? with
      | some (.row _ ver' _ es) => gate (ver = ver' ∧ i < es.length) (loadAV T (es.getD i .dead).cells off K) ⟨⟩
      | _ => False
    | .cptr cs => loadAV T cs 0 K
    | _ => False := by
  unfold loadA
  simp only [gate, and_assoc]
  rfl

/-! ### What is not looked into before its turn -/
section
variable {P : Program} {ops : Array Oper} {Φ : AX → St → Prop}
@[congr] theorem CodeT_congr {rd : Option Nat} {c : Code} {s s' : St} (h : s = s') : CodeT P rd c s Φ = CodeT P rd c s' Φ := by rw [h]
@[congr] theorem CallT_congr {f : FuncId} {args args' : List AV} {h h' : List Box} {R : AE → List Box → Prop} (h1 : args = args') (h2 : h = h') : CallT P f args h R = CallT P f args' h' R := by rw [h1, h2]
@[congr] theorem YieldT_congr {id : Nat} {args args' : List AV} {h h' : List Box} {R : AE → List Box → Prop} (h1 : args = args') (h2 : h = h') : YieldT P id args h R = YieldT P id args' h' R := by rw [h1, h2]
end

theorem buildSliceA_ev (P : Program) (h : List Box) (t : TypeId) (n : Nat) (idx : List Nat) (xs : List AV) (K : AV → List Box → Prop) : buildSliceA P h t n idx xs K = match elemOfSlice P t, xs with
    | some (_, T), xs => idx = List.range n ∧ xs.length = n ∧ n * T.size ≤ 16777216 ∧ T.zero.cells.size = T.size ∧ frzAs xs h (fun es h' => uniB T.size es = true ∧ K (.sl true es) h')
    | none, _ => False := by
  unfold buildSliceA
  cases elemOfSlice P t <;> rfl

attribute [go_sem] Option.getD_some Option.getD_none Option.isNone_some Option.isNone_none Bool.false_and Int.toNat_natCast Int.toNat_zero putAt List.take_zero List.take_succ_cons List.take_nil List.drop_zero List.drop_succ_cons List.drop_nil Nat.zero_add Nat.add_zero List.map_cons List.map_nil List.getElem?_cons_zero List.getElem?_cons_succ List.set_cons_zero List.set_cons_succ List.length_cons List.length_nil Option.isSome_some Bool.false_eq_true true_and and_true isNilConst List.nil_append List.cons_append List.append_nil
  List.getD_cons_zero List.getD_cons_succ Option.map_some Option.map_none Option.bind_some List.all_cons List.all_nil Bool.and_true Bool.true_and beq_self_eq_true List.size_toArray Bool.and_self Bool.not_true Bool.not_false
  under_val under_sl under_cptr under_dead under_ptr under_hsl under_yld under_fn under_agg under_tup underL_nil underL_cons keeps_nil keeps_cons keepsH_nil keepsH_cons boxu_cells boxu_row boxu_dead boxu_defer
  cells_val cells_sl cells_hsl cells_ptr cells_cptr cells_fn cells_iface cells_agg pack_one pack_nil pack_two
  bnd uniB allOne AV.single Ty.isAgg look_nil look_cons get_mk put_mk putO_some putO_none St_put ev_tmp ev_const ev_func ofVal_int ofVal_bool ofVal_str ofVal_nilSlice ofVal_nilPtr
attribute [go_sem] gate_t gif_t gif_f guardA_t guardA_f guardA_tup pickA_val
attribute [go_sem ↓] guardV_zero guardV_succ frz0_val frz0_sl frz0_cptr frz0_hsl frzL_nil frzL_cons frzA_val frzA_sl frzA_hsl frzA_agg frzAs_nil frzAs_cons frzC_val frzC_sl frzC_cptr frzC_hsl frzC_agg frzC_ptr
  frzCs_nil frzCs_cons frzV_tup frzV_val frzV_sl frzV_hsl frzV_agg frzV_ptr frzR_ret frzR_panic bodyA_ret bodyA_normal bodyA_panic leaveA_nil leaveA_pan leaveA_mark resA_nil resA_tmp resA_cell callK_ret callK_panic
  lookA binP indexAddrA loadA loadAV indexA fieldA fieldAddrA sliceA convA appendA srcA copyA buildSliceA storeA makeSliceA allocA boxA thn_normal thn_ret thn_exit thn_panic inB_normal inB_ret inB_exit
  OpsA_nil OpsA_cons OpsA_guard opA_move opA_assign opA_alloc opA_box opA_build opA_buildSlice opA_store opA_makeSlice opA_pick opA_nilCheck opA_binOp opA_unOp opA_convert opA_makeFunc opA_field opA_fieldAddr opA_index opA_indexAddr opA_slice opA_load opA_extract
  opA_append opA_copy opA_len opA_min opA_max opA_call opA_callV opA_panic

end Go.PM

namespace Go.PM

def allUnder (h : List Box) : Prop := ∀ b ∈ h, b.under h.length = true

/-- The first boxes by themselves; the others are held. -/
theorem HRel.split {F : Nat → Prop} {M : Mem} {hb : List HB} {h ext : List Box} (H : HRel F M hb (h ++ ext)) (ok : MOk F M) (hu : allUnder h) :
    let F' : Nat → Prop := fun b => F b ∨ Held (hb.drop h.length) ext b
    HRel F' M (hb.take h.length) h ∧ MOk F' M := by
  intro F'
  have hlen := H.len
  simp only [List.length_append] at hlen
  have hget : ∀ {i : Nat} {e : HB}, (hb.take h.length)[i]? = some e → hb[i]? = some e := by
    intro i e he
    rw [List.getElem?_take] at he
    split at he
    · exact he
    · cases he
  have hext : ∀ {i : Nat} {x : Box} {e : HB}, ext[i]? = some x → (hb.drop h.length)[i]? = some e → (h ++ ext)[h.length + i]? = some x ∧ hb[h.length + i]? = some e := by
    intro i x e h1 h2
    refine ⟨by rw [List.getElem?_append_right (by omega)]; simpa using h1, by rw [List.getElem?_drop] at h2; exact h2⟩
  have hpre : ∀ {i : Nat} {x : Box}, h[i]? = some x → (h ++ ext)[i]? = some x := by
    intro i x h1
    have := (List.getElem?_eq_some_iff.1 h1).1
    rw [List.getElem?_append_left this]; exact h1
  refine ⟨⟨by rw [List.length_take]; omega, fun i b e h1 h2 => ?_, fun i b e h1 h2 h3 => ?_, fun i j b b' e e' h1 h2 h3 h4 h5 h6 h7 => ?_⟩, ⟨ok.top, fun b hb' => ?_⟩⟩
  · exact (H.box i b e (hpre h1) (hget h2)).take (hu b (List.mem_of_getElem? h1))
  · have := H.own i b e (hpre h1) (hget h2) h3
    refine ⟨this.1, fun hf => ?_⟩
    rcases hf with hf | ⟨j, x, e', g1, g2, g3, g4⟩
    · exact this.2 hf
    · obtain ⟨k1, k2⟩ := hext g1 g2
      have := H.dis i _ b x e e' (hpre h1) (hget h2) k1 k2 h3 g3 g4.symm
      have hi := (List.getElem?_eq_some_iff.1 h1).1
      omega
  · exact H.dis i j b b' e e' (hpre h1) (hget h2) (hpre h3) (hget h4) h5 h6 h7
  · rcases hb' with hf | ⟨j, x, e', g1, g2, g3, rfl⟩
    · exact ok.fr b hf
    · obtain ⟨k1, k2⟩ := hext g1 g2
      exact (H.own _ x e' k1 k2 g3).1

/-- And together again. -/
theorem HRel.join {F : Nat → Prop} {M M' : Mem} {hb hb1 : List HB} {h h' ext : List Box} (H : HRel F M hb (h ++ ext)) (hl : h'.length = h.length)
    (H' : HRel (fun b => F b ∨ Held (hb.drop h.length) ext b) M' hb1 h') (ok' : MOk (fun b => F b ∨ Held (hb.drop h.length) ext b) M')
    (hg : Gu (fun b => F b ∨ Held (hb.drop h.length) ext b) M M') (hh : HBLe (hb.take h.length) hb1) :
    HRel F M' (hb1 ++ hb.drop h.length) (h' ++ ext) ∧ MOk F M' ∧ HBLe hb (hb1 ++ hb.drop h.length) := by
  have hlen := H.len
  simp only [List.length_append] at hlen
  have hlen1 := H'.len
  have hh2 : HBLe hb (hb1 ++ hb.drop h.length) := by
    intro i e he
    by_cases hi : i < h.length
    · obtain ⟨e', k1, k2⟩ := hh i e (get_take he hi)
      exact ⟨e', by rw [List.getElem?_append_left (by omega)]; exact k1, k2⟩
    · refine ⟨e, ?_, Nat.le_refl _, rfl, fun _ => rfl, fun _ => rfl⟩
      rw [List.getElem?_append_right (by omega), List.getElem?_drop]
      rw [show h.length + (i - hb1.length) = i by omega]; exact he
  have hcase : ∀ {i : Nat} {x : Box} {e : HB}, (h' ++ ext)[i]? = some x → (hb1 ++ hb.drop h.length)[i]? = some e →
      (i < h'.length ∧ h'[i]? = some x ∧ hb1[i]? = some e) ∨ (h'.length ≤ i ∧ ext[i - h'.length]? = some x ∧ (hb.drop h.length)[i - h'.length]? = some e ∧ (h ++ ext)[i]? = some x ∧ hb[i]? = some e) := by
    intro i x e h1 h2
    by_cases hi : i < h'.length
    · rw [List.getElem?_append_left hi] at h1
      rw [List.getElem?_append_left (by omega)] at h2
      exact .inl ⟨hi, h1, h2⟩
    · rw [List.getElem?_append_right (by omega)] at h1 h2
      rw [hlen1] at h2
      refine .inr ⟨by omega, h1, h2, ?_, ?_⟩
      · rw [List.getElem?_append_right (by omega), ← hl]; exact h1
      · rw [List.getElem?_drop] at h2
        rw [show h.length + (i - h'.length) = i by omega] at h2; exact h2
  refine ⟨⟨by simp only [List.length_append, List.length_drop]; omega, fun i b e h1 h2 => ?_, fun i b e h1 h2 h3 => ?_, fun i j b b' e e' h1 h2 h3 h4 h5 h6 h7 => ?_⟩, ⟨ok'.top, fun b hb' => ok'.fr b (.inl hb')⟩, hh2⟩
  · rcases hcase h1 h2 with ⟨g1, g2, g3⟩ | ⟨g1, g2, g3, g4, g5⟩
    · exact (H'.box i b e g2 g3).mono (.refl _) (.append _ _) (fun _ => ⟨rfl, rfl⟩)
    · exact (H.box i b e g4 g5).mono hg.le hh2 (fun ho => hg.fr _ (.inr ⟨_, b, e, g2, g3, ho, rfl⟩))
  · rcases hcase h1 h2 with ⟨g1, g2, g3⟩ | ⟨g1, g2, g3, g4, g5⟩
    · exact ⟨(H'.own i b e g2 g3 h3).1, fun hf => (H'.own i b e g2 g3 h3).2 (.inl hf)⟩
    · exact ⟨Nat.lt_of_lt_of_le (H.own i b e g4 g5 h3).1 hg.size, (H.own i b e g4 g5 h3).2⟩
  · rcases hcase h1 h2 with ⟨g1, g2, g3⟩ | ⟨g1, g2, g3, g4, g5⟩ <;> rcases hcase h3 h4 with ⟨k1, k2, k3⟩ | ⟨k1, k2, k3, k4, k5⟩
    · exact H'.dis i j b b' e e' g2 g3 k2 k3 h5 h6 h7
    · exact absurd (.inr ⟨_, b', e', k2, k3, h6, h7.symm⟩) (H'.own i b e g2 g3 h5).2
    · exact absurd (.inr ⟨_, b, e, g2, g3, h5, h7⟩) (H'.own j b' e' k2 k3 h6).2
    · exact H.dis i j b b' e e' g4 g5 k4 k5 h5 h6 h7

def AE.under (n : Nat) : AE → Bool
  | .ret x | .panic x => x.under n

theorem callR_join {F : Nat → Prop} {M : Mem} {hb : List HB} {h ext : List Box} (H : HRel F M hb (h ++ ext)) {R : AE → List Box → Prop} (hR : ∀ r h', R r h' → h'.length = h.length) {e : Ending} {w : World}
    (hc : CallR (fun b => F b ∨ Held (hb.drop h.length) ext b) M (hb.take h.length) R e w) : CallR F M hb (fun r h'' => ∃ h', R r h' ∧ h'' = h' ++ ext) e w := by
  obtain ⟨r, h', M', hb1, k1, k2, k3, k4, k5, k6, k7⟩ := hc
  obtain ⟨j1, j2, j3⟩ := H.join (hR r h' k1) k4 k5 k6 k7
  refine ⟨r, h' ++ ext, M', _, ⟨h', k1, rfl⟩, ?_, k3, j1, j2, k6.less (fun b hb => .inl hb), j3⟩
  cases r <;> cases e <;> try exact k2
  · exact VRel.hb k2 (.append _ _)
  · obtain ⟨v, h1, h2⟩ := k2
    exact ⟨v, h1, h2.hb (.append _ _)⟩

theorem listRel_take {M : Mem} {hb : List HB} {args : List AV} {vs : Array Value} {n : Nat} (hv : ListRel M hb args vs) (ha : underL n args = true) : ListRel M (hb.take n) args vs :=
  ⟨hv.1, fun i x hx => (hv.2 i x hx).take (underL_get ha hx)⟩

/-- A call that looks at the first boxes alone. -/
theorem CallT.pre {P : Program} {f : FuncId} {args : List AV} {h : List Box} (ext : List Box) {R : AE → List Box → Prop} (hu : allUnder h) (ha : underL h.length args = true) (hR : ∀ r h', R r h' → h'.length = h.length) (hc : CallT P f args h R) :
    CallT P f args (h ++ ext) (fun r h'' => ∃ h', R r h' ∧ h'' = h' ++ ext) := by
  refine ⟨hc.1, fun F M hb vs H ok hv => ?_⟩
  obtain ⟨g1, g2⟩ := H.split ok hu
  exact Calls.mono (hc.2 _ M _ vs g1 g2 (listRel_take hv ha)) fun e w' hr => callR_join H hR hr

theorem YieldT.pre {P : Program} {id : Nat} {args : List AV} {h : List Box} (ext : List Box) {R : AE → List Box → Prop} (hu : allUnder h) (ha : underL h.length args = true) (hR : ∀ r h', R r h' → h'.length = h.length) (hc : YieldT P id args h R) :
    YieldT P id args (h ++ ext) (fun r h'' => ∃ h', R r h' ∧ h'' = h' ++ ext) := by
  intro F M hb vs H ok hv
  obtain ⟨g1, g2⟩ := H.split ok hu
  obtain ⟨e, h1, h2, fn, tmps, asg, bd, h3, h4⟩ := hc _ M _ vs g1 g2 (listRel_take hv ha)
  refine ⟨e, ?_, h2, fn, tmps, asg, bd, h3, RoundIn.mono h4 fun e w' hr => callR_join H hR hr⟩
  rw [List.getElem?_take] at h1
  split at h1
  · exact h1
  · cases h1

/-- The boxes that a call has made are forgotten. -/
theorem CallT.less {P : Program} {f : FuncId} {args : List AV} {h : List Box} {R : AE → List Box → Prop} (hc : CallT P f args h (fun r h' => ∃ h'', keepsH h''.length h' h'' ∧ h.length ≤ h''.length ∧ r.under h''.length = true ∧ R r h'')) : CallT P f args h R := by
  refine ⟨hc.1, fun F M hb vs H ok hv => Calls.mono (hc.2 F M hb vs H ok hv) ?_⟩
  rintro e w' ⟨r, h', M', hb', ⟨h'', k1, k2, k3, k4⟩, j2, j3, j4, j5, j6, j7⟩
  refine ⟨r, h'', M', hb'.take h''.length, k4, ?_, j3, j4.weak k1, j5, j6, j7.take (by rw [H.len]; exact k2)⟩
  cases r <;> cases e <;> try exact j2
  · exact VRel.take j2 k3
  · obtain ⟨v, h1, h2⟩ := j2
    exact ⟨v, h1, h2.take k3⟩

theorem CodeT.scope {P : Program} {c : Code} {s : St} {Φ : AX → St → Prop} (h : CodeT P none c s (fun x s' => match x with | .goto _ => False | x => Φ x s')) : CodeT P none (.scope c) s Φ := by
  intro F M hb a ro hs hr
  cases ro with
  | some _ => exact hr.elim
  | none =>
  have h1 := (wpIn_wide (n := 0)).1 (h F M hb a none hs trivial)
  refine (wpIn_wide (n := 0)).2 (wp_scope_straight (wp_mono h1 ?_))
  rintro e a' w' ⟨x, s', M', hb', k, r1, r2, r3, r4, r5⟩
  cases x <;> cases e <;> try (first | exact r1.elim | exact k.elim)
  case normal.normal => exact ⟨.normal, s', M', hb', k, r1, r2, r3, r4, r5⟩
  case exit.exit i j => exact ⟨.exit i, s', M', hb', k, r1, r2, r3, r4, r5⟩
  case ret.ret => exact ⟨.ret, s', M', hb', k, r1, r2, r3, r4, r5⟩
  case panic.panic x ch => exact ⟨.panic x, s', M', hb', k, r1, r2, r3, r4, r5⟩

end Go.PM

namespace Go.PM

def atOp (l : Array Oper) (i : Nat) (f : Oper → Prop) : Prop := match l[i]? with
  | some o => f o
  | none => False
theorem atOp_zero (o : Oper) (l : List Oper) (f : Oper → Prop) : atOp (List.toArray (o :: l)) 0 f = f o := by simp [atOp]
theorem atOp_succ (o : Oper) (l : List Oper) (i : Nat) (f : Oper → Prop) : atOp (List.toArray (o :: l)) (i + 1) f = atOp l.toArray i f := by simp [atOp]

def stepO (P : Program) (ops : Array Oper) (o : Oper) (c : Cls) (s : St) (K : AV → List Box → Prop) : Prop :=
  match o.guard with
  | none => effV P o c s K
  | some (j, want) => guardA (guardV ops s.t j) want (effV P o c s K) (K (.tup []) s.h)

theorem stepV_at (P : Program) (ops : Array Oper) (i : Nat) (c : Cls) (s : St) (K : AV → List Box → Prop) : stepV P ops (i, c) s K = atOp ops i (fun o => stepO P ops o c s K) := by
  simp only [stepV, atOp]
  cases ops[i]? with
  | none => rfl
  | some o =>
    simp only [stepO]
    cases o.guard with
    | none => rfl
    | some gw =>
      obtain ⟨j, want⟩ := gw
      simp only [guardV]
      cases guardT ops j with
      | none => rfl
      | some d =>
        simp only [guardA]
        generalize s.t.get d = v
        cases v <;> try rfl
        · rename_i v
          cases v <;> try rfl
          exact if_bool _ _ _ _
        · rename_i l
          cases l <;> rfl

/-- The run of a region in the order of a list. -/
def RunL (P : Program) (ops : Array Oper) (l : List (Nat × Cls)) (s : St) (K : St → Prop) : Prop :=
  match l with
  | [] => K s
  | (i, c) :: l => atOp ops i (fun o => stepO P ops o c s (fun v h => RunL P ops l ⟨s.t.putO o.dst v, h, s.d⟩ K))

theorem stepO_mono {P : Program} {ops : Array Oper} {i : Nat} {o : Oper} (ho : ops[i]? = some o) {c : Cls} {s : St} {K K' : AV → List Box → Prop} (hk : stepO P ops o c s K) (hm : ∀ v h, K v h → K' v h) : stepO P ops o c s K' := by
  have h1 : stepV P ops (i, c) s K := by rw [stepV_at]; simp only [atOp, ho]; exact hk
  obtain ⟨t, h, d⟩ := s
  obtain ⟨v, h', k1, k2, _⟩ := stepV_det h1
  have h2 := k2 K' (hm _ _ k1)
  rw [stepV_at] at h2
  simp only [atOp, ho] at h2
  exact h2

theorem RunL.run {P : Program} {ops : Array Oper} {K : St → Prop} : ∀ (l : List (Nat × Cls)) (s : St), RunL P ops l s K → RunK P ops l s K := by
  intro l
  induction l with
  | nil => exact fun s h => h
  | cons p l ih =>
    obtain ⟨i, c⟩ := p
    intro s h
    simp only [RunK, stepV_at]
    simp only [RunL, atOp] at h ⊢
    cases ho : ops[i]? with
    | none => rw [ho] at h; exact h
    | some o =>
      rw [ho] at h
      simp only at h ⊢
      have hd : dstOf ops i = o.dst := by simp [dstOf, ho]
      rw [hd]
      exact stepO_mono ho h fun v h' hh => ih _ hh

/-- Continuations without a lambda: simp does not walk into them. -/
def kR (P : Program) (ops : Array Oper) (l : List (Nat × Cls)) (t : Tm) (d : List AD) (dst : Option Tmp) (K : St → Prop) (v : AV) (h : List Box) : Prop := RunL P ops l ⟨t.putO dst v, h, d⟩ K
def kH (K : AV → List Box → Prop) (h : List Box) (v : AV) : Prop := K v h
def kU (K : AV → List Box → Prop) (h0 : List Box) (v : AV) (h : List Box) : Prop := Stable h0 h ∧ K v h

theorem CodeT.drawnL {P : Program} {rd : Option Nat} {s : St} {Φ : AX → St → Prop} {id : Nat} {ops : Array Oper} (π : List (Nat × Cls)) (hm : P.follows .mixedOrders = true) (hok : okOrder ops π = true) (h : RunL P ops π s (Φ .normal)) :
    CodeT P rd (.region id ops true) s Φ := CodeT.drawn π hm hok (RunL.run π s h)

section
variable (P : Program) (ops : Array Oper) (dst : Option Tmp) (ty : TypeId) (pos : String) (after : Array Edge) (s : St) (K : AV → List Box → Prop) (g : Option (Nat × Bool)) (c : Cls) (t : Tm) (h : List Box) (d : List AD)
theorem RunL_nil (K : St → Prop) : RunL P ops [] s K = K s := rfl
theorem RunL_cons (i : Nat) (c : Cls) (l : List (Nat × Cls)) (K : St → Prop) : RunL P ops ((i, c) :: l) s K = atOp ops i (fun o => stepO P ops o c s (kR P ops l s.t s.d o.dst K)) := rfl
theorem kR_eq (l : List (Nat × Cls)) (K : St → Prop) (v : AV) : kR P ops l t d dst K v h = RunL P ops l ⟨t.putO dst v, h, d⟩ K := rfl
theorem kH_eq (v : AV) : kH K h v = K v h := rfl
theorem kU_eq (h0 : List Box) (v : AV) : kU K h0 v h = (Stable h0 h ∧ K v h) := rfl
theorem stepO_none (op : Op) : stepO P ops ⟨dst, op, ty, pos, after, none⟩ c s K = effV P ⟨dst, op, ty, pos, after, none⟩ c s K := rfl
theorem stepO_guard (op : Op) (j : Nat) (want : Bool) : stepO P ops ⟨dst, op, ty, pos, after, some (j, want)⟩ c s K = guardA (guardV ops s.t j) want (effV P ⟨dst, op, ty, pos, after, some (j, want)⟩ c s K) (K (.tup []) s.h) := rfl

theorem free_move (x : Operand) : effV P ⟨dst, .move x, ty, pos, after, g⟩ .free s K = K (s.ev x) s.h := by simp [effV, noHeap, opQ]
theorem free_assign (x : Operand) : effV P ⟨dst, .assign x, ty, pos, after, g⟩ .free s K = K (s.ev x) s.h := by simp [effV, noHeap, opQ]
theorem free_pick (x a b : Operand) : effV P ⟨dst, .pick x a b, ty, pos, after, g⟩ .free s K = pickA (s.ev x) (K (s.ev a) s.h) (K (s.ev b) s.h) := by
  simp only [effV, noHeap, true_and, opQ]
  generalize s.ev x = v
  cases v <;> try rfl
  rename_i v
  cases v <;> try rfl
  exact if_bool _ true _ _
theorem free_nilCheck (x : Operand) : effV P ⟨dst, .nilCheck x, ty, pos, after, g⟩ .free s K = match s.ev x with
    | .ptr id o => K (.ptr id o) s.h
    | .cptr cs => K (.cptr cs) s.h
    | .fn f caps => K (.fn f caps) s.h
    | .yld id => K (.yld id) s.h
    | _ => False := by simp only [effV, noHeap, opQ, eq_self, true_and]; rfl
def notNil (y : Operand) (A : Prop) : Prop := isNilConst y = false ∧ A
theorem notNil_tmp (i : Tmp) (A : Prop) : notNil (.tmp i) A = A := by simp [notNil, isNilConst]
theorem notNil_int (k : IntKind) (n : Int) (A : Prop) : notNil (.const (.int k n)) A = A := by simp [notNil, isNilConst]
theorem notNil_bool (b : Bool) (A : Prop) : notNil (.const (.bool b)) A = A := by simp [notNil, isNilConst]
theorem notNil_str (b : ByteArray) (A : Prop) : notNil (.const (.string b)) A = A := by simp [notNil, isNilConst]
theorem free_binOp (op : BinOp) (t1 t2 : TypeId) (x y : Operand) : effV P ⟨dst, .binOp op t1 x y t2, ty, pos, after, g⟩ .free s K = notNil y (match s.ev x, s.ev y with
      | .val a, .val b => binP (P.underlying t1) op a b (fun v => K (.val v) s.h)
      | .agg xs, .agg ys => aggEqA P t1 op xs ys (fun b => K (.val (.bool b)) s.h)
      | _, _ => False) := by
  simp only [effV, noHeap, opQ, notNil]
  cases hn : isNilConst y
  · simp only [Bool.not_false, eq_self, true_and, Bool.false_eq_true, if_false]; rfl
  · simp only [Bool.not_true, Bool.false_eq_true, Bool.true_eq_false, false_and]
theorem free_unOp (op : UnOp) (t1 : TypeId) (x : Operand) : effV P ⟨dst, .unOp op t1 x, ty, pos, after, g⟩ .free s K = match op, s.ev x with
    | .not, .val (.bool b) => K (.val (.bool (!b))) s.h
    | .neg, .val (.int k n) => K (.val (.int k (k.wrap (0 - n)))) s.h
    | _, _ => False := by simp only [effV, noHeap, opQ, eq_self, true_and]; rfl
theorem free_convert (a b : TypeId) (x : Operand) : effV P ⟨dst, .convert a b x, ty, pos, after, g⟩ .free s K = convA P a b (s.ev x) (fun v => K v s.h) := by simp [effV, noHeap, opQ]
theorem free_field (t1 : TypeId) (x : Operand) (f : Nat) : effV P ⟨dst, .field t1 x f, ty, pos, after, g⟩ .free s K = fieldA P t1 (s.ev x) f (fun v => K v s.h) := by simp [effV, noHeap, opQ]
theorem free_fieldAddr (t1 : TypeId) (x : Operand) (f : Nat) : effV P ⟨dst, .fieldAddr t1 x f, ty, pos, after, g⟩ .free s K = ((match s.ev x with | .eptr .. => False | _ => True) ∧ fieldAddrA P t1 (s.ev x) f (fun v => K v s.h)) := by simp only [effV, noHeap, opQ, eq_self, true_and]; rfl
theorem free_index (t1 : TypeId) (x i : Operand) : effV P ⟨dst, .index t1 x i, ty, pos, after, g⟩ .free s K = indexA P t1 (s.ev x) (s.ev i) (fun v => K v s.h) := by simp [effV, noHeap, opQ]
theorem free_extract (x : Operand) (i : Nat) : effV P ⟨dst, .extract x i, ty, pos, after, g⟩ .free s K = match s.ev x with
    | .tup vs => i < vs.length ∧ K (vs.getD i .dead) s.h
    | _ => False := by simp only [effV, noHeap, opQ, eq_self, true_and]; rfl
theorem free_makeFunc (f : FuncId) (first caps : Array Operand) : effV P ⟨dst, .makeFunc (.func f) first caps, ty, pos, after, g⟩ .free s K = (first = #[] ∧ K (.fn f (caps.toList.map s.ev)) s.h) := by simp [effV, noHeap, opQ]
theorem free_build (t1 : TypeId) (ps : Array (Nat × Operand)) : effV P ⟨dst, .build t1 ps, ty, pos, after, g⟩ .free s K = buildA P t1 (ps.toList.map fun p => (p.1, s.ev p.2)) (fun v => K v s.h) := rfl
theorem free_buildSlice (t1 : TypeId) (n : Nat) (ps : Array (Nat × Operand)) : effV P ⟨dst, .buildSlice t1 n ps, ty, pos, after, g⟩ .free s K = buildSliceF P t1 n (ps.toList.map (·.1)) (ps.toList.map fun p => s.ev p.2) (fun v => K v s.h) := rfl
theorem free_call (f : FuncId) (args : Array Operand) (ts : Array TypeId) : effV P ⟨dst, .call ⟨.value (.func f), args, ts⟩, ty, pos, after, g⟩ .free s K = CallF P f (args.toList.map s.ev ++ []) (kH K s.h) := rfl
theorem free_callV (i : Tmp) (args : Array Operand) (ts : Array TypeId) : effV P ⟨dst, .call ⟨.value (.tmp i), args, ts⟩, ty, pos, after, g⟩ .free s K = match s.t.get i with
    | .fn f caps => CallF P f (args.toList.map s.ev ++ caps) (kH K s.h)
    | _ => False := rfl

def evs (s : St) (l : List Operand) : List AV := l.map s.ev
theorem evNoRow_iff (op : Op) : evNoRow s op = ((op.operands.toList.all fun x => (s.ev x).noRow) = true) := by
  simp only [evNoRow, List.all_eq_true, Array.mem_toList_iff]
theorem read_load (t1 : TypeId) (p : Operand) : effV P ⟨dst, .load t1 p, ty, pos, after, g⟩ .read s K = ((s.ev p).noRow = true ∧ loadA P s.h t1 (s.ev p) (fun v => K v s.h)) := by
  simp [effV, noNil, opQ, evNoRow, Op.operands]
theorem read_indexAddr (t1 : TypeId) (x i : Operand) : effV P ⟨dst, .indexAddr t1 x i, ty, pos, after, g⟩ .read s K = (((s.ev x).noRow = true ∧ (s.ev i).noRow = true) ∧ indexAddrA P s.h t1 (s.ev x) (s.ev i) (fun v => K v s.h)) := by
  simp [effV, noNil, opQ, evNoRow, Op.operands]
theorem read_slice (t1 : TypeId) (x : Operand) (lo hi mx : Option Operand) : effV P ⟨dst, .slice t1 x lo hi mx, ty, pos, after, g⟩ .read s K = (evNoRow s (.slice t1 x lo hi mx) ∧ sliceA P s.h t1 (s.ev x) (lo.map s.ev) (hi.map s.ev) (mx.map s.ev) (fun v => K v s.h)) := by
  simp [effV, noNil, opQ]
theorem read_len (args : Array Operand) (ts : Array TypeId) : effV P ⟨dst, .call ⟨.builtin .len, args, ts⟩, ty, pos, after, g⟩ .read s K = (evNoRow s (.call ⟨.builtin .len, args, ts⟩) ∧ lookA P s.h .len ts.toList (args.toList.map s.ev) (fun v => K v s.h)) := by simp [effV, opQ]
theorem read_min (args : Array Operand) (ts : Array TypeId) : effV P ⟨dst, .call ⟨.builtin .min, args, ts⟩, ty, pos, after, g⟩ .read s K = (evNoRow s (.call ⟨.builtin .min, args, ts⟩) ∧ lookA P s.h .min ts.toList (args.toList.map s.ev) (fun v => K v s.h)) := by simp [effV, opQ]
theorem read_max (args : Array Operand) (ts : Array TypeId) : effV P ⟨dst, .call ⟨.builtin .max, args, ts⟩, ty, pos, after, g⟩ .read s K = (evNoRow s (.call ⟨.builtin .max, args, ts⟩) ∧ lookA P s.h .max ts.toList (args.toList.map s.ev) (fun v => K v s.h)) := by simp [effV, opQ]
theorem read_call (f : FuncId) (args : Array Operand) (ts : Array TypeId) : effV P ⟨dst, .call ⟨.value (.func f), args, ts⟩, ty, pos, after, g⟩ .read s K = CallS P f (args.toList.map s.ev ++ []) s.h (kH K s.h) := rfl
theorem read_callV (i : Tmp) (args : Array Operand) (ts : Array TypeId) : effV P ⟨dst, .call ⟨.value (.tmp i), args, ts⟩, ty, pos, after, g⟩ .read s K = match s.t.get i with
    | .fn f caps => CallS P f (args.toList.map s.ev ++ caps) s.h (kH K s.h)
    | _ => False := rfl
theorem upd_op (o : Oper) : effV P o .upd s K = heapA P o s (kU K s.h) := rfl
theorem set_op (o : Oper) : effV P o .set s K = heapA P o s K := rfl
theorem heap_alloc (t1 : TypeId) : heapA P ⟨dst, .alloc t1, ty, pos, after, g⟩ s K = allocA P s.h t1 K := rfl
theorem heap_box (t1 : TypeId) (x : Operand) : heapA P ⟨dst, .box t1 x, ty, pos, after, g⟩ s K = boxA s.h (s.ev x) K := rfl
theorem heap_buildSlice (t1 : TypeId) (n : Nat) (ps : Array (Nat × Operand)) : heapA P ⟨dst, .buildSlice t1 n ps, ty, pos, after, g⟩ s K = buildSliceA P s.h t1 n (ps.toList.map (·.1)) (ps.toList.map fun p => s.ev p.2) K := rfl
theorem heap_store (t1 : TypeId) (p x : Operand) : heapA P ⟨dst, .store t1 p x, ty, pos, after, g⟩ s K = storeA P s.h t1 (s.ev p) (s.ev x) (fun h => K .dead h) := rfl
theorem heap_makeSlice (t1 : TypeId) (l c : Operand) : heapA P ⟨dst, .makeSlice t1 l c, ty, pos, after, g⟩ s K = makeSliceA P s.h t1 (s.ev l) (s.ev c) K := rfl
theorem heap_append (args : Array Operand) (ts : Array TypeId) : heapA P ⟨dst, .call ⟨.builtin .append, args, ts⟩, ty, pos, after, g⟩ s K = appendA P s.h ts.toList (args.toList.map s.ev) K := rfl
theorem heap_copy (args : Array Operand) (ts : Array TypeId) : heapA P ⟨dst, .call ⟨.builtin .copy, args, ts⟩, ty, pos, after, g⟩ s K = copyA P s.h ts.toList (args.toList.map s.ev) K := rfl
theorem heap_len (args : Array Operand) (ts : Array TypeId) : heapA P ⟨dst, .call ⟨.builtin .len, args, ts⟩, ty, pos, after, g⟩ s K = lookA P s.h .len ts.toList (args.toList.map s.ev) (fun v => K v s.h) := rfl
theorem heap_call (f : FuncId) (args : Array Operand) (ts : Array TypeId) : heapA P ⟨dst, .call ⟨.value (.func f), args, ts⟩, ty, pos, after, g⟩ s K = CallZ P f (args.toList.map s.ev ++ []) s.h K := rfl
theorem heap_load (t1 : TypeId) (p : Operand) : heapA P ⟨dst, .load t1 p, ty, pos, after, g⟩ s K = loadA P s.h t1 (s.ev p) (fun v => K v s.h) := by simp [heapA, noNil, opQ]
theorem heap_indexAddr (t1 : TypeId) (x i : Operand) : heapA P ⟨dst, .indexAddr t1 x i, ty, pos, after, g⟩ s K = indexAddrA P s.h t1 (s.ev x) (s.ev i) (fun v => K v s.h) := by simp [heapA, noNil, opQ]
theorem heap_slice (t1 : TypeId) (x : Operand) (lo hi mx : Option Operand) : heapA P ⟨dst, .slice t1 x lo hi mx, ty, pos, after, g⟩ s K = sliceA P s.h t1 (s.ev x) (lo.map s.ev) (hi.map s.ev) (mx.map s.ev) (fun v => K v s.h) := by simp [heapA, noNil, opQ]
end

section
variable {P : Program} {ops : Array Oper}
@[congr] theorem CallF_congr {f : FuncId} {args args' : List AV} {K : AV → Prop} (h1 : args = args') : CallF P f args K = CallF P f args' K := by rw [h1]
@[congr] theorem CallS_congr {f : FuncId} {args args' : List AV} {h h' : List Box} {K : AV → Prop} (h1 : args = args') (h2 : h = h') : CallS P f args h K = CallS P f args' h' K := by rw [h1, h2]
@[congr] theorem CallY_congr {f : FuncId} {args args' : List AV} {h h' : List Box} {K : AV → List Box → Prop} (h1 : args = args') (h2 : h = h') : CallY P f args h K = CallY P f args' h' K := by rw [h1, h2]
@[congr] theorem CallZ_congr {f : FuncId} {args args' : List AV} {h h' : List Box} {K : AV → List Box → Prop} (h1 : args = args') (h2 : h = h') : CallZ P f args h K = CallZ P f args' h' K := by rw [h1, h2]
end

theorem noRow_val (v : Value) : (AV.val v).noRow = true := rfl
theorem noRow_sl (f : Bool) (es : List AV) : (AV.sl f es).noRow = true := rfl
theorem noRow_ptr (a b : Nat) : (AV.ptr a b).noRow = true := rfl
theorem noRow_cptr (a : List AV) : (AV.cptr a).noRow = true := rfl
theorem noRow_agg (a : List AV) : (AV.agg a).noRow = true := rfl
attribute [go_sem ↓] kR_eq kH_eq kU_eq atOp_zero atOp_succ RunL_nil RunL_cons stepO_none stepO_guard free_move free_assign free_pick free_nilCheck notNil_tmp notNil_int notNil_bool notNil_str free_binOp free_unOp free_convert free_field free_fieldAddr free_index free_extract free_makeFunc free_build free_buildSlice buildSliceF free_call free_callV
  read_load read_indexAddr read_slice read_len read_min read_max read_call read_callV upd_op set_op heap_alloc heap_box heap_buildSlice heap_store heap_makeSlice heap_append heap_copy heap_len heap_call heap_load heap_indexAddr heap_slice
theorem CallF.go {P : Program} {f : FuncId} {args : List AV} {v : AV} {K : AV → Prop} (hc : PureT P f args (· = v)) (hp : args.all AV.pure = true) (hk : K v) : CallF P f args K := ⟨hp, v, hc, hk⟩
attribute [go_sem] implies_true forall_const
attribute [go_sem] evNoRow_iff Op.operands Call.operands noRow_val noRow_sl noRow_ptr noRow_cptr noRow_agg

/-! ### A struct's literal, field by field -/
def fillF (P : Program) (t : TypeId) : List AV → List (Nat × AV) → (List AV → Prop) → Prop
  | cells, [], K => K cells
  | cells, (i, x) :: rest, K => match fldOf P t i with
    | some (off, T) => x.cells.length = T.size ∧ allOne x.cells = true ∧ off + T.size ≤ cells.length ∧ fillF P t (putAt cells off x.cells) rest K
    | none => False
theorem fillF_nil (P : Program) (t : TypeId) (cells : List AV) (K : List AV → Prop) : fillF P t cells [] K = K cells := rfl
theorem fillF_cons (P : Program) (t : TypeId) (cells : List AV) (i : Nat) (x : AV) (rest : List (Nat × AV)) (K : List AV → Prop) : fillF P t cells ((i, x) :: rest) K = match fldOf P t i with
    | some (off, T) => x.cells.length = T.size ∧ allOne x.cells = true ∧ off + T.size ≤ cells.length ∧ fillF P t (putAt cells off x.cells) rest K
    | none => False := rfl
theorem fillA_eq {P : Program} {t : TypeId} {fields : Array Field} (hu : P.underlying t = some (.struct fields)) {place : Nat → Option (Nat × Nat)} (hp : placeOf P t = some place) : ∀ (ps : List (Nat × AV)) (cells : List AV) (K : List AV → Prop), fillA place cells ps K = fillF P t cells ps K := by
  intro ps
  induction ps with
  | nil => intro cells K; rfl
  | cons p ps ih =>
    obtain ⟨i, x⟩ := p
    intro cells K
    simp only [fillA, fillF, fldOf, hu]
    unfold placeOf at hp
    rw [hu] at hp
    simp only [Option.some.injEq] at hp
    subst hp
    simp only
    cases fields[i]? with
    | none => rfl
    | some fd =>
      simp only
      cases tyOf P fd.type with
      | none => rfl
      | some T => simp only [Option.map_some]; rw [ih]
theorem buildA_struct {P : Program} {t : TypeId} {fields : Array Field} {T : Ty} (hu : P.underlying t = some (.struct fields)) (hT : tyOf P t = some T) (ps : List (Nat × AV)) (K : AV → Prop) :
    buildA P t ps K = (zeroOK T = true ∧ T.isAgg = true ∧ fieldsKnown P t = true ∧ fillF P t (zeroOf T).cells ps (fun cs => K (.agg cs))) := by
  have hp : ∃ place, placeOf P t = some place := by unfold placeOf; rw [hu]; exact ⟨_, rfl⟩
  obtain ⟨place, hp⟩ := hp
  unfold buildA
  rw [hT, hp]
  simp only
  rw [fillA_eq hu hp]
attribute [go_sem ↓] fillF_nil fillF_cons

end Go.PM

namespace Go.PM

theorem cells_retell {F : Nat → Prop} {M : Mem} {hb : List HB} {h : List Box} (H : HRel F M hb h) {id j : Nat} {cs : List AV} {x x' : AV} (hh : h[id]? = some (.cells cs)) (hx : cs[j]? = some x) (h1 : x'.single = true)
    (hv : ∀ v, VRel M hb x v → VRel M hb x' v) : HRel F M hb (h.set id (.cells (cs.set j x'))) := by
  obtain ⟨e, he⟩ : ∃ e, hb[id]? = some e := by
    have : id < hb.length := by rw [H.len]; exact (List.getElem?_eq_some_iff.1 hh).1
    exact ⟨_, List.getElem?_eq_getElem this⟩
  obtain ⟨q1, q2, c, q3, q4⟩ := H.box id _ e hh he
  have := H.update (M' := M) (b' := .cells (cs.set j x')) (e' := e) hh he (.refl M) (Nat.le_refl _) (HBLe.set he (Nat.le_refl _) rfl (fun _ => rfl) (fun _ => rfl)) (fun _ _ _ => ⟨rfl, rfl⟩)
    ⟨q1, q2, c, q3, by rw [List.length_set]; exact q4.1, fun k y hy => by
      rw [set_self he]
      by_cases hkj : j = k
      · subst hkj
        have hjl := (List.getElem?_eq_some_iff.1 hx).1
        simp [hjl] at hy
        subst hy
        exact ⟨h1, hv _ (q4.2 j x hx).2⟩
      · rw [List.getElem?_set_ne hkj] at hy
        exact q4.2 k y hy⟩ (fun _ => .inl ⟨rfl, rfl⟩)
  rwa [set_self he] at this

theorem CodeT.promoteBox {P : Program} {rd : Option Nat} {c : Code} {s : St} {Φ : AX → St → Prop} (id j sz : Nat) {cs : List AV} (hh : s.h[id]? = some (.cells cs)) (hx : cs[j]? = some (.sl true []))
    (h : CodeT P rd c ⟨s.t, s.h.set id (.cells (cs.set j (.hsl s.h.length 0 0 0))) ++ [.row true 0 sz []], s.d⟩ Φ) : CodeT P rd c s Φ := by
  intro F M hb a ro hs hr
  have H := hs.hp
  obtain ⟨e, he⟩ : ∃ e, hb[id]? = some e := by
    have : id < hb.length := by rw [H.len]; exact (List.getElem?_eq_some_iff.1 hh).1
    exact ⟨_, List.getElem?_eq_getElem this⟩
  obtain ⟨q1, q2, ca, q3, q4⟩ := H.box id _ e hh he
  obtain ⟨hb1, p1, p2, p3⟩ := Go.PM.promote H hs.ok (q4.2 j _ hx).2 sz
  obtain ⟨e', he', _, _, hfix, _⟩ := p2 id e he
  rw [hfix q1] at he'
  have hpre : (s.h ++ [Box.row true 0 sz []])[id]? = some (.cells cs) := by
    have := (List.getElem?_eq_some_iff.1 hh).1
    rw [List.getElem?_append_left this]; exact hh
  have hu := p1.update (M' := M) (b' := .cells (cs.set j (.hsl s.h.length 0 0 0))) (e' := e) hpre he' (.refl M) (Nat.le_refl _) (HBLe.set he' (Nat.le_refl _) rfl (fun _ => rfl) (fun _ => rfl)) (fun _ _ _ => ⟨rfl, rfl⟩)
    ⟨q1, q2, ca, q3, by rw [List.length_set]; exact q4.1, fun k y hy => by
      rw [set_self he']
      by_cases hkj : j = k
      · subst hkj
        have hjl := (List.getElem?_eq_some_iff.1 hx).1
        simp [hjl] at hy
        subst hy
        exact ⟨rfl, p3⟩
      · rw [List.getElem?_set_ne hkj] at hy
        exact ⟨(q4.2 k y hy).1, (q4.2 k y hy).2.hb p2⟩⟩ (fun _ => .inl ⟨rfl, rfl⟩)
  rw [set_self he'] at hu
  have hset : (s.h ++ [Box.row true 0 sz []]).set id (.cells (cs.set j (.hsl s.h.length 0 0 0))) = s.h.set id (.cells (cs.set j (.hsl s.h.length 0 0 0))) ++ [.row true 0 sz []] := by
    have := (List.getElem?_eq_some_iff.1 hh).1
    rw [List.set_append_left _ _ this]
  rw [hset] at hu
  exact wpIn_mono (h F M hb1 a ro ⟨hs.tm.mono (.refl _) p2, hs.df.mono (.refl _) p2, hu, hs.ok⟩ (hr.mono p2)) fun _ _ _ hq => hq.trans (.refl _ _) p2

/-- Of what is known of the slots, one is told otherwise. -/
theorem CodeT.laxT {P : Program} {rd : Option Nat} {c : Code} {s : St} {Φ : AX → St → Prop} (i : Nat) (h : CodeT P rd c ⟨s.t.put i (s.t.get i).lax, s.h, s.d⟩ Φ) : CodeT P rd c s Φ := by
  intro F M hb a ro hs hr
  exact h F M hb a ro ⟨hs.tm.know i (hs.tm.2 i).lax, hs.df, hs.hp, hs.ok⟩ hr

end Go.PM

namespace Go.PM

theorem set_last2 (l : List Box) (a b c : Box) : (l ++ [a, b]).set (l.length + 1) c = l ++ [a, c] := by
  rw [List.set_append_right _ _ (by omega), show l.length + 1 - l.length = 1 by omega]
  rfl
theorem get_last2 (l : List Box) (a b : Box) : (l ++ [a, b])[l.length + 1]? = some b := by
  rw [List.getElem?_append_right (by omega), show l.length + 1 - l.length = 1 by omega]
  rfl

/-- What a function that is ranged over does with its yield: these values, one behind the other. -/
def SeqT (P : Program) (f : FuncId) (caps : List AV) (Cap : List Box → Prop) (items : List (List AV)) : Prop :=
  ∀ (l : Nat) (J : Nat → List Box → Prop) (hc0 : List Box), (∀ k hc, J k hc → hc.length = hc0.length ∧ Cap hc ∧ allUnder hc) → l < hc0.length →
    (∀ k hc args, J k hc → items[k]? = some args → YieldT P l args hc (fun r h' => r = .ret (.val (.bool true)) ∧ J (k + 1) h')) → J 0 hc0 →
    CallT P f (.yld l :: caps) hc0 (fun r h' => (∃ x, r = .ret x) ∧ J items.length h')

theorem CodeT.rangeAll {P : Program} {s : St} {Φ : AX → St → Prop} {g : Operand} {ps : Array Tmp} {asg bd : Code} {f : FuncId} {caps : List AV} (hg : s.ev g = .fn f caps) {Cap : List Box → Prop} {items : List (List AV)} (hseq : SeqT P f caps Cap items)
    (B : Nat → List Box) (h0 : s.h = B 0) (hlen : ∀ k, (B k).length = s.h.length) (hcap : ∀ k ext, Cap (B k ++ ext)) (hu : ∀ k, ∀ x ∈ B k, x.under (s.h.length + 2) = true) (ht : underT (s.h.length + 2) s.t = true)
    (hargs : ∀ args ∈ items, args.length = ps.toList.length)
    (round : ∀ k args fn, items[k]? = some args → CodeT P (some (s.h.length + 1)) asg ⟨putsTm s.t ps.toList args, B k ++ [.defer, .loop fn s.t ps.toList asg bd .ready none], []⟩
      (AX.thn (fun s1 => s1.h = B k ++ [.defer, .loop fn s.t ps.toList asg bd .ready none] ∧ CodeT P (some (s.h.length + 1)) bd ⟨s1.t, B k ++ [.defer, .loop fn s.t ps.toList asg bd .busy none], s1.d⟩
        (fun x s2 => x = .normal ∧ s2.h = B (k + 1) ++ [.defer, .loop fn s.t ps.toList asg bd .busy none])) (fun _ _ => False)))
    (hafter : ∀ fn, Φ .normal ⟨s.t, B items.length ++ [.defer, .loop fn s.t ps.toList asg bd .exhausted none], .mark s.h.length :: s.d⟩) : CodeT P none (.rangeFunc g ps asg bd) s Φ := by
  refine CodeT.rangeFunc hg fun fn => ?_
  have hB : ∀ k st, (B k ++ [Box.defer, .loop fn s.t ps.toList asg bd st none])[s.h.length + 1]? = some (.loop fn s.t ps.toList asg bd st none) := fun k st => by
    rw [← hlen k]; exact get_last2 _ _ _
  have hS : ∀ k st st', (B k ++ [Box.defer, .loop fn s.t ps.toList asg bd st none]).set (s.h.length + 1) (.loop fn s.t ps.toList asg bd st' none) = B k ++ [Box.defer, .loop fn s.t ps.toList asg bd st' none] := fun k st st' => by
    rw [← hlen k]; exact set_last2 _ _ _ _
  have hh : s.h ++ [Box.defer] ++ [.loop fn s.t ps.toList asg bd .ready none] = B 0 ++ [Box.defer, .loop fn s.t ps.toList asg bd .ready none] := by rw [h0]; simp
  rw [hh]
  refine (hseq (s.h.length + 1) (fun k hc => hc = B k ++ [Box.defer, .loop fn s.t ps.toList asg bd .ready none]) _ ?_ (by simp [hlen]) ?_ rfl).mono ?_
  · rintro k hc rfl
    refine ⟨by simp [hlen], hcap k _, fun x hx => ?_⟩
    have hl2 : (B k ++ [Box.defer, .loop fn s.t ps.toList asg bd .ready none]).length = s.h.length + 2 := by simp [hlen]
    rw [hl2]
    rcases List.mem_append.1 hx with hx | hx
    · exact hu k x hx
    · simp only [List.mem_cons, List.not_mem_nil, or_false] at hx
      rcases hx with rfl | rfl
      · rfl
      · exact ht
  · rintro k hc args rfl hk
    refine YieldT.intro (hB k .ready) (hargs args (List.mem_of_getElem? hk)) ?_
    refine CodeT.mono (round k args fn hk) ?_
    intro x s1 hx
    cases x <;> try exact hx
    obtain ⟨h1, h2⟩ := hx
    simp only [AX.thn]
    rw [h1, hB k .ready]
    simp only
    rw [hS k .ready .busy]
    refine CodeT.mono h2 ?_
    rintro x s2 ⟨rfl, h3⟩
    simp only [roundA, endA]
    rw [h3, hB (k + 1) .busy]
    simp only [Option.isNone_none, if_true]
    rw [hS (k + 1) .busy .ready]
    exact ⟨trivial, rfl⟩
  · rintro r h' ⟨⟨x, rfl⟩, rfl⟩
    simp only [rangeA]
    rw [hB items.length .ready]
    simp only
    rw [hS items.length .ready .exhausted]
    exact ⟨by simp, hafter fn⟩

theorem putsTm_cons (t : Tm) (p : Tmp) (ps : List Tmp) (x : AV) (xs : List AV) : putsTm t (p :: ps) (x :: xs) = putsTm (t.put p x) ps xs := rfl
theorem putsTm_nil (t : Tm) (xs : List AV) : putsTm t [] xs = t := by cases xs <;> rfl
attribute [go_sem] putsTm_cons putsTm_nil

end Go.PM
