/-
  Which disks are ones.
-/
import Derived.Test.YtnmghpieidlpbaaD1
set_option linter.unusedVariables false
set_option linter.unusedSimpArgs false
namespace Go.Proofs.Try
set_option linter.unusedSimpArgs false
open Go.PM

def op0 : DOp := ⟨false, 0, []⟩
theorem opvs_length (q : List DOp) : (opvs q).length = q.length := by simp [opvs]
theorem opvs_getD {q : List DOp} {i : Nat} (h : i < q.length) : (opvs q).getD i .dead = opv (q.getD i op0) := by
  simp [opvs, List.getD_eq_getElem?_getD, h]
theorem uni_opvs (q : List DOp) : Uni 3 (opvs q) := by
  intro e he
  obtain ⟨x, _, rfl⟩ := List.mem_map.1 he
  rfl
theorem opv_cells (o : DOp) : (opv o).cells = [.val (.bool o.flush), .val (.int .i64 o.at_), .sl false (bs o.bytes)] := rfl
theorem opv_eq (o : DOp) : AV.agg [.val (.bool o.flush), .val (.int .i64 o.at_), .sl false (bs o.bytes)] = opv o := rfl

def idxOp (p : DOp → Bool) (l : List DOp) : Int := match l.findIdx? p with
  | some i => (i : Int)
  | none => -1
theorem idxOp_here {p : DOp → Bool} {l : List DOp} {i : Nat} (hi : i < l.length) (hn : ∀ j, j < i → p (l.getD j op0) = false) (hp : p (l.getD i op0) = true) : idxOp p l = i := by
  have : l.findIdx? p = some i := by
    rw [List.findIdx?_eq_some_iff_getElem]
    refine ⟨hi, ?_, fun j hj => ?_⟩
    · simpa [List.getD_eq_getElem?_getD, hi] using hp
    · have := hn j hj
      have hj' : j < l.length := by omega
      simpa [List.getD_eq_getElem?_getD, hj'] using this
  simp [idxOp, this]
theorem idxOp_none {p : DOp → Bool} {l : List DOp} (hn : ∀ j, j < l.length → p (l.getD j op0) = false) : idxOp p l = -1 := by
  have : l.findIdx? p = none := by
    rw [List.findIdx?_eq_none_iff]
    intro x hx
    obtain ⟨j, hj, rfl⟩ := List.mem_iff_getElem.1 hx
    have := hn j hj
    simpa [List.getD_eq_getElem?_getD, hj] using this
  simp [idxOp, this]
theorem idxOp_ge (p : DOp → Bool) (l : List DOp) : decide (idxOp p l ≥ 0) = l.any p := by
  unfold idxOp
  cases h : l.findIdx? p with
  | none =>
    rw [List.findIdx?_eq_none_iff] at h
    have : l.any p = false := by rw [List.any_eq_false]; intro x hx; rw [h x hx]; simp
    rw [this]; rfl
  | some i =>
    have hi := List.findIdx?_eq_some_iff_getElem.1 h
    obtain ⟨h1, h2, _⟩ := hi
    have : l.any p = true := by rw [List.any_eq_true]; exact ⟨l[i], List.getElem_mem h1, h2⟩
    rw [this]; simp

mutual
theorem pure0_under (n : Nat) : ∀ (x : AV), x.pure0 = true → x.under n = true
  | .val _, _ => rfl
  | .sl _ _, _ => rfl
  | .cptr _, _ => rfl
  | .fn _ caps, hp => pureL_under n caps hp
  | .iface _ x, hp => pure0_under n x hp
  | .dead, hp => by simp [AV.pure0] at hp
  | .hsl _ _ _ _, hp => by simp [AV.pure0] at hp
  | .ptr _ _, hp => by simp [AV.pure0] at hp
  | .eptr _ _ _ _, hp => by simp [AV.pure0] at hp
  | .yld _, hp => by simp [AV.pure0] at hp
  | .mp _, hp => by simp [AV.pure0] at hp
  | .agg _, hp => by simp [AV.pure0] at hp
  | .tup _, hp => by simp [AV.pure0] at hp
theorem pureL_under (n : Nat) : ∀ (l : List AV), pureL l = true → underL n l = true
  | [], _ => rfl
  | x :: xs, hp => by
    simp only [pureL, Bool.and_eq_true] at hp
    simp only [underL, Bool.and_eq_true]
    exact ⟨pure0_under n x hp.1, pureL_under n xs hp.2⟩
end
theorem all_pure {x : AV} {caps : List AV} (hx : x.pure = true) (hc : pureL caps = true) : (x :: caps).all AV.pure = true := by
  rw [List.all_cons, hx, Bool.true_and, List.all_eq_true]
  intro y hy
  obtain ⟨i, hi⟩ := List.getElem?_of_mem hy
  have := pureL_get hc hi
  cases y <;> first | exact this | simp [AV.pure0] at this

theorem c101 (l : List DOp) (f : FuncId) (caps : List AV) (hcaps : pureL caps = true) (p : DOp → Bool) (hf : ∀ o ∈ l, PureT Try.prog f (opv o :: caps) (· = .val (.bool (p o)))) (hl : l.length ≤ 4000000) : PureT Try.prog 101 [.sl false (opvs l), .fn f caps] (· = .val (.int .i64 (idxOp p l))) := by
  refine CallT.intro Try.func101 (by decide) rfl ?_
  simp -implicitDefEqProofs only [go_sem, ↓reduceIte, Nat.reduceLT, Nat.reduceEqDiff, Nat.reduceAdd, Nat.reduceSub, Nat.reduceBEq, reduceCtorEq, enterTm, Try.ntmps101, List.range'_succ, List.range'_zero, List.zip_cons_cons, List.zip_nil_left]
  refine CodeT.seqK fun K hK => CodeT.region ?_
  simp -implicitDefEqProofs only [go_sem, ↓reduceIte, Nat.reduceLT, Nat.reduceEqDiff, Nat.reduceAdd, Nat.reduceSub, Nat.reduceBEq, reduceCtorEq]
  repeat refine And.intro (by first | with_reducible rfl | assumption | omega | exact uni_bs _ | exact uni_bs [_] | exact uni_bs [_, _] | exact bs_byte _ | exact uni_bss _ | exact uni_bss [_] | exact Stable.refl _ | exact stable_last _ _ _ _ _ _ | trivial | rfl) ?_
  refine hK _ ?_; clear hK K
  refine CodeT.seqK fun K hK => ?_
  refine CodeT.seqK fun K2 hK2 => CodeT.region ?_
  simp -implicitDefEqProofs only [go_sem, ↓reduceIte, Nat.reduceLT, Nat.reduceEqDiff, Nat.reduceAdd, Nat.reduceSub, Nat.reduceBEq, reduceCtorEq, opvs_length]
  repeat refine And.intro (by first | with_reducible rfl | assumption | omega | exact uni_bs _ | exact uni_bs [_] | exact uni_bs [_, _] | exact bs_byte _ | exact uni_bss _ | exact uni_bss [_] | exact Stable.refl _ | exact stable_last _ _ _ _ _ _ | trivial | rfl) ?_
  refine hK2 _ ?_; clear hK2 K2
  refine CodeT.block ?_
  refine CodeT.weak (s' := ⟨⟨19, [(8, .val (.int .i64 0)), (7, .val (.int .i64 (l.length : Nat))), (0, .sl false (opvs l)), (1, .fn f caps)]⟩, [], []⟩) ⟨rfl, ?_, trivial, rfl, keepsD_nil _⟩ rfl ?_
  · simp [go_sem, pureL_under _ caps hcaps]
  refine CodeT.loop (fun n s => ∃ i, i ≤ l.length ∧ (∀ j, j < i → p (l.getD j op0) = false) ∧ n = l.length - i ∧ s = ⟨⟨19, [(8, .val (.int .i64 (i : Nat))), (7, .val (.int .i64 (l.length : Nat))), (0, .sl false (opvs l)), (1, .fn f caps)]⟩, [], []⟩) (n := l.length) ?_ ?_
  · exact ⟨0, Nat.zero_le _, fun j hj => absurd hj (Nat.not_lt_zero _), rfl, rfl⟩
  rintro n s ⟨i, hi, hn, rfl, rfl⟩
  refine CodeT.lessN ?_
  refine CodeT.seqK fun K2 hK2 => CodeT.region ?_
  simp -implicitDefEqProofs only [go_sem, ↓reduceIte, Nat.reduceLT, Nat.reduceEqDiff, Nat.reduceAdd, Nat.reduceSub, Nat.reduceBEq, reduceCtorEq]
  repeat refine And.intro (by first | with_reducible rfl | assumption | omega | exact uni_bs _ | exact uni_bs [_] | exact uni_bs [_, _] | exact bs_byte _ | exact uni_bss _ | exact uni_bss [_] | exact Stable.refl _ | exact stable_last _ _ _ _ _ _ | trivial | rfl) ?_
  refine hK2 _ ?_; clear hK2 K2
  refine CodeT.seqK fun K2 hK2 => CodeT.cond rfl (fun ht => CodeT.skip ?_) (fun hf' => CodeT.exit ?_)
  · simp -implicitDefEqProofs only [go_sem, ↓reduceIte, Nat.reduceLT, Nat.reduceEqDiff, Nat.reduceAdd, Nat.reduceSub, Nat.reduceBEq, reduceCtorEq]
    repeat refine And.intro (by first | with_reducible rfl | assumption | omega | exact uni_bs _ | exact uni_bs [_] | exact uni_bs [_, _] | exact bs_byte _ | exact uni_bss _ | exact uni_bss [_] | exact Stable.refl _ | exact stable_last _ _ _ _ _ _ | trivial | rfl) ?_
    refine hK2 _ ?_; clear hK2 K2
    have hlt : i < l.length := by simp at ht; exact ht
    have hw1 : IntKind.i64.wrap ((i : Int) + 1) = ((i + 1 : Nat) : Int) := by rw [i64_in] <;> omega
    refine CodeT.seqK fun K2 hK2 => ?_
    refine CodeT.block ?_
    refine CodeT.seqK fun K3 hK3 => CodeT.region ?_
    simp -implicitDefEqProofs only [go_sem, ↓reduceIte, Nat.reduceLT, Nat.reduceEqDiff, Nat.reduceAdd, Nat.reduceSub, Nat.reduceBEq, reduceCtorEq]
    repeat refine And.intro (by first | with_reducible rfl | assumption | omega | exact uni_bs _ | exact uni_bs [_] | exact uni_bs [_, _] | exact bs_byte _ | exact uni_bss _ | exact uni_bss [_] | exact Stable.refl _ | exact stable_last _ _ _ _ _ _ | trivial | rfl) ?_
    refine hK3 _ ?_; clear hK3 K3
    refine CodeT.seqK fun K3 hK3 => ?_
    refine CodeT.region ?_
    simp -implicitDefEqProofs only [go_sem, ↓reduceIte, Nat.reduceLT, Nat.reduceEqDiff, Nat.reduceAdd, Nat.reduceSub, Nat.reduceBEq, reduceCtorEq, opvs_getD hlt, opvs_length, opv_cells]
    have hmem : l.getD i op0 ∈ l := by
      rw [List.getD_eq_getElem?_getD, List.getElem?_eq_getElem hlt]
      exact List.getElem_mem hlt
    repeat refine And.intro (by first | with_reducible rfl | assumption | omega | exact uni_bs _ | exact uni_bs [_] | exact uni_bs [_, _] | exact bs_byte _ | exact uni_bss _ | exact uni_bss [_] | exact Stable.refl _ | exact stable_last _ _ _ _ _ _ | trivial | rfl) ?_
    refine PureT.go (hf _ hmem) (all_pure rfl hcaps) fun x hx => ?_
    subst hx
    simp -implicitDefEqProofs only [go_sem, ↓reduceIte, Nat.reduceLT, Nat.reduceEqDiff, Nat.reduceAdd, Nat.reduceSub, Nat.reduceBEq, reduceCtorEq]
    repeat refine And.intro (by first | with_reducible rfl | assumption | omega | exact uni_bs _ | exact uni_bs [_] | exact uni_bs [_, _] | exact bs_byte _ | exact uni_bss _ | exact uni_bss [_] | exact Stable.refl _ | exact stable_last _ _ _ _ _ _ | trivial | rfl) ?_
    refine hK3 _ ?_; clear hK3 K3
    cases hpx : p (l.getD i op0)
    · refine CodeT.cond rfl (fun ht => by cases ht) (fun hf' => CodeT.skip ?_)
      simp -implicitDefEqProofs only [go_sem, ↓reduceIte, Nat.reduceLT, Nat.reduceEqDiff, Nat.reduceAdd, Nat.reduceSub, Nat.reduceBEq, reduceCtorEq]
      repeat refine And.intro (by first | with_reducible rfl | assumption | omega | exact uni_bs _ | exact uni_bs [_] | exact uni_bs [_, _] | exact bs_byte _ | exact uni_bss _ | exact uni_bss [_] | exact Stable.refl _ | exact stable_last _ _ _ _ _ _ | trivial | rfl) ?_
      refine hK2 _ ?_; clear hK2 K2
      refine CodeT.region ?_
      simp -implicitDefEqProofs only [go_sem, ↓reduceIte, Nat.reduceLT, Nat.reduceEqDiff, Nat.reduceAdd, Nat.reduceSub, Nat.reduceBEq, reduceCtorEq, hw1]
      repeat refine And.intro (by first | with_reducible rfl | assumption | omega | exact uni_bs _ | exact uni_bs [_] | exact uni_bs [_, _] | exact bs_byte _ | exact uni_bss _ | exact uni_bss [_] | exact Stable.refl _ | exact stable_last _ _ _ _ _ _ | trivial | rfl) ?_
      refine ⟨⟨⟨19, [(8, .val (.int .i64 ((i + 1 : Nat) : Int))), (7, .val (.int .i64 (l.length : Nat))), (0, .sl false (opvs l)), (1, .fn f caps)]⟩, [], []⟩, ⟨rfl, ?_, trivial, rfl, keepsD_nil _⟩, Nat.le_refl _, l.length - (i + 1), by omega, i + 1, hlt, fun j hj => ?_, rfl, rfl⟩
      · simp [go_sem, pureL_under _ caps hcaps]
      · rcases Nat.lt_or_eq_of_le (Nat.le_of_lt_succ hj) with h | h
        · exact hn j h
        · rw [h]; exact hpx
    · refine CodeT.cond rfl (fun ht => ?_) (fun hf' => by cases hf')
      refine CodeT.seqK fun K4 hK4 => CodeT.region ?_
      simp -implicitDefEqProofs only [go_sem, ↓reduceIte, Nat.reduceLT, Nat.reduceEqDiff, Nat.reduceAdd, Nat.reduceSub, Nat.reduceBEq, reduceCtorEq]
      repeat refine And.intro (by first | with_reducible rfl | assumption | omega | exact uni_bs _ | exact uni_bs [_] | exact uni_bs [_, _] | exact bs_byte _ | exact uni_bss _ | exact uni_bss [_] | exact Stable.refl _ | exact stable_last _ _ _ _ _ _ | trivial | rfl) ?_
      refine hK4 _ ?_; clear hK4 K4
      refine CodeT.ret ?_
      simp -implicitDefEqProofs only [go_sem, ↓reduceIte, Nat.reduceLT, Nat.reduceEqDiff, Nat.reduceAdd, Nat.reduceSub, Nat.reduceBEq, reduceCtorEq, Try.f101]
      refine ⟨rfl, _, rfl, ?_⟩
      rw [idxOp_here hlt hn hpx]
  · simp -implicitDefEqProofs only [go_sem, ↓reduceIte, Nat.reduceLT, Nat.reduceEqDiff, Nat.reduceAdd, Nat.reduceSub, Nat.reduceBEq, reduceCtorEq]
    clear hK2 K2
    repeat refine And.intro (by first | with_reducible rfl | assumption | omega | exact uni_bs _ | exact uni_bs [_] | exact uni_bs [_, _] | exact bs_byte _ | exact uni_bss _ | exact uni_bss [_] | exact Stable.refl _ | exact stable_last _ _ _ _ _ _ | trivial | rfl) ?_
    refine hK _ ?_; clear hK K
    refine CodeT.seqK fun K hK => CodeT.region ?_
    simp -implicitDefEqProofs only [go_sem, ↓reduceIte, Nat.reduceLT, Nat.reduceEqDiff, Nat.reduceAdd, Nat.reduceSub, Nat.reduceBEq, reduceCtorEq]
    repeat refine And.intro (by first | with_reducible rfl | assumption | omega | exact uni_bs _ | exact uni_bs [_] | exact uni_bs [_, _] | exact bs_byte _ | exact uni_bss _ | exact uni_bss [_] | exact Stable.refl _ | exact stable_last _ _ _ _ _ _ | trivial | rfl) ?_
    refine hK _ ?_; clear hK K
    refine CodeT.ret ?_
    simp -implicitDefEqProofs only [go_sem, ↓reduceIte, Nat.reduceLT, Nat.reduceEqDiff, Nat.reduceAdd, Nat.reduceSub, Nat.reduceBEq, reduceCtorEq, Try.f101]
    refine ⟨rfl, _, rfl, ?_⟩
    have hil : i = l.length := by simp at hf'; omega
    subst hil
    rw [idxOp_none hn]

theorem c52 (l : List DOp) (f : FuncId) (caps : List AV) (hcaps : pureL caps = true) (p : DOp → Bool) (hf : ∀ o ∈ l, PureT Try.prog f (opv o :: caps) (· = .val (.bool (p o)))) (hl : l.length ≤ 4000000) : PureT Try.prog 52 [.sl false (opvs l), .fn f caps] (· = .val (.bool (l.any p))) := by
  refine CallT.intro Try.func52 (by decide) rfl ?_
  simp -implicitDefEqProofs only [go_sem, ↓reduceIte, Nat.reduceLT, Nat.reduceEqDiff, Nat.reduceAdd, Nat.reduceSub, Nat.reduceBEq, reduceCtorEq, enterTm, Try.ntmps52, List.range'_succ, List.range'_zero, List.zip_cons_cons, List.zip_nil_left]
  refine CodeT.seqK fun K hK => CodeT.region ?_
  simp -implicitDefEqProofs only [go_sem, ↓reduceIte, Nat.reduceLT, Nat.reduceEqDiff, Nat.reduceAdd, Nat.reduceSub, Nat.reduceBEq, reduceCtorEq]
  repeat refine And.intro (by first | with_reducible rfl | assumption | omega | exact uni_bs _ | exact uni_bs [_] | exact uni_bs [_, _] | exact bs_byte _ | exact uni_bss _ | exact uni_bss [_] | exact Stable.refl _ | exact stable_last _ _ _ _ _ _ | trivial | rfl) ?_
  refine hK _ ?_; clear hK K
  refine CodeT.seqK fun K hK => CodeT.region ?_
  simp -implicitDefEqProofs only [go_sem, ↓reduceIte, Nat.reduceLT, Nat.reduceEqDiff, Nat.reduceAdd, Nat.reduceSub, Nat.reduceBEq, reduceCtorEq]
  refine PureT.go (c101 l f caps hcaps p hf hl) (by simp [AV.pure, AV.pure1, AV.pure0, hcaps]) fun x hx => ?_
  subst hx
  simp -implicitDefEqProofs only [go_sem, ↓reduceIte, Nat.reduceLT, Nat.reduceEqDiff, Nat.reduceAdd, Nat.reduceSub, Nat.reduceBEq, reduceCtorEq, idxOp_ge]
  repeat refine And.intro (by first | with_reducible rfl | assumption | omega | exact uni_bs _ | exact uni_bs [_] | exact uni_bs [_, _] | exact bs_byte _ | exact uni_bss _ | exact uni_bss [_] | exact Stable.refl _ | exact stable_last _ _ _ _ _ _ | trivial | rfl) ?_
  refine hK _ ?_; clear hK K
  refine CodeT.ret ?_
  simp -implicitDefEqProofs only [go_sem, ↓reduceIte, Nat.reduceLT, Nat.reduceEqDiff, Nat.reduceAdd, Nat.reduceSub, Nat.reduceBEq, reduceCtorEq, Try.f52]
  exact ⟨rfl, _, rfl, rfl⟩
end Go.Proofs.Try

namespace Go.Proofs.Try
set_option linter.unusedSimpArgs false
open Go.PM

def dcp (d : Dsk) : AV := .cptr [.sl false (bs d.bytes), .sl false (opvs d.queue)]
def badOp (n : Nat) (o : DOp) : Bool := o.flush || !fitsB o n
theorem c100 (d : Dsk) (o : DOp) (hd : d.bytes.length ≤ 4000000) : PureT Try.prog 100 [opv o, dcp d] (· = .val (.bool (badOp d.bytes.length o))) := by
  unfold dcp
  cases hfl : o.flush
  · rw [← opv_eq, hfl]
    refine CallT.intro Try.func100 (by decide) rfl ?_
    simp -implicitDefEqProofs only [go_sem, ↓reduceIte, Nat.reduceLT, Nat.reduceEqDiff, Nat.reduceAdd, Nat.reduceSub, Nat.reduceBEq, reduceCtorEq, enterTm, Try.ntmps100, List.range'_succ, List.range'_zero, List.zip_cons_cons, List.zip_nil_left]
    refine CodeT.seqK fun K hK => CodeT.region ?_
    simp -implicitDefEqProofs only [go_sem, ↓reduceIte, Nat.reduceLT, Nat.reduceEqDiff, Nat.reduceAdd, Nat.reduceSub, Nat.reduceBEq, reduceCtorEq]
    repeat refine And.intro (by first | with_reducible rfl | assumption | omega | exact uni_bs _ | exact uni_bs [_] | exact uni_bs [_, _] | exact bs_byte _ | exact uni_bss _ | exact uni_bss [_] | exact Stable.refl _ | exact stable_last _ _ _ _ _ _ | trivial | rfl) ?_
    refine hK _ ?_; clear hK K
    refine CodeT.seqK fun K hK => CodeT.region ?_
    simp -implicitDefEqProofs only [go_sem, ↓reduceIte, Nat.reduceLT, Nat.reduceEqDiff, Nat.reduceAdd, Nat.reduceSub, Nat.reduceBEq, reduceCtorEq, bs_length]
    repeat refine And.intro (by first | with_reducible rfl | assumption | omega | exact uni_bs _ | exact uni_bs [_] | exact uni_bs [_, _] | exact bs_byte _ | exact uni_bss _ | exact uni_bss [_] | exact Stable.refl _ | exact stable_last _ _ _ _ _ _ | trivial | rfl) ?_
    have hop : AV.agg [.val (.bool false), .val (.int .i64 o.at_), .sl false (bs o.bytes)] = opv o := by rw [← opv_eq, hfl]
    rw [hop]
    refine PureT.go (c54 o d.bytes.length hd) rfl fun x hx => ?_
    subst hx
    simp -implicitDefEqProofs only [go_sem, ↓reduceIte, Nat.reduceLT, Nat.reduceEqDiff, Nat.reduceAdd, Nat.reduceSub, Nat.reduceBEq, reduceCtorEq]
    repeat refine And.intro (by first | with_reducible rfl | assumption | omega | exact uni_bs _ | exact uni_bs [_] | exact uni_bs [_, _] | exact bs_byte _ | exact uni_bss _ | exact uni_bss [_] | exact Stable.refl _ | exact stable_last _ _ _ _ _ _ | trivial | rfl) ?_
    refine hK _ ?_; clear hK K
    refine CodeT.ret ?_
    simp -implicitDefEqProofs only [go_sem, ↓reduceIte, Nat.reduceLT, Nat.reduceEqDiff, Nat.reduceAdd, Nat.reduceSub, Nat.reduceBEq, reduceCtorEq, Try.f100]
    exact ⟨rfl, _, rfl, by rw [badOp, hfl]; rfl⟩
  · rw [← opv_eq, hfl]
    refine CallT.intro Try.func100 (by decide) rfl ?_
    simp -implicitDefEqProofs only [go_sem, ↓reduceIte, Nat.reduceLT, Nat.reduceEqDiff, Nat.reduceAdd, Nat.reduceSub, Nat.reduceBEq, reduceCtorEq, enterTm, Try.ntmps100, List.range'_succ, List.range'_zero, List.zip_cons_cons, List.zip_nil_left]
    refine CodeT.seqK fun K hK => CodeT.region ?_
    simp -implicitDefEqProofs only [go_sem, ↓reduceIte, Nat.reduceLT, Nat.reduceEqDiff, Nat.reduceAdd, Nat.reduceSub, Nat.reduceBEq, reduceCtorEq]
    repeat refine And.intro (by first | with_reducible rfl | assumption | omega | exact uni_bs _ | exact uni_bs [_] | exact uni_bs [_, _] | exact bs_byte _ | exact uni_bss _ | exact uni_bss [_] | exact Stable.refl _ | exact stable_last _ _ _ _ _ _ | trivial | rfl) ?_
    refine hK _ ?_; clear hK K
    refine CodeT.seqK fun K hK => CodeT.region ?_
    simp -implicitDefEqProofs only [go_sem, ↓reduceIte, Nat.reduceLT, Nat.reduceEqDiff, Nat.reduceAdd, Nat.reduceSub, Nat.reduceBEq, reduceCtorEq]
    repeat refine And.intro (by first | with_reducible rfl | assumption | omega | exact uni_bs _ | exact uni_bs [_] | exact uni_bs [_, _] | exact bs_byte _ | exact uni_bss _ | exact uni_bss [_] | exact Stable.refl _ | exact stable_last _ _ _ _ _ _ | trivial | rfl) ?_
    refine hK _ ?_; clear hK K
    refine CodeT.ret ?_
    simp -implicitDefEqProofs only [go_sem, ↓reduceIte, Nat.reduceLT, Nat.reduceEqDiff, Nat.reduceAdd, Nat.reduceSub, Nat.reduceBEq, reduceCtorEq, Try.f100]
    exact ⟨rfl, _, rfl, by rw [badOp, hfl]; rfl⟩

def isDiskB (d : Dsk) : Bool := sizeB d.bytes.length && !d.queue.any (badOp d.bytes.length)
theorem c51 (d : Dsk) (hd : d.bytes.length ≤ 4000000) (hq : d.queue.length ≤ 4000000) : PureT Try.prog 51 [dkv d] (· = .val (.bool (isDiskB d))) := by
  unfold dkv
  refine CallT.intro Try.func51 (by decide) rfl ?_
  simp -implicitDefEqProofs only [go_sem, ↓reduceIte, Nat.reduceLT, Nat.reduceEqDiff, Nat.reduceAdd, Nat.reduceSub, Nat.reduceBEq, reduceCtorEq, enterTm, Try.ntmps51, List.range'_succ, List.range'_zero, List.zip_cons_cons, List.zip_nil_left]
  refine CodeT.seqK fun K hK => CodeT.region ?_
  simp -implicitDefEqProofs only [go_sem, ↓reduceIte, Nat.reduceLT, Nat.reduceEqDiff, Nat.reduceAdd, Nat.reduceSub, Nat.reduceBEq, reduceCtorEq]
  repeat refine And.intro (by first | with_reducible rfl | assumption | omega | exact uni_bs _ | exact uni_bs [_] | exact uni_bs [_, _] | exact bs_byte _ | exact uni_bss _ | exact uni_bss [_] | exact Stable.refl _ | exact stable_last _ _ _ _ _ _ | trivial | rfl) ?_
  refine hK _ ?_; clear hK K
  refine CodeT.freeze 1 ?_
  simp -implicitDefEqProofs only [go_sem, ↓reduceIte, Nat.reduceLT, Nat.reduceEqDiff, Nat.reduceAdd, Nat.reduceSub, Nat.reduceBEq, reduceCtorEq]
  cases hs : sizeB d.bytes.length
  · refine CodeT.seqK fun K hK => CodeT.region ?_
    simp -implicitDefEqProofs only [go_sem, ↓reduceIte, Nat.reduceLT, Nat.reduceEqDiff, Nat.reduceAdd, Nat.reduceSub, Nat.reduceBEq, reduceCtorEq, bs_length]
    repeat refine And.intro (by first | with_reducible rfl | assumption | omega | exact uni_bs _ | exact uni_bs [_] | exact uni_bs [_, _] | exact bs_byte _ | exact uni_bss _ | exact uni_bss [_] | exact Stable.refl _ | exact stable_last _ _ _ _ _ _ | trivial | rfl) ?_
    refine PureT.go (c80 _ hd) rfl fun x hx => ?_
    subst hx
    simp -implicitDefEqProofs only [go_sem, ↓reduceIte, Nat.reduceLT, Nat.reduceEqDiff, Nat.reduceAdd, Nat.reduceSub, Nat.reduceBEq, reduceCtorEq, hs]
    repeat refine And.intro (by first | with_reducible rfl | assumption | omega | exact uni_bs _ | exact uni_bs [_] | exact uni_bs [_, _] | exact bs_byte _ | exact uni_bss _ | exact uni_bss [_] | exact Stable.refl _ | exact stable_last _ _ _ _ _ _ | trivial | rfl) ?_
    refine hK _ ?_; clear hK K
    refine CodeT.ret ?_
    simp -implicitDefEqProofs only [go_sem, ↓reduceIte, Nat.reduceLT, Nat.reduceEqDiff, Nat.reduceAdd, Nat.reduceSub, Nat.reduceBEq, reduceCtorEq, Try.f51]
    exact ⟨rfl, _, rfl, by rw [isDiskB, hs]; rfl⟩
  · refine CodeT.seqK fun K hK => CodeT.region ?_
    simp -implicitDefEqProofs only [go_sem, ↓reduceIte, Nat.reduceLT, Nat.reduceEqDiff, Nat.reduceAdd, Nat.reduceSub, Nat.reduceBEq, reduceCtorEq, bs_length]
    repeat refine And.intro (by first | with_reducible rfl | assumption | omega | exact uni_bs _ | exact uni_bs [_] | exact uni_bs [_, _] | exact bs_byte _ | exact uni_bss _ | exact uni_bss [_] | exact Stable.refl _ | exact stable_last _ _ _ _ _ _ | trivial | rfl) ?_
    refine PureT.go (c80 _ hd) rfl fun x hx => ?_
    subst hx
    simp -implicitDefEqProofs only [go_sem, ↓reduceIte, Nat.reduceLT, Nat.reduceEqDiff, Nat.reduceAdd, Nat.reduceSub, Nat.reduceBEq, reduceCtorEq, hs]
    repeat refine And.intro (by first | with_reducible rfl | assumption | omega | exact uni_bs _ | exact uni_bs [_] | exact uni_bs [_, _] | exact bs_byte _ | exact uni_bss _ | exact uni_bss [_] | exact Stable.refl _ | exact stable_last _ _ _ _ _ _ | trivial | rfl) ?_
    refine PureT.go (c52 d.queue 100 [dcp d] rfl (badOp d.bytes.length) (fun o _ => c100 d o hd) hq) rfl fun x hx => ?_
    subst hx
    simp -implicitDefEqProofs only [go_sem, ↓reduceIte, Nat.reduceLT, Nat.reduceEqDiff, Nat.reduceAdd, Nat.reduceSub, Nat.reduceBEq, reduceCtorEq]
    repeat refine And.intro (by first | with_reducible rfl | assumption | omega | exact uni_bs _ | exact uni_bs [_] | exact uni_bs [_, _] | exact bs_byte _ | exact uni_bss _ | exact uni_bss [_] | exact Stable.refl _ | exact stable_last _ _ _ _ _ _ | trivial | rfl) ?_
    refine hK _ ?_; clear hK K
    refine CodeT.ret ?_
    simp -implicitDefEqProofs only [go_sem, ↓reduceIte, Nat.reduceLT, Nat.reduceEqDiff, Nat.reduceAdd, Nat.reduceSub, Nat.reduceBEq, reduceCtorEq, Try.f51]
    exact ⟨rfl, _, rfl, by rw [isDiskB, hs]; rfl⟩
end Go.Proofs.Try

namespace Go.Proofs.Try
set_option linter.unusedSimpArgs false
open Go.PM

theorem take_bs (l : List UInt8) : (bs l).take l.length = bs l := List.take_of_length_le (by rw [bs_length]; exact Nat.le_refl _)

theorem c55 (h : List Box) (l : List UInt8) (hl : l.length ≤ 4000000) : CallT Try.prog 55 [.sl false (bs l)] h (fun r h' => ∃ ver, r = .ret (.hsl h.length ver 0 l.length) ∧ h' = h ++ [.row true ver 1 (bs l)]) := by
  refine CallT.intro Try.func55 (by decide) rfl ?_
  simp -implicitDefEqProofs only [go_sem, ↓reduceIte, Nat.reduceLT, Nat.reduceEqDiff, Nat.reduceAdd, Nat.reduceSub, Nat.reduceBEq, reduceCtorEq, enterTm, Try.ntmps55, List.range'_succ, List.range'_zero, List.zip_cons_cons, List.zip_nil_left]
  refine CodeT.seqK fun K hK => CodeT.region ?_
  simp -implicitDefEqProofs only [go_sem, ↓reduceIte, Nat.reduceLT, Nat.reduceEqDiff, Nat.reduceAdd, Nat.reduceSub, Nat.reduceBEq, reduceCtorEq]
  repeat refine And.intro (by first | with_reducible rfl | assumption | omega | exact uni_bs _ | exact uni_bs [_] | exact uni_bs [_, _] | exact bs_byte _ | exact uni_bss _ | exact uni_bss [_] | exact Stable.refl _ | exact stable_last _ _ _ _ _ _ | trivial | rfl) ?_
  refine hK _ ?_; clear hK K
  refine CodeT.seqK fun K hK => ?_
  refine CodeT.seqK fun K1 hK1 => CodeT.region ?_
  simp -implicitDefEqProofs only [go_sem, ↓reduceIte, Nat.reduceLT, Nat.reduceEqDiff, Nat.reduceAdd, Nat.reduceSub, Nat.reduceBEq, reduceCtorEq, nilA, Try.underlying22]
  intro b hb
  repeat refine And.intro (by first | with_reducible rfl | assumption | omega | exact uni_bs _ | exact uni_bs [_] | exact uni_bs [_, _] | exact bs_byte _ | exact uni_bss _ | exact uni_bss [_] | exact Stable.refl _ | exact stable_last _ _ _ _ _ _ | trivial | rfl) ?_
  refine hK1 _ ?_; clear hK1 K1
  refine CodeT.cond rfl (fun ht => ?_) (fun hf => CodeT.skip ?_)
  · subst ht
    have hnil : l = [] := by
      cases l with
      | nil => rfl
      | cons x l => exact absurd (hb (by simp [bs])) (by simp)
    subst hnil
    refine CodeT.seqK fun K1 hK1 => CodeT.region ?_
    simp -implicitDefEqProofs only [go_sem, ↓reduceIte, Nat.reduceLT, Nat.reduceEqDiff, Nat.reduceAdd, Nat.reduceSub, Nat.reduceBEq, reduceCtorEq]
    repeat refine And.intro (by first | with_reducible rfl | assumption | omega | exact uni_bs _ | exact uni_bs [_] | exact uni_bs [_, _] | exact bs_byte _ | exact uni_bss _ | exact uni_bss [_] | exact Stable.refl _ | exact stable_last _ _ _ _ _ _ | trivial | rfl) ?_
    refine hK1 _ ?_; clear hK1 K1
    refine CodeT.promote 2 1 rfl ?_
    refine CodeT.ret ?_
    simp -implicitDefEqProofs only [go_sem, ↓reduceIte, Nat.reduceLT, Nat.reduceEqDiff, Nat.reduceAdd, Nat.reduceSub, Nat.reduceBEq, reduceCtorEq, Try.f55]
    exact ⟨0, rfl, rfl⟩
  · simp -implicitDefEqProofs only [go_sem, ↓reduceIte, Nat.reduceLT, Nat.reduceEqDiff, Nat.reduceAdd, Nat.reduceSub, Nat.reduceBEq, reduceCtorEq]
    repeat refine And.intro (by first | with_reducible rfl | assumption | omega | exact uni_bs _ | exact uni_bs [_] | exact uni_bs [_, _] | exact bs_byte _ | exact uni_bss _ | exact uni_bss [_] | exact Stable.refl _ | exact stable_last _ _ _ _ _ _ | trivial | rfl) ?_
    refine hK _ ?_; clear hK K
    refine CodeT.seqK fun K hK => CodeT.region ?_
    simp -implicitDefEqProofs only [go_sem, ↓reduceIte, Nat.reduceLT, Nat.reduceEqDiff, Nat.reduceAdd, Nat.reduceSub, Nat.reduceBEq, reduceCtorEq, bs_length]
    repeat refine And.intro (by first | with_reducible rfl | assumption | omega | exact uni_bs _ | exact uni_bs [_] | exact uni_bs [_, _] | exact bs_byte _ | exact uni_bss _ | exact uni_bss [_] | exact Stable.refl _ | exact stable_last _ _ _ _ _ _ | trivial | rfl) ?_
    refine hK _ ?_; clear hK K
    refine CodeT.ret ?_
    simp -implicitDefEqProofs only [go_sem, ↓reduceIte, Nat.reduceLT, Nat.reduceEqDiff, Nat.reduceAdd, Nat.reduceSub, Nat.reduceBEq, reduceCtorEq, Try.f55]
    exact ⟨1, rfl, rfl⟩
theorem c53 (d : Dsk) (o : DOp) (hd : d.bytes.length ≤ 4000000) : PureT Try.prog 53 [opv o, dcp d] (· = .val (.bool (!fitsB o d.bytes.length))) := by
  unfold dcp
  rw [← opv_eq]
  refine CallT.intro Try.func53 (by decide) rfl ?_
  simp -implicitDefEqProofs only [go_sem, ↓reduceIte, Nat.reduceLT, Nat.reduceEqDiff, Nat.reduceAdd, Nat.reduceSub, Nat.reduceBEq, reduceCtorEq, enterTm, Try.ntmps53, List.range'_succ, List.range'_zero, List.zip_cons_cons, List.zip_nil_left]
  refine CodeT.seqK fun K hK => CodeT.region ?_
  simp -implicitDefEqProofs only [go_sem, ↓reduceIte, Nat.reduceLT, Nat.reduceEqDiff, Nat.reduceAdd, Nat.reduceSub, Nat.reduceBEq, reduceCtorEq]
  repeat refine And.intro (by first | with_reducible rfl | assumption | omega | exact uni_bs _ | exact uni_bs [_] | exact uni_bs [_, _] | exact bs_byte _ | exact uni_bss _ | exact uni_bss [_] | exact Stable.refl _ | exact stable_last _ _ _ _ _ _ | trivial | rfl) ?_
  refine hK _ ?_; clear hK K
  refine CodeT.seqK fun K hK => CodeT.region ?_
  simp -implicitDefEqProofs only [go_sem, ↓reduceIte, Nat.reduceLT, Nat.reduceEqDiff, Nat.reduceAdd, Nat.reduceSub, Nat.reduceBEq, reduceCtorEq, bs_length]
  repeat refine And.intro (by first | with_reducible rfl | assumption | omega | exact uni_bs _ | exact uni_bs [_] | exact uni_bs [_, _] | exact bs_byte _ | exact uni_bss _ | exact uni_bss [_] | exact Stable.refl _ | exact stable_last _ _ _ _ _ _ | trivial | rfl) ?_
  rw [opv_eq]
  refine PureT.go (c54 o d.bytes.length hd) rfl fun x hx => ?_
  subst hx
  simp -implicitDefEqProofs only [go_sem, ↓reduceIte, Nat.reduceLT, Nat.reduceEqDiff, Nat.reduceAdd, Nat.reduceSub, Nat.reduceBEq, reduceCtorEq]
  repeat refine And.intro (by first | with_reducible rfl | assumption | omega | exact uni_bs _ | exact uni_bs [_] | exact uni_bs [_, _] | exact bs_byte _ | exact uni_bss _ | exact uni_bss [_] | exact Stable.refl _ | exact stable_last _ _ _ _ _ _ | trivial | rfl) ?_
  refine hK _ ?_; clear hK K
  refine CodeT.ret ?_
  simp -implicitDefEqProofs only [go_sem, ↓reduceIte, Nat.reduceLT, Nat.reduceEqDiff, Nat.reduceAdd, Nat.reduceSub, Nat.reduceBEq, reduceCtorEq, Try.f53]
  exact ⟨rfl, _, rfl, rfl⟩

theorem c102 (d : Dsk) (i : Nat) (hi : i < d.queue.length) : PureT Try.prog 102 [.val (.int .i64 (i : Nat)), dcp d] (· = .val (.int .i64 ((d.queue.getD i op0).bytes.length : Nat))) := by
  unfold dcp
  refine CallT.intro Try.func102 (by decide) rfl ?_
  simp -implicitDefEqProofs only [go_sem, ↓reduceIte, Nat.reduceLT, Nat.reduceEqDiff, Nat.reduceAdd, Nat.reduceSub, Nat.reduceBEq, reduceCtorEq, enterTm, Try.ntmps102, List.range'_succ, List.range'_zero, List.zip_cons_cons, List.zip_nil_left]
  refine CodeT.seqK fun K hK => CodeT.region ?_
  simp -implicitDefEqProofs only [go_sem, ↓reduceIte, Nat.reduceLT, Nat.reduceEqDiff, Nat.reduceAdd, Nat.reduceSub, Nat.reduceBEq, reduceCtorEq]
  repeat refine And.intro (by first | with_reducible rfl | assumption | omega | exact uni_bs _ | exact uni_bs [_] | exact uni_bs [_, _] | exact bs_byte _ | exact uni_bss _ | exact uni_bss [_] | exact Stable.refl _ | exact stable_last _ _ _ _ _ _ | trivial | rfl) ?_
  refine hK _ ?_; clear hK K
  refine CodeT.seqK fun K hK => CodeT.region ?_
  simp -implicitDefEqProofs only [go_sem, ↓reduceIte, Nat.reduceLT, Nat.reduceEqDiff, Nat.reduceAdd, Nat.reduceSub, Nat.reduceBEq, reduceCtorEq, opvs_getD hi, opvs_length, opv_cells, bs_length]
  repeat refine And.intro (by first | with_reducible rfl | assumption | omega | exact uni_bs _ | exact uni_bs [_] | exact uni_bs [_, _] | exact bs_byte _ | exact uni_bss _ | exact uni_bss [_] | exact Stable.refl _ | exact stable_last _ _ _ _ _ _ | trivial | rfl) ?_
  refine hK _ ?_; clear hK K
  refine CodeT.ret ?_
  simp -implicitDefEqProofs only [go_sem, ↓reduceIte, Nat.reduceLT, Nat.reduceEqDiff, Nat.reduceAdd, Nat.reduceSub, Nat.reduceBEq, reduceCtorEq, Try.f102]
  exact ⟨rfl, _, rfl, rfl⟩

theorem c57 (o : DOp) (hl : o.bytes.length ≤ 4000000) : PureT Try.prog 57 [opv o] (· = opv o) := by
  rw [← opv_eq]
  refine CallT.res ?_
  refine CallT.intro Try.func57 (by decide) rfl ?_
  simp -implicitDefEqProofs only [go_sem, ↓reduceIte, Nat.reduceLT, Nat.reduceEqDiff, Nat.reduceAdd, Nat.reduceSub, Nat.reduceBEq, reduceCtorEq, enterTm, Try.ntmps57, List.range'_succ, List.range'_zero, List.zip_cons_cons, List.zip_nil_left]
  refine CodeT.seqK fun K hK => CodeT.region ?_
  simp -implicitDefEqProofs only [go_sem, ↓reduceIte, Nat.reduceLT, Nat.reduceEqDiff, Nat.reduceAdd, Nat.reduceSub, Nat.reduceBEq, reduceCtorEq]
  repeat refine And.intro (by first | with_reducible rfl | assumption | omega | exact uni_bs _ | exact uni_bs [_] | exact uni_bs [_, _] | exact bs_byte _ | exact uni_bss _ | exact uni_bss [_] | exact Stable.refl _ | exact stable_last _ _ _ _ _ _ | trivial | rfl) ?_
  refine hK _ ?_; clear hK K
  refine CodeT.seqK fun K hK => CodeT.region ?_
  simp -implicitDefEqProofs only [go_sem, ↓reduceIte, Nat.reduceLT, Nat.reduceEqDiff, Nat.reduceAdd, Nat.reduceSub, Nat.reduceBEq, reduceCtorEq]
  repeat refine And.intro (by first | with_reducible rfl | assumption | omega | exact uni_bs _ | exact uni_bs [_] | exact uni_bs [_, _] | exact bs_byte _ | exact uni_bss _ | exact uni_bss [_] | exact Stable.refl _ | exact stable_last _ _ _ _ _ _ | trivial | rfl) ?_
  refine (c55 _ _ hl).mono ?_
  rintro r h' ⟨ver, rfl, rfl⟩
  simp -implicitDefEqProofs only [go_sem, ↓reduceIte, Nat.reduceLT, Nat.reduceEqDiff, Nat.reduceAdd, Nat.reduceSub, Nat.reduceBEq, reduceCtorEq]
  repeat refine And.intro (by first | with_reducible rfl | assumption | omega | exact uni_bs _ | exact uni_bs [_] | exact uni_bs [_, _] | exact bs_byte _ | exact uni_bss _ | exact uni_bss [_] | exact Stable.refl _ | exact stable_last _ _ _ _ _ _ | trivial | rfl) ?_
  refine hK _ ?_; clear hK K
  refine CodeT.seqK fun K hK => CodeT.region ?_
  simp -implicitDefEqProofs only [go_sem, ↓reduceIte, Nat.reduceLT, Nat.reduceEqDiff, Nat.reduceAdd, Nat.reduceSub, Nat.reduceBEq, reduceCtorEq]
  repeat refine And.intro (by first | with_reducible rfl | assumption | omega | exact uni_bs _ | exact uni_bs [_] | exact uni_bs [_, _] | exact bs_byte _ | exact uni_bss _ | exact uni_bss [_] | exact Stable.refl _ | exact stable_last _ _ _ _ _ _ | trivial | rfl) ?_
  refine hK _ ?_; clear hK K
  refine CodeT.ret ?_
  simp -implicitDefEqProofs only [go_sem, ↓reduceIte, Nat.reduceLT, Nat.reduceEqDiff, Nat.reduceAdd, Nat.reduceSub, Nat.reduceBEq, reduceCtorEq, Try.f57]
  rw [take_bs]
  exact ⟨by decide, by rw [bs_length]; exact Nat.le_refl _, rfl, _, rfl, rfl⟩
end Go.Proofs.Try

namespace Go.Proofs.Try
set_option linter.unusedSimpArgs false
open Go.PM

def is64 (l : List Int) : List AV := l.map fun n => .val (.int .i64 n)
theorem is64_length (l : List Int) : (is64 l).length = l.length := by simp [is64]
theorem is64_getD {l : List Int} {i : Nat} (h : i < l.length) : (is64 l).getD i .dead = .val (.int .i64 (l.getD i 0)) := by
  simp [is64, List.getD_eq_getElem?_getD, h]
def farC (cuts : List Int) (d : Dsk) (i : Nat) : Nat := if cuts.length ≤ i then 0 else min (cuts.getD i 0).toNat (d.queue.getD i op0).bytes.length

theorem farC_int (c : Int) (n : Nat) : (if (n : Int) < (if (0 : Int) > c then 0 else c) then (n : Int) else (if (0 : Int) > c then 0 else c)) = ((min c.toNat n : Nat) : Int) := by
  split <;> split <;> omega

theorem c60 (d : Dsk) (cuts : List Int) (i : Nat) (hi : i < d.queue.length) : PureT Try.prog 60 [.val (.int .i64 (i : Nat)), .cptr [.sl false (is64 cuts)], dcp d] (· = .val (.int .i64 (farC cuts d i : Nat))) := by
  unfold dcp
  refine CallT.intro Try.func60 (by decide) rfl ?_
  simp -implicitDefEqProofs only [go_sem, ↓reduceIte, Nat.reduceLT, Nat.reduceEqDiff, Nat.reduceAdd, Nat.reduceSub, Nat.reduceBEq, reduceCtorEq, enterTm, Try.ntmps60, List.range'_succ, List.range'_zero, List.zip_cons_cons, List.zip_nil_left]
  refine CodeT.seqK fun K hK => CodeT.region ?_
  simp -implicitDefEqProofs only [go_sem, ↓reduceIte, Nat.reduceLT, Nat.reduceEqDiff, Nat.reduceAdd, Nat.reduceSub, Nat.reduceBEq, reduceCtorEq]
  repeat refine And.intro (by first | with_reducible rfl | assumption | omega | exact uni_bs _ | exact uni_bs [_] | exact uni_bs [_, _] | exact bs_byte _ | exact uni_bss _ | exact uni_bss [_] | exact Stable.refl _ | exact stable_last _ _ _ _ _ _ | trivial | rfl) ?_
  refine hK _ ?_; clear hK K
  refine CodeT.seqK fun K hK => ?_
  refine CodeT.seqK fun K1 hK1 => CodeT.region ?_
  simp -implicitDefEqProofs only [go_sem, ↓reduceIte, Nat.reduceLT, Nat.reduceEqDiff, Nat.reduceAdd, Nat.reduceSub, Nat.reduceBEq, reduceCtorEq, is64_length]
  repeat refine And.intro (by first | with_reducible rfl | assumption | omega | exact uni_bs _ | exact uni_bs [_] | exact uni_bs [_, _] | exact bs_byte _ | exact uni_bss _ | exact uni_bss [_] | exact Stable.refl _ | exact stable_last _ _ _ _ _ _ | trivial | rfl) ?_
  refine hK1 _ ?_; clear hK1 K1
  refine CodeT.cond rfl (fun ht => ?_) (fun hf => CodeT.skip ?_)
  · refine CodeT.seqK fun K1 hK1 => CodeT.region ?_
    simp -implicitDefEqProofs only [go_sem, ↓reduceIte, Nat.reduceLT, Nat.reduceEqDiff, Nat.reduceAdd, Nat.reduceSub, Nat.reduceBEq, reduceCtorEq]
    repeat refine And.intro (by first | with_reducible rfl | assumption | omega | exact uni_bs _ | exact uni_bs [_] | exact uni_bs [_, _] | exact bs_byte _ | exact uni_bss _ | exact uni_bss [_] | exact Stable.refl _ | exact stable_last _ _ _ _ _ _ | trivial | rfl) ?_
    refine hK1 _ ?_; clear hK1 K1
    refine CodeT.ret ?_
    simp -implicitDefEqProofs only [go_sem, ↓reduceIte, Nat.reduceLT, Nat.reduceEqDiff, Nat.reduceAdd, Nat.reduceSub, Nat.reduceBEq, reduceCtorEq, Try.f60]
    have : cuts.length ≤ i := by simp at ht; omega
    exact ⟨rfl, _, rfl, by rw [farC, if_pos this]; rfl⟩
  · simp -implicitDefEqProofs only [go_sem, ↓reduceIte, Nat.reduceLT, Nat.reduceEqDiff, Nat.reduceAdd, Nat.reduceSub, Nat.reduceBEq, reduceCtorEq]
    repeat refine And.intro (by first | with_reducible rfl | assumption | omega | exact uni_bs _ | exact uni_bs [_] | exact uni_bs [_, _] | exact bs_byte _ | exact uni_bss _ | exact uni_bss [_] | exact Stable.refl _ | exact stable_last _ _ _ _ _ _ | trivial | rfl) ?_
    refine hK _ ?_; clear hK K
    have hlt : i < cuts.length := by simp at hf; omega
    refine CodeT.seqK fun K hK => CodeT.drawnL [(0, .read), (1, .free), (2, .read), (3, .read), (4, .read), (5, .free), (6, .read), (7, .free), (8, .read), (9, .free), (10, .read), (11, .read), (12, .read), (13, .free)] mixed (by kernel_rfl) ?_
    simp -implicitDefEqProofs only [go_sem, ↓reduceIte, Nat.reduceLT, Nat.reduceEqDiff, Nat.reduceAdd, Nat.reduceSub, Nat.reduceBEq, reduceCtorEq, opvs_getD hi, opvs_length, opv_cells, bs_length, is64_getD hlt, is64_length]
    repeat refine And.intro (by first | with_reducible rfl | assumption | omega | exact uni_bs _ | exact uni_bs [_] | exact uni_bs [_, _] | exact bs_byte _ | exact uni_bss _ | exact uni_bss [_] | exact Stable.refl _ | exact stable_last _ _ _ _ _ _ | trivial | rfl) ?_
    refine hK _ ?_; clear hK K
    refine CodeT.ret ?_
    simp -implicitDefEqProofs only [go_sem, ↓reduceIte, Nat.reduceLT, Nat.reduceEqDiff, Nat.reduceAdd, Nat.reduceSub, Nat.reduceBEq, reduceCtorEq, Try.f60]
    have : ¬ cuts.length ≤ i := by omega
    refine ⟨rfl, _, rfl, ?_⟩
    rw [farC, if_neg this, ← farC_int]
end Go.Proofs.Try

namespace Go.PM
theorem laxL_bs (l : List UInt8) : laxL (bs l) = bs l := by
  rw [laxL_eq, bs, List.map_map]
  rfl
theorem laxL_bss (l : List (List UInt8)) : laxL (bss l) = bss l := by
  rw [laxL_eq, bss, List.map_map]
  refine List.map_congr_left fun p _ => ?_
  show AV.sl false (laxL (bs p)) = _
  rw [laxL_bs]
theorem lax_val (v : Value) : (AV.val v).lax = .val v := rfl
theorem lax_sl (f : Bool) (es : List AV) : (AV.sl f es).lax = .sl false (laxL es) := rfl
theorem lax_agg (cs : List AV) : (AV.agg cs).lax = .agg (laxL cs) := rfl
theorem lax_tup (cs : List AV) : (AV.tup cs).lax = .tup (laxL cs) := rfl
theorem lax_cptr (cs : List AV) : (AV.cptr cs).lax = .cptr (laxL cs) := rfl
theorem lax_fn (f : FuncId) (cs : List AV) : (AV.fn f cs).lax = .fn f (laxL cs) := rfl
theorem lax_hsl (a b c d : Nat) : (AV.hsl a b c d).lax = .hsl a b c d := rfl
theorem lax_ptr (a b : Nat) : (AV.ptr a b).lax = .ptr a b := rfl
theorem laxL_nil : laxL [] = [] := rfl
theorem laxL_cons (x : AV) (l : List AV) : laxL (x :: l) = x.lax :: laxL l := rfl
theorem aelax_ret (x : AV) : (AE.ret x).lax = .ret x.lax := rfl
attribute [go_sem] laxL_bs laxL_bss lax_val lax_sl lax_agg lax_tup lax_cptr lax_fn lax_hsl lax_ptr laxL_nil laxL_cons aelax_ret
theorem uniB_map {α : Type} {f : α → AV} {n : Nat} (h : ∀ x, ((f x).cells.length == n && allOne (f x).cells) = true) (l : List α) : uniB n (l.map f) = true := by
  rw [uniB, List.all_map, List.all_eq_true]
  exact fun x _ => h x
theorem uniB_bs (l : List UInt8) : uniB 1 (bs l) = true := uniB_map (fun _ => rfl) l
theorem map_getD {α : Type} [Inhabited α] (f : α → AV) {l : List α} {i : Nat} (h : i < l.length) : (l.map f).getD i .dead = f (l.getD i default) := by
  simp [List.getD_eq_getElem?_getD, h]
theorem rep_u8 (n : Nat) : List.replicate n (AV.val (.int .u8 0)) = bs (List.replicate n 0) := by simp [bs]
attribute [go_sem] rep_u8
end Go.PM
namespace Go.Proofs.Try
open Go.PM
theorem laxL_opvs (q : List DOp) : laxL (opvs q) = opvs q := by
  rw [laxL_eq, opvs, List.map_map]
  refine List.map_congr_left fun p _ => ?_
  show AV.agg [_, _, .sl false (laxL (bs p.bytes))] = _
  rw [laxL_bs]
  rfl
theorem opv_lax (o : DOp) : (opv o).lax = opv o := by
  show AV.agg [_, _, .sl false (laxL (bs o.bytes))] = _
  rw [laxL_bs]
  rfl
theorem dkv_lax (d : Dsk) : (dkv d).lax = dkv d := by
  show AV.agg [.sl false (laxL (bs d.bytes)), .sl false (laxL (opvs d.queue))] = _
  rw [laxL_bs, laxL_opvs]
  rfl
theorem opv_fold (a : Bool) (b : Int) (c : List UInt8) : AV.agg [.val (.bool a), .val (.int .i64 b), .sl false (bs c)] = opv ⟨a, b, c⟩ := rfl
theorem op_eta (o : DOp) : (⟨o.flush, o.at_, o.bytes⟩ : DOp) = o := rfl
theorem dkv_fold (b : List UInt8) (q : List DOp) : AV.agg [.sl false (bs b), .sl false (opvs q)] = dkv ⟨b, q⟩ := rfl
theorem dk_eta (d : Dsk) : (⟨d.bytes, d.queue⟩ : Dsk) = d := rfl
theorem dkv_cells (d : Dsk) : (dkv d).cells = [.sl false (bs d.bytes), .sl false (opvs d.queue)] := rfl
theorem opv_under (n : Nat) (o : DOp) : (opv o).under n = true := rfl
theorem dkv_under (n : Nat) (d : Dsk) : (dkv d).under n = true := rfl
theorem opv_noRow (o : DOp) : (opv o).noRow = true := rfl
theorem dkv_noRow (o : Dsk) : (dkv o).noRow = true := rfl
theorem opvs_snoc (l : List DOp) (o : DOp) : opvs l ++ [opv o] = opvs (l ++ [o]) := by simp [opvs]
theorem opvs_append (l l' : List DOp) : opvs l ++ opvs l' = opvs (l ++ l') := by simp [opvs]
theorem opvs_take (l : List DOp) (n : Nat) : (opvs l).take n = opvs (l.take n) := by simp [opvs]
theorem opvs_drop (l : List DOp) (n : Nat) : (opvs l).drop n = opvs (l.drop n) := by simp [opvs]
theorem uniB_opvs (l : List DOp) : uniB 3 (opvs l) = true := uniB_map (fun _ => rfl) l
theorem frzA_opv (h : List Box) (o : DOp) (K : AV → List Box → Prop) : frzA h (opv o) K = K (opv o) h := by
  unfold opv
  rw [frzA_agg, frzL_cons, frz0_val, frzL_cons, frz0_val, frzL_cons, frz0_sl, frzL_nil]
theorem frzC_opv (h : List Box) (o : DOp) (K : AV → List Box → Prop) : frzC h (opv o) K = K (opv o) h := frzA_opv h o K
theorem frzV_opv (h : List Box) (o : DOp) (K : AV → List Box → Prop) : frzV h (opv o) K = K (opv o) h := frzA_opv h o K
theorem frzA_dkv (h : List Box) (o : Dsk) (K : AV → List Box → Prop) : frzA h (dkv o) K = K (dkv o) h := by
  unfold dkv
  rw [frzA_agg, frzL_cons, frz0_sl, frzL_cons, frz0_sl, frzL_nil]
theorem frzC_dkv (h : List Box) (o : Dsk) (K : AV → List Box → Prop) : frzC h (dkv o) K = K (dkv o) h := frzA_dkv h o K
theorem frzV_dkv (h : List Box) (o : Dsk) (K : AV → List Box → Prop) : frzV h (dkv o) K = K (dkv o) h := frzA_dkv h o K
attribute [go_sem ↓] frzA_opv frzC_opv frzV_opv frzA_dkv frzC_dkv frzV_dkv
attribute [go_sem] laxL_opvs opv_lax dkv_lax opv_fold op_eta dkv_fold dk_eta opv_cells dkv_cells opv_under dkv_under opv_noRow dkv_noRow opvs_snoc opvs_append opvs_take opvs_drop opvs_length bs_take bs_drop bs_append bs_length bss_length is64_length bss_take bss_drop bss_snoc uniB_bs uniB_opvs
attribute [go_sem] Try.underlying2 Try.underlying3 Try.underlying4 Try.underlying5 Try.underlying9 Try.underlying12 Try.underlying15 Try.underlying16 Try.underlying17 Try.underlying20 Try.underlying21 Try.underlying22 Try.underlying25 Try.underlying29 Try.underlying32 Try.underlying54 Try.underlying58 Try.underlying90 Try.underlying117 Try.underlying118 Try.underlying6 Try.underlying10 Try.underlying11 Try.underlying35
attribute [go_sem] List.length_take List.length_drop List.length_append List.length_cons List.length_nil List.length_map List.take_length Int.toNat_sub List.length_replicate List.take_replicate Nat.min_self ne_eq not_false_eq_true true_and and_true
attribute [go_sem ↓] nilA
end Go.Proofs.Try

namespace Go.Proofs.Try
set_option linter.unusedSimpArgs false
open Go.PM
set_option maxHeartbeats 4000000

def putB (out : List UInt8) (a : Nat) (x : List UInt8) : List UInt8 := out.take a ++ x ++ out.drop (a + x.length)
theorem putB_length {out x : List UInt8} {a : Nat} (h : a + x.length ≤ out.length) : (putB out a x).length = out.length := by
  simp [putB]; omega
def doneTo (b : List UInt8) (q : List DOp) (far : Nat → Nat) (i : Nat) : List UInt8 :=
  (List.range i).foldl (fun out k => putB out (q.getD k op0).at_.toNat ((q.getD k op0).bytes.take (far k))) b
theorem doneTo_succ (b : List UInt8) (q : List DOp) (far : Nat → Nat) (i : Nat) : doneTo b q far (i + 1) = putB (doneTo b q far i) (q.getD i op0).at_.toNat ((q.getD i op0).bytes.take (far i)) := by
  simp [doneTo, List.range_succ]
/-- The writes lie within the bytes. -/
def within (n : Nat) (q : List DOp) : Prop := ∀ i, i < q.length → 0 ≤ (q.getD i op0).at_ ∧ (q.getD i op0).at_ + (q.getD i op0).bytes.length ≤ n
theorem doneTo_length {b : List UInt8} {q : List DOp} {far : Nat → Nat} (hw : within b.length q) : ∀ i, i ≤ q.length → (doneTo b q far i).length = b.length := by
  intro i
  induction i with
  | zero => intro _; rfl
  | succ i ih =>
    intro hi
    have h1 := hw i (by omega)
    have h2 := ih (by omega)
    rw [doneTo_succ, putB_length, h2]
    rw [h2, List.length_take]
    omega

theorem c59 (b : List UInt8) (q : List DOp) (f : FuncId) (caps : List AV) (hcaps : pureL caps = true) (far : Nat → Nat) (hf : ∀ i, i < q.length → PureT Try.prog f (.val (.int .i64 (i : Nat)) :: caps) (· = .val (.int .i64 (far i : Nat)))) (hfar : ∀ i, i < q.length → far i ≤ (q.getD i op0).bytes.length)
    (hw : within b.length q) (hb : b.length ≤ 4000000) (hq : q.length ≤ 4000000) : PureT Try.prog 59 [.sl false (bs b), .sl false (opvs q), .fn f caps] (· = .sl false (bs (doneTo b q far q.length))) := by
  refine CallT.res ?_
  refine CallT.intro Try.func59 (by decide) rfl ?_
  simp -implicitDefEqProofs only [go_sem, ↓reduceIte, Nat.reduceLT, Nat.reduceEqDiff, Nat.reduceAdd, Nat.reduceSub, Nat.reduceBEq, Nat.reduceLeDiff, Int.reduceToNat, reduceCtorEq, pureL_under _ caps hcaps, enterTm, Try.ntmps59, List.range'_succ, List.range'_zero, List.zip_cons_cons, List.zip_nil_left]
  refine CodeT.seqR ?_
  simp -implicitDefEqProofs only [go_sem, ↓reduceIte, Nat.reduceLT, Nat.reduceEqDiff, Nat.reduceAdd, Nat.reduceSub, Nat.reduceBEq, Nat.reduceLeDiff, Int.reduceToNat, reduceCtorEq, pureL_under _ caps hcaps, Try.results59]
  refine CodeT.seqR ?_
  simp -implicitDefEqProofs only [go_sem, ↓reduceIte, Nat.reduceLT, Nat.reduceEqDiff, Nat.reduceAdd, Nat.reduceSub, Nat.reduceBEq, Nat.reduceLeDiff, Int.reduceToNat, reduceCtorEq, pureL_under _ caps hcaps, Try.results59]
  refine (c55 _ _ ?_).mono ?_
  assumption
  rintro r1 h1 ⟨v1, rfl, rfl⟩
  simp -implicitDefEqProofs only [go_sem, ↓reduceIte, Nat.reduceLT, Nat.reduceEqDiff, Nat.reduceAdd, Nat.reduceSub, Nat.reduceBEq, Nat.reduceLeDiff, Int.reduceToNat, reduceCtorEq, pureL_under _ caps hcaps, Try.results59]
  refine CodeT.seq ?_
  refine CodeT.seqR ?_
  simp -implicitDefEqProofs only [go_sem, ↓reduceIte, Nat.reduceLT, Nat.reduceEqDiff, Nat.reduceAdd, Nat.reduceSub, Nat.reduceBEq, Nat.reduceLeDiff, Int.reduceToNat, reduceCtorEq, pureL_under _ caps hcaps, Try.results59]
  refine CodeT.block ?_
  refine CodeT.whileS (fun i : Nat => [(14, .val (.int .i64 (i : Nat)))]) [13, 12, 7, 2] (fun i : Nat => [.row true _ 1 (bs (doneTo b q far i))]) (fun i : Nat => i ≤ q.length) (fun i : Nat => q.length - i) (0) ?_ rfl ?_ ?_
  omega
  refine ⟨rfl, ?_, ?_, rfl, ?_⟩
  simp -implicitDefEqProofs only [go_sem, ↓reduceIte, Nat.reduceLT, Nat.reduceEqDiff, Nat.reduceAdd, Nat.reduceSub, Nat.reduceBEq, Nat.reduceLeDiff, Int.reduceToNat, reduceCtorEq, pureL_under _ caps hcaps, Try.results59, or_true, true_or, false_or, or_false, implies_true, Int.natCast_add, Int.cast_ofNat_Int, keepsD_nil]
  trivial
  simp -implicitDefEqProofs only [go_sem, ↓reduceIte, Nat.reduceLT, Nat.reduceEqDiff, Nat.reduceAdd, Nat.reduceSub, Nat.reduceBEq, Nat.reduceLeDiff, Int.reduceToNat, reduceCtorEq, pureL_under _ caps hcaps, Try.results59, or_true, true_or, false_or, or_false, implies_true, Int.natCast_add, Int.cast_ofNat_Int, keepsD_nil]
  trivial
  simp -implicitDefEqProofs only [go_sem, ↓reduceIte, Nat.reduceLT, Nat.reduceEqDiff, Nat.reduceAdd, Nat.reduceSub, Nat.reduceBEq, Nat.reduceLeDiff, Int.reduceToNat, reduceCtorEq, pureL_under _ caps hcaps, Try.results59, or_true, true_or, false_or, or_false, implies_true, Int.natCast_add, Int.cast_ofNat_Int, keepsD_nil]
  rintro i hi
  have f1 := hw i
  have f2 := hfar i
  have f3 := doneTo_length (far := far) hw i hi
  simp -implicitDefEqProofs only [go_sem, ↓reduceIte, Nat.reduceLT, Nat.reduceEqDiff, Nat.reduceAdd, Nat.reduceSub, Nat.reduceBEq, Nat.reduceLeDiff, Int.reduceToNat, reduceCtorEq, pureL_under _ caps hcaps, Try.results59]
  refine CodeT.seqR ?_
  simp -implicitDefEqProofs only [go_sem, ↓reduceIte, Nat.reduceLT, Nat.reduceEqDiff, Nat.reduceAdd, Nat.reduceSub, Nat.reduceBEq, Nat.reduceLeDiff, Int.reduceToNat, reduceCtorEq, pureL_under _ caps hcaps, Try.results59]
  refine CodeT.seq (CodeT.cond rfl (fun g2 => ?_) (fun g2 => ?_))
  have d2 := ofDec g2
  refine CodeT.skip ?_
  simp -implicitDefEqProofs only [go_sem, ↓reduceIte, Nat.reduceLT, Nat.reduceEqDiff, Nat.reduceAdd, Nat.reduceSub, Nat.reduceBEq, Nat.reduceLeDiff, Int.reduceToNat, reduceCtorEq, pureL_under _ caps hcaps, Try.results59, g2]
  refine CodeT.seq (CodeT.block ?_)
  refine CodeT.seqR ?_
  simp -implicitDefEqProofs only [go_sem, ↓reduceIte, Nat.reduceLT, Nat.reduceEqDiff, Nat.reduceAdd, Nat.reduceSub, Nat.reduceBEq, Nat.reduceLeDiff, Int.reduceToNat, reduceCtorEq, pureL_under _ caps hcaps, Try.results59, g2]
  refine And.intro (by omega) ?_
  refine And.intro (by assumption) ?_
  simp -implicitDefEqProofs (disch := omega) only [i64_in, bs_getD, opvs_getD, is64_getD, bss_getD]
  simp -implicitDefEqProofs only [go_sem, ↓reduceIte, Nat.reduceLT, Nat.reduceEqDiff, Nat.reduceAdd, Nat.reduceSub, Nat.reduceBEq, Nat.reduceLeDiff, Int.reduceToNat, reduceCtorEq, pureL_under _ caps hcaps, Try.results59, g2]
  refine CodeT.drawnL [(0, .free), (1, .free), (4, .free), (6, .free), (7, .free), (8, .free), (2, .read), (5, .read), (9, .read), (3, .upd), (10, .upd)] mixed (by kernel_rfl) ?_
  simp -implicitDefEqProofs only [go_sem, ↓reduceIte, Nat.reduceLT, Nat.reduceEqDiff, Nat.reduceAdd, Nat.reduceSub, Nat.reduceBEq, Nat.reduceLeDiff, Int.reduceToNat, reduceCtorEq, pureL_under _ caps hcaps, Try.results59, g2]
  refine CallF.go (hf _ ?_) (all_pure rfl (by assumption)) ?_
  omega
  simp -implicitDefEqProofs only [go_sem, ↓reduceIte, Nat.reduceLT, Nat.reduceEqDiff, Nat.reduceAdd, Nat.reduceSub, Nat.reduceBEq, Nat.reduceLeDiff, Int.reduceToNat, reduceCtorEq, pureL_under _ caps hcaps, Try.results59, g2]
  refine And.intro (by trivial) ?_
  refine And.intro (by exact uni_bs _) ?_
  refine And.intro (by omega) ?_
  refine And.intro (by omega) ?_
  refine And.intro (by omega) ?_
  refine And.intro (by omega) ?_
  refine And.intro (by omega) ?_
  refine And.intro (by omega) ?_
  refine And.intro (by omega) ?_
  refine And.intro (by exact Stable.refl _) ?_
  refine And.intro (by omega) ?_
  refine And.intro (by exact uni_bs _) ?_
  refine And.intro (by omega) ?_
  refine And.intro (by exact Stable.row (Stable.refl _)) ?_
  refine CodeT.region ?_
  simp -implicitDefEqProofs only [go_sem, ↓reduceIte, Nat.reduceLT, Nat.reduceEqDiff, Nat.reduceAdd, Nat.reduceSub, Nat.reduceBEq, Nat.reduceLeDiff, Int.reduceToNat, reduceCtorEq, pureL_under _ caps hcaps, Try.results59, g2]
  simp -implicitDefEqProofs (disch := omega) only [i64_in, bs_getD, opvs_getD, is64_getD, bss_getD]
  refine ⟨i + 1, ?_⟩
  refine And.intro ?_ ?_
  omega
  refine And.intro ?_ ?_
  omega
  refine ⟨rfl, ?_, ?_, rfl, ?_⟩
  simp -implicitDefEqProofs only [go_sem, ↓reduceIte, Nat.reduceLT, Nat.reduceEqDiff, Nat.reduceAdd, Nat.reduceSub, Nat.reduceBEq, Nat.reduceLeDiff, Int.reduceToNat, reduceCtorEq, pureL_under _ caps hcaps, Try.results59, g2, or_true, true_or, false_or, or_false, implies_true, Int.natCast_add, Int.cast_ofNat_Int, keepsD_nil]
  trivial
  simp -implicitDefEqProofs only [go_sem, ↓reduceIte, Nat.reduceLT, Nat.reduceEqDiff, Nat.reduceAdd, Nat.reduceSub, Nat.reduceBEq, Nat.reduceLeDiff, Int.reduceToNat, reduceCtorEq, pureL_under _ caps hcaps, Try.results59, g2, or_true, true_or, false_or, or_false, implies_true, Int.natCast_add, Int.cast_ofNat_Int, keepsD_nil]
  rotate_left
  simp -implicitDefEqProofs only [go_sem, ↓reduceIte, Nat.reduceLT, Nat.reduceEqDiff, Nat.reduceAdd, Nat.reduceSub, Nat.reduceBEq, Nat.reduceLeDiff, Int.reduceToNat, reduceCtorEq, pureL_under _ caps hcaps, Try.results59, g2, or_true, true_or, false_or, or_false, implies_true, Int.natCast_add, Int.cast_ofNat_Int, keepsD_nil]
  have d2 := ofDecF g2
  refine CodeT.exit ?_
  simp -implicitDefEqProofs only [go_sem, ↓reduceIte, Nat.reduceLT, Nat.reduceEqDiff, Nat.reduceAdd, Nat.reduceSub, Nat.reduceBEq, Nat.reduceLeDiff, Int.reduceToNat, reduceCtorEq, pureL_under _ caps hcaps, Try.results59, g2]
  refine CodeT.seqR ?_
  simp -implicitDefEqProofs only [go_sem, ↓reduceIte, Nat.reduceLT, Nat.reduceEqDiff, Nat.reduceAdd, Nat.reduceSub, Nat.reduceBEq, Nat.reduceLeDiff, Int.reduceToNat, reduceCtorEq, pureL_under _ caps hcaps, Try.results59, g2]
  refine CodeT.ret ?_
  simp -implicitDefEqProofs only [go_sem, ↓reduceIte, Nat.reduceLT, Nat.reduceEqDiff, Nat.reduceAdd, Nat.reduceSub, Nat.reduceBEq, Nat.reduceLeDiff, Int.reduceToNat, reduceCtorEq, pureL_under _ caps hcaps, Try.results59, g2]
  refine And.intro (by omega) ?_
  refine pureEnd rfl ?_
  rotate_left
  · rw [doneTo_succ, putB, List.length_take]
  · have : i = q.length := by omega
    subst this
    rw [List.take_of_length_le (by omega)]

theorem isDisk_sound {d : Dsk} (h : isDiskB d = true) : sizeB d.bytes.length = true ∧ within d.bytes.length d.queue ∧ ∀ i, i < d.queue.length → (d.queue.getD i op0).flush = false ∧ 0 < (d.queue.getD i op0).bytes.length := by
  unfold isDiskB at h
  simp only [Bool.and_eq_true, Bool.not_eq_true'] at h
  obtain ⟨h1, h2⟩ := h
  have key : ∀ i, i < d.queue.length → badOp d.bytes.length (d.queue.getD i op0) = false := by
    intro i hi
    have := List.any_eq_false.1 h2 (d.queue.getD i op0) (by simp [List.getD_eq_getElem?_getD, hi])
    simpa using this
  refine ⟨h1, fun i hi => ?_, fun i hi => ?_⟩
  · have := key i hi
    generalize d.queue.getD i op0 = o at *
    simp [badOp, fitsB] at this
    obtain ⟨h3, h4⟩ := this
    rw [h3] at h4
    simp at h4
    omega
  · have := key i hi
    generalize d.queue.getD i op0 = o at *
    simp [badOp, fitsB] at this
    obtain ⟨h3, h4⟩ := this
    rw [h3] at h4
    simp at h4
    exact ⟨h3, by have := h4.1; cases hb : o.bytes with
      | nil => simp [hb] at this
      | cons x l => simp⟩

def seenB (d : Dsk) : List UInt8 := doneTo d.bytes d.queue (fun i => (d.queue.getD i op0).bytes.length) d.queue.length
theorem seenB_length {d : Dsk} (hw : within d.bytes.length d.queue) : (seenB d).length = d.bytes.length := doneTo_length hw _ (Nat.le_refl _)

theorem c59s (d : Dsk) (hw : within d.bytes.length d.queue) (hb : d.bytes.length ≤ 4000000) (hq : d.queue.length ≤ 4000000) : PureT Try.prog 59 [.sl false (bs d.bytes), .sl false (opvs d.queue), .fn 102 [dcp d]] (· = .sl false (bs (seenB d))) :=
  c59 _ _ _ _ rfl (fun i => (d.queue.getD i op0).bytes.length) (fun i hi => c102 d i hi) (fun i _ => Nat.le_refl _) hw hb hq
theorem c58 (d : Dsk) (hw : within d.bytes.length d.queue) (hb0 : 0 < d.bytes.length) (hb : d.bytes.length ≤ 4000000) (hq : d.queue.length ≤ 4000000) : PureT Try.prog 58 [dkv d] (· = kpv d (seenB d) (halfAt (seenB d) : Nat)) := by
  refine CallT.res ?_
  have hl := seenB_length hw
  refine CallT.intro Try.func58 (by decide) rfl ?_
  simp -implicitDefEqProofs only [go_sem, ↓reduceIte, Nat.reduceLT, Nat.reduceEqDiff, Nat.reduceAdd, Nat.reduceSub, Nat.reduceBEq, Nat.reduceLeDiff, Int.reduceToNat, reduceCtorEq, enterTm, Try.ntmps58, List.range'_succ, List.range'_zero, List.zip_cons_cons, List.zip_nil_left]
  refine CodeT.seqR ?_
  simp -implicitDefEqProofs only [go_sem, ↓reduceIte, Nat.reduceLT, Nat.reduceEqDiff, Nat.reduceAdd, Nat.reduceSub, Nat.reduceBEq, Nat.reduceLeDiff, Int.reduceToNat, reduceCtorEq, Try.results58]
  refine CodeT.freeze 1 ?_
  simp -implicitDefEqProofs only [go_sem, ↓reduceIte, Nat.reduceLT, Nat.reduceEqDiff, Nat.reduceAdd, Nat.reduceSub, Nat.reduceBEq, Nat.reduceLeDiff, Int.reduceToNat, reduceCtorEq, Try.results58]
  refine CodeT.seqR ?_
  simp -implicitDefEqProofs only [go_sem, ↓reduceIte, Nat.reduceLT, Nat.reduceEqDiff, Nat.reduceAdd, Nat.reduceSub, Nat.reduceBEq, Nat.reduceLeDiff, Int.reduceToNat, reduceCtorEq, Try.results58]
  refine PureT.eq (c59s d hw hb hq) rfl ?_
  simp -implicitDefEqProofs only [go_sem, ↓reduceIte, Nat.reduceLT, Nat.reduceEqDiff, Nat.reduceAdd, Nat.reduceSub, Nat.reduceBEq, Nat.reduceLeDiff, Int.reduceToNat, reduceCtorEq, Try.results58]
  refine CodeT.seqD [(1, .free), (2, .free), (3, .free), (0, .read), (4, .free), (5, .upd), (6, .free)] mixed (by kernel_rfl) ?_
  simp -implicitDefEqProofs only [go_sem, ↓reduceIte, Nat.reduceLT, Nat.reduceEqDiff, Nat.reduceAdd, Nat.reduceSub, Nat.reduceBEq, Nat.reduceLeDiff, Int.reduceToNat, reduceCtorEq, Try.results58]
  refine CallF.go (c103 _ ?_ ?_) rfl ?_
  omega
  omega
  simp -implicitDefEqProofs only [go_sem, ↓reduceIte, Nat.reduceLT, Nat.reduceEqDiff, Nat.reduceAdd, Nat.reduceSub, Nat.reduceBEq, Nat.reduceLeDiff, Int.reduceToNat, reduceCtorEq, Try.results58]
  refine And.intro (by exact Stable.append [_] [_]) ?_
  refine CodeT.ret ?_
  simp -implicitDefEqProofs only [go_sem, ↓reduceIte, Nat.reduceLT, Nat.reduceEqDiff, Nat.reduceAdd, Nat.reduceSub, Nat.reduceBEq, Nat.reduceLeDiff, Int.reduceToNat, reduceCtorEq, Try.results58]
  refine pureEnd rfl ?_
  rotate_left
  rfl
/-- A keeper as it should be. -/
structure KOK (d : Dsk) (seen : List UInt8) (half : Nat) : Prop where
  b : d.bytes.length ≤ 4000000
  s : seen.length = d.bytes.length
  o : d.bytes.length % 2 = 1
  z : 64 ≤ d.bytes.length / 2
  h : half = 1 ∨ half = 1 + d.bytes.length / 2
theorem KOK.top {d : Dsk} {seen : List UInt8} {half : Nat} (k : KOK d seen half) : half + d.bytes.length / 2 ≤ d.bytes.length := by
  have := k.h; have := k.o; have := k.z
  omega
theorem usedB_length {d : Dsk} {seen : List UInt8} {half : Nat} (k : KOK d seen half) : (usedB d seen half).length = d.bytes.length / 2 := by
  have := k.top; have := k.s
  simp [usedB]; omega
def writtenB (d : Dsk) (seen : List UInt8) (half : Nat) : Bool := decide (((parseR (usedB d seen half)).length : Int) > 0)
theorem c67 (d : Dsk) (seen : List UInt8) (half : Nat) (k : KOK d seen half) : PureT Try.prog 67 [kpv d seen half] (· = .val (.bool (writtenB d seen half))) := by
  have h1 := k.top; have h2 := k.s; have h3 := k.b; have h4 := usedB_length k
  refine CallT.intro Try.func67 (by decide) rfl ?_
  simp -implicitDefEqProofs only [go_sem, ↓reduceIte, Nat.reduceLT, Nat.reduceEqDiff, Nat.reduceAdd, Nat.reduceSub, Nat.reduceBEq, Nat.reduceLeDiff, Int.reduceToNat, reduceCtorEq, enterTm, Try.ntmps67, List.range'_succ, List.range'_zero, List.zip_cons_cons, List.zip_nil_left]
  refine CodeT.seqR ?_
  simp -implicitDefEqProofs only [go_sem, ↓reduceIte, Nat.reduceLT, Nat.reduceEqDiff, Nat.reduceAdd, Nat.reduceSub, Nat.reduceBEq, Nat.reduceLeDiff, Int.reduceToNat, reduceCtorEq, Try.results67]
  refine CodeT.seqR ?_
  simp -implicitDefEqProofs only [go_sem, ↓reduceIte, Nat.reduceLT, Nat.reduceEqDiff, Nat.reduceAdd, Nat.reduceSub, Nat.reduceBEq, Nat.reduceLeDiff, Int.reduceToNat, reduceCtorEq, Try.results67]
  refine PureT.eq (c62 _ _ _ ?_ ?_ ?_) rfl ?_
  assumption
  omega
  omega
  simp -implicitDefEqProofs only [go_sem, ↓reduceIte, Nat.reduceLT, Nat.reduceEqDiff, Nat.reduceAdd, Nat.reduceSub, Nat.reduceBEq, Nat.reduceLeDiff, Int.reduceToNat, reduceCtorEq, Try.results67]
  refine PureT.eq (c14 _ ?_) rfl ?_
  omega
  simp -implicitDefEqProofs only [go_sem, ↓reduceIte, Nat.reduceLT, Nat.reduceEqDiff, Nat.reduceAdd, Nat.reduceSub, Nat.reduceBEq, Nat.reduceLeDiff, Int.reduceToNat, reduceCtorEq, Try.results67]
  refine CodeT.seqR ?_
  simp -implicitDefEqProofs only [go_sem, ↓reduceIte, Nat.reduceLT, Nat.reduceEqDiff, Nat.reduceAdd, Nat.reduceSub, Nat.reduceBEq, Nat.reduceLeDiff, Int.reduceToNat, reduceCtorEq, Try.results67]
  refine CodeT.ret ?_
  simp -implicitDefEqProofs only [go_sem, ↓reduceIte, Nat.reduceLT, Nat.reduceEqDiff, Nat.reduceAdd, Nat.reduceSub, Nat.reduceBEq, Nat.reduceLeDiff, Int.reduceToNat, reduceCtorEq, Try.results67]
  refine pureEnd rfl ?_
  simp only [writtenB, Bool.true_and, Bool.false_and, Bool.and_true, Bool.and_false, Bool.true_or, Bool.false_or, Bool.or_true, Bool.or_false, Bool.not_true, Bool.not_false, Bool.false_eq_true, ↓reduceIte]
end Go.Proofs.Try

namespace Go.Proofs.Try
set_option linter.unusedSimpArgs false
set_option linter.unusedVariables false
open Go.PM
set_option maxHeartbeats 4000000

theorem recs_end_le : ∀ (f : Nat) (l : List UInt8) (a : Nat) (p : List UInt8 × Nat), p ∈ recs f l a → p.2 ≤ a + l.length := by
  intro f
  induction f with
  | zero => intro l a p h; simp [recs] at h
  | succ f ih =>
    intro l a p h
    unfold recs at h
    split at h
    · simp at h
    · rename_i q m hs
      obtain ⟨h1, h2, _⟩ := scan1_pos hs
      rcases List.mem_cons.1 h with rfl | h
      · simp; omega
      · have := ih _ _ _ h
        rw [List.length_drop] at this
        omega
theorem parseE_le (b : List UInt8) : parseE b ≤ b.length := by
  unfold parseE endAt
  cases h : (parseAll b).getLast? with
  | none => simp
  | some p =>
    have := recs_end_le _ _ _ p (List.mem_of_getLast? h)
    simp; omega
def oldB (d : Dsk) (half : Nat) : List UInt8 := (d.bytes.drop half).take (d.bytes.length / 2)
theorem oldB_length {d : Dsk} {seen : List UInt8} {half : Nat} (k : KOK d seen half) : (oldB d half).length = d.bytes.length / 2 := by
  have := k.top
  simp [oldB]; omega
def cleanB (d : Dsk) (seen : List UInt8) (half : Nat) : Bool :=
  if (!zerosB ((usedB d seen half).drop (parseE (usedB d seen half)))) = true then false
  else if (((halfAt d.bytes : Nat) : Int) != ((half : Nat) : Int)) = true then false
  else zerosB ((oldB d half).drop (parseE (oldB d half)))
theorem c104s (d : Dsk) (seen : List UInt8) (half : Nat) (hd : d.bytes.length ≤ 4000000) (hh : half + d.bytes.length / 2 ≤ d.bytes.length) :
    PureT Try.prog 104 [kpv d seen (half : Nat), .sl false (bs d.bytes), .val (.int .i64 (half : Nat))] (· = .sl false (bs (oldB d half))) := c104 d seen half d.bytes half hd hd hh
theorem c68 (d : Dsk) (seen : List UInt8) (half : Nat) (k : KOK d seen half) : PureT Try.prog 68 [kpv d seen half] (· = .val (.bool (cleanB d seen half))) := by
  have h1 := k.top; have h2 := k.s; have h3 := k.b; have h4 := usedB_length k
  have h5 := parseE_le (usedB d seen half); have h6 := parseE_le (oldB d half); have h7 := oldB_length k; have h8 := k.z
  unfold kpv
  refine CallT.intro Try.func68 (by decide) rfl ?_
  simp -implicitDefEqProofs only [go_sem, ↓reduceIte, Nat.reduceLT, Nat.reduceEqDiff, Nat.reduceAdd, Nat.reduceSub, Nat.reduceBEq, Nat.reduceLeDiff, Int.reduceToNat, reduceCtorEq, enterTm, Try.ntmps68, List.range'_succ, List.range'_zero, List.zip_cons_cons, List.zip_nil_left]
  refine CodeT.seqR ?_
  simp -implicitDefEqProofs only [go_sem, ↓reduceIte, Nat.reduceLT, Nat.reduceEqDiff, Nat.reduceAdd, Nat.reduceSub, Nat.reduceBEq, Nat.reduceLeDiff, Int.reduceToNat, reduceCtorEq, Try.results68]
  refine CodeT.seqR ?_
  simp -implicitDefEqProofs only [go_sem, ↓reduceIte, Nat.reduceLT, Nat.reduceEqDiff, Nat.reduceAdd, Nat.reduceSub, Nat.reduceBEq, Nat.reduceLeDiff, Int.reduceToNat, reduceCtorEq, Try.results68]
  refine PureT.eq (c62 _ _ _ ?_ ?_ ?_) rfl ?_
  assumption
  omega
  omega
  simp -implicitDefEqProofs only [go_sem, ↓reduceIte, Nat.reduceLT, Nat.reduceEqDiff, Nat.reduceAdd, Nat.reduceSub, Nat.reduceBEq, Nat.reduceLeDiff, Int.reduceToNat, reduceCtorEq, Try.results68]
  refine PureT.eq (c14 _ ?_) rfl ?_
  omega
  simp -implicitDefEqProofs only [go_sem, ↓reduceIte, Nat.reduceLT, Nat.reduceEqDiff, Nat.reduceAdd, Nat.reduceSub, Nat.reduceBEq, Nat.reduceLeDiff, Int.reduceToNat, reduceCtorEq, Try.results68]
  refine CodeT.seq ?_
  refine CodeT.seqR ?_
  simp -implicitDefEqProofs only [go_sem, ↓reduceIte, Nat.reduceLT, Nat.reduceEqDiff, Nat.reduceAdd, Nat.reduceSub, Nat.reduceBEq, Nat.reduceLeDiff, Int.reduceToNat, reduceCtorEq, Try.results68]
  refine PureT.eq (c62 _ _ _ ?_ ?_ ?_) rfl ?_
  assumption
  omega
  omega
  simp -implicitDefEqProofs only [go_sem, ↓reduceIte, Nat.reduceLT, Nat.reduceEqDiff, Nat.reduceAdd, Nat.reduceSub, Nat.reduceBEq, Nat.reduceLeDiff, Int.reduceToNat, reduceCtorEq, Try.results68]
  refine And.intro (by exact uni_bs _) ?_
  refine And.intro (by omega) ?_
  refine And.intro (by omega) ?_
  refine And.intro (by omega) ?_
  refine PureT.eq (c63 _ ?_) rfl ?_
  (simp [cleanB, *]; omega)
  simp -implicitDefEqProofs only [go_sem, ↓reduceIte, Nat.reduceLT, Nat.reduceEqDiff, Nat.reduceAdd, Nat.reduceSub, Nat.reduceBEq, Nat.reduceLeDiff, Int.reduceToNat, reduceCtorEq, Try.results68]
  refine CodeT.cond rfl (fun g13 => ?_) (fun g13 => ?_)
  refine CodeT.seqR ?_
  simp -implicitDefEqProofs only [go_sem, ↓reduceIte, Nat.reduceLT, Nat.reduceEqDiff, Nat.reduceAdd, Nat.reduceSub, Nat.reduceBEq, Nat.reduceLeDiff, Int.reduceToNat, reduceCtorEq, Try.results68, g13]
  refine CodeT.ret ?_
  simp -implicitDefEqProofs only [go_sem, ↓reduceIte, Nat.reduceLT, Nat.reduceEqDiff, Nat.reduceAdd, Nat.reduceSub, Nat.reduceBEq, Nat.reduceLeDiff, Int.reduceToNat, reduceCtorEq, Try.results68, g13]
  refine pureEnd rfl ?_
  simp only [cleanB, g13, Bool.true_and, Bool.false_and, Bool.and_true, Bool.and_false, Bool.true_or, Bool.false_or, Bool.or_true, Bool.or_false, Bool.not_true, Bool.not_false, Bool.false_eq_true, ↓reduceIte]
  refine CodeT.skip ?_
  simp -implicitDefEqProofs only [go_sem, ↓reduceIte, Nat.reduceLT, Nat.reduceEqDiff, Nat.reduceAdd, Nat.reduceSub, Nat.reduceBEq, Nat.reduceLeDiff, Int.reduceToNat, reduceCtorEq, Try.results68, g13]
  refine CodeT.seq ?_
  refine CodeT.seqD [(0, .free), (1, .free), (2, .free), (3, .free), (6, .free), (7, .free), (8, .free), (4, .read), (5, .free), (9, .read), (10, .free)] mixed (by kernel_rfl) ?_
  simp -implicitDefEqProofs only [go_sem, ↓reduceIte, Nat.reduceLT, Nat.reduceEqDiff, Nat.reduceAdd, Nat.reduceSub, Nat.reduceBEq, Nat.reduceLeDiff, Int.reduceToNat, reduceCtorEq, Try.results68, g13]
  refine CallF.go (c103 _ ?_ ?_) rfl ?_
  omega
  assumption
  simp -implicitDefEqProofs only [go_sem, ↓reduceIte, Nat.reduceLT, Nat.reduceEqDiff, Nat.reduceAdd, Nat.reduceSub, Nat.reduceBEq, Nat.reduceLeDiff, Int.reduceToNat, reduceCtorEq, Try.results68, g13]
  refine CodeT.cond rfl (fun g14 => ?_) (fun g14 => ?_)
  have d14 := ofBne g14
  refine CodeT.seqR ?_
  simp -implicitDefEqProofs only [go_sem, ↓reduceIte, Nat.reduceLT, Nat.reduceEqDiff, Nat.reduceAdd, Nat.reduceSub, Nat.reduceBEq, Nat.reduceLeDiff, Int.reduceToNat, reduceCtorEq, Try.results68, g13, g14]
  refine CodeT.ret ?_
  simp -implicitDefEqProofs only [go_sem, ↓reduceIte, Nat.reduceLT, Nat.reduceEqDiff, Nat.reduceAdd, Nat.reduceSub, Nat.reduceBEq, Nat.reduceLeDiff, Int.reduceToNat, reduceCtorEq, Try.results68, g13, g14]
  refine pureEnd rfl ?_
  simp only [cleanB, g13, g14, Bool.true_and, Bool.false_and, Bool.and_true, Bool.and_false, Bool.true_or, Bool.false_or, Bool.or_true, Bool.or_false, Bool.not_true, Bool.not_false, Bool.false_eq_true, ↓reduceIte]
  have d14 := ofBneF g14
  refine CodeT.skip ?_
  simp -implicitDefEqProofs only [go_sem, ↓reduceIte, Nat.reduceLT, Nat.reduceEqDiff, Nat.reduceAdd, Nat.reduceSub, Nat.reduceBEq, Nat.reduceLeDiff, Int.reduceToNat, reduceCtorEq, Try.results68, g13, g14]
  refine CodeT.seqD [(0, .free), (1, .free), (2, .free), (3, .free), (4, .free), (6, .free), (7, .free), (8, .free), (5, .read), (9, .read), (10, .free), (11, .free)] mixed (by kernel_rfl) ?_
  simp -implicitDefEqProofs only [go_sem, ↓reduceIte, Nat.reduceLT, Nat.reduceEqDiff, Nat.reduceAdd, Nat.reduceSub, Nat.reduceBEq, Nat.reduceLeDiff, Int.reduceToNat, reduceCtorEq, Try.results68, g13, g14]
  refine CallF.go (c104s _ _ _ ?_ ?_) rfl ?_
  assumption
  assumption
  simp -implicitDefEqProofs only [go_sem, ↓reduceIte, Nat.reduceLT, Nat.reduceEqDiff, Nat.reduceAdd, Nat.reduceSub, Nat.reduceBEq, Nat.reduceLeDiff, Int.reduceToNat, reduceCtorEq, Try.results68, g13, g14]
  refine CodeT.seqR ?_
  simp -implicitDefEqProofs only [go_sem, ↓reduceIte, Nat.reduceLT, Nat.reduceEqDiff, Nat.reduceAdd, Nat.reduceSub, Nat.reduceBEq, Nat.reduceLeDiff, Int.reduceToNat, reduceCtorEq, Try.results68, g13, g14]
  refine PureT.eq (c14 _ ?_) rfl ?_
  omega
  simp -implicitDefEqProofs only [go_sem, ↓reduceIte, Nat.reduceLT, Nat.reduceEqDiff, Nat.reduceAdd, Nat.reduceSub, Nat.reduceBEq, Nat.reduceLeDiff, Int.reduceToNat, reduceCtorEq, Try.results68, g13, g14]
  refine CodeT.seqR ?_
  simp -implicitDefEqProofs only [go_sem, ↓reduceIte, Nat.reduceLT, Nat.reduceEqDiff, Nat.reduceAdd, Nat.reduceSub, Nat.reduceBEq, Nat.reduceLeDiff, Int.reduceToNat, reduceCtorEq, Try.results68, g13, g14]
  refine And.intro (by exact uni_bs _) ?_
  refine And.intro (by omega) ?_
  refine And.intro (by omega) ?_
  refine And.intro (by omega) ?_
  refine PureT.eq (c63 _ ?_) rfl ?_
  (simp [cleanB, *]; omega)
  simp -implicitDefEqProofs only [go_sem, ↓reduceIte, Nat.reduceLT, Nat.reduceEqDiff, Nat.reduceAdd, Nat.reduceSub, Nat.reduceBEq, Nat.reduceLeDiff, Int.reduceToNat, reduceCtorEq, Try.results68, g13, g14]
  refine CodeT.ret ?_
  simp -implicitDefEqProofs only [go_sem, ↓reduceIte, Nat.reduceLT, Nat.reduceEqDiff, Nat.reduceAdd, Nat.reduceSub, Nat.reduceBEq, Nat.reduceLeDiff, Int.reduceToNat, reduceCtorEq, Try.results68, g13, g14]
  refine pureEnd rfl ?_
  simp only [cleanB, g13, g14, Bool.true_and, Bool.false_and, Bool.and_true, Bool.and_false, Bool.true_or, Bool.false_or, Bool.or_true, Bool.or_false, Bool.not_true, Bool.not_false, Bool.false_eq_true, ↓reduceIte]

theorem isDisk_ok {d : Dsk} (h : isDiskB d = true) : KOK d (seenB d) (halfAt (seenB d)) ∧ within d.bytes.length d.queue := by
  obtain ⟨h1, h2, h3⟩ := isDisk_sound h
  refine ⟨?_, h2⟩
  unfold sizeB at h1
  simp only [Bool.and_eq_true, decide_eq_true_eq] at h1
  have hs := seenB_length h2
  refine ⟨by omega, hs, h1.1.1, h1.1.2, ?_⟩
  unfold halfAt
  split
  · exact .inl rfl
  · rw [hs]; exact .inr rfl
def kOf (d : Dsk) : AV := kpv d (seenB d) (halfAt (seenB d) : Nat)
def wrB (d : Dsk) : Bool := writtenB d (seenB d) (halfAt (seenB d))
def clB (d : Dsk) : Bool := cleanB d (seenB d) (halfAt (seenB d))
def openedV (d : Dsk) (must : Bool) : AV :=
  if (!isDiskB d) = true then .tup [.val (.pointer none), .val (.int .i64 281)]
  else if (must && !wrB d) = true then .tup [.val (.pointer none), .val (.int .i64 280)]
  else .tup [kOf d, .val (.int .i64 0)]
/-- Few enough. -/
structure Few (d : Dsk) : Prop where
  b : d.bytes.length ≤ 4000000
  q : d.queue.length ≤ 4000000
theorem c61 (d : Dsk) (must : Bool) (hf : Few d) : PureT Try.prog 61 [dkv d, .val (.bool must)] (· = openedV d must) := by
  have h1 := hf.b; have h2 := hf.q
  cases hi : isDiskB d
  · refine CallT.intro Try.func61 (by decide) rfl ?_
    simp -implicitDefEqProofs only [go_sem, ↓reduceIte, Nat.reduceLT, Nat.reduceEqDiff, Nat.reduceAdd, Nat.reduceSub, Nat.reduceBEq, Nat.reduceLeDiff, Int.reduceToNat, reduceCtorEq, hi, enterTm, Try.ntmps61, List.range'_succ, List.range'_zero, List.zip_cons_cons, List.zip_nil_left]
    refine CodeT.seqR ?_
    simp -implicitDefEqProofs only [go_sem, ↓reduceIte, Nat.reduceLT, Nat.reduceEqDiff, Nat.reduceAdd, Nat.reduceSub, Nat.reduceBEq, Nat.reduceLeDiff, Int.reduceToNat, reduceCtorEq, hi, Try.results61]
    refine CodeT.seq ?_
    refine CodeT.seqR ?_
    simp -implicitDefEqProofs only [go_sem, ↓reduceIte, Nat.reduceLT, Nat.reduceEqDiff, Nat.reduceAdd, Nat.reduceSub, Nat.reduceBEq, Nat.reduceLeDiff, Int.reduceToNat, reduceCtorEq, hi, Try.results61]
    refine PureT.eq (c51 _ ?_ ?_) rfl ?_
    assumption
    assumption
    simp -implicitDefEqProofs only [go_sem, ↓reduceIte, Nat.reduceLT, Nat.reduceEqDiff, Nat.reduceAdd, Nat.reduceSub, Nat.reduceBEq, Nat.reduceLeDiff, Int.reduceToNat, reduceCtorEq, hi, Try.results61]
    refine CodeT.condT rfl ?_
    refine CodeT.seqR ?_
    simp -implicitDefEqProofs only [go_sem, ↓reduceIte, Nat.reduceLT, Nat.reduceEqDiff, Nat.reduceAdd, Nat.reduceSub, Nat.reduceBEq, Nat.reduceLeDiff, Int.reduceToNat, reduceCtorEq, hi, Try.results61]
    refine CodeT.ret ?_
    simp -implicitDefEqProofs only [go_sem, ↓reduceIte, Nat.reduceLT, Nat.reduceEqDiff, Nat.reduceAdd, Nat.reduceSub, Nat.reduceBEq, Nat.reduceLeDiff, Int.reduceToNat, reduceCtorEq, hi, Try.results61]
    refine pureEnd rfl ?_
    simp only [openedV, hi, Bool.true_and, Bool.false_and, Bool.and_true, Bool.and_false, Bool.true_or, Bool.false_or, Bool.or_true, Bool.or_false, Bool.not_true, Bool.not_false, Bool.false_eq_true, ↓reduceIte]
  obtain ⟨k, hw⟩ := isDisk_ok hi
  have h3 := k.z
  refine CallT.intro Try.func61 (by decide) rfl ?_
  simp -implicitDefEqProofs only [go_sem, ↓reduceIte, Nat.reduceLT, Nat.reduceEqDiff, Nat.reduceAdd, Nat.reduceSub, Nat.reduceBEq, Nat.reduceLeDiff, Int.reduceToNat, reduceCtorEq, hi, enterTm, Try.ntmps61, List.range'_succ, List.range'_zero, List.zip_cons_cons, List.zip_nil_left]
  refine CodeT.seqR ?_
  simp -implicitDefEqProofs only [go_sem, ↓reduceIte, Nat.reduceLT, Nat.reduceEqDiff, Nat.reduceAdd, Nat.reduceSub, Nat.reduceBEq, Nat.reduceLeDiff, Int.reduceToNat, reduceCtorEq, hi, Try.results61]
  refine CodeT.seq ?_
  refine CodeT.seqR ?_
  simp -implicitDefEqProofs only [go_sem, ↓reduceIte, Nat.reduceLT, Nat.reduceEqDiff, Nat.reduceAdd, Nat.reduceSub, Nat.reduceBEq, Nat.reduceLeDiff, Int.reduceToNat, reduceCtorEq, hi, Try.results61]
  refine PureT.eq (c51 _ ?_ ?_) rfl ?_
  assumption
  assumption
  simp -implicitDefEqProofs only [go_sem, ↓reduceIte, Nat.reduceLT, Nat.reduceEqDiff, Nat.reduceAdd, Nat.reduceSub, Nat.reduceBEq, Nat.reduceLeDiff, Int.reduceToNat, reduceCtorEq, hi, Try.results61]
  refine CodeT.condF rfl ?_
  refine CodeT.skip ?_
  simp -implicitDefEqProofs only [go_sem, ↓reduceIte, Nat.reduceLT, Nat.reduceEqDiff, Nat.reduceAdd, Nat.reduceSub, Nat.reduceBEq, Nat.reduceLeDiff, Int.reduceToNat, reduceCtorEq, hi, Try.results61]
  refine CodeT.seqR ?_
  simp -implicitDefEqProofs only [go_sem, ↓reduceIte, Nat.reduceLT, Nat.reduceEqDiff, Nat.reduceAdd, Nat.reduceSub, Nat.reduceBEq, Nat.reduceLeDiff, Int.reduceToNat, reduceCtorEq, hi, Try.results61]
  refine PureT.eq (c58 _ ?_ ?_ ?_ ?_) rfl ?_
  assumption
  omega
  assumption
  assumption
  simp -implicitDefEqProofs only [go_sem, ↓reduceIte, Nat.reduceLT, Nat.reduceEqDiff, Nat.reduceAdd, Nat.reduceSub, Nat.reduceBEq, Nat.reduceLeDiff, Int.reduceToNat, reduceCtorEq, hi, Try.results61]
  refine CodeT.seq ?_
  refine CodeT.seqR ?_
  simp -implicitDefEqProofs only [go_sem, ↓reduceIte, Nat.reduceLT, Nat.reduceEqDiff, Nat.reduceAdd, Nat.reduceSub, Nat.reduceBEq, Nat.reduceLeDiff, Int.reduceToNat, reduceCtorEq, hi, Try.results61]
  refine gif_i (fun g6 => ?_) (fun g6 => ?_)
  simp -implicitDefEqProofs only [go_sem, ↓reduceIte, Nat.reduceLT, Nat.reduceEqDiff, Nat.reduceAdd, Nat.reduceSub, Nat.reduceBEq, Nat.reduceLeDiff, Int.reduceToNat, reduceCtorEq, hi, Try.results61, g6]
  refine PureT.eq (c67 _ _ _ ?_) rfl ?_
  assumption
  simp -implicitDefEqProofs only [go_sem, ↓reduceIte, Nat.reduceLT, Nat.reduceEqDiff, Nat.reduceAdd, Nat.reduceSub, Nat.reduceBEq, Nat.reduceLeDiff, Int.reduceToNat, reduceCtorEq, hi, Try.results61, g6]
  refine CodeT.cond rfl (fun g8 => ?_) (fun g8 => ?_)
  refine CodeT.seqR ?_
  simp -implicitDefEqProofs only [go_sem, ↓reduceIte, Nat.reduceLT, Nat.reduceEqDiff, Nat.reduceAdd, Nat.reduceSub, Nat.reduceBEq, Nat.reduceLeDiff, Int.reduceToNat, reduceCtorEq, hi, Try.results61, g6, g8]
  refine CodeT.ret ?_
  simp -implicitDefEqProofs only [go_sem, ↓reduceIte, Nat.reduceLT, Nat.reduceEqDiff, Nat.reduceAdd, Nat.reduceSub, Nat.reduceBEq, Nat.reduceLeDiff, Int.reduceToNat, reduceCtorEq, hi, Try.results61, g6, g8]
  refine pureEnd rfl ?_
  simp only [openedV, hi, wrB, kOf, g6, g8, Bool.true_and, Bool.false_and, Bool.and_true, Bool.and_false, Bool.true_or, Bool.false_or, Bool.or_true, Bool.or_false, Bool.not_true, Bool.not_false, Bool.false_eq_true, ↓reduceIte]
  refine CodeT.skip ?_
  simp -implicitDefEqProofs only [go_sem, ↓reduceIte, Nat.reduceLT, Nat.reduceEqDiff, Nat.reduceAdd, Nat.reduceSub, Nat.reduceBEq, Nat.reduceLeDiff, Int.reduceToNat, reduceCtorEq, hi, Try.results61, g6, g8]
  refine CodeT.seqR ?_
  simp -implicitDefEqProofs only [go_sem, ↓reduceIte, Nat.reduceLT, Nat.reduceEqDiff, Nat.reduceAdd, Nat.reduceSub, Nat.reduceBEq, Nat.reduceLeDiff, Int.reduceToNat, reduceCtorEq, hi, Try.results61, g6, g8]
  refine CodeT.ret ?_
  simp -implicitDefEqProofs only [go_sem, ↓reduceIte, Nat.reduceLT, Nat.reduceEqDiff, Nat.reduceAdd, Nat.reduceSub, Nat.reduceBEq, Nat.reduceLeDiff, Int.reduceToNat, reduceCtorEq, hi, Try.results61, g6, g8]
  refine pureEnd rfl ?_
  simp only [openedV, hi, wrB, kOf, g6, g8, Bool.true_and, Bool.false_and, Bool.and_true, Bool.and_false, Bool.true_or, Bool.false_or, Bool.or_true, Bool.or_false, Bool.not_true, Bool.not_false, Bool.false_eq_true, ↓reduceIte]
  simp -implicitDefEqProofs only [go_sem, ↓reduceIte, Nat.reduceLT, Nat.reduceEqDiff, Nat.reduceAdd, Nat.reduceSub, Nat.reduceBEq, Nat.reduceLeDiff, Int.reduceToNat, reduceCtorEq, hi, Try.results61, g6]
  refine CodeT.condF rfl ?_
  refine CodeT.skip ?_
  simp -implicitDefEqProofs only [go_sem, ↓reduceIte, Nat.reduceLT, Nat.reduceEqDiff, Nat.reduceAdd, Nat.reduceSub, Nat.reduceBEq, Nat.reduceLeDiff, Int.reduceToNat, reduceCtorEq, hi, Try.results61, g6]
  refine CodeT.seqR ?_
  simp -implicitDefEqProofs only [go_sem, ↓reduceIte, Nat.reduceLT, Nat.reduceEqDiff, Nat.reduceAdd, Nat.reduceSub, Nat.reduceBEq, Nat.reduceLeDiff, Int.reduceToNat, reduceCtorEq, hi, Try.results61, g6]
  refine CodeT.ret ?_
  simp -implicitDefEqProofs only [go_sem, ↓reduceIte, Nat.reduceLT, Nat.reduceEqDiff, Nat.reduceAdd, Nat.reduceSub, Nat.reduceBEq, Nat.reduceLeDiff, Int.reduceToNat, reduceCtorEq, hi, Try.results61, g6]
  refine pureEnd rfl ?_
  simp only [openedV, hi, wrB, kOf, g6, Bool.true_and, Bool.false_and, Bool.and_true, Bool.and_false, Bool.true_or, Bool.false_or, Bool.or_true, Bool.or_false, Bool.not_true, Bool.not_false, Bool.false_eq_true, ↓reduceIte]
end Go.Proofs.Try

namespace Go.Proofs.Try
set_option linter.unusedSimpArgs false
set_option linter.unusedVariables false
open Go.PM
set_option maxHeartbeats 4000000

abbrev er (n : Int) : AV := .val (.int .i64 n)
/-- The half in use, as it is seen. -/
def useB (d : Dsk) : List UInt8 := usedB d (seenB d) (halfAt (seenB d))
def endB (d : Dsk) : Nat := parseE (useB d)
theorem c62s (d : Dsk) (hi : isDiskB d = true) : PureT Try.prog 62 [kOf d] (· = .sl false (bs (useB d))) := by
  obtain ⟨k, hw⟩ := isDisk_ok hi
  have h1 := k.top; have h2 := k.s; have h3 := k.b
  exact c62 _ _ _ (by omega) (by omega) (by omega)
theorem useB_length {d : Dsk} (hi : isDiskB d = true) : (useB d).length = d.bytes.length / 2 := usedB_length (isDisk_ok hi).1
theorem endB_le {d : Dsk} (hi : isDiskB d = true) : endB d ≤ d.bytes.length / 2 := by rw [← useB_length hi]; exact parseE_le _
theorem c68s (d : Dsk) (hi : isDiskB d = true) : PureT Try.prog 68 [kOf d] (· = .val (.bool (clB d))) := c68 _ _ _ (isDisk_ok hi).1
theorem c67s (d : Dsk) (hi : isDiskB d = true) : PureT Try.prog 67 [kOf d] (· = .val (.bool (wrB d))) := c67 _ _ _ (isDisk_ok hi).1
theorem c14s (d : Dsk) (hi : isDiskB d = true) : PureT Try.prog 14 [.sl false (bs (useB d))] (· = .tup [.sl false (bss (parseR (useB d))), .val (.int .i64 (endB d : Nat))]) := by
  have := useB_length hi; have := (isDisk_ok hi).1.b
  exact c14 _ (by omega)
theorem isDisk_small {d : Dsk} (hi : isDiskB d = true) : d.bytes.length ≤ 2097153 := by
  have h := (isDisk_sound hi).1
  unfold sizeB at h
  simp only [Bool.and_eq_true, decide_eq_true_eq] at h
  omega
theorem wrB_eq (d : Dsk) : wrB d = decide (((parseR (useB d)).length : Int) > 0) := rfl

def checkV (d : Dsk) : AV :=
  if (!isDiskB d) = true then .tup [.val (.bool false), .val (.bool false), er 281]
  else .tup [.val (.bool (wrB d)), .val (.bool (wrB d && clB d)), er 0]
theorem c22 (d : Dsk) (hf : Few d) : PureT Try.prog 22 [dkv d] (· = checkV d) := by
  cases hi : isDiskB d
  · refine CallT.intro Try.func22 (by decide) rfl ?_
    simp -implicitDefEqProofs only [go_sem, ↓reduceIte, Nat.reduceLT, Nat.reduceEqDiff, Nat.reduceAdd, Nat.reduceSub, Nat.reduceBEq, Nat.reduceLeDiff, Int.reduceToNat, reduceCtorEq, hi, openedV, enterTm, Try.ntmps22, List.range'_succ, List.range'_zero, List.zip_cons_cons, List.zip_nil_left]
    refine CodeT.seqR ?_
    simp -implicitDefEqProofs only [go_sem, ↓reduceIte, Nat.reduceLT, Nat.reduceEqDiff, Nat.reduceAdd, Nat.reduceSub, Nat.reduceBEq, Nat.reduceLeDiff, Int.reduceToNat, reduceCtorEq, hi, openedV, Try.results22]
    refine CodeT.seqR ?_
    simp -implicitDefEqProofs only [go_sem, ↓reduceIte, Nat.reduceLT, Nat.reduceEqDiff, Nat.reduceAdd, Nat.reduceSub, Nat.reduceBEq, Nat.reduceLeDiff, Int.reduceToNat, reduceCtorEq, hi, openedV, Try.results22]
    refine PureT.eq (c61 _ _ ?_) rfl ?_
    assumption
    simp -implicitDefEqProofs only [go_sem, ↓reduceIte, Nat.reduceLT, Nat.reduceEqDiff, Nat.reduceAdd, Nat.reduceSub, Nat.reduceBEq, Nat.reduceLeDiff, Int.reduceToNat, reduceCtorEq, hi, openedV, Try.results22]
    refine CodeT.seq ?_
    refine CodeT.seqR ?_
    simp -implicitDefEqProofs only [go_sem, ↓reduceIte, Nat.reduceLT, Nat.reduceEqDiff, Nat.reduceAdd, Nat.reduceSub, Nat.reduceBEq, Nat.reduceLeDiff, Int.reduceToNat, reduceCtorEq, hi, openedV, Try.results22]
    refine CodeT.condT rfl ?_
    refine CodeT.seqR ?_
    simp -implicitDefEqProofs only [go_sem, ↓reduceIte, Nat.reduceLT, Nat.reduceEqDiff, Nat.reduceAdd, Nat.reduceSub, Nat.reduceBEq, Nat.reduceLeDiff, Int.reduceToNat, reduceCtorEq, hi, openedV, Try.results22]
    refine CodeT.ret ?_
    simp -implicitDefEqProofs only [go_sem, ↓reduceIte, Nat.reduceLT, Nat.reduceEqDiff, Nat.reduceAdd, Nat.reduceSub, Nat.reduceBEq, Nat.reduceLeDiff, Int.reduceToNat, reduceCtorEq, hi, openedV, Try.results22]
    refine pureEnd rfl ?_
    simp only [checkV, hi, er, Bool.true_and, Bool.false_and, Bool.and_true, Bool.and_false, Bool.true_or, Bool.false_or, Bool.or_true, Bool.or_false, Bool.not_true, Bool.not_false, Bool.false_eq_true, ↓reduceIte]
  refine CallT.intro Try.func22 (by decide) rfl ?_
  simp -implicitDefEqProofs only [go_sem, ↓reduceIte, Nat.reduceLT, Nat.reduceEqDiff, Nat.reduceAdd, Nat.reduceSub, Nat.reduceBEq, Nat.reduceLeDiff, Int.reduceToNat, reduceCtorEq, hi, openedV, enterTm, Try.ntmps22, List.range'_succ, List.range'_zero, List.zip_cons_cons, List.zip_nil_left]
  refine CodeT.seqR ?_
  simp -implicitDefEqProofs only [go_sem, ↓reduceIte, Nat.reduceLT, Nat.reduceEqDiff, Nat.reduceAdd, Nat.reduceSub, Nat.reduceBEq, Nat.reduceLeDiff, Int.reduceToNat, reduceCtorEq, hi, openedV, Try.results22]
  refine CodeT.seqR ?_
  simp -implicitDefEqProofs only [go_sem, ↓reduceIte, Nat.reduceLT, Nat.reduceEqDiff, Nat.reduceAdd, Nat.reduceSub, Nat.reduceBEq, Nat.reduceLeDiff, Int.reduceToNat, reduceCtorEq, hi, openedV, Try.results22]
  refine PureT.eq (c61 _ _ ?_) rfl ?_
  assumption
  simp -implicitDefEqProofs only [go_sem, ↓reduceIte, Nat.reduceLT, Nat.reduceEqDiff, Nat.reduceAdd, Nat.reduceSub, Nat.reduceBEq, Nat.reduceLeDiff, Int.reduceToNat, reduceCtorEq, hi, openedV, Try.results22]
  refine CodeT.seq ?_
  refine CodeT.seqR ?_
  simp -implicitDefEqProofs only [go_sem, ↓reduceIte, Nat.reduceLT, Nat.reduceEqDiff, Nat.reduceAdd, Nat.reduceSub, Nat.reduceBEq, Nat.reduceLeDiff, Int.reduceToNat, reduceCtorEq, hi, openedV, Try.results22]
  refine CodeT.condF rfl ?_
  refine CodeT.skip ?_
  simp -implicitDefEqProofs only [go_sem, ↓reduceIte, Nat.reduceLT, Nat.reduceEqDiff, Nat.reduceAdd, Nat.reduceSub, Nat.reduceBEq, Nat.reduceLeDiff, Int.reduceToNat, reduceCtorEq, hi, openedV, Try.results22]
  refine CodeT.seqR ?_
  simp -implicitDefEqProofs only [go_sem, ↓reduceIte, Nat.reduceLT, Nat.reduceEqDiff, Nat.reduceAdd, Nat.reduceSub, Nat.reduceBEq, Nat.reduceLeDiff, Int.reduceToNat, reduceCtorEq, hi, openedV, Try.results22]
  refine PureT.eq (c67s _ hi) rfl ?_
  simp -implicitDefEqProofs only [go_sem, ↓reduceIte, Nat.reduceLT, Nat.reduceEqDiff, Nat.reduceAdd, Nat.reduceSub, Nat.reduceBEq, Nat.reduceLeDiff, Int.reduceToNat, reduceCtorEq, hi, openedV, Try.results22]
  refine PureT.eq (c67s _ hi) rfl ?_
  simp -implicitDefEqProofs only [go_sem, ↓reduceIte, Nat.reduceLT, Nat.reduceEqDiff, Nat.reduceAdd, Nat.reduceSub, Nat.reduceBEq, Nat.reduceLeDiff, Int.reduceToNat, reduceCtorEq, hi, openedV, Try.results22]
  refine gif_i (fun g4 => ?_) (fun g4 => ?_)
  simp -implicitDefEqProofs only [go_sem, ↓reduceIte, Nat.reduceLT, Nat.reduceEqDiff, Nat.reduceAdd, Nat.reduceSub, Nat.reduceBEq, Nat.reduceLeDiff, Int.reduceToNat, reduceCtorEq, hi, openedV, Try.results22, g4]
  refine PureT.eq (c68s _ hi) rfl ?_
  simp -implicitDefEqProofs only [go_sem, ↓reduceIte, Nat.reduceLT, Nat.reduceEqDiff, Nat.reduceAdd, Nat.reduceSub, Nat.reduceBEq, Nat.reduceLeDiff, Int.reduceToNat, reduceCtorEq, hi, openedV, Try.results22, g4]
  refine CodeT.ret ?_
  simp -implicitDefEqProofs only [go_sem, ↓reduceIte, Nat.reduceLT, Nat.reduceEqDiff, Nat.reduceAdd, Nat.reduceSub, Nat.reduceBEq, Nat.reduceLeDiff, Int.reduceToNat, reduceCtorEq, hi, openedV, Try.results22, g4]
  refine pureEnd rfl ?_
  simp only [checkV, hi, er, g4, Bool.true_and, Bool.false_and, Bool.and_true, Bool.and_false, Bool.true_or, Bool.false_or, Bool.or_true, Bool.or_false, Bool.not_true, Bool.not_false, Bool.false_eq_true, ↓reduceIte]
  simp -implicitDefEqProofs only [go_sem, ↓reduceIte, Nat.reduceLT, Nat.reduceEqDiff, Nat.reduceAdd, Nat.reduceSub, Nat.reduceBEq, Nat.reduceLeDiff, Int.reduceToNat, reduceCtorEq, hi, openedV, Try.results22, g4]
  refine CodeT.ret ?_
  simp -implicitDefEqProofs only [go_sem, ↓reduceIte, Nat.reduceLT, Nat.reduceEqDiff, Nat.reduceAdd, Nat.reduceSub, Nat.reduceBEq, Nat.reduceLeDiff, Int.reduceToNat, reduceCtorEq, hi, openedV, Try.results22, g4]
  refine pureEnd rfl ?_
  simp only [checkV, hi, er, g4, Bool.true_and, Bool.false_and, Bool.and_true, Bool.and_false, Bool.true_or, Bool.false_or, Bool.or_true, Bool.or_false, Bool.not_true, Bool.not_false, Bool.false_eq_true, ↓reduceIte]
def appendingV (d : Dsk) : AV :=
  if (!isDiskB d) = true then .tup [.val (.pointer none), er 0, er 281]
  else if (!wrB d) = true then .tup [.val (.pointer none), er 0, er 280]
  else if (!clB d) = true then .tup [.val (.pointer none), er 0, er 280]
  else .tup [kOf d, .val (.int .i64 (endB d : Nat)), er 0]
theorem c69 (d : Dsk) (hf : Few d) : PureT Try.prog 69 [dkv d] (· = appendingV d) := by
  cases hi : isDiskB d
  · refine CallT.intro Try.func69 (by decide) rfl ?_
    simp -implicitDefEqProofs only [go_sem, ↓reduceIte, Nat.reduceLT, Nat.reduceEqDiff, Nat.reduceAdd, Nat.reduceSub, Nat.reduceBEq, Nat.reduceLeDiff, Int.reduceToNat, reduceCtorEq, hi, openedV, enterTm, Try.ntmps69, List.range'_succ, List.range'_zero, List.zip_cons_cons, List.zip_nil_left]
    refine CodeT.seqR ?_
    simp -implicitDefEqProofs only [go_sem, ↓reduceIte, Nat.reduceLT, Nat.reduceEqDiff, Nat.reduceAdd, Nat.reduceSub, Nat.reduceBEq, Nat.reduceLeDiff, Int.reduceToNat, reduceCtorEq, hi, openedV, Try.results69]
    refine CodeT.seqR ?_
    simp -implicitDefEqProofs only [go_sem, ↓reduceIte, Nat.reduceLT, Nat.reduceEqDiff, Nat.reduceAdd, Nat.reduceSub, Nat.reduceBEq, Nat.reduceLeDiff, Int.reduceToNat, reduceCtorEq, hi, openedV, Try.results69]
    refine PureT.eq (c61 _ _ ?_) rfl ?_
    assumption
    simp -implicitDefEqProofs only [go_sem, ↓reduceIte, Nat.reduceLT, Nat.reduceEqDiff, Nat.reduceAdd, Nat.reduceSub, Nat.reduceBEq, Nat.reduceLeDiff, Int.reduceToNat, reduceCtorEq, hi, openedV, Try.results69]
    refine CodeT.seq ?_
    refine CodeT.seqR ?_
    simp -implicitDefEqProofs only [go_sem, ↓reduceIte, Nat.reduceLT, Nat.reduceEqDiff, Nat.reduceAdd, Nat.reduceSub, Nat.reduceBEq, Nat.reduceLeDiff, Int.reduceToNat, reduceCtorEq, hi, openedV, Try.results69]
    refine CodeT.condT rfl ?_
    refine CodeT.seqR ?_
    simp -implicitDefEqProofs only [go_sem, ↓reduceIte, Nat.reduceLT, Nat.reduceEqDiff, Nat.reduceAdd, Nat.reduceSub, Nat.reduceBEq, Nat.reduceLeDiff, Int.reduceToNat, reduceCtorEq, hi, openedV, Try.results69]
    refine CodeT.ret ?_
    simp -implicitDefEqProofs only [go_sem, ↓reduceIte, Nat.reduceLT, Nat.reduceEqDiff, Nat.reduceAdd, Nat.reduceSub, Nat.reduceBEq, Nat.reduceLeDiff, Int.reduceToNat, reduceCtorEq, hi, openedV, Try.results69]
    refine pureEnd rfl ?_
    simp only [appendingV, hi, er, Bool.true_and, Bool.false_and, Bool.and_true, Bool.and_false, Bool.true_or, Bool.false_or, Bool.or_true, Bool.or_false, Bool.not_true, Bool.not_false, Bool.false_eq_true, ↓reduceIte]
  cases hw : wrB d
  · refine CallT.intro Try.func69 (by decide) rfl ?_
    simp -implicitDefEqProofs only [go_sem, ↓reduceIte, Nat.reduceLT, Nat.reduceEqDiff, Nat.reduceAdd, Nat.reduceSub, Nat.reduceBEq, Nat.reduceLeDiff, Int.reduceToNat, reduceCtorEq, hi, hw, openedV, enterTm, Try.ntmps69, List.range'_succ, List.range'_zero, List.zip_cons_cons, List.zip_nil_left]
    refine CodeT.seqR ?_
    simp -implicitDefEqProofs only [go_sem, ↓reduceIte, Nat.reduceLT, Nat.reduceEqDiff, Nat.reduceAdd, Nat.reduceSub, Nat.reduceBEq, Nat.reduceLeDiff, Int.reduceToNat, reduceCtorEq, hi, hw, openedV, Try.results69]
    refine CodeT.seqR ?_
    simp -implicitDefEqProofs only [go_sem, ↓reduceIte, Nat.reduceLT, Nat.reduceEqDiff, Nat.reduceAdd, Nat.reduceSub, Nat.reduceBEq, Nat.reduceLeDiff, Int.reduceToNat, reduceCtorEq, hi, hw, openedV, Try.results69]
    refine PureT.eq (c61 _ _ ?_) rfl ?_
    assumption
    simp -implicitDefEqProofs only [go_sem, ↓reduceIte, Nat.reduceLT, Nat.reduceEqDiff, Nat.reduceAdd, Nat.reduceSub, Nat.reduceBEq, Nat.reduceLeDiff, Int.reduceToNat, reduceCtorEq, hi, hw, openedV, Try.results69]
    refine CodeT.seq ?_
    refine CodeT.seqR ?_
    simp -implicitDefEqProofs only [go_sem, ↓reduceIte, Nat.reduceLT, Nat.reduceEqDiff, Nat.reduceAdd, Nat.reduceSub, Nat.reduceBEq, Nat.reduceLeDiff, Int.reduceToNat, reduceCtorEq, hi, hw, openedV, Try.results69]
    refine CodeT.condT rfl ?_
    refine CodeT.seqR ?_
    simp -implicitDefEqProofs only [go_sem, ↓reduceIte, Nat.reduceLT, Nat.reduceEqDiff, Nat.reduceAdd, Nat.reduceSub, Nat.reduceBEq, Nat.reduceLeDiff, Int.reduceToNat, reduceCtorEq, hi, hw, openedV, Try.results69]
    refine CodeT.ret ?_
    simp -implicitDefEqProofs only [go_sem, ↓reduceIte, Nat.reduceLT, Nat.reduceEqDiff, Nat.reduceAdd, Nat.reduceSub, Nat.reduceBEq, Nat.reduceLeDiff, Int.reduceToNat, reduceCtorEq, hi, hw, openedV, Try.results69]
    refine pureEnd rfl ?_
    simp only [appendingV, hi, er, hw, Bool.true_and, Bool.false_and, Bool.and_true, Bool.and_false, Bool.true_or, Bool.false_or, Bool.or_true, Bool.or_false, Bool.not_true, Bool.not_false, Bool.false_eq_true, ↓reduceIte]
  refine CallT.intro Try.func69 (by decide) rfl ?_
  simp -implicitDefEqProofs only [go_sem, ↓reduceIte, Nat.reduceLT, Nat.reduceEqDiff, Nat.reduceAdd, Nat.reduceSub, Nat.reduceBEq, Nat.reduceLeDiff, Int.reduceToNat, reduceCtorEq, hi, hw, openedV, enterTm, Try.ntmps69, List.range'_succ, List.range'_zero, List.zip_cons_cons, List.zip_nil_left]
  refine CodeT.seqR ?_
  simp -implicitDefEqProofs only [go_sem, ↓reduceIte, Nat.reduceLT, Nat.reduceEqDiff, Nat.reduceAdd, Nat.reduceSub, Nat.reduceBEq, Nat.reduceLeDiff, Int.reduceToNat, reduceCtorEq, hi, hw, openedV, Try.results69]
  refine CodeT.seqR ?_
  simp -implicitDefEqProofs only [go_sem, ↓reduceIte, Nat.reduceLT, Nat.reduceEqDiff, Nat.reduceAdd, Nat.reduceSub, Nat.reduceBEq, Nat.reduceLeDiff, Int.reduceToNat, reduceCtorEq, hi, hw, openedV, Try.results69]
  refine PureT.eq (c61 _ _ ?_) rfl ?_
  assumption
  simp -implicitDefEqProofs only [go_sem, ↓reduceIte, Nat.reduceLT, Nat.reduceEqDiff, Nat.reduceAdd, Nat.reduceSub, Nat.reduceBEq, Nat.reduceLeDiff, Int.reduceToNat, reduceCtorEq, hi, hw, openedV, Try.results69]
  refine CodeT.seq ?_
  refine CodeT.seqR ?_
  simp -implicitDefEqProofs only [go_sem, ↓reduceIte, Nat.reduceLT, Nat.reduceEqDiff, Nat.reduceAdd, Nat.reduceSub, Nat.reduceBEq, Nat.reduceLeDiff, Int.reduceToNat, reduceCtorEq, hi, hw, openedV, Try.results69]
  refine CodeT.condF rfl ?_
  refine CodeT.skip ?_
  simp -implicitDefEqProofs only [go_sem, ↓reduceIte, Nat.reduceLT, Nat.reduceEqDiff, Nat.reduceAdd, Nat.reduceSub, Nat.reduceBEq, Nat.reduceLeDiff, Int.reduceToNat, reduceCtorEq, hi, hw, openedV, Try.results69]
  refine CodeT.seq ?_
  refine CodeT.seqR ?_
  simp -implicitDefEqProofs only [go_sem, ↓reduceIte, Nat.reduceLT, Nat.reduceEqDiff, Nat.reduceAdd, Nat.reduceSub, Nat.reduceBEq, Nat.reduceLeDiff, Int.reduceToNat, reduceCtorEq, hi, hw, openedV, Try.results69]
  refine PureT.eq (c68s _ hi) rfl ?_
  simp -implicitDefEqProofs only [go_sem, ↓reduceIte, Nat.reduceLT, Nat.reduceEqDiff, Nat.reduceAdd, Nat.reduceSub, Nat.reduceBEq, Nat.reduceLeDiff, Int.reduceToNat, reduceCtorEq, hi, hw, openedV, Try.results69]
  refine CodeT.cond rfl (fun g3 => ?_) (fun g3 => ?_)
  refine CodeT.seqR ?_
  simp -implicitDefEqProofs only [go_sem, ↓reduceIte, Nat.reduceLT, Nat.reduceEqDiff, Nat.reduceAdd, Nat.reduceSub, Nat.reduceBEq, Nat.reduceLeDiff, Int.reduceToNat, reduceCtorEq, hi, hw, openedV, Try.results69, g3]
  refine CodeT.ret ?_
  simp -implicitDefEqProofs only [go_sem, ↓reduceIte, Nat.reduceLT, Nat.reduceEqDiff, Nat.reduceAdd, Nat.reduceSub, Nat.reduceBEq, Nat.reduceLeDiff, Int.reduceToNat, reduceCtorEq, hi, hw, openedV, Try.results69, g3]
  refine pureEnd rfl ?_
  simp only [appendingV, hi, hw, er, g3, Bool.true_and, Bool.false_and, Bool.and_true, Bool.and_false, Bool.true_or, Bool.false_or, Bool.or_true, Bool.or_false, Bool.not_true, Bool.not_false, Bool.false_eq_true, ↓reduceIte]
  refine CodeT.skip ?_
  simp -implicitDefEqProofs only [go_sem, ↓reduceIte, Nat.reduceLT, Nat.reduceEqDiff, Nat.reduceAdd, Nat.reduceSub, Nat.reduceBEq, Nat.reduceLeDiff, Int.reduceToNat, reduceCtorEq, hi, hw, openedV, Try.results69, g3]
  refine CodeT.seqR ?_
  simp -implicitDefEqProofs only [go_sem, ↓reduceIte, Nat.reduceLT, Nat.reduceEqDiff, Nat.reduceAdd, Nat.reduceSub, Nat.reduceBEq, Nat.reduceLeDiff, Int.reduceToNat, reduceCtorEq, hi, hw, openedV, Try.results69, g3]
  refine PureT.eq (c62s _ hi) rfl ?_
  simp -implicitDefEqProofs only [go_sem, ↓reduceIte, Nat.reduceLT, Nat.reduceEqDiff, Nat.reduceAdd, Nat.reduceSub, Nat.reduceBEq, Nat.reduceLeDiff, Int.reduceToNat, reduceCtorEq, hi, hw, openedV, Try.results69, g3]
  refine PureT.eq (c14s _ hi) rfl ?_
  simp -implicitDefEqProofs only [go_sem, ↓reduceIte, Nat.reduceLT, Nat.reduceEqDiff, Nat.reduceAdd, Nat.reduceSub, Nat.reduceBEq, Nat.reduceLeDiff, Int.reduceToNat, reduceCtorEq, hi, hw, openedV, Try.results69, g3]
  refine CodeT.seqR ?_
  simp -implicitDefEqProofs only [go_sem, ↓reduceIte, Nat.reduceLT, Nat.reduceEqDiff, Nat.reduceAdd, Nat.reduceSub, Nat.reduceBEq, Nat.reduceLeDiff, Int.reduceToNat, reduceCtorEq, hi, hw, openedV, Try.results69, g3]
  refine CodeT.ret ?_
  simp -implicitDefEqProofs only [go_sem, ↓reduceIte, Nat.reduceLT, Nat.reduceEqDiff, Nat.reduceAdd, Nat.reduceSub, Nat.reduceBEq, Nat.reduceLeDiff, Int.reduceToNat, reduceCtorEq, hi, hw, openedV, Try.results69, g3]
  refine pureEnd rfl ?_
  simp only [appendingV, hi, hw, er, g3, Bool.true_and, Bool.false_and, Bool.and_true, Bool.and_false, Bool.true_or, Bool.false_or, Bool.or_true, Bool.or_false, Bool.not_true, Bool.not_false, Bool.false_eq_true, ↓reduceIte]
def readV (d : Dsk) : AV :=
  if (!isDiskB d) = true then .tup [.sl false [], .sl false [], er 281]
  else if (!wrB d) = true then .tup [.sl false [], .sl false [], er 280]
  else .tup [.sl false (bs ((parseR (useB d)).getD 0 [])), .sl false (bss ((parseR (useB d)).drop 1)), er 0]
theorem c21 (d : Dsk) (hf : Few d) : PureT Try.prog 21 [dkv d] (· = readV d) := by
  refine CallT.laxR ?_
  cases hi : isDiskB d
  · refine CallT.intro Try.func21 (by decide) rfl ?_
    simp -implicitDefEqProofs only [go_sem, ↓reduceIte, Nat.reduceLT, Nat.reduceEqDiff, Nat.reduceAdd, Nat.reduceSub, Nat.reduceBEq, Nat.reduceLeDiff, Int.reduceToNat, reduceCtorEq, hi, openedV, enterTm, Try.ntmps21, List.range'_succ, List.range'_zero, List.zip_cons_cons, List.zip_nil_left]
    refine CodeT.seqR ?_
    simp -implicitDefEqProofs only [go_sem, ↓reduceIte, Nat.reduceLT, Nat.reduceEqDiff, Nat.reduceAdd, Nat.reduceSub, Nat.reduceBEq, Nat.reduceLeDiff, Int.reduceToNat, reduceCtorEq, hi, openedV, Try.results21]
    refine CodeT.seqR ?_
    simp -implicitDefEqProofs only [go_sem, ↓reduceIte, Nat.reduceLT, Nat.reduceEqDiff, Nat.reduceAdd, Nat.reduceSub, Nat.reduceBEq, Nat.reduceLeDiff, Int.reduceToNat, reduceCtorEq, hi, openedV, Try.results21]
    refine PureT.eq (c61 _ _ ?_) rfl ?_
    assumption
    simp -implicitDefEqProofs only [go_sem, ↓reduceIte, Nat.reduceLT, Nat.reduceEqDiff, Nat.reduceAdd, Nat.reduceSub, Nat.reduceBEq, Nat.reduceLeDiff, Int.reduceToNat, reduceCtorEq, hi, openedV, Try.results21]
    refine CodeT.seq ?_
    refine CodeT.seqR ?_
    simp -implicitDefEqProofs only [go_sem, ↓reduceIte, Nat.reduceLT, Nat.reduceEqDiff, Nat.reduceAdd, Nat.reduceSub, Nat.reduceBEq, Nat.reduceLeDiff, Int.reduceToNat, reduceCtorEq, hi, openedV, Try.results21]
    refine CodeT.condT rfl ?_
    refine CodeT.seqR ?_
    simp -implicitDefEqProofs only [go_sem, ↓reduceIte, Nat.reduceLT, Nat.reduceEqDiff, Nat.reduceAdd, Nat.reduceSub, Nat.reduceBEq, Nat.reduceLeDiff, Int.reduceToNat, reduceCtorEq, hi, openedV, Try.results21]
    refine CodeT.ret ?_
    simp -implicitDefEqProofs only [go_sem, ↓reduceIte, Nat.reduceLT, Nat.reduceEqDiff, Nat.reduceAdd, Nat.reduceSub, Nat.reduceBEq, Nat.reduceLeDiff, Int.reduceToNat, reduceCtorEq, hi, openedV, Try.results21]
    refine pureEnd rfl ?_
    simp only [readV, hi, er, Bool.true_and, Bool.false_and, Bool.and_true, Bool.and_false, Bool.true_or, Bool.false_or, Bool.or_true, Bool.or_false, Bool.not_true, Bool.not_false, Bool.false_eq_true, ↓reduceIte]
  cases hw : wrB d
  · refine CallT.intro Try.func21 (by decide) rfl ?_
    simp -implicitDefEqProofs only [go_sem, ↓reduceIte, Nat.reduceLT, Nat.reduceEqDiff, Nat.reduceAdd, Nat.reduceSub, Nat.reduceBEq, Nat.reduceLeDiff, Int.reduceToNat, reduceCtorEq, hi, hw, openedV, enterTm, Try.ntmps21, List.range'_succ, List.range'_zero, List.zip_cons_cons, List.zip_nil_left]
    refine CodeT.seqR ?_
    simp -implicitDefEqProofs only [go_sem, ↓reduceIte, Nat.reduceLT, Nat.reduceEqDiff, Nat.reduceAdd, Nat.reduceSub, Nat.reduceBEq, Nat.reduceLeDiff, Int.reduceToNat, reduceCtorEq, hi, hw, openedV, Try.results21]
    refine CodeT.seqR ?_
    simp -implicitDefEqProofs only [go_sem, ↓reduceIte, Nat.reduceLT, Nat.reduceEqDiff, Nat.reduceAdd, Nat.reduceSub, Nat.reduceBEq, Nat.reduceLeDiff, Int.reduceToNat, reduceCtorEq, hi, hw, openedV, Try.results21]
    refine PureT.eq (c61 _ _ ?_) rfl ?_
    assumption
    simp -implicitDefEqProofs only [go_sem, ↓reduceIte, Nat.reduceLT, Nat.reduceEqDiff, Nat.reduceAdd, Nat.reduceSub, Nat.reduceBEq, Nat.reduceLeDiff, Int.reduceToNat, reduceCtorEq, hi, hw, openedV, Try.results21]
    refine CodeT.seq ?_
    refine CodeT.seqR ?_
    simp -implicitDefEqProofs only [go_sem, ↓reduceIte, Nat.reduceLT, Nat.reduceEqDiff, Nat.reduceAdd, Nat.reduceSub, Nat.reduceBEq, Nat.reduceLeDiff, Int.reduceToNat, reduceCtorEq, hi, hw, openedV, Try.results21]
    refine CodeT.condT rfl ?_
    refine CodeT.seqR ?_
    simp -implicitDefEqProofs only [go_sem, ↓reduceIte, Nat.reduceLT, Nat.reduceEqDiff, Nat.reduceAdd, Nat.reduceSub, Nat.reduceBEq, Nat.reduceLeDiff, Int.reduceToNat, reduceCtorEq, hi, hw, openedV, Try.results21]
    refine CodeT.ret ?_
    simp -implicitDefEqProofs only [go_sem, ↓reduceIte, Nat.reduceLT, Nat.reduceEqDiff, Nat.reduceAdd, Nat.reduceSub, Nat.reduceBEq, Nat.reduceLeDiff, Int.reduceToNat, reduceCtorEq, hi, hw, openedV, Try.results21]
    refine pureEnd rfl ?_
    simp only [readV, hi, er, hw, Bool.true_and, Bool.false_and, Bool.and_true, Bool.and_false, Bool.true_or, Bool.false_or, Bool.or_true, Bool.or_false, Bool.not_true, Bool.not_false, Bool.false_eq_true, ↓reduceIte]
  have hp := hw
  rw [wrB_eq, decide_eq_true_eq] at hp
  refine CallT.intro Try.func21 (by decide) rfl ?_
  simp -implicitDefEqProofs only [go_sem, ↓reduceIte, Nat.reduceLT, Nat.reduceEqDiff, Nat.reduceAdd, Nat.reduceSub, Nat.reduceBEq, Nat.reduceLeDiff, Int.reduceToNat, reduceCtorEq, hi, hw, openedV, enterTm, Try.ntmps21, List.range'_succ, List.range'_zero, List.zip_cons_cons, List.zip_nil_left]
  refine CodeT.seqR ?_
  simp -implicitDefEqProofs only [go_sem, ↓reduceIte, Nat.reduceLT, Nat.reduceEqDiff, Nat.reduceAdd, Nat.reduceSub, Nat.reduceBEq, Nat.reduceLeDiff, Int.reduceToNat, reduceCtorEq, hi, hw, openedV, Try.results21]
  refine CodeT.seqR ?_
  simp -implicitDefEqProofs only [go_sem, ↓reduceIte, Nat.reduceLT, Nat.reduceEqDiff, Nat.reduceAdd, Nat.reduceSub, Nat.reduceBEq, Nat.reduceLeDiff, Int.reduceToNat, reduceCtorEq, hi, hw, openedV, Try.results21]
  refine PureT.eq (c61 _ _ ?_) rfl ?_
  assumption
  simp -implicitDefEqProofs only [go_sem, ↓reduceIte, Nat.reduceLT, Nat.reduceEqDiff, Nat.reduceAdd, Nat.reduceSub, Nat.reduceBEq, Nat.reduceLeDiff, Int.reduceToNat, reduceCtorEq, hi, hw, openedV, Try.results21]
  refine CodeT.seq ?_
  refine CodeT.seqR ?_
  simp -implicitDefEqProofs only [go_sem, ↓reduceIte, Nat.reduceLT, Nat.reduceEqDiff, Nat.reduceAdd, Nat.reduceSub, Nat.reduceBEq, Nat.reduceLeDiff, Int.reduceToNat, reduceCtorEq, hi, hw, openedV, Try.results21]
  refine CodeT.condF rfl ?_
  refine CodeT.skip ?_
  simp -implicitDefEqProofs only [go_sem, ↓reduceIte, Nat.reduceLT, Nat.reduceEqDiff, Nat.reduceAdd, Nat.reduceSub, Nat.reduceBEq, Nat.reduceLeDiff, Int.reduceToNat, reduceCtorEq, hi, hw, openedV, Try.results21]
  refine CodeT.seqR ?_
  simp -implicitDefEqProofs only [go_sem, ↓reduceIte, Nat.reduceLT, Nat.reduceEqDiff, Nat.reduceAdd, Nat.reduceSub, Nat.reduceBEq, Nat.reduceLeDiff, Int.reduceToNat, reduceCtorEq, hi, hw, openedV, Try.results21]
  refine PureT.eq (c62s _ hi) rfl ?_
  simp -implicitDefEqProofs only [go_sem, ↓reduceIte, Nat.reduceLT, Nat.reduceEqDiff, Nat.reduceAdd, Nat.reduceSub, Nat.reduceBEq, Nat.reduceLeDiff, Int.reduceToNat, reduceCtorEq, hi, hw, openedV, Try.results21]
  refine PureT.eq (c14s _ hi) rfl ?_
  simp -implicitDefEqProofs only [go_sem, ↓reduceIte, Nat.reduceLT, Nat.reduceEqDiff, Nat.reduceAdd, Nat.reduceSub, Nat.reduceBEq, Nat.reduceLeDiff, Int.reduceToNat, reduceCtorEq, hi, hw, openedV, Try.results21]
  refine CodeT.seqD [(0, .free), (3, .free), (1, .read), (2, .read), (5, .free), (4, .read), (6, .free), (7, .free)] mixed (by kernel_rfl) ?_
  simp -implicitDefEqProofs only [go_sem, ↓reduceIte, Nat.reduceLT, Nat.reduceEqDiff, Nat.reduceAdd, Nat.reduceSub, Nat.reduceBEq, Nat.reduceLeDiff, Int.reduceToNat, reduceCtorEq, hi, hw, openedV, Try.results21]
  refine And.intro (by omega) ?_
  refine And.intro (by assumption) ?_
  simp -implicitDefEqProofs (disch := omega) only [i64_in, bs_getD, opvs_getD, is64_getD, bss_getD]
  simp -implicitDefEqProofs only [go_sem, ↓reduceIte, Nat.reduceLT, Nat.reduceEqDiff, Nat.reduceAdd, Nat.reduceSub, Nat.reduceBEq, Nat.reduceLeDiff, Int.reduceToNat, reduceCtorEq, hi, hw, openedV, Try.results21]
  refine And.intro (by trivial) ?_
  refine And.intro (by exact uni_bss _) ?_
  refine And.intro (by omega) ?_
  refine And.intro (by assumption) ?_
  refine And.intro (by omega) ?_
  refine CodeT.ret ?_
  simp -implicitDefEqProofs only [go_sem, ↓reduceIte, Nat.reduceLT, Nat.reduceEqDiff, Nat.reduceAdd, Nat.reduceSub, Nat.reduceBEq, Nat.reduceLeDiff, Int.reduceToNat, reduceCtorEq, hi, hw, openedV, Try.results21]
  refine pureEnd rfl ?_
  simp only [readV, hi, hw, er, Bool.true_and, Bool.false_and, Bool.and_true, Bool.and_false, Bool.true_or, Bool.false_or, Bool.or_true, Bool.or_false, Bool.not_true, Bool.not_false, Bool.false_eq_true, ↓reduceIte]
end Go.Proofs.Try

namespace Go.Proofs.Try
set_option linter.unusedSimpArgs false
open Go.PM

def nib (x : UInt8) : List UInt8 := [16 + x / 16, 16 + x % 16]
def frame (l : List UInt8) : List UInt8 := l.flatMap nib ++ [255]
theorem nib_len (l : List UInt8) : (l.flatMap nib).length = 2 * l.length := by
  induction l with
  | nil => rfl
  | cons x l ih => simp [ih, nib]; omega
theorem nib_take (l : List UInt8) (i : Nat) (h : i < l.length) : (l.take i).flatMap nib ++ nib (l.getD i 0) = (l.take (i + 1)).flatMap nib := by
  rw [List.take_add_one, List.flatMap_append]
  simp [List.getElem?_eq_getElem h, List.getD_eq_getElem?_getD]

theorem c13 (l : List UInt8) (hl : l.length ≤ 1000000) : PureT Try.prog 13 [.sl false (bs l)] (· = .sl false (bs (frame l))) := by
  refine CallT.res (CallT.intro Try.func13 (by decide) rfl ?_)
  simp -implicitDefEqProofs only [go_sem, ↓reduceIte, Nat.reduceLT, Nat.reduceEqDiff, Nat.reduceAdd, Nat.reduceSub, enterTm, Try.ntmps13, List.range'_succ, List.range'_zero, List.zip_cons_cons, List.zip_nil_left]
  iterate 2
    refine CodeT.seqK fun K hK => CodeT.region ?_
    simp -implicitDefEqProofs only [go_sem, ↓reduceIte, Nat.reduceLT, Nat.reduceEqDiff, Nat.reduceAdd, Nat.reduceSub]
    refine hK _ ?_; clear hK K
  refine CodeT.seqK fun K hK => CodeT.seqK fun K' hK' => CodeT.region ?_
  simp -implicitDefEqProofs only [go_sem, ↓reduceIte, Nat.reduceLT, Nat.reduceEqDiff, Nat.reduceAdd, Nat.reduceSub, bs_length]
  refine hK' _ ?_; clear hK' K'
  refine CodeT.promote 3 1 rfl (CodeT.block ?_)
  let S : Nat → St := fun i => ⟨⟨25, [(8, .val (.int .i64 i)), (7, .val (.int .i64 l.length)), (6, .sl false (bs l)), (3, .hsl 0 i 0 (2 * i))]⟩, [.row true i 1 (bs ((l.take i).flatMap nib))], []⟩
  refine CodeT.weak (s' := S 0) ⟨rfl, by simp [S, go_sem], by simp [S, go_sem, bs], rfl, keepsD_nil _⟩ rfl (CodeT.count S l.length (Nat.zero_le _) ?_)
  intro i hi
  refine CodeT.seqK fun K1 hK1 => CodeT.region ?_
  simp -implicitDefEqProofs only [S, go_sem, ↓reduceIte, Nat.reduceLT, Nat.reduceEqDiff, Nat.reduceAdd, Nat.reduceSub]
  refine hK1 _ ?_; clear hK1 K1
  refine CodeT.seqK fun K1 hK1 => CodeT.cond rfl (fun ht => CodeT.skip ?_) (fun hf => CodeT.exit ?_)
  · simp -implicitDefEqProofs only [go_sem, ↓reduceIte, Nat.reduceLT, Nat.reduceEqDiff, Nat.reduceAdd, Nat.reduceSub]
    refine hK1 _ ?_; clear hK1 K1
    have hlt : i < l.length := by simp at ht; exact ht
    have hi64 : IntKind.i64.wrap ((i : Int) + 1) = ((i + 1 : Nat) : Int) := by rw [i64_in] <;> omega
    refine CodeT.seqK fun K1 hK1 => CodeT.block (CodeT.seqK fun K2 hK2 => CodeT.region ?_)
    simp -implicitDefEqProofs only [go_sem, ↓reduceIte, Nat.reduceLT, Nat.reduceEqDiff, Nat.reduceAdd, Nat.reduceSub, Int.toNat_natCast, bs_getD hlt, bs_length]
    repeat refine And.intro (by first | with_reducible rfl | assumption | omega | exact uni_bs _ | exact uni_bs [_] | exact uni_bs [_, _] | trivial | rfl) ?_
    refine hK2 _ ?_; clear hK2 K2
    refine CodeT.region ?_
    simp -implicitDefEqProofs only [go_sem, ↓reduceIte, Nat.reduceLT, Nat.reduceEqDiff, Nat.reduceAdd, Nat.reduceSub]
    simp -implicitDefEqProofs only [u8_16, u8_quo, u8_rem, u8_add, bs_snoc2, bs_length, nib_len, List.length_take, Nat.min_eq_left hi, Nat.mul_one]
    repeat refine And.intro (by first | with_reducible rfl | assumption | omega | exact uni_bs _ | exact uni_bs [_] | exact uni_bs [_, _] | trivial | rfl) ?_
    refine hK1 _ ?_; clear hK1 K1
    refine CodeT.region ?_
    simp -implicitDefEqProofs only [go_sem, ↓reduceIte, Nat.reduceLT, Nat.reduceEqDiff, Nat.reduceAdd, Nat.reduceSub, hi64]
    refine ⟨hlt, ⟨rfl, ?_, ?_, rfl, keepsD_nil _⟩, Nat.le_refl _⟩
    · simp [S, go_sem]; omega
    · exact ⟨.inr ⟨by rw [← nib_take l i hlt]; rfl, rfl⟩, trivial⟩
  · simp -implicitDefEqProofs only [go_sem, ↓reduceIte, Nat.reduceLT, Nat.reduceEqDiff, Nat.reduceAdd, Nat.reduceSub]
    clear hK1 K1
    refine hK _ ?_; clear hK K
    have hil : i = l.length := by simp at hf; omega
    subst hil
    refine CodeT.seqK fun K hK => CodeT.region ?_
    simp -implicitDefEqProofs only [go_sem, ↓reduceIte, Nat.reduceLT, Nat.reduceEqDiff, Nat.reduceAdd, Nat.reduceSub, List.take_length]
    simp -implicitDefEqProofs only [u8_255, bs_snoc, bs_length, nib_len, Nat.mul_one]
    repeat refine And.intro (by first | with_reducible rfl | assumption | omega | exact uni_bs _ | exact uni_bs [_] | exact uni_bs [_, _] | trivial | rfl) ?_
    refine hK _ ?_; clear hK K
    refine CodeT.ret ?_
    simp -implicitDefEqProofs only [go_sem, ↓reduceIte, Nat.reduceLT, Nat.reduceEqDiff, Nat.reduceAdd, Nat.reduceSub, Try.f13]
    have hln : (bs (l.flatMap nib ++ [255])).length = 2 * l.length + 1 := by simp [bs_length, nib_len, -List.length_flatMap]
    have hln2 : (l.flatMap nib).length = 2 * l.length := by simp [nib_len, -List.length_flatMap]
    have hln3 : (l.flatMap nib ++ [255]).length = 2 * l.length + 1 := by rw [List.length_append, hln2]; rfl
    refine ⟨by omega, rfl, _, rfl, ?_⟩
    rw [List.take_of_length_le (by omega)]; rfl
end Go.Proofs.Try

namespace Go.Proofs.Try
set_option linter.unusedSimpArgs false
set_option linter.unusedVariables false
open Go.PM
set_option maxHeartbeats 4000000

def fl : DOp := ⟨true, 0, []⟩
def wr (a : Int) (b : List UInt8) : DOp := ⟨false, a, b⟩
def zs (n : Nat) : List UInt8 := List.replicate n 0
def halfB (d : Dsk) : Nat := halfAt (seenB d)
def szB (d : Dsk) : Nat := d.bytes.length / 2
theorem c66s (d : Dsk) (hi : isDiskB d = true) : PureT Try.prog 66 [kOf d] (· = .val (.int .i64 (szB d : Nat))) := c66 _ _ _ (isDisk_ok hi).1.b
theorem c78s (d : Dsk) (hi : isDiskB d = true) : PureT Try.prog 78 [kOf d] (· = .val (.int .i64 (2 + (szB d : Nat) - (halfB d : Nat)))) := by
  have := (isDisk_ok hi).1.top; have := (isDisk_ok hi).1.b
  exact c78 _ _ _ (by omega) (by omega)
theorem kOf_eq (d : Dsk) : kOf d = .cptr [.sl false (bs d.bytes), .sl false (opvs d.queue), .sl false (bs (seenB d)), .val (.int .i64 (halfB d : Nat))] := rfl
theorem frame_length (l : List UInt8) : (frame l).length = 2 * l.length + 1 := by
  unfold frame
  simp
  induction l with
  | nil => rfl
  | cons x l ih => simp_all [List.flatMap_cons, nib]; omega
theorem disk_facts {d : Dsk} (hi : isDiskB d = true) : d.bytes.length ≤ 2097153 ∧ d.bytes.length = 2 * szB d + 1 ∧ 64 ≤ szB d ∧ (halfB d = 1 ∨ halfB d = 1 + szB d) ∧ endB d ≤ szB d ∧ (useB d).length = szB d := by
  obtain ⟨k, hw⟩ := isDisk_ok hi
  have h1 := isDisk_small hi; have h2 := k.o; have h3 := k.z; have h4 := k.h; have h5 := endB_le hi; have h6 := useB_length hi
  unfold szB halfB
  refine ⟨h1, by omega, h3, h4, h5, h6⟩

def formatV (d : Dsk) (base : List UInt8) : AV :=
  if (!isDiskB d) = true then .tup [.sl false [], er 281]
  else if decide (((frame base).length : Int) > (szB d : Nat)) = true then .tup [.sl false [], er 2]
  else .tup [.sl false (opvs [wr 0 (zs d.bytes.length), fl, wr 1 (frame base), fl]), er 0]
theorem c29 (d : Dsk) (hf : Few d) (base : List UInt8) (hb : base.length ≤ 1000000) : PureT Try.prog 29 [dkv d, .sl false (bs base)] (· = formatV d base) := by
  refine CallT.laxR ?_
  have hl := frame_length base
  cases hi : isDiskB d
  · refine CallT.intro Try.func29 (by decide) rfl ?_
    simp -implicitDefEqProofs only [go_sem, ↓reduceIte, Nat.reduceLT, Nat.reduceEqDiff, Nat.reduceAdd, Nat.reduceSub, Nat.reduceBEq, Nat.reduceLeDiff, Int.reduceToNat, reduceCtorEq, hi, openedV, enterTm, Try.ntmps29, List.range'_succ, List.range'_zero, List.zip_cons_cons, List.zip_nil_left]
    refine CodeT.seqR ?_
    simp -implicitDefEqProofs only [go_sem, ↓reduceIte, Nat.reduceLT, Nat.reduceEqDiff, Nat.reduceAdd, Nat.reduceSub, Nat.reduceBEq, Nat.reduceLeDiff, Int.reduceToNat, reduceCtorEq, hi, openedV, Try.results29]
    refine CodeT.seqR ?_
    simp -implicitDefEqProofs only [go_sem, ↓reduceIte, Nat.reduceLT, Nat.reduceEqDiff, Nat.reduceAdd, Nat.reduceSub, Nat.reduceBEq, Nat.reduceLeDiff, Int.reduceToNat, reduceCtorEq, hi, openedV, Try.results29]
    refine PureT.eq (c61 _ _ ?_) rfl ?_
    assumption
    simp -implicitDefEqProofs only [go_sem, ↓reduceIte, Nat.reduceLT, Nat.reduceEqDiff, Nat.reduceAdd, Nat.reduceSub, Nat.reduceBEq, Nat.reduceLeDiff, Int.reduceToNat, reduceCtorEq, hi, openedV, Try.results29]
    refine CodeT.seq ?_
    refine CodeT.seqR ?_
    simp -implicitDefEqProofs only [go_sem, ↓reduceIte, Nat.reduceLT, Nat.reduceEqDiff, Nat.reduceAdd, Nat.reduceSub, Nat.reduceBEq, Nat.reduceLeDiff, Int.reduceToNat, reduceCtorEq, hi, openedV, Try.results29]
    refine CodeT.condT rfl ?_
    refine CodeT.seqR ?_
    simp -implicitDefEqProofs only [go_sem, ↓reduceIte, Nat.reduceLT, Nat.reduceEqDiff, Nat.reduceAdd, Nat.reduceSub, Nat.reduceBEq, Nat.reduceLeDiff, Int.reduceToNat, reduceCtorEq, hi, openedV, Try.results29]
    refine CodeT.ret ?_
    simp -implicitDefEqProofs only [go_sem, ↓reduceIte, Nat.reduceLT, Nat.reduceEqDiff, Nat.reduceAdd, Nat.reduceSub, Nat.reduceBEq, Nat.reduceLeDiff, Int.reduceToNat, reduceCtorEq, hi, openedV, Try.results29]
    refine pureEnd rfl ?_
    simp only [formatV, hi, er, Bool.true_and, Bool.false_and, Bool.and_true, Bool.and_false, Bool.true_or, Bool.false_or, Bool.or_true, Bool.or_false, Bool.not_true, Bool.not_false, Bool.false_eq_true, ↓reduceIte]
  have hd := disk_facts hi
  refine CallT.intro Try.func29 (by decide) rfl ?_
  simp -implicitDefEqProofs only [go_sem, ↓reduceIte, Nat.reduceLT, Nat.reduceEqDiff, Nat.reduceAdd, Nat.reduceSub, Nat.reduceBEq, Nat.reduceLeDiff, Int.reduceToNat, reduceCtorEq, hi, openedV, enterTm, Try.ntmps29, List.range'_succ, List.range'_zero, List.zip_cons_cons, List.zip_nil_left]
  refine CodeT.seqR ?_
  simp -implicitDefEqProofs only [go_sem, ↓reduceIte, Nat.reduceLT, Nat.reduceEqDiff, Nat.reduceAdd, Nat.reduceSub, Nat.reduceBEq, Nat.reduceLeDiff, Int.reduceToNat, reduceCtorEq, hi, openedV, Try.results29]
  refine CodeT.seqR ?_
  simp -implicitDefEqProofs only [go_sem, ↓reduceIte, Nat.reduceLT, Nat.reduceEqDiff, Nat.reduceAdd, Nat.reduceSub, Nat.reduceBEq, Nat.reduceLeDiff, Int.reduceToNat, reduceCtorEq, hi, openedV, Try.results29]
  refine PureT.eq (c61 _ _ ?_) rfl ?_
  assumption
  simp -implicitDefEqProofs only [go_sem, ↓reduceIte, Nat.reduceLT, Nat.reduceEqDiff, Nat.reduceAdd, Nat.reduceSub, Nat.reduceBEq, Nat.reduceLeDiff, Int.reduceToNat, reduceCtorEq, hi, openedV, Try.results29]
  refine CodeT.seq ?_
  refine CodeT.seqR ?_
  simp -implicitDefEqProofs only [go_sem, ↓reduceIte, Nat.reduceLT, Nat.reduceEqDiff, Nat.reduceAdd, Nat.reduceSub, Nat.reduceBEq, Nat.reduceLeDiff, Int.reduceToNat, reduceCtorEq, hi, openedV, Try.results29]
  refine CodeT.condF rfl ?_
  refine CodeT.skip ?_
  simp -implicitDefEqProofs only [go_sem, ↓reduceIte, Nat.reduceLT, Nat.reduceEqDiff, Nat.reduceAdd, Nat.reduceSub, Nat.reduceBEq, Nat.reduceLeDiff, Int.reduceToNat, reduceCtorEq, hi, openedV, Try.results29]
  refine CodeT.seqR ?_
  simp -implicitDefEqProofs only [go_sem, ↓reduceIte, Nat.reduceLT, Nat.reduceEqDiff, Nat.reduceAdd, Nat.reduceSub, Nat.reduceBEq, Nat.reduceLeDiff, Int.reduceToNat, reduceCtorEq, hi, openedV, Try.results29]
  refine PureT.eq (c13 _ ?_) rfl ?_
  assumption
  simp -implicitDefEqProofs only [go_sem, ↓reduceIte, Nat.reduceLT, Nat.reduceEqDiff, Nat.reduceAdd, Nat.reduceSub, Nat.reduceBEq, Nat.reduceLeDiff, Int.reduceToNat, reduceCtorEq, hi, openedV, Try.results29]
  refine CodeT.seq ?_
  refine CodeT.seqR ?_
  simp -implicitDefEqProofs only [go_sem, ↓reduceIte, Nat.reduceLT, Nat.reduceEqDiff, Nat.reduceAdd, Nat.reduceSub, Nat.reduceBEq, Nat.reduceLeDiff, Int.reduceToNat, reduceCtorEq, hi, openedV, Try.results29]
  refine PureT.eq (c66s _ hi) rfl ?_
  simp -implicitDefEqProofs only [go_sem, ↓reduceIte, Nat.reduceLT, Nat.reduceEqDiff, Nat.reduceAdd, Nat.reduceSub, Nat.reduceBEq, Nat.reduceLeDiff, Int.reduceToNat, reduceCtorEq, hi, openedV, Try.results29]
  refine CodeT.cond rfl (fun g4 => ?_) (fun g4 => ?_)
  have d4 := ofDec g4
  refine CodeT.seqR ?_
  simp -implicitDefEqProofs only [go_sem, ↓reduceIte, Nat.reduceLT, Nat.reduceEqDiff, Nat.reduceAdd, Nat.reduceSub, Nat.reduceBEq, Nat.reduceLeDiff, Int.reduceToNat, reduceCtorEq, hi, openedV, Try.results29, g4]
  refine CodeT.ret ?_
  simp -implicitDefEqProofs only [go_sem, ↓reduceIte, Nat.reduceLT, Nat.reduceEqDiff, Nat.reduceAdd, Nat.reduceSub, Nat.reduceBEq, Nat.reduceLeDiff, Int.reduceToNat, reduceCtorEq, hi, openedV, Try.results29, g4]
  refine pureEnd rfl ?_
  simp only [formatV, hi, er, wr, fl, zs, opvs, List.map_cons, List.map_nil, g4, Bool.true_and, Bool.false_and, Bool.and_true, Bool.and_false, Bool.true_or, Bool.false_or, Bool.or_true, Bool.or_false, Bool.not_true, Bool.not_false, Bool.false_eq_true, ↓reduceIte]
  have d4 := ofDecF g4
  refine CodeT.skip ?_
  simp -implicitDefEqProofs only [go_sem, ↓reduceIte, Nat.reduceLT, Nat.reduceEqDiff, Nat.reduceAdd, Nat.reduceSub, Nat.reduceBEq, Nat.reduceLeDiff, Int.reduceToNat, reduceCtorEq, hi, openedV, Try.results29, g4]
  refine CodeT.seqR ?_
  simp -implicitDefEqProofs only [go_sem, ↓reduceIte, Nat.reduceLT, Nat.reduceEqDiff, Nat.reduceAdd, Nat.reduceSub, Nat.reduceBEq, Nat.reduceLeDiff, Int.reduceToNat, reduceCtorEq, hi, openedV, Try.results29, g4]
  refine And.intro (by omega) ?_
  refine And.intro (by omega) ?_
  refine And.intro (by omega) ?_
  refine CallT.args ⟨_, Try.func65, by decide, rfl⟩ ?_
  simp -implicitDefEqProofs only [go_sem, ↓reduceIte, Nat.reduceLT, Nat.reduceEqDiff, Nat.reduceAdd, Nat.reduceSub, Nat.reduceBEq, Nat.reduceLeDiff, Int.reduceToNat, reduceCtorEq, hi, openedV, Try.results29, g4]
  refine And.intro (by omega) ?_
  refine PureT.eq (c65 _ _) rfl ?_
  simp -implicitDefEqProofs only [go_sem, ↓reduceIte, Nat.reduceLT, Nat.reduceEqDiff, Nat.reduceAdd, Nat.reduceSub, Nat.reduceBEq, Nat.reduceLeDiff, Int.reduceToNat, reduceCtorEq, hi, openedV, Try.results29, g4]
  refine PureT.eq (c64) rfl ?_
  simp -implicitDefEqProofs only [go_sem, ↓reduceIte, Nat.reduceLT, Nat.reduceEqDiff, Nat.reduceAdd, Nat.reduceSub, Nat.reduceBEq, Nat.reduceLeDiff, Int.reduceToNat, reduceCtorEq, hi, openedV, Try.results29, g4]
  refine PureT.eq (c65 _ _) rfl ?_
  simp -implicitDefEqProofs only [go_sem, ↓reduceIte, Nat.reduceLT, Nat.reduceEqDiff, Nat.reduceAdd, Nat.reduceSub, Nat.reduceBEq, Nat.reduceLeDiff, Int.reduceToNat, reduceCtorEq, hi, openedV, Try.results29, g4]
  refine PureT.eq (c64) rfl ?_
  simp -implicitDefEqProofs only [go_sem, ↓reduceIte, Nat.reduceLT, Nat.reduceEqDiff, Nat.reduceAdd, Nat.reduceSub, Nat.reduceBEq, Nat.reduceLeDiff, Int.reduceToNat, reduceCtorEq, hi, openedV, Try.results29, g4]
  refine And.intro (by trivial) ?_
  refine And.intro (by omega) ?_
  refine CodeT.ret ?_
  simp -implicitDefEqProofs only [go_sem, ↓reduceIte, Nat.reduceLT, Nat.reduceEqDiff, Nat.reduceAdd, Nat.reduceSub, Nat.reduceBEq, Nat.reduceLeDiff, Int.reduceToNat, reduceCtorEq, hi, openedV, Try.results29, g4]
  refine pureEnd rfl ?_
  simp only [formatV, hi, er, wr, fl, zs, opvs, List.map_cons, List.map_nil, g4, Bool.true_and, Bool.false_and, Bool.and_true, Bool.and_false, Bool.true_or, Bool.false_or, Bool.or_true, Bool.or_false, Bool.not_true, Bool.not_false, Bool.false_eq_true, ↓reduceIte]
def appendV (d : Dsk) (r : List UInt8) : AV :=
  if (!isDiskB d) = true then .tup [.sl false [], er 281]
  else if (!wrB d) = true then .tup [.sl false [], er 280]
  else if (!clB d) = true then .tup [.sl false [], er 280]
  else if decide (((frame r).length : Int) > (szB d : Nat) - (endB d : Nat)) = true then .tup [.sl false [], er 2]
  else .tup [.sl false (opvs [wr ((halfB d : Nat) + (endB d : Nat)) (frame r)]), er 0]
theorem c25 (d : Dsk) (hf : Few d) (r : List UInt8) (hb : r.length ≤ 1000000) : PureT Try.prog 25 [dkv d, .sl false (bs r)] (· = appendV d r) := by
  refine CallT.laxR ?_
  have hl := frame_length r
  cases hi : isDiskB d
  · refine CallT.intro Try.func25 (by decide) rfl ?_
    simp -implicitDefEqProofs only [go_sem, ↓reduceIte, Nat.reduceLT, Nat.reduceEqDiff, Nat.reduceAdd, Nat.reduceSub, Nat.reduceBEq, Nat.reduceLeDiff, Int.reduceToNat, reduceCtorEq, hi, appendingV, enterTm, Try.ntmps25, List.range'_succ, List.range'_zero, List.zip_cons_cons, List.zip_nil_left]
    refine CodeT.seqR ?_
    simp -implicitDefEqProofs only [go_sem, ↓reduceIte, Nat.reduceLT, Nat.reduceEqDiff, Nat.reduceAdd, Nat.reduceSub, Nat.reduceBEq, Nat.reduceLeDiff, Int.reduceToNat, reduceCtorEq, hi, appendingV, Try.results25]
    refine CodeT.seqR ?_
    simp -implicitDefEqProofs only [go_sem, ↓reduceIte, Nat.reduceLT, Nat.reduceEqDiff, Nat.reduceAdd, Nat.reduceSub, Nat.reduceBEq, Nat.reduceLeDiff, Int.reduceToNat, reduceCtorEq, hi, appendingV, Try.results25]
    refine PureT.eq (c69 _ ?_) rfl ?_
    assumption
    simp -implicitDefEqProofs only [go_sem, ↓reduceIte, Nat.reduceLT, Nat.reduceEqDiff, Nat.reduceAdd, Nat.reduceSub, Nat.reduceBEq, Nat.reduceLeDiff, Int.reduceToNat, reduceCtorEq, hi, appendingV, Try.results25]
    refine CodeT.seq ?_
    refine CodeT.seqR ?_
    simp -implicitDefEqProofs only [go_sem, ↓reduceIte, Nat.reduceLT, Nat.reduceEqDiff, Nat.reduceAdd, Nat.reduceSub, Nat.reduceBEq, Nat.reduceLeDiff, Int.reduceToNat, reduceCtorEq, hi, appendingV, Try.results25]
    refine CodeT.condT rfl ?_
    refine CodeT.seqR ?_
    simp -implicitDefEqProofs only [go_sem, ↓reduceIte, Nat.reduceLT, Nat.reduceEqDiff, Nat.reduceAdd, Nat.reduceSub, Nat.reduceBEq, Nat.reduceLeDiff, Int.reduceToNat, reduceCtorEq, hi, appendingV, Try.results25]
    refine CodeT.ret ?_
    simp -implicitDefEqProofs only [go_sem, ↓reduceIte, Nat.reduceLT, Nat.reduceEqDiff, Nat.reduceAdd, Nat.reduceSub, Nat.reduceBEq, Nat.reduceLeDiff, Int.reduceToNat, reduceCtorEq, hi, appendingV, Try.results25]
    refine pureEnd rfl ?_
    simp only [appendV, hi, er, Bool.true_and, Bool.false_and, Bool.and_true, Bool.and_false, Bool.true_or, Bool.false_or, Bool.or_true, Bool.or_false, Bool.not_true, Bool.not_false, Bool.false_eq_true, ↓reduceIte]
  have hd := disk_facts hi
  cases hw : wrB d
  · refine CallT.intro Try.func25 (by decide) rfl ?_
    simp -implicitDefEqProofs only [go_sem, ↓reduceIte, Nat.reduceLT, Nat.reduceEqDiff, Nat.reduceAdd, Nat.reduceSub, Nat.reduceBEq, Nat.reduceLeDiff, Int.reduceToNat, reduceCtorEq, hi, hw, appendingV, enterTm, Try.ntmps25, List.range'_succ, List.range'_zero, List.zip_cons_cons, List.zip_nil_left]
    refine CodeT.seqR ?_
    simp -implicitDefEqProofs only [go_sem, ↓reduceIte, Nat.reduceLT, Nat.reduceEqDiff, Nat.reduceAdd, Nat.reduceSub, Nat.reduceBEq, Nat.reduceLeDiff, Int.reduceToNat, reduceCtorEq, hi, hw, appendingV, Try.results25]
    refine CodeT.seqR ?_
    simp -implicitDefEqProofs only [go_sem, ↓reduceIte, Nat.reduceLT, Nat.reduceEqDiff, Nat.reduceAdd, Nat.reduceSub, Nat.reduceBEq, Nat.reduceLeDiff, Int.reduceToNat, reduceCtorEq, hi, hw, appendingV, Try.results25]
    refine PureT.eq (c69 _ ?_) rfl ?_
    assumption
    simp -implicitDefEqProofs only [go_sem, ↓reduceIte, Nat.reduceLT, Nat.reduceEqDiff, Nat.reduceAdd, Nat.reduceSub, Nat.reduceBEq, Nat.reduceLeDiff, Int.reduceToNat, reduceCtorEq, hi, hw, appendingV, Try.results25]
    refine CodeT.seq ?_
    refine CodeT.seqR ?_
    simp -implicitDefEqProofs only [go_sem, ↓reduceIte, Nat.reduceLT, Nat.reduceEqDiff, Nat.reduceAdd, Nat.reduceSub, Nat.reduceBEq, Nat.reduceLeDiff, Int.reduceToNat, reduceCtorEq, hi, hw, appendingV, Try.results25]
    refine CodeT.condT rfl ?_
    refine CodeT.seqR ?_
    simp -implicitDefEqProofs only [go_sem, ↓reduceIte, Nat.reduceLT, Nat.reduceEqDiff, Nat.reduceAdd, Nat.reduceSub, Nat.reduceBEq, Nat.reduceLeDiff, Int.reduceToNat, reduceCtorEq, hi, hw, appendingV, Try.results25]
    refine CodeT.ret ?_
    simp -implicitDefEqProofs only [go_sem, ↓reduceIte, Nat.reduceLT, Nat.reduceEqDiff, Nat.reduceAdd, Nat.reduceSub, Nat.reduceBEq, Nat.reduceLeDiff, Int.reduceToNat, reduceCtorEq, hi, hw, appendingV, Try.results25]
    refine pureEnd rfl ?_
    simp only [appendV, hi, hw, er, Bool.true_and, Bool.false_and, Bool.and_true, Bool.and_false, Bool.true_or, Bool.false_or, Bool.or_true, Bool.or_false, Bool.not_true, Bool.not_false, Bool.false_eq_true, ↓reduceIte]
  cases hc : clB d
  · refine CallT.intro Try.func25 (by decide) rfl ?_
    simp -implicitDefEqProofs only [go_sem, ↓reduceIte, Nat.reduceLT, Nat.reduceEqDiff, Nat.reduceAdd, Nat.reduceSub, Nat.reduceBEq, Nat.reduceLeDiff, Int.reduceToNat, reduceCtorEq, hi, hw, hc, appendingV, enterTm, Try.ntmps25, List.range'_succ, List.range'_zero, List.zip_cons_cons, List.zip_nil_left]
    refine CodeT.seqR ?_
    simp -implicitDefEqProofs only [go_sem, ↓reduceIte, Nat.reduceLT, Nat.reduceEqDiff, Nat.reduceAdd, Nat.reduceSub, Nat.reduceBEq, Nat.reduceLeDiff, Int.reduceToNat, reduceCtorEq, hi, hw, hc, appendingV, Try.results25]
    refine CodeT.seqR ?_
    simp -implicitDefEqProofs only [go_sem, ↓reduceIte, Nat.reduceLT, Nat.reduceEqDiff, Nat.reduceAdd, Nat.reduceSub, Nat.reduceBEq, Nat.reduceLeDiff, Int.reduceToNat, reduceCtorEq, hi, hw, hc, appendingV, Try.results25]
    refine PureT.eq (c69 _ ?_) rfl ?_
    assumption
    simp -implicitDefEqProofs only [go_sem, ↓reduceIte, Nat.reduceLT, Nat.reduceEqDiff, Nat.reduceAdd, Nat.reduceSub, Nat.reduceBEq, Nat.reduceLeDiff, Int.reduceToNat, reduceCtorEq, hi, hw, hc, appendingV, Try.results25]
    refine CodeT.seq ?_
    refine CodeT.seqR ?_
    simp -implicitDefEqProofs only [go_sem, ↓reduceIte, Nat.reduceLT, Nat.reduceEqDiff, Nat.reduceAdd, Nat.reduceSub, Nat.reduceBEq, Nat.reduceLeDiff, Int.reduceToNat, reduceCtorEq, hi, hw, hc, appendingV, Try.results25]
    refine CodeT.condT rfl ?_
    refine CodeT.seqR ?_
    simp -implicitDefEqProofs only [go_sem, ↓reduceIte, Nat.reduceLT, Nat.reduceEqDiff, Nat.reduceAdd, Nat.reduceSub, Nat.reduceBEq, Nat.reduceLeDiff, Int.reduceToNat, reduceCtorEq, hi, hw, hc, appendingV, Try.results25]
    refine CodeT.ret ?_
    simp -implicitDefEqProofs only [go_sem, ↓reduceIte, Nat.reduceLT, Nat.reduceEqDiff, Nat.reduceAdd, Nat.reduceSub, Nat.reduceBEq, Nat.reduceLeDiff, Int.reduceToNat, reduceCtorEq, hi, hw, hc, appendingV, Try.results25]
    refine pureEnd rfl ?_
    simp only [appendV, hi, hw, hc, er, Bool.true_and, Bool.false_and, Bool.and_true, Bool.and_false, Bool.true_or, Bool.false_or, Bool.or_true, Bool.or_false, Bool.not_true, Bool.not_false, Bool.false_eq_true, ↓reduceIte]
  refine CallT.intro Try.func25 (by decide) rfl ?_
  simp -implicitDefEqProofs only [go_sem, ↓reduceIte, Nat.reduceLT, Nat.reduceEqDiff, Nat.reduceAdd, Nat.reduceSub, Nat.reduceBEq, Nat.reduceLeDiff, Int.reduceToNat, reduceCtorEq, hi, hw, hc, appendingV, kOf_eq, enterTm, Try.ntmps25, List.range'_succ, List.range'_zero, List.zip_cons_cons, List.zip_nil_left]
  refine CodeT.seqR ?_
  simp -implicitDefEqProofs only [go_sem, ↓reduceIte, Nat.reduceLT, Nat.reduceEqDiff, Nat.reduceAdd, Nat.reduceSub, Nat.reduceBEq, Nat.reduceLeDiff, Int.reduceToNat, reduceCtorEq, hi, hw, hc, appendingV, kOf_eq, Try.results25]
  refine CodeT.seqR ?_
  simp -implicitDefEqProofs only [go_sem, ↓reduceIte, Nat.reduceLT, Nat.reduceEqDiff, Nat.reduceAdd, Nat.reduceSub, Nat.reduceBEq, Nat.reduceLeDiff, Int.reduceToNat, reduceCtorEq, hi, hw, hc, appendingV, kOf_eq, Try.results25]
  refine PureT.eq (c69 _ ?_) rfl ?_
  assumption
  simp -implicitDefEqProofs only [go_sem, ↓reduceIte, Nat.reduceLT, Nat.reduceEqDiff, Nat.reduceAdd, Nat.reduceSub, Nat.reduceBEq, Nat.reduceLeDiff, Int.reduceToNat, reduceCtorEq, hi, hw, hc, appendingV, kOf_eq, Try.results25]
  refine CodeT.seq ?_
  refine CodeT.seqR ?_
  simp -implicitDefEqProofs only [go_sem, ↓reduceIte, Nat.reduceLT, Nat.reduceEqDiff, Nat.reduceAdd, Nat.reduceSub, Nat.reduceBEq, Nat.reduceLeDiff, Int.reduceToNat, reduceCtorEq, hi, hw, hc, appendingV, kOf_eq, Try.results25]
  refine CodeT.condF rfl ?_
  refine CodeT.skip ?_
  simp -implicitDefEqProofs only [go_sem, ↓reduceIte, Nat.reduceLT, Nat.reduceEqDiff, Nat.reduceAdd, Nat.reduceSub, Nat.reduceBEq, Nat.reduceLeDiff, Int.reduceToNat, reduceCtorEq, hi, hw, hc, appendingV, kOf_eq, Try.results25]
  refine CodeT.seqR ?_
  simp -implicitDefEqProofs only [go_sem, ↓reduceIte, Nat.reduceLT, Nat.reduceEqDiff, Nat.reduceAdd, Nat.reduceSub, Nat.reduceBEq, Nat.reduceLeDiff, Int.reduceToNat, reduceCtorEq, hi, hw, hc, appendingV, kOf_eq, Try.results25]
  refine PureT.eq (c13 _ ?_) rfl ?_
  assumption
  simp -implicitDefEqProofs only [go_sem, ↓reduceIte, Nat.reduceLT, Nat.reduceEqDiff, Nat.reduceAdd, Nat.reduceSub, Nat.reduceBEq, Nat.reduceLeDiff, Int.reduceToNat, reduceCtorEq, hi, hw, hc, appendingV, kOf_eq, Try.results25]
  refine CodeT.seq ?_
  refine CodeT.seqR ?_
  simp -implicitDefEqProofs only [go_sem, ↓reduceIte, Nat.reduceLT, Nat.reduceEqDiff, Nat.reduceAdd, Nat.reduceSub, Nat.reduceBEq, Nat.reduceLeDiff, Int.reduceToNat, reduceCtorEq, hi, hw, hc, appendingV, kOf_eq, Try.results25]
  refine PureT.eq (c66s _ hi) rfl ?_
  simp -implicitDefEqProofs only [go_sem, ↓reduceIte, Nat.reduceLT, Nat.reduceEqDiff, Nat.reduceAdd, Nat.reduceSub, Nat.reduceBEq, Nat.reduceLeDiff, Int.reduceToNat, reduceCtorEq, hi, hw, hc, appendingV, kOf_eq, Try.results25]
  simp -implicitDefEqProofs (disch := omega) only [i64_in, bs_getD, opvs_getD, is64_getD, bss_getD]
  refine CodeT.cond rfl (fun g4 => ?_) (fun g4 => ?_)
  have d4 := ofDec g4
  refine CodeT.seqR ?_
  simp -implicitDefEqProofs only [go_sem, ↓reduceIte, Nat.reduceLT, Nat.reduceEqDiff, Nat.reduceAdd, Nat.reduceSub, Nat.reduceBEq, Nat.reduceLeDiff, Int.reduceToNat, reduceCtorEq, hi, hw, hc, appendingV, kOf_eq, Try.results25, g4]
  refine CodeT.ret ?_
  simp -implicitDefEqProofs only [go_sem, ↓reduceIte, Nat.reduceLT, Nat.reduceEqDiff, Nat.reduceAdd, Nat.reduceSub, Nat.reduceBEq, Nat.reduceLeDiff, Int.reduceToNat, reduceCtorEq, hi, hw, hc, appendingV, kOf_eq, Try.results25, g4]
  refine pureEnd rfl ?_
  simp only [appendV, hi, hw, hc, er, wr, fl, zs, opvs, List.map_cons, List.map_nil, g4, Bool.true_and, Bool.false_and, Bool.and_true, Bool.and_false, Bool.true_or, Bool.false_or, Bool.or_true, Bool.or_false, Bool.not_true, Bool.not_false, Bool.false_eq_true, ↓reduceIte]
  have d4 := ofDecF g4
  refine CodeT.skip ?_
  simp -implicitDefEqProofs only [go_sem, ↓reduceIte, Nat.reduceLT, Nat.reduceEqDiff, Nat.reduceAdd, Nat.reduceSub, Nat.reduceBEq, Nat.reduceLeDiff, Int.reduceToNat, reduceCtorEq, hi, hw, hc, appendingV, kOf_eq, Try.results25, g4]
  refine CodeT.seqR ?_
  simp -implicitDefEqProofs only [go_sem, ↓reduceIte, Nat.reduceLT, Nat.reduceEqDiff, Nat.reduceAdd, Nat.reduceSub, Nat.reduceBEq, Nat.reduceLeDiff, Int.reduceToNat, reduceCtorEq, hi, hw, hc, appendingV, kOf_eq, Try.results25, g4]
  refine PureT.eq (c65 _ _) rfl ?_
  simp -implicitDefEqProofs only [go_sem, ↓reduceIte, Nat.reduceLT, Nat.reduceEqDiff, Nat.reduceAdd, Nat.reduceSub, Nat.reduceBEq, Nat.reduceLeDiff, Int.reduceToNat, reduceCtorEq, hi, hw, hc, appendingV, kOf_eq, Try.results25, g4]
  refine And.intro (by trivial) ?_
  refine And.intro (by omega) ?_
  refine CodeT.ret ?_
  simp -implicitDefEqProofs only [go_sem, ↓reduceIte, Nat.reduceLT, Nat.reduceEqDiff, Nat.reduceAdd, Nat.reduceSub, Nat.reduceBEq, Nat.reduceLeDiff, Int.reduceToNat, reduceCtorEq, hi, hw, hc, appendingV, kOf_eq, Try.results25, g4]
  refine pureEnd rfl ?_
  simp -implicitDefEqProofs (disch := omega) only [i64_in, bs_getD, opvs_getD, is64_getD, bss_getD]
  simp only [appendV, hi, hw, hc, er, wr, fl, zs, opvs, List.map_cons, List.map_nil, g4, Bool.true_and, Bool.false_and, Bool.and_true, Bool.and_false, Bool.true_or, Bool.false_or, Bool.or_true, Bool.or_false, Bool.not_true, Bool.not_false, Bool.false_eq_true, ↓reduceIte]
def otherB (d : Dsk) : Int := 2 + (szB d : Nat) - (halfB d : Nat)
def turnB (d : Dsk) : UInt8 := if (((halfB d : Nat) : Int) == 1) = true then 1 else 0
def checkinV (d : Dsk) (r : List UInt8) : AV :=
  if (!isDiskB d) = true then .tup [.sl false [], er 281]
  else if (!wrB d) = true then .tup [.sl false [], er 280]
  else if decide (((frame r).length : Int) > (szB d : Nat)) = true then .tup [.sl false [], er 2]
  else .tup [.sl false (opvs [wr (otherB d) (zs (szB d)), fl, wr (otherB d) (frame r), fl, wr 0 [turnB d], fl]), er 0]
theorem one_u8 : AV.sl false [AV.val (.int .u8 1)] = .sl false (bs [1]) := rfl
theorem zero_u8 : AV.sl false [AV.val (.int .u8 0)] = .sl false (bs [0]) := rfl
theorem c33 (d : Dsk) (hf : Few d) (r : List UInt8) (hb : r.length ≤ 1000000) : PureT Try.prog 33 [dkv d, .sl false (bs r)] (· = checkinV d r) := by
  refine CallT.laxR ?_
  have hl := frame_length r
  cases hi : isDiskB d
  · refine CallT.intro Try.func33 (by decide) rfl ?_
    simp -implicitDefEqProofs only [go_sem, ↓reduceIte, Nat.reduceLT, Nat.reduceEqDiff, Nat.reduceAdd, Nat.reduceSub, Nat.reduceBEq, Nat.reduceLeDiff, Int.reduceToNat, reduceCtorEq, hi, openedV, enterTm, Try.ntmps33, List.range'_succ, List.range'_zero, List.zip_cons_cons, List.zip_nil_left]
    refine CodeT.seqR ?_
    simp -implicitDefEqProofs only [go_sem, ↓reduceIte, Nat.reduceLT, Nat.reduceEqDiff, Nat.reduceAdd, Nat.reduceSub, Nat.reduceBEq, Nat.reduceLeDiff, Int.reduceToNat, reduceCtorEq, hi, openedV, Try.results33]
    refine CodeT.seqR ?_
    simp -implicitDefEqProofs only [go_sem, ↓reduceIte, Nat.reduceLT, Nat.reduceEqDiff, Nat.reduceAdd, Nat.reduceSub, Nat.reduceBEq, Nat.reduceLeDiff, Int.reduceToNat, reduceCtorEq, hi, openedV, Try.results33]
    refine PureT.eq (c61 _ _ ?_) rfl ?_
    assumption
    simp -implicitDefEqProofs only [go_sem, ↓reduceIte, Nat.reduceLT, Nat.reduceEqDiff, Nat.reduceAdd, Nat.reduceSub, Nat.reduceBEq, Nat.reduceLeDiff, Int.reduceToNat, reduceCtorEq, hi, openedV, Try.results33]
    refine CodeT.seq ?_
    refine CodeT.seqR ?_
    simp -implicitDefEqProofs only [go_sem, ↓reduceIte, Nat.reduceLT, Nat.reduceEqDiff, Nat.reduceAdd, Nat.reduceSub, Nat.reduceBEq, Nat.reduceLeDiff, Int.reduceToNat, reduceCtorEq, hi, openedV, Try.results33]
    refine CodeT.condT rfl ?_
    refine CodeT.seqR ?_
    simp -implicitDefEqProofs only [go_sem, ↓reduceIte, Nat.reduceLT, Nat.reduceEqDiff, Nat.reduceAdd, Nat.reduceSub, Nat.reduceBEq, Nat.reduceLeDiff, Int.reduceToNat, reduceCtorEq, hi, openedV, Try.results33]
    refine CodeT.ret ?_
    simp -implicitDefEqProofs only [go_sem, ↓reduceIte, Nat.reduceLT, Nat.reduceEqDiff, Nat.reduceAdd, Nat.reduceSub, Nat.reduceBEq, Nat.reduceLeDiff, Int.reduceToNat, reduceCtorEq, hi, openedV, Try.results33]
    refine pureEnd rfl ?_
    simp only [checkinV, hi, er, Bool.true_and, Bool.false_and, Bool.and_true, Bool.and_false, Bool.true_or, Bool.false_or, Bool.or_true, Bool.or_false, Bool.not_true, Bool.not_false, Bool.false_eq_true, ↓reduceIte]
  have hd := disk_facts hi
  cases hw : wrB d
  · refine CallT.intro Try.func33 (by decide) rfl ?_
    simp -implicitDefEqProofs only [go_sem, ↓reduceIte, Nat.reduceLT, Nat.reduceEqDiff, Nat.reduceAdd, Nat.reduceSub, Nat.reduceBEq, Nat.reduceLeDiff, Int.reduceToNat, reduceCtorEq, hi, hw, openedV, enterTm, Try.ntmps33, List.range'_succ, List.range'_zero, List.zip_cons_cons, List.zip_nil_left]
    refine CodeT.seqR ?_
    simp -implicitDefEqProofs only [go_sem, ↓reduceIte, Nat.reduceLT, Nat.reduceEqDiff, Nat.reduceAdd, Nat.reduceSub, Nat.reduceBEq, Nat.reduceLeDiff, Int.reduceToNat, reduceCtorEq, hi, hw, openedV, Try.results33]
    refine CodeT.seqR ?_
    simp -implicitDefEqProofs only [go_sem, ↓reduceIte, Nat.reduceLT, Nat.reduceEqDiff, Nat.reduceAdd, Nat.reduceSub, Nat.reduceBEq, Nat.reduceLeDiff, Int.reduceToNat, reduceCtorEq, hi, hw, openedV, Try.results33]
    refine PureT.eq (c61 _ _ ?_) rfl ?_
    assumption
    simp -implicitDefEqProofs only [go_sem, ↓reduceIte, Nat.reduceLT, Nat.reduceEqDiff, Nat.reduceAdd, Nat.reduceSub, Nat.reduceBEq, Nat.reduceLeDiff, Int.reduceToNat, reduceCtorEq, hi, hw, openedV, Try.results33]
    refine CodeT.seq ?_
    refine CodeT.seqR ?_
    simp -implicitDefEqProofs only [go_sem, ↓reduceIte, Nat.reduceLT, Nat.reduceEqDiff, Nat.reduceAdd, Nat.reduceSub, Nat.reduceBEq, Nat.reduceLeDiff, Int.reduceToNat, reduceCtorEq, hi, hw, openedV, Try.results33]
    refine CodeT.condT rfl ?_
    refine CodeT.seqR ?_
    simp -implicitDefEqProofs only [go_sem, ↓reduceIte, Nat.reduceLT, Nat.reduceEqDiff, Nat.reduceAdd, Nat.reduceSub, Nat.reduceBEq, Nat.reduceLeDiff, Int.reduceToNat, reduceCtorEq, hi, hw, openedV, Try.results33]
    refine CodeT.ret ?_
    simp -implicitDefEqProofs only [go_sem, ↓reduceIte, Nat.reduceLT, Nat.reduceEqDiff, Nat.reduceAdd, Nat.reduceSub, Nat.reduceBEq, Nat.reduceLeDiff, Int.reduceToNat, reduceCtorEq, hi, hw, openedV, Try.results33]
    refine pureEnd rfl ?_
    simp only [checkinV, hi, hw, er, Bool.true_and, Bool.false_and, Bool.and_true, Bool.and_false, Bool.true_or, Bool.false_or, Bool.or_true, Bool.or_false, Bool.not_true, Bool.not_false, Bool.false_eq_true, ↓reduceIte]
  refine CallT.intro Try.func33 (by decide) rfl ?_
  simp -implicitDefEqProofs only [go_sem, ↓reduceIte, Nat.reduceLT, Nat.reduceEqDiff, Nat.reduceAdd, Nat.reduceSub, Nat.reduceBEq, Nat.reduceLeDiff, Int.reduceToNat, reduceCtorEq, hi, hw, openedV, kOf_eq, one_u8, zero_u8, enterTm, Try.ntmps33, List.range'_succ, List.range'_zero, List.zip_cons_cons, List.zip_nil_left]
  refine CodeT.seqR ?_
  simp -implicitDefEqProofs only [go_sem, ↓reduceIte, Nat.reduceLT, Nat.reduceEqDiff, Nat.reduceAdd, Nat.reduceSub, Nat.reduceBEq, Nat.reduceLeDiff, Int.reduceToNat, reduceCtorEq, hi, hw, openedV, kOf_eq, one_u8, zero_u8, Try.results33]
  refine CodeT.seqR ?_
  simp -implicitDefEqProofs only [go_sem, ↓reduceIte, Nat.reduceLT, Nat.reduceEqDiff, Nat.reduceAdd, Nat.reduceSub, Nat.reduceBEq, Nat.reduceLeDiff, Int.reduceToNat, reduceCtorEq, hi, hw, openedV, kOf_eq, one_u8, zero_u8, Try.results33]
  refine PureT.eq (c61 _ _ ?_) rfl ?_
  assumption
  simp -implicitDefEqProofs only [go_sem, ↓reduceIte, Nat.reduceLT, Nat.reduceEqDiff, Nat.reduceAdd, Nat.reduceSub, Nat.reduceBEq, Nat.reduceLeDiff, Int.reduceToNat, reduceCtorEq, hi, hw, openedV, kOf_eq, one_u8, zero_u8, Try.results33]
  refine CodeT.seq ?_
  refine CodeT.seqR ?_
  simp -implicitDefEqProofs only [go_sem, ↓reduceIte, Nat.reduceLT, Nat.reduceEqDiff, Nat.reduceAdd, Nat.reduceSub, Nat.reduceBEq, Nat.reduceLeDiff, Int.reduceToNat, reduceCtorEq, hi, hw, openedV, kOf_eq, one_u8, zero_u8, Try.results33]
  refine CodeT.condF rfl ?_
  refine CodeT.skip ?_
  simp -implicitDefEqProofs only [go_sem, ↓reduceIte, Nat.reduceLT, Nat.reduceEqDiff, Nat.reduceAdd, Nat.reduceSub, Nat.reduceBEq, Nat.reduceLeDiff, Int.reduceToNat, reduceCtorEq, hi, hw, openedV, kOf_eq, one_u8, zero_u8, Try.results33]
  refine CodeT.seqR ?_
  simp -implicitDefEqProofs only [go_sem, ↓reduceIte, Nat.reduceLT, Nat.reduceEqDiff, Nat.reduceAdd, Nat.reduceSub, Nat.reduceBEq, Nat.reduceLeDiff, Int.reduceToNat, reduceCtorEq, hi, hw, openedV, kOf_eq, one_u8, zero_u8, Try.results33]
  refine PureT.eq (c13 _ ?_) rfl ?_
  assumption
  simp -implicitDefEqProofs only [go_sem, ↓reduceIte, Nat.reduceLT, Nat.reduceEqDiff, Nat.reduceAdd, Nat.reduceSub, Nat.reduceBEq, Nat.reduceLeDiff, Int.reduceToNat, reduceCtorEq, hi, hw, openedV, kOf_eq, one_u8, zero_u8, Try.results33]
  refine CodeT.seq ?_
  refine CodeT.seqR ?_
  simp -implicitDefEqProofs only [go_sem, ↓reduceIte, Nat.reduceLT, Nat.reduceEqDiff, Nat.reduceAdd, Nat.reduceSub, Nat.reduceBEq, Nat.reduceLeDiff, Int.reduceToNat, reduceCtorEq, hi, hw, openedV, kOf_eq, one_u8, zero_u8, Try.results33]
  refine PureT.eq (c66s _ hi) rfl ?_
  simp -implicitDefEqProofs only [go_sem, ↓reduceIte, Nat.reduceLT, Nat.reduceEqDiff, Nat.reduceAdd, Nat.reduceSub, Nat.reduceBEq, Nat.reduceLeDiff, Int.reduceToNat, reduceCtorEq, hi, hw, openedV, kOf_eq, one_u8, zero_u8, Try.results33]
  refine CodeT.cond rfl (fun g4 => ?_) (fun g4 => ?_)
  have d4 := ofDec g4
  refine CodeT.seqR ?_
  simp -implicitDefEqProofs only [go_sem, ↓reduceIte, Nat.reduceLT, Nat.reduceEqDiff, Nat.reduceAdd, Nat.reduceSub, Nat.reduceBEq, Nat.reduceLeDiff, Int.reduceToNat, reduceCtorEq, hi, hw, openedV, kOf_eq, one_u8, zero_u8, Try.results33, g4]
  refine CodeT.ret ?_
  simp -implicitDefEqProofs only [go_sem, ↓reduceIte, Nat.reduceLT, Nat.reduceEqDiff, Nat.reduceAdd, Nat.reduceSub, Nat.reduceBEq, Nat.reduceLeDiff, Int.reduceToNat, reduceCtorEq, hi, hw, openedV, kOf_eq, one_u8, zero_u8, Try.results33, g4]
  refine pureEnd rfl ?_
  simp only [checkinV, hi, hw, er, wr, fl, zs, opvs, List.map_cons, List.map_nil, otherB, turnB, g4, Bool.true_and, Bool.false_and, Bool.and_true, Bool.and_false, Bool.true_or, Bool.false_or, Bool.or_true, Bool.or_false, Bool.not_true, Bool.not_false, Bool.false_eq_true, ↓reduceIte]
  have d4 := ofDecF g4
  refine CodeT.skip ?_
  simp -implicitDefEqProofs only [go_sem, ↓reduceIte, Nat.reduceLT, Nat.reduceEqDiff, Nat.reduceAdd, Nat.reduceSub, Nat.reduceBEq, Nat.reduceLeDiff, Int.reduceToNat, reduceCtorEq, hi, hw, openedV, kOf_eq, one_u8, zero_u8, Try.results33, g4]
  refine CodeT.seqR ?_
  simp -implicitDefEqProofs only [go_sem, ↓reduceIte, Nat.reduceLT, Nat.reduceEqDiff, Nat.reduceAdd, Nat.reduceSub, Nat.reduceBEq, Nat.reduceLeDiff, Int.reduceToNat, reduceCtorEq, hi, hw, openedV, kOf_eq, one_u8, zero_u8, Try.results33, g4]
  refine CodeT.seq ?_
  refine CodeT.seqR ?_
  simp -implicitDefEqProofs only [go_sem, ↓reduceIte, Nat.reduceLT, Nat.reduceEqDiff, Nat.reduceAdd, Nat.reduceSub, Nat.reduceBEq, Nat.reduceLeDiff, Int.reduceToNat, reduceCtorEq, hi, hw, openedV, kOf_eq, one_u8, zero_u8, Try.results33, g4]
  refine CodeT.cond rfl (fun g5 => ?_) (fun g5 => ?_)
  have d5 := ofBeq g5
  refine CodeT.region ?_
  simp -implicitDefEqProofs only [go_sem, ↓reduceIte, Nat.reduceLT, Nat.reduceEqDiff, Nat.reduceAdd, Nat.reduceSub, Nat.reduceBEq, Nat.reduceLeDiff, Int.reduceToNat, reduceCtorEq, hi, hw, openedV, kOf_eq, one_u8, zero_u8, Try.results33, g4, g5]
  refine CodeT.seqR ?_
  simp -implicitDefEqProofs only [go_sem, ↓reduceIte, Nat.reduceLT, Nat.reduceEqDiff, Nat.reduceAdd, Nat.reduceSub, Nat.reduceBEq, Nat.reduceLeDiff, Int.reduceToNat, reduceCtorEq, hi, hw, openedV, kOf_eq, one_u8, zero_u8, Try.results33, g4, g5]
  refine PureT.eq (c78s _ hi) rfl ?_
  simp -implicitDefEqProofs only [go_sem, ↓reduceIte, Nat.reduceLT, Nat.reduceEqDiff, Nat.reduceAdd, Nat.reduceSub, Nat.reduceBEq, Nat.reduceLeDiff, Int.reduceToNat, reduceCtorEq, hi, hw, openedV, kOf_eq, one_u8, zero_u8, Try.results33, g4, g5]
  refine PureT.eq (c66s _ hi) rfl ?_
  simp -implicitDefEqProofs only [go_sem, ↓reduceIte, Nat.reduceLT, Nat.reduceEqDiff, Nat.reduceAdd, Nat.reduceSub, Nat.reduceBEq, Nat.reduceLeDiff, Int.reduceToNat, reduceCtorEq, hi, hw, openedV, kOf_eq, one_u8, zero_u8, Try.results33, g4, g5]
  refine And.intro (by omega) ?_
  refine And.intro (by omega) ?_
  refine And.intro (by omega) ?_
  refine CallT.args ⟨_, Try.func65, by decide, rfl⟩ ?_
  simp -implicitDefEqProofs only [go_sem, ↓reduceIte, Nat.reduceLT, Nat.reduceEqDiff, Nat.reduceAdd, Nat.reduceSub, Nat.reduceBEq, Nat.reduceLeDiff, Int.reduceToNat, reduceCtorEq, hi, hw, openedV, kOf_eq, one_u8, zero_u8, Try.results33, g4, g5]
  refine And.intro (by omega) ?_
  refine PureT.eq (c65 _ _) rfl ?_
  simp -implicitDefEqProofs only [go_sem, ↓reduceIte, Nat.reduceLT, Nat.reduceEqDiff, Nat.reduceAdd, Nat.reduceSub, Nat.reduceBEq, Nat.reduceLeDiff, Int.reduceToNat, reduceCtorEq, hi, hw, openedV, kOf_eq, one_u8, zero_u8, Try.results33, g4, g5]
  refine PureT.eq (c64) rfl ?_
  simp -implicitDefEqProofs only [go_sem, ↓reduceIte, Nat.reduceLT, Nat.reduceEqDiff, Nat.reduceAdd, Nat.reduceSub, Nat.reduceBEq, Nat.reduceLeDiff, Int.reduceToNat, reduceCtorEq, hi, hw, openedV, kOf_eq, one_u8, zero_u8, Try.results33, g4, g5]
  refine PureT.eq (c78s _ hi) rfl ?_
  simp -implicitDefEqProofs only [go_sem, ↓reduceIte, Nat.reduceLT, Nat.reduceEqDiff, Nat.reduceAdd, Nat.reduceSub, Nat.reduceBEq, Nat.reduceLeDiff, Int.reduceToNat, reduceCtorEq, hi, hw, openedV, kOf_eq, one_u8, zero_u8, Try.results33, g4, g5]
  refine PureT.eq (c65 _ _) rfl ?_
  simp -implicitDefEqProofs only [go_sem, ↓reduceIte, Nat.reduceLT, Nat.reduceEqDiff, Nat.reduceAdd, Nat.reduceSub, Nat.reduceBEq, Nat.reduceLeDiff, Int.reduceToNat, reduceCtorEq, hi, hw, openedV, kOf_eq, one_u8, zero_u8, Try.results33, g4, g5]
  refine PureT.eq (c64) rfl ?_
  simp -implicitDefEqProofs only [go_sem, ↓reduceIte, Nat.reduceLT, Nat.reduceEqDiff, Nat.reduceAdd, Nat.reduceSub, Nat.reduceBEq, Nat.reduceLeDiff, Int.reduceToNat, reduceCtorEq, hi, hw, openedV, kOf_eq, one_u8, zero_u8, Try.results33, g4, g5]
  refine And.intro (by trivial) ?_
  refine And.intro (by omega) ?_
  refine CallT.laxA ?_
  simp -implicitDefEqProofs only [go_sem, ↓reduceIte, Nat.reduceLT, Nat.reduceEqDiff, Nat.reduceAdd, Nat.reduceSub, Nat.reduceBEq, Nat.reduceLeDiff, Int.reduceToNat, reduceCtorEq, hi, hw, openedV, kOf_eq, one_u8, zero_u8, Try.results33, g4, g5]
  refine PureT.eq (c65 _ _) rfl ?_
  simp -implicitDefEqProofs only [go_sem, ↓reduceIte, Nat.reduceLT, Nat.reduceEqDiff, Nat.reduceAdd, Nat.reduceSub, Nat.reduceBEq, Nat.reduceLeDiff, Int.reduceToNat, reduceCtorEq, hi, hw, openedV, kOf_eq, one_u8, zero_u8, Try.results33, g4, g5]
  refine PureT.eq (c64) rfl ?_
  simp -implicitDefEqProofs only [go_sem, ↓reduceIte, Nat.reduceLT, Nat.reduceEqDiff, Nat.reduceAdd, Nat.reduceSub, Nat.reduceBEq, Nat.reduceLeDiff, Int.reduceToNat, reduceCtorEq, hi, hw, openedV, kOf_eq, one_u8, zero_u8, Try.results33, g4, g5]
  refine And.intro (by trivial) ?_
  refine And.intro (by omega) ?_
  refine CodeT.ret ?_
  simp -implicitDefEqProofs only [go_sem, ↓reduceIte, Nat.reduceLT, Nat.reduceEqDiff, Nat.reduceAdd, Nat.reduceSub, Nat.reduceBEq, Nat.reduceLeDiff, Int.reduceToNat, reduceCtorEq, hi, hw, openedV, kOf_eq, one_u8, zero_u8, Try.results33, g4, g5]
  refine pureEnd rfl ?_
  simp only [checkinV, hi, hw, er, wr, fl, zs, opvs, List.map_cons, List.map_nil, otherB, turnB, g4, g5, Bool.true_and, Bool.false_and, Bool.and_true, Bool.and_false, Bool.true_or, Bool.false_or, Bool.or_true, Bool.or_false, Bool.not_true, Bool.not_false, Bool.false_eq_true, ↓reduceIte]
  have d5 := ofBeqF g5
  refine CodeT.skip ?_
  simp -implicitDefEqProofs only [go_sem, ↓reduceIte, Nat.reduceLT, Nat.reduceEqDiff, Nat.reduceAdd, Nat.reduceSub, Nat.reduceBEq, Nat.reduceLeDiff, Int.reduceToNat, reduceCtorEq, hi, hw, openedV, kOf_eq, one_u8, zero_u8, Try.results33, g4, g5]
  refine CodeT.seqR ?_
  simp -implicitDefEqProofs only [go_sem, ↓reduceIte, Nat.reduceLT, Nat.reduceEqDiff, Nat.reduceAdd, Nat.reduceSub, Nat.reduceBEq, Nat.reduceLeDiff, Int.reduceToNat, reduceCtorEq, hi, hw, openedV, kOf_eq, one_u8, zero_u8, Try.results33, g4, g5]
  refine PureT.eq (c78s _ hi) rfl ?_
  simp -implicitDefEqProofs only [go_sem, ↓reduceIte, Nat.reduceLT, Nat.reduceEqDiff, Nat.reduceAdd, Nat.reduceSub, Nat.reduceBEq, Nat.reduceLeDiff, Int.reduceToNat, reduceCtorEq, hi, hw, openedV, kOf_eq, one_u8, zero_u8, Try.results33, g4, g5]
  refine PureT.eq (c66s _ hi) rfl ?_
  simp -implicitDefEqProofs only [go_sem, ↓reduceIte, Nat.reduceLT, Nat.reduceEqDiff, Nat.reduceAdd, Nat.reduceSub, Nat.reduceBEq, Nat.reduceLeDiff, Int.reduceToNat, reduceCtorEq, hi, hw, openedV, kOf_eq, one_u8, zero_u8, Try.results33, g4, g5]
  refine And.intro (by omega) ?_
  refine And.intro (by omega) ?_
  refine And.intro (by omega) ?_
  refine CallT.args ⟨_, Try.func65, by decide, rfl⟩ ?_
  simp -implicitDefEqProofs only [go_sem, ↓reduceIte, Nat.reduceLT, Nat.reduceEqDiff, Nat.reduceAdd, Nat.reduceSub, Nat.reduceBEq, Nat.reduceLeDiff, Int.reduceToNat, reduceCtorEq, hi, hw, openedV, kOf_eq, one_u8, zero_u8, Try.results33, g4, g5]
  refine And.intro (by omega) ?_
  refine PureT.eq (c65 _ _) rfl ?_
  simp -implicitDefEqProofs only [go_sem, ↓reduceIte, Nat.reduceLT, Nat.reduceEqDiff, Nat.reduceAdd, Nat.reduceSub, Nat.reduceBEq, Nat.reduceLeDiff, Int.reduceToNat, reduceCtorEq, hi, hw, openedV, kOf_eq, one_u8, zero_u8, Try.results33, g4, g5]
  refine PureT.eq (c64) rfl ?_
  simp -implicitDefEqProofs only [go_sem, ↓reduceIte, Nat.reduceLT, Nat.reduceEqDiff, Nat.reduceAdd, Nat.reduceSub, Nat.reduceBEq, Nat.reduceLeDiff, Int.reduceToNat, reduceCtorEq, hi, hw, openedV, kOf_eq, one_u8, zero_u8, Try.results33, g4, g5]
  refine PureT.eq (c78s _ hi) rfl ?_
  simp -implicitDefEqProofs only [go_sem, ↓reduceIte, Nat.reduceLT, Nat.reduceEqDiff, Nat.reduceAdd, Nat.reduceSub, Nat.reduceBEq, Nat.reduceLeDiff, Int.reduceToNat, reduceCtorEq, hi, hw, openedV, kOf_eq, one_u8, zero_u8, Try.results33, g4, g5]
  refine PureT.eq (c65 _ _) rfl ?_
  simp -implicitDefEqProofs only [go_sem, ↓reduceIte, Nat.reduceLT, Nat.reduceEqDiff, Nat.reduceAdd, Nat.reduceSub, Nat.reduceBEq, Nat.reduceLeDiff, Int.reduceToNat, reduceCtorEq, hi, hw, openedV, kOf_eq, one_u8, zero_u8, Try.results33, g4, g5]
  refine PureT.eq (c64) rfl ?_
  simp -implicitDefEqProofs only [go_sem, ↓reduceIte, Nat.reduceLT, Nat.reduceEqDiff, Nat.reduceAdd, Nat.reduceSub, Nat.reduceBEq, Nat.reduceLeDiff, Int.reduceToNat, reduceCtorEq, hi, hw, openedV, kOf_eq, one_u8, zero_u8, Try.results33, g4, g5]
  refine And.intro (by trivial) ?_
  refine And.intro (by omega) ?_
  refine CallT.laxA ?_
  simp -implicitDefEqProofs only [go_sem, ↓reduceIte, Nat.reduceLT, Nat.reduceEqDiff, Nat.reduceAdd, Nat.reduceSub, Nat.reduceBEq, Nat.reduceLeDiff, Int.reduceToNat, reduceCtorEq, hi, hw, openedV, kOf_eq, one_u8, zero_u8, Try.results33, g4, g5]
  refine PureT.eq (c65 _ _) rfl ?_
  simp -implicitDefEqProofs only [go_sem, ↓reduceIte, Nat.reduceLT, Nat.reduceEqDiff, Nat.reduceAdd, Nat.reduceSub, Nat.reduceBEq, Nat.reduceLeDiff, Int.reduceToNat, reduceCtorEq, hi, hw, openedV, kOf_eq, one_u8, zero_u8, Try.results33, g4, g5]
  refine PureT.eq (c64) rfl ?_
  simp -implicitDefEqProofs only [go_sem, ↓reduceIte, Nat.reduceLT, Nat.reduceEqDiff, Nat.reduceAdd, Nat.reduceSub, Nat.reduceBEq, Nat.reduceLeDiff, Int.reduceToNat, reduceCtorEq, hi, hw, openedV, kOf_eq, one_u8, zero_u8, Try.results33, g4, g5]
  refine And.intro (by trivial) ?_
  refine And.intro (by omega) ?_
  refine CodeT.ret ?_
  simp -implicitDefEqProofs only [go_sem, ↓reduceIte, Nat.reduceLT, Nat.reduceEqDiff, Nat.reduceAdd, Nat.reduceSub, Nat.reduceBEq, Nat.reduceLeDiff, Int.reduceToNat, reduceCtorEq, hi, hw, openedV, kOf_eq, one_u8, zero_u8, Try.results33, g4, g5]
  refine pureEnd rfl ?_
  simp only [checkinV, hi, hw, er, wr, fl, zs, opvs, List.map_cons, List.map_nil, otherB, turnB, g4, g5, Bool.true_and, Bool.false_and, Bool.and_true, Bool.and_false, Bool.true_or, Bool.false_or, Bool.or_true, Bool.or_false, Bool.not_true, Bool.not_false, Bool.false_eq_true, ↓reduceIte]
def openV (d : Dsk) : AV :=
  if (!isDiskB d) = true then .tup [.sl false [], er 281]
  else if (!wrB d) = true then .tup [.sl false [], er 280]
  else if (!zerosB ((useB d).drop (endB d))) = true then .tup [.sl false (opvs [fl, wr ((halfB d : Nat) + (endB d : Nat)) (zs (szB d - endB d)), fl]), er 0]
  else if decide ((d.queue.length : Int) > 0) = true then .tup [.sl false (opvs [fl]), er 0]
  else .tup [.sl false [], er 0]
theorem c20 (d : Dsk) (hf : Few d) : PureT Try.prog 20 [dkv d] (· = openV d) := by
  refine CallT.laxR ?_
  have hq := hf.q
  cases hi : isDiskB d
  · refine CallT.intro Try.func20 (by decide) rfl ?_
    simp -implicitDefEqProofs only [go_sem, ↓reduceIte, Nat.reduceLT, Nat.reduceEqDiff, Nat.reduceAdd, Nat.reduceSub, Nat.reduceBEq, Nat.reduceLeDiff, Int.reduceToNat, reduceCtorEq, hi, openedV, enterTm, Try.ntmps20, List.range'_succ, List.range'_zero, List.zip_cons_cons, List.zip_nil_left]
    refine CodeT.seqR ?_
    simp -implicitDefEqProofs only [go_sem, ↓reduceIte, Nat.reduceLT, Nat.reduceEqDiff, Nat.reduceAdd, Nat.reduceSub, Nat.reduceBEq, Nat.reduceLeDiff, Int.reduceToNat, reduceCtorEq, hi, openedV, Try.results20]
    refine CodeT.seqR ?_
    simp -implicitDefEqProofs only [go_sem, ↓reduceIte, Nat.reduceLT, Nat.reduceEqDiff, Nat.reduceAdd, Nat.reduceSub, Nat.reduceBEq, Nat.reduceLeDiff, Int.reduceToNat, reduceCtorEq, hi, openedV, Try.results20]
    refine PureT.eq (c61 _ _ ?_) rfl ?_
    assumption
    simp -implicitDefEqProofs only [go_sem, ↓reduceIte, Nat.reduceLT, Nat.reduceEqDiff, Nat.reduceAdd, Nat.reduceSub, Nat.reduceBEq, Nat.reduceLeDiff, Int.reduceToNat, reduceCtorEq, hi, openedV, Try.results20]
    refine CodeT.seq ?_
    refine CodeT.seqR ?_
    simp -implicitDefEqProofs only [go_sem, ↓reduceIte, Nat.reduceLT, Nat.reduceEqDiff, Nat.reduceAdd, Nat.reduceSub, Nat.reduceBEq, Nat.reduceLeDiff, Int.reduceToNat, reduceCtorEq, hi, openedV, Try.results20]
    refine CodeT.condT rfl ?_
    refine CodeT.seqR ?_
    simp -implicitDefEqProofs only [go_sem, ↓reduceIte, Nat.reduceLT, Nat.reduceEqDiff, Nat.reduceAdd, Nat.reduceSub, Nat.reduceBEq, Nat.reduceLeDiff, Int.reduceToNat, reduceCtorEq, hi, openedV, Try.results20]
    refine CodeT.ret ?_
    simp -implicitDefEqProofs only [go_sem, ↓reduceIte, Nat.reduceLT, Nat.reduceEqDiff, Nat.reduceAdd, Nat.reduceSub, Nat.reduceBEq, Nat.reduceLeDiff, Int.reduceToNat, reduceCtorEq, hi, openedV, Try.results20]
    refine pureEnd rfl ?_
    simp only [openV, hi, er, Bool.true_and, Bool.false_and, Bool.and_true, Bool.and_false, Bool.true_or, Bool.false_or, Bool.or_true, Bool.or_false, Bool.not_true, Bool.not_false, Bool.false_eq_true, ↓reduceIte]
  have hd := disk_facts hi
  cases hw : wrB d
  · refine CallT.intro Try.func20 (by decide) rfl ?_
    simp -implicitDefEqProofs only [go_sem, ↓reduceIte, Nat.reduceLT, Nat.reduceEqDiff, Nat.reduceAdd, Nat.reduceSub, Nat.reduceBEq, Nat.reduceLeDiff, Int.reduceToNat, reduceCtorEq, hi, hw, openedV, enterTm, Try.ntmps20, List.range'_succ, List.range'_zero, List.zip_cons_cons, List.zip_nil_left]
    refine CodeT.seqR ?_
    simp -implicitDefEqProofs only [go_sem, ↓reduceIte, Nat.reduceLT, Nat.reduceEqDiff, Nat.reduceAdd, Nat.reduceSub, Nat.reduceBEq, Nat.reduceLeDiff, Int.reduceToNat, reduceCtorEq, hi, hw, openedV, Try.results20]
    refine CodeT.seqR ?_
    simp -implicitDefEqProofs only [go_sem, ↓reduceIte, Nat.reduceLT, Nat.reduceEqDiff, Nat.reduceAdd, Nat.reduceSub, Nat.reduceBEq, Nat.reduceLeDiff, Int.reduceToNat, reduceCtorEq, hi, hw, openedV, Try.results20]
    refine PureT.eq (c61 _ _ ?_) rfl ?_
    assumption
    simp -implicitDefEqProofs only [go_sem, ↓reduceIte, Nat.reduceLT, Nat.reduceEqDiff, Nat.reduceAdd, Nat.reduceSub, Nat.reduceBEq, Nat.reduceLeDiff, Int.reduceToNat, reduceCtorEq, hi, hw, openedV, Try.results20]
    refine CodeT.seq ?_
    refine CodeT.seqR ?_
    simp -implicitDefEqProofs only [go_sem, ↓reduceIte, Nat.reduceLT, Nat.reduceEqDiff, Nat.reduceAdd, Nat.reduceSub, Nat.reduceBEq, Nat.reduceLeDiff, Int.reduceToNat, reduceCtorEq, hi, hw, openedV, Try.results20]
    refine CodeT.condT rfl ?_
    refine CodeT.seqR ?_
    simp -implicitDefEqProofs only [go_sem, ↓reduceIte, Nat.reduceLT, Nat.reduceEqDiff, Nat.reduceAdd, Nat.reduceSub, Nat.reduceBEq, Nat.reduceLeDiff, Int.reduceToNat, reduceCtorEq, hi, hw, openedV, Try.results20]
    refine CodeT.ret ?_
    simp -implicitDefEqProofs only [go_sem, ↓reduceIte, Nat.reduceLT, Nat.reduceEqDiff, Nat.reduceAdd, Nat.reduceSub, Nat.reduceBEq, Nat.reduceLeDiff, Int.reduceToNat, reduceCtorEq, hi, hw, openedV, Try.results20]
    refine pureEnd rfl ?_
    simp only [openV, hi, hw, er, Bool.true_and, Bool.false_and, Bool.and_true, Bool.and_false, Bool.true_or, Bool.false_or, Bool.or_true, Bool.or_false, Bool.not_true, Bool.not_false, Bool.false_eq_true, ↓reduceIte]
  refine CallT.intro Try.func20 (by decide) rfl ?_
  simp -implicitDefEqProofs only [go_sem, ↓reduceIte, Nat.reduceLT, Nat.reduceEqDiff, Nat.reduceAdd, Nat.reduceSub, Nat.reduceBEq, Nat.reduceLeDiff, Int.reduceToNat, reduceCtorEq, hi, hw, openedV, kOf_eq, enterTm, Try.ntmps20, List.range'_succ, List.range'_zero, List.zip_cons_cons, List.zip_nil_left]
  refine CodeT.seqR ?_
  simp -implicitDefEqProofs only [go_sem, ↓reduceIte, Nat.reduceLT, Nat.reduceEqDiff, Nat.reduceAdd, Nat.reduceSub, Nat.reduceBEq, Nat.reduceLeDiff, Int.reduceToNat, reduceCtorEq, hi, hw, openedV, kOf_eq, Try.results20]
  refine CodeT.seqR ?_
  simp -implicitDefEqProofs only [go_sem, ↓reduceIte, Nat.reduceLT, Nat.reduceEqDiff, Nat.reduceAdd, Nat.reduceSub, Nat.reduceBEq, Nat.reduceLeDiff, Int.reduceToNat, reduceCtorEq, hi, hw, openedV, kOf_eq, Try.results20]
  refine PureT.eq (c61 _ _ ?_) rfl ?_
  assumption
  simp -implicitDefEqProofs only [go_sem, ↓reduceIte, Nat.reduceLT, Nat.reduceEqDiff, Nat.reduceAdd, Nat.reduceSub, Nat.reduceBEq, Nat.reduceLeDiff, Int.reduceToNat, reduceCtorEq, hi, hw, openedV, kOf_eq, Try.results20]
  refine CodeT.seq ?_
  refine CodeT.seqR ?_
  simp -implicitDefEqProofs only [go_sem, ↓reduceIte, Nat.reduceLT, Nat.reduceEqDiff, Nat.reduceAdd, Nat.reduceSub, Nat.reduceBEq, Nat.reduceLeDiff, Int.reduceToNat, reduceCtorEq, hi, hw, openedV, kOf_eq, Try.results20]
  refine CodeT.condF rfl ?_
  refine CodeT.skip ?_
  simp -implicitDefEqProofs only [go_sem, ↓reduceIte, Nat.reduceLT, Nat.reduceEqDiff, Nat.reduceAdd, Nat.reduceSub, Nat.reduceBEq, Nat.reduceLeDiff, Int.reduceToNat, reduceCtorEq, hi, hw, openedV, kOf_eq, Try.results20]
  refine CodeT.seqR ?_
  simp -implicitDefEqProofs only [go_sem, ↓reduceIte, Nat.reduceLT, Nat.reduceEqDiff, Nat.reduceAdd, Nat.reduceSub, Nat.reduceBEq, Nat.reduceLeDiff, Int.reduceToNat, reduceCtorEq, hi, hw, openedV, kOf_eq, Try.results20]
  refine PureT.eq (c62s _ hi) rfl ?_
  simp -implicitDefEqProofs only [go_sem, ↓reduceIte, Nat.reduceLT, Nat.reduceEqDiff, Nat.reduceAdd, Nat.reduceSub, Nat.reduceBEq, Nat.reduceLeDiff, Int.reduceToNat, reduceCtorEq, hi, hw, openedV, kOf_eq, Try.results20]
  refine PureT.eq (c14s _ hi) rfl ?_
  simp -implicitDefEqProofs only [go_sem, ↓reduceIte, Nat.reduceLT, Nat.reduceEqDiff, Nat.reduceAdd, Nat.reduceSub, Nat.reduceBEq, Nat.reduceLeDiff, Int.reduceToNat, reduceCtorEq, hi, hw, openedV, kOf_eq, Try.results20]
  refine CodeT.seq (CodeT.block ?_)
  refine CodeT.seqR ?_
  simp -implicitDefEqProofs only [go_sem, ↓reduceIte, Nat.reduceLT, Nat.reduceEqDiff, Nat.reduceAdd, Nat.reduceSub, Nat.reduceBEq, Nat.reduceLeDiff, Int.reduceToNat, reduceCtorEq, hi, hw, openedV, kOf_eq, Try.results20]
  refine PureT.eq (c62s _ hi) rfl ?_
  simp -implicitDefEqProofs only [go_sem, ↓reduceIte, Nat.reduceLT, Nat.reduceEqDiff, Nat.reduceAdd, Nat.reduceSub, Nat.reduceBEq, Nat.reduceLeDiff, Int.reduceToNat, reduceCtorEq, hi, hw, openedV, kOf_eq, Try.results20]
  refine And.intro (by exact uni_bs _) ?_
  refine And.intro (by omega) ?_
  refine And.intro (by omega) ?_
  refine And.intro (by omega) ?_
  refine PureT.eq (c63 _ ?_) rfl ?_
  (simp [openV, hi, hw, er, wr, fl, zs, opvs, List.map_cons, List.map_nil, otherB, turnB, *]; omega)
  simp -implicitDefEqProofs only [go_sem, ↓reduceIte, Nat.reduceLT, Nat.reduceEqDiff, Nat.reduceAdd, Nat.reduceSub, Nat.reduceBEq, Nat.reduceLeDiff, Int.reduceToNat, reduceCtorEq, hi, hw, openedV, kOf_eq, Try.results20]
  refine CodeT.cond rfl (fun g6 => ?_) (fun g6 => ?_)
  refine CodeT.seqD [(0, .free), (1, .free), (2, .free), (3, .free), (5, .free), (7, .free), (8, .free), (9, .free), (10, .free), (4, .read), (6, .free), (11, .upd), (12, .upd), (13, .free), (14, .upd), (15, .free), (16, .free)] mixed (by kernel_rfl) ?_
  simp -implicitDefEqProofs only [go_sem, ↓reduceIte, Nat.reduceLT, Nat.reduceEqDiff, Nat.reduceAdd, Nat.reduceSub, Nat.reduceBEq, Nat.reduceLeDiff, Int.reduceToNat, reduceCtorEq, hi, hw, openedV, kOf_eq, Try.results20, g6]
  refine CallF.go (c64) rfl ?_
  simp -implicitDefEqProofs only [go_sem, ↓reduceIte, Nat.reduceLT, Nat.reduceEqDiff, Nat.reduceAdd, Nat.reduceSub, Nat.reduceBEq, Nat.reduceLeDiff, Int.reduceToNat, reduceCtorEq, hi, hw, openedV, kOf_eq, Try.results20, g6]
  refine CallF.go (c66s _ hi) rfl ?_
  simp -implicitDefEqProofs only [go_sem, ↓reduceIte, Nat.reduceLT, Nat.reduceEqDiff, Nat.reduceAdd, Nat.reduceSub, Nat.reduceBEq, Nat.reduceLeDiff, Int.reduceToNat, reduceCtorEq, hi, hw, openedV, kOf_eq, Try.results20, g6]
  simp -implicitDefEqProofs (disch := omega) only [i64_in, bs_getD, opvs_getD, is64_getD, bss_getD]
  simp -implicitDefEqProofs only [go_sem, ↓reduceIte, Nat.reduceLT, Nat.reduceEqDiff, Nat.reduceAdd, Nat.reduceSub, Nat.reduceBEq, Nat.reduceLeDiff, Int.reduceToNat, reduceCtorEq, hi, hw, openedV, kOf_eq, Try.results20, g6]
  refine And.intro (by omega) ?_
  refine And.intro (by omega) ?_
  refine And.intro (by omega) ?_
  refine And.intro (by exact Stable.append [_] [_]) ?_
  refine ⟨⟨_, Try.func65, by decide, rfl⟩, ?_⟩
  simp -implicitDefEqProofs only [go_sem, ↓reduceIte, Nat.reduceLT, Nat.reduceEqDiff, Nat.reduceAdd, Nat.reduceSub, Nat.reduceBEq, Nat.reduceLeDiff, Int.reduceToNat, reduceCtorEq, hi, hw, openedV, kOf_eq, Try.results20, g6]
  refine And.intro (by omega) ?_
  refine CallY.pure (c65 _ _) rfl ?_
  simp -implicitDefEqProofs only [go_sem, ↓reduceIte, Nat.reduceLT, Nat.reduceEqDiff, Nat.reduceAdd, Nat.reduceSub, Nat.reduceBEq, Nat.reduceLeDiff, Int.reduceToNat, reduceCtorEq, hi, hw, openedV, kOf_eq, Try.results20, g6]
  refine And.intro (by exact Stable.same (Stable.row (Stable.refl _))) ?_
  refine CallF.go (c64) rfl ?_
  simp -implicitDefEqProofs only [go_sem, ↓reduceIte, Nat.reduceLT, Nat.reduceEqDiff, Nat.reduceAdd, Nat.reduceSub, Nat.reduceBEq, Nat.reduceLeDiff, Int.reduceToNat, reduceCtorEq, hi, hw, openedV, kOf_eq, Try.results20, g6]
  refine And.intro (by trivial) ?_
  refine And.intro (by omega) ?_
  refine And.intro (by exact Stable.refl _) ?_
  refine CodeT.ret ?_
  simp -implicitDefEqProofs only [go_sem, ↓reduceIte, Nat.reduceLT, Nat.reduceEqDiff, Nat.reduceAdd, Nat.reduceSub, Nat.reduceBEq, Nat.reduceLeDiff, Int.reduceToNat, reduceCtorEq, hi, hw, openedV, kOf_eq, Try.results20, g6]
  refine pureEnd rfl ?_
  simp only [openV, hi, hw, er, wr, fl, zs, opvs, List.map_cons, List.map_nil, otherB, turnB, g6, Bool.true_and, Bool.false_and, Bool.and_true, Bool.and_false, Bool.true_or, Bool.false_or, Bool.or_true, Bool.or_false, Bool.not_true, Bool.not_false, Bool.false_eq_true, ↓reduceIte]
  refine CodeT.seqR ?_
  simp -implicitDefEqProofs only [go_sem, ↓reduceIte, Nat.reduceLT, Nat.reduceEqDiff, Nat.reduceAdd, Nat.reduceSub, Nat.reduceBEq, Nat.reduceLeDiff, Int.reduceToNat, reduceCtorEq, hi, hw, openedV, kOf_eq, Try.results20, g6]
  refine CodeT.cond rfl (fun g7 => ?_) (fun g7 => ?_)
  have d7 := ofDec g7
  refine CodeT.seqR ?_
  simp -implicitDefEqProofs only [go_sem, ↓reduceIte, Nat.reduceLT, Nat.reduceEqDiff, Nat.reduceAdd, Nat.reduceSub, Nat.reduceBEq, Nat.reduceLeDiff, Int.reduceToNat, reduceCtorEq, hi, hw, openedV, kOf_eq, Try.results20, g6, g7]
  refine PureT.eq (c64) rfl ?_
  simp -implicitDefEqProofs only [go_sem, ↓reduceIte, Nat.reduceLT, Nat.reduceEqDiff, Nat.reduceAdd, Nat.reduceSub, Nat.reduceBEq, Nat.reduceLeDiff, Int.reduceToNat, reduceCtorEq, hi, hw, openedV, kOf_eq, Try.results20, g6, g7]
  refine And.intro (by trivial) ?_
  refine And.intro (by omega) ?_
  refine CodeT.ret ?_
  simp -implicitDefEqProofs only [go_sem, ↓reduceIte, Nat.reduceLT, Nat.reduceEqDiff, Nat.reduceAdd, Nat.reduceSub, Nat.reduceBEq, Nat.reduceLeDiff, Int.reduceToNat, reduceCtorEq, hi, hw, openedV, kOf_eq, Try.results20, g6, g7]
  refine pureEnd rfl ?_
  simp only [openV, hi, hw, er, wr, fl, zs, opvs, List.map_cons, List.map_nil, otherB, turnB, g6, g7, Bool.true_and, Bool.false_and, Bool.and_true, Bool.and_false, Bool.true_or, Bool.false_or, Bool.or_true, Bool.or_false, Bool.not_true, Bool.not_false, Bool.false_eq_true, ↓reduceIte]
  have d7 := ofDecF g7
  refine CodeT.skip ?_
  simp -implicitDefEqProofs only [go_sem, ↓reduceIte, Nat.reduceLT, Nat.reduceEqDiff, Nat.reduceAdd, Nat.reduceSub, Nat.reduceBEq, Nat.reduceLeDiff, Int.reduceToNat, reduceCtorEq, hi, hw, openedV, kOf_eq, Try.results20, g6, g7]
  refine CodeT.seqR ?_
  simp -implicitDefEqProofs only [go_sem, ↓reduceIte, Nat.reduceLT, Nat.reduceEqDiff, Nat.reduceAdd, Nat.reduceSub, Nat.reduceBEq, Nat.reduceLeDiff, Int.reduceToNat, reduceCtorEq, hi, hw, openedV, kOf_eq, Try.results20, g6, g7]
  refine CodeT.ret ?_
  simp -implicitDefEqProofs only [go_sem, ↓reduceIte, Nat.reduceLT, Nat.reduceEqDiff, Nat.reduceAdd, Nat.reduceSub, Nat.reduceBEq, Nat.reduceLeDiff, Int.reduceToNat, reduceCtorEq, hi, hw, openedV, kOf_eq, Try.results20, g6, g7]
  refine pureEnd rfl ?_
  simp only [openV, hi, hw, er, wr, fl, zs, opvs, List.map_cons, List.map_nil, otherB, turnB, g6, g7, Bool.true_and, Bool.false_and, Bool.and_true, Bool.and_false, Bool.true_or, Bool.false_or, Bool.or_true, Bool.or_false, Bool.not_true, Bool.not_false, Bool.false_eq_true, ↓reduceIte]
def roomV (d : Dsk) : AV :=
  if (!isDiskB d) = true then .tup [er 0, er 281]
  else if (!wrB d) = true then .tup [er 0, er 280]
  else if (!clB d) = true then .tup [er 0, er 280]
  else if (((endB d : Nat) : Int) == (szB d : Nat)) = true then .tup [er 0, er 2]
  else .tup [.val (.int .i64 ((szB d - endB d - 1) / 2 : Nat)), er 0]
theorem c24 (d : Dsk) (hf : Few d) : PureT Try.prog 24 [dkv d] (· = roomV d) := by
  cases hi : isDiskB d
  · refine CallT.intro Try.func24 (by decide) rfl ?_
    simp -implicitDefEqProofs only [go_sem, ↓reduceIte, Nat.reduceLT, Nat.reduceEqDiff, Nat.reduceAdd, Nat.reduceSub, Nat.reduceBEq, Nat.reduceLeDiff, Int.reduceToNat, reduceCtorEq, hi, appendingV, enterTm, Try.ntmps24, List.range'_succ, List.range'_zero, List.zip_cons_cons, List.zip_nil_left]
    refine CodeT.seqR ?_
    simp -implicitDefEqProofs only [go_sem, ↓reduceIte, Nat.reduceLT, Nat.reduceEqDiff, Nat.reduceAdd, Nat.reduceSub, Nat.reduceBEq, Nat.reduceLeDiff, Int.reduceToNat, reduceCtorEq, hi, appendingV, Try.results24]
    refine CodeT.seqR ?_
    simp -implicitDefEqProofs only [go_sem, ↓reduceIte, Nat.reduceLT, Nat.reduceEqDiff, Nat.reduceAdd, Nat.reduceSub, Nat.reduceBEq, Nat.reduceLeDiff, Int.reduceToNat, reduceCtorEq, hi, appendingV, Try.results24]
    refine PureT.eq (c69 _ ?_) rfl ?_
    assumption
    simp -implicitDefEqProofs only [go_sem, ↓reduceIte, Nat.reduceLT, Nat.reduceEqDiff, Nat.reduceAdd, Nat.reduceSub, Nat.reduceBEq, Nat.reduceLeDiff, Int.reduceToNat, reduceCtorEq, hi, appendingV, Try.results24]
    refine CodeT.seq ?_
    refine CodeT.seqR ?_
    simp -implicitDefEqProofs only [go_sem, ↓reduceIte, Nat.reduceLT, Nat.reduceEqDiff, Nat.reduceAdd, Nat.reduceSub, Nat.reduceBEq, Nat.reduceLeDiff, Int.reduceToNat, reduceCtorEq, hi, appendingV, Try.results24]
    refine CodeT.condT rfl ?_
    refine CodeT.seqR ?_
    simp -implicitDefEqProofs only [go_sem, ↓reduceIte, Nat.reduceLT, Nat.reduceEqDiff, Nat.reduceAdd, Nat.reduceSub, Nat.reduceBEq, Nat.reduceLeDiff, Int.reduceToNat, reduceCtorEq, hi, appendingV, Try.results24]
    refine CodeT.ret ?_
    simp -implicitDefEqProofs only [go_sem, ↓reduceIte, Nat.reduceLT, Nat.reduceEqDiff, Nat.reduceAdd, Nat.reduceSub, Nat.reduceBEq, Nat.reduceLeDiff, Int.reduceToNat, reduceCtorEq, hi, appendingV, Try.results24]
    refine pureEnd rfl ?_
    simp only [roomV, hi, er, Bool.true_and, Bool.false_and, Bool.and_true, Bool.and_false, Bool.true_or, Bool.false_or, Bool.or_true, Bool.or_false, Bool.not_true, Bool.not_false, Bool.false_eq_true, ↓reduceIte]
  have hd := disk_facts hi
  cases hw : wrB d
  · refine CallT.intro Try.func24 (by decide) rfl ?_
    simp -implicitDefEqProofs only [go_sem, ↓reduceIte, Nat.reduceLT, Nat.reduceEqDiff, Nat.reduceAdd, Nat.reduceSub, Nat.reduceBEq, Nat.reduceLeDiff, Int.reduceToNat, reduceCtorEq, hi, hw, appendingV, enterTm, Try.ntmps24, List.range'_succ, List.range'_zero, List.zip_cons_cons, List.zip_nil_left]
    refine CodeT.seqR ?_
    simp -implicitDefEqProofs only [go_sem, ↓reduceIte, Nat.reduceLT, Nat.reduceEqDiff, Nat.reduceAdd, Nat.reduceSub, Nat.reduceBEq, Nat.reduceLeDiff, Int.reduceToNat, reduceCtorEq, hi, hw, appendingV, Try.results24]
    refine CodeT.seqR ?_
    simp -implicitDefEqProofs only [go_sem, ↓reduceIte, Nat.reduceLT, Nat.reduceEqDiff, Nat.reduceAdd, Nat.reduceSub, Nat.reduceBEq, Nat.reduceLeDiff, Int.reduceToNat, reduceCtorEq, hi, hw, appendingV, Try.results24]
    refine PureT.eq (c69 _ ?_) rfl ?_
    assumption
    simp -implicitDefEqProofs only [go_sem, ↓reduceIte, Nat.reduceLT, Nat.reduceEqDiff, Nat.reduceAdd, Nat.reduceSub, Nat.reduceBEq, Nat.reduceLeDiff, Int.reduceToNat, reduceCtorEq, hi, hw, appendingV, Try.results24]
    refine CodeT.seq ?_
    refine CodeT.seqR ?_
    simp -implicitDefEqProofs only [go_sem, ↓reduceIte, Nat.reduceLT, Nat.reduceEqDiff, Nat.reduceAdd, Nat.reduceSub, Nat.reduceBEq, Nat.reduceLeDiff, Int.reduceToNat, reduceCtorEq, hi, hw, appendingV, Try.results24]
    refine CodeT.condT rfl ?_
    refine CodeT.seqR ?_
    simp -implicitDefEqProofs only [go_sem, ↓reduceIte, Nat.reduceLT, Nat.reduceEqDiff, Nat.reduceAdd, Nat.reduceSub, Nat.reduceBEq, Nat.reduceLeDiff, Int.reduceToNat, reduceCtorEq, hi, hw, appendingV, Try.results24]
    refine CodeT.ret ?_
    simp -implicitDefEqProofs only [go_sem, ↓reduceIte, Nat.reduceLT, Nat.reduceEqDiff, Nat.reduceAdd, Nat.reduceSub, Nat.reduceBEq, Nat.reduceLeDiff, Int.reduceToNat, reduceCtorEq, hi, hw, appendingV, Try.results24]
    refine pureEnd rfl ?_
    simp only [roomV, hi, hw, er, Bool.true_and, Bool.false_and, Bool.and_true, Bool.and_false, Bool.true_or, Bool.false_or, Bool.or_true, Bool.or_false, Bool.not_true, Bool.not_false, Bool.false_eq_true, ↓reduceIte]
  cases hc : clB d
  · refine CallT.intro Try.func24 (by decide) rfl ?_
    simp -implicitDefEqProofs only [go_sem, ↓reduceIte, Nat.reduceLT, Nat.reduceEqDiff, Nat.reduceAdd, Nat.reduceSub, Nat.reduceBEq, Nat.reduceLeDiff, Int.reduceToNat, reduceCtorEq, hi, hw, hc, appendingV, enterTm, Try.ntmps24, List.range'_succ, List.range'_zero, List.zip_cons_cons, List.zip_nil_left]
    refine CodeT.seqR ?_
    simp -implicitDefEqProofs only [go_sem, ↓reduceIte, Nat.reduceLT, Nat.reduceEqDiff, Nat.reduceAdd, Nat.reduceSub, Nat.reduceBEq, Nat.reduceLeDiff, Int.reduceToNat, reduceCtorEq, hi, hw, hc, appendingV, Try.results24]
    refine CodeT.seqR ?_
    simp -implicitDefEqProofs only [go_sem, ↓reduceIte, Nat.reduceLT, Nat.reduceEqDiff, Nat.reduceAdd, Nat.reduceSub, Nat.reduceBEq, Nat.reduceLeDiff, Int.reduceToNat, reduceCtorEq, hi, hw, hc, appendingV, Try.results24]
    refine PureT.eq (c69 _ ?_) rfl ?_
    assumption
    simp -implicitDefEqProofs only [go_sem, ↓reduceIte, Nat.reduceLT, Nat.reduceEqDiff, Nat.reduceAdd, Nat.reduceSub, Nat.reduceBEq, Nat.reduceLeDiff, Int.reduceToNat, reduceCtorEq, hi, hw, hc, appendingV, Try.results24]
    refine CodeT.seq ?_
    refine CodeT.seqR ?_
    simp -implicitDefEqProofs only [go_sem, ↓reduceIte, Nat.reduceLT, Nat.reduceEqDiff, Nat.reduceAdd, Nat.reduceSub, Nat.reduceBEq, Nat.reduceLeDiff, Int.reduceToNat, reduceCtorEq, hi, hw, hc, appendingV, Try.results24]
    refine CodeT.condT rfl ?_
    refine CodeT.seqR ?_
    simp -implicitDefEqProofs only [go_sem, ↓reduceIte, Nat.reduceLT, Nat.reduceEqDiff, Nat.reduceAdd, Nat.reduceSub, Nat.reduceBEq, Nat.reduceLeDiff, Int.reduceToNat, reduceCtorEq, hi, hw, hc, appendingV, Try.results24]
    refine CodeT.ret ?_
    simp -implicitDefEqProofs only [go_sem, ↓reduceIte, Nat.reduceLT, Nat.reduceEqDiff, Nat.reduceAdd, Nat.reduceSub, Nat.reduceBEq, Nat.reduceLeDiff, Int.reduceToNat, reduceCtorEq, hi, hw, hc, appendingV, Try.results24]
    refine pureEnd rfl ?_
    simp only [roomV, hi, hw, hc, er, Bool.true_and, Bool.false_and, Bool.and_true, Bool.and_false, Bool.true_or, Bool.false_or, Bool.or_true, Bool.or_false, Bool.not_true, Bool.not_false, Bool.false_eq_true, ↓reduceIte]
  refine CallT.intro Try.func24 (by decide) rfl ?_
  simp -implicitDefEqProofs only [go_sem, ↓reduceIte, Nat.reduceLT, Nat.reduceEqDiff, Nat.reduceAdd, Nat.reduceSub, Nat.reduceBEq, Nat.reduceLeDiff, Int.reduceToNat, reduceCtorEq, hi, hw, hc, appendingV, kOf_eq, enterTm, Try.ntmps24, List.range'_succ, List.range'_zero, List.zip_cons_cons, List.zip_nil_left]
  refine CodeT.seqR ?_
  simp -implicitDefEqProofs only [go_sem, ↓reduceIte, Nat.reduceLT, Nat.reduceEqDiff, Nat.reduceAdd, Nat.reduceSub, Nat.reduceBEq, Nat.reduceLeDiff, Int.reduceToNat, reduceCtorEq, hi, hw, hc, appendingV, kOf_eq, Try.results24]
  refine CodeT.seqR ?_
  simp -implicitDefEqProofs only [go_sem, ↓reduceIte, Nat.reduceLT, Nat.reduceEqDiff, Nat.reduceAdd, Nat.reduceSub, Nat.reduceBEq, Nat.reduceLeDiff, Int.reduceToNat, reduceCtorEq, hi, hw, hc, appendingV, kOf_eq, Try.results24]
  refine PureT.eq (c69 _ ?_) rfl ?_
  assumption
  simp -implicitDefEqProofs only [go_sem, ↓reduceIte, Nat.reduceLT, Nat.reduceEqDiff, Nat.reduceAdd, Nat.reduceSub, Nat.reduceBEq, Nat.reduceLeDiff, Int.reduceToNat, reduceCtorEq, hi, hw, hc, appendingV, kOf_eq, Try.results24]
  refine CodeT.seq ?_
  refine CodeT.seqR ?_
  simp -implicitDefEqProofs only [go_sem, ↓reduceIte, Nat.reduceLT, Nat.reduceEqDiff, Nat.reduceAdd, Nat.reduceSub, Nat.reduceBEq, Nat.reduceLeDiff, Int.reduceToNat, reduceCtorEq, hi, hw, hc, appendingV, kOf_eq, Try.results24]
  refine CodeT.condF rfl ?_
  refine CodeT.skip ?_
  simp -implicitDefEqProofs only [go_sem, ↓reduceIte, Nat.reduceLT, Nat.reduceEqDiff, Nat.reduceAdd, Nat.reduceSub, Nat.reduceBEq, Nat.reduceLeDiff, Int.reduceToNat, reduceCtorEq, hi, hw, hc, appendingV, kOf_eq, Try.results24]
  refine CodeT.seq ?_
  refine CodeT.seqR ?_
  simp -implicitDefEqProofs only [go_sem, ↓reduceIte, Nat.reduceLT, Nat.reduceEqDiff, Nat.reduceAdd, Nat.reduceSub, Nat.reduceBEq, Nat.reduceLeDiff, Int.reduceToNat, reduceCtorEq, hi, hw, hc, appendingV, kOf_eq, Try.results24]
  refine PureT.eq (c66s _ hi) rfl ?_
  simp -implicitDefEqProofs only [go_sem, ↓reduceIte, Nat.reduceLT, Nat.reduceEqDiff, Nat.reduceAdd, Nat.reduceSub, Nat.reduceBEq, Nat.reduceLeDiff, Int.reduceToNat, reduceCtorEq, hi, hw, hc, appendingV, kOf_eq, Try.results24]
  refine CodeT.cond rfl (fun g3 => ?_) (fun g3 => ?_)
  have d3 := ofBeq g3
  refine CodeT.seqR ?_
  simp -implicitDefEqProofs only [go_sem, ↓reduceIte, Nat.reduceLT, Nat.reduceEqDiff, Nat.reduceAdd, Nat.reduceSub, Nat.reduceBEq, Nat.reduceLeDiff, Int.reduceToNat, reduceCtorEq, hi, hw, hc, appendingV, kOf_eq, Try.results24, g3]
  refine CodeT.ret ?_
  simp -implicitDefEqProofs only [go_sem, ↓reduceIte, Nat.reduceLT, Nat.reduceEqDiff, Nat.reduceAdd, Nat.reduceSub, Nat.reduceBEq, Nat.reduceLeDiff, Int.reduceToNat, reduceCtorEq, hi, hw, hc, appendingV, kOf_eq, Try.results24, g3]
  refine pureEnd rfl ?_
  simp only [roomV, hi, hw, hc, er, g3, Bool.true_and, Bool.false_and, Bool.and_true, Bool.and_false, Bool.true_or, Bool.false_or, Bool.or_true, Bool.or_false, Bool.not_true, Bool.not_false, Bool.false_eq_true, ↓reduceIte]
  have d3 := ofBeqF g3
  refine CodeT.skip ?_
  simp -implicitDefEqProofs only [go_sem, ↓reduceIte, Nat.reduceLT, Nat.reduceEqDiff, Nat.reduceAdd, Nat.reduceSub, Nat.reduceBEq, Nat.reduceLeDiff, Int.reduceToNat, reduceCtorEq, hi, hw, hc, appendingV, kOf_eq, Try.results24, g3]
  refine CodeT.seqR ?_
  simp -implicitDefEqProofs only [go_sem, ↓reduceIte, Nat.reduceLT, Nat.reduceEqDiff, Nat.reduceAdd, Nat.reduceSub, Nat.reduceBEq, Nat.reduceLeDiff, Int.reduceToNat, reduceCtorEq, hi, hw, hc, appendingV, kOf_eq, Try.results24, g3]
  refine PureT.eq (c66s _ hi) rfl ?_
  simp -implicitDefEqProofs only [go_sem, ↓reduceIte, Nat.reduceLT, Nat.reduceEqDiff, Nat.reduceAdd, Nat.reduceSub, Nat.reduceBEq, Nat.reduceLeDiff, Int.reduceToNat, reduceCtorEq, hi, hw, hc, appendingV, kOf_eq, Try.results24, g3]
  refine And.intro (by omega) ?_
  refine CodeT.ret ?_
  simp -implicitDefEqProofs only [go_sem, ↓reduceIte, Nat.reduceLT, Nat.reduceEqDiff, Nat.reduceAdd, Nat.reduceSub, Nat.reduceBEq, Nat.reduceLeDiff, Int.reduceToNat, reduceCtorEq, hi, hw, hc, appendingV, kOf_eq, Try.results24, g3]
  refine pureEnd rfl ?_
  simp -implicitDefEqProofs (disch := omega) only [i64_in, bs_getD, opvs_getD, is64_getD, bss_getD]
  rotate_left
  · have h1 : (szB d : Int) - (endB d : Nat) - 1 = ((szB d - endB d - 1 : Nat) : Int) := by omega
    rw [h1, half_len (by omega)]
    simp only [roomV, hi, hw, hc, er, show (((endB d : Nat) : Int) == ((szB d : Nat) : Int)) = false by assumption, Bool.not_true, Bool.false_eq_true, ↓reduceIte]
def sizeI (n : Int) : Bool := (n.tmod 2 == 1) && decide (n.tdiv 2 ≥ 64) && decide (n.tdiv 2 ≤ 1048576)
theorem sizeI_eq (n : Int) : sizeI n = (decide (0 ≤ n) && sizeB n.toNat) := by
  unfold sizeI sizeB
  rcases Int.le_total 0 n with h | h
  · obtain ⟨m, rfl⟩ := Int.eq_ofNat_of_zero_le h
    have h1 : (m : Int).tmod 2 = ((m % 2 : Nat) : Int) := (Int.ofNat_tmod m 2).symm
    have h2 : (m : Int).tdiv 2 = ((m / 2 : Nat) : Int) := (Int.ofNat_tdiv m 2).symm
    rw [h1, h2, Int.toNat_natCast, Bool.eq_iff_iff]
    simp
    omega
  · by_cases h0 : n = 0
    · subst h0; rfl
    · have h1 : (0 : Int) ≤ (-n).tdiv 2 := Int.tdiv_nonneg (by omega) (by omega)
      rw [Int.neg_tdiv] at h1
      have h2 : decide (n.tdiv 2 ≥ 64) = false := by simp; omega
      have h3 : decide (0 ≤ n) = false := by simp; omega
      rw [h2, h3]; simp
theorem tdiv2_small {n : Int} (h1 : -9223372036854775808 ≤ n) (h2 : n ≤ 9223372036854775807) : IntKind.i64.wrap (n.tdiv 2) = n.tdiv 2 := by
  rcases Int.le_total 0 n with h | h
  · obtain ⟨m, rfl⟩ := Int.eq_ofNat_of_zero_le h
    have h3 : (m : Int).tdiv 2 = ((m / 2 : Nat) : Int) := (Int.ofNat_tdiv m 2).symm
    rw [h3, i64_in] <;> omega
  · obtain ⟨m, hm⟩ := Int.eq_ofNat_of_zero_le (show 0 ≤ -n by omega)
    have h3 : (m : Int).tdiv 2 = ((m / 2 : Nat) : Int) := (Int.ofNat_tdiv m 2).symm
    have h4 : n = -(m : Int) := by omega
    rw [h4, Int.neg_tdiv, h3, i64_in] <;> omega
theorem c80i (n : Int) (h1 : -9223372036854775808 ≤ n) (h2 : n ≤ 9223372036854775807) : PureT Try.prog 80 [.val (.int .i64 n)] (· = .val (.bool (sizeI n))) := by
  have hw := tdiv2_small h1 h2
  refine CallT.intro Try.func80 (by decide) rfl ?_
  simp -implicitDefEqProofs only [go_sem, ↓reduceIte, Nat.reduceLT, Nat.reduceEqDiff, Nat.reduceAdd, Nat.reduceSub, Nat.reduceBEq, Nat.reduceLeDiff, Int.reduceToNat, reduceCtorEq, hw, enterTm, Try.ntmps80, List.range'_succ, List.range'_zero, List.zip_cons_cons, List.zip_nil_left]
  refine CodeT.seqR ?_
  simp -implicitDefEqProofs only [go_sem, ↓reduceIte, Nat.reduceLT, Nat.reduceEqDiff, Nat.reduceAdd, Nat.reduceSub, Nat.reduceBEq, Nat.reduceLeDiff, Int.reduceToNat, reduceCtorEq, hw, Try.results80]
  refine CodeT.seqR ?_
  simp -implicitDefEqProofs only [go_sem, ↓reduceIte, Nat.reduceLT, Nat.reduceEqDiff, Nat.reduceAdd, Nat.reduceSub, Nat.reduceBEq, Nat.reduceLeDiff, Int.reduceToNat, reduceCtorEq, hw, Try.results80]
  refine And.intro (by omega) ?_
  refine gif_i (fun g3 => ?_) (fun g3 => ?_)
  have d3 := ofBeq g3
  simp -implicitDefEqProofs only [go_sem, ↓reduceIte, Nat.reduceLT, Nat.reduceEqDiff, Nat.reduceAdd, Nat.reduceSub, Nat.reduceBEq, Nat.reduceLeDiff, Int.reduceToNat, reduceCtorEq, hw, Try.results80, g3]
  refine And.intro (by omega) ?_
  refine gif_i (fun g4 => ?_) (fun g4 => ?_)
  have d4 := ofDec g4
  simp -implicitDefEqProofs only [go_sem, ↓reduceIte, Nat.reduceLT, Nat.reduceEqDiff, Nat.reduceAdd, Nat.reduceSub, Nat.reduceBEq, Nat.reduceLeDiff, Int.reduceToNat, reduceCtorEq, hw, Try.results80, g3, g4]
  refine And.intro (by omega) ?_
  refine CodeT.ret ?_
  simp -implicitDefEqProofs only [go_sem, ↓reduceIte, Nat.reduceLT, Nat.reduceEqDiff, Nat.reduceAdd, Nat.reduceSub, Nat.reduceBEq, Nat.reduceLeDiff, Int.reduceToNat, reduceCtorEq, hw, Try.results80, g3, g4]
  refine pureEnd rfl ?_
  simp only [sizeI, g3, g4, Bool.true_and, Bool.false_and, Bool.and_true, Bool.and_false, Bool.true_or, Bool.false_or, Bool.or_true, Bool.or_false, Bool.not_true, Bool.not_false, Bool.false_eq_true, ↓reduceIte]
  have d4 := ofDecF g4
  simp -implicitDefEqProofs only [go_sem, ↓reduceIte, Nat.reduceLT, Nat.reduceEqDiff, Nat.reduceAdd, Nat.reduceSub, Nat.reduceBEq, Nat.reduceLeDiff, Int.reduceToNat, reduceCtorEq, hw, Try.results80, g3, g4]
  refine CodeT.ret ?_
  simp -implicitDefEqProofs only [go_sem, ↓reduceIte, Nat.reduceLT, Nat.reduceEqDiff, Nat.reduceAdd, Nat.reduceSub, Nat.reduceBEq, Nat.reduceLeDiff, Int.reduceToNat, reduceCtorEq, hw, Try.results80, g3, g4]
  refine pureEnd rfl ?_
  simp only [sizeI, g3, g4, Bool.true_and, Bool.false_and, Bool.and_true, Bool.and_false, Bool.true_or, Bool.false_or, Bool.or_true, Bool.or_false, Bool.not_true, Bool.not_false, Bool.false_eq_true, ↓reduceIte]
  have d3 := ofBeqF g3
  simp -implicitDefEqProofs only [go_sem, ↓reduceIte, Nat.reduceLT, Nat.reduceEqDiff, Nat.reduceAdd, Nat.reduceSub, Nat.reduceBEq, Nat.reduceLeDiff, Int.reduceToNat, reduceCtorEq, hw, Try.results80, g3]
  refine CodeT.ret ?_
  simp -implicitDefEqProofs only [go_sem, ↓reduceIte, Nat.reduceLT, Nat.reduceEqDiff, Nat.reduceAdd, Nat.reduceSub, Nat.reduceBEq, Nat.reduceLeDiff, Int.reduceToNat, reduceCtorEq, hw, Try.results80, g3]
  refine pureEnd rfl ?_
  simp only [sizeI, g3, Bool.true_and, Bool.false_and, Bool.and_true, Bool.and_false, Bool.true_or, Bool.false_or, Bool.or_true, Bool.or_false, Bool.not_true, Bool.not_false, Bool.false_eq_true, ↓reduceIte]
def newV (n : Int) : AV := if (!sizeI n) = true then .tup [dkv ⟨[], []⟩, er 1] else .tup [dkv ⟨zs n.toNat, []⟩, er 0]
theorem c38 (n : Int) (h1 : -9223372036854775808 ≤ n) (h2 : n ≤ 9223372036854775807) : PureT Try.prog 38 [.val (.int .i64 n)] (· = newV n) := by
  refine CallT.res (CallT.laxR ?_)
  have hs := sizeI_eq n
  cases hz : sizeI n
  · refine CallT.intro Try.func38 (by decide) rfl ?_
    simp -implicitDefEqProofs only [go_sem, ↓reduceIte, Nat.reduceLT, Nat.reduceEqDiff, Nat.reduceAdd, Nat.reduceSub, Nat.reduceBEq, Nat.reduceLeDiff, Int.reduceToNat, reduceCtorEq, hz, enterTm, Try.ntmps38, List.range'_succ, List.range'_zero, List.zip_cons_cons, List.zip_nil_left]
    refine CodeT.seqR ?_
    simp -implicitDefEqProofs only [go_sem, ↓reduceIte, Nat.reduceLT, Nat.reduceEqDiff, Nat.reduceAdd, Nat.reduceSub, Nat.reduceBEq, Nat.reduceLeDiff, Int.reduceToNat, reduceCtorEq, hz, Try.results38]
    refine CodeT.seq ?_
    refine CodeT.seqR ?_
    simp -implicitDefEqProofs only [go_sem, ↓reduceIte, Nat.reduceLT, Nat.reduceEqDiff, Nat.reduceAdd, Nat.reduceSub, Nat.reduceBEq, Nat.reduceLeDiff, Int.reduceToNat, reduceCtorEq, hz, Try.results38]
    refine PureT.eq (c80i _ h1 h2) rfl ?_
    simp -implicitDefEqProofs only [go_sem, ↓reduceIte, Nat.reduceLT, Nat.reduceEqDiff, Nat.reduceAdd, Nat.reduceSub, Nat.reduceBEq, Nat.reduceLeDiff, Int.reduceToNat, reduceCtorEq, hz, Try.results38]
    refine CodeT.condT rfl ?_
    refine CodeT.seqR ?_
    simp -implicitDefEqProofs only [go_sem, ↓reduceIte, Nat.reduceLT, Nat.reduceEqDiff, Nat.reduceAdd, Nat.reduceSub, Nat.reduceBEq, Nat.reduceLeDiff, Int.reduceToNat, reduceCtorEq, hz, Try.results38]
    refine CodeT.ret ?_
    simp -implicitDefEqProofs only [go_sem, ↓reduceIte, Nat.reduceLT, Nat.reduceEqDiff, Nat.reduceAdd, Nat.reduceSub, Nat.reduceBEq, Nat.reduceLeDiff, Int.reduceToNat, reduceCtorEq, hz, Try.results38]
    refine pureEnd rfl ?_
    rotate_left
    simp only [newV, hz, Bool.not_false, ↓reduceIte]
    rfl
  rw [hz] at hs
  simp [sizeB] at hs
  refine CallT.intro Try.func38 (by decide) rfl ?_
  simp -implicitDefEqProofs only [go_sem, ↓reduceIte, Nat.reduceLT, Nat.reduceEqDiff, Nat.reduceAdd, Nat.reduceSub, Nat.reduceBEq, Nat.reduceLeDiff, Int.reduceToNat, reduceCtorEq, hz, enterTm, Try.ntmps38, List.range'_succ, List.range'_zero, List.zip_cons_cons, List.zip_nil_left]
  refine CodeT.seqR ?_
  simp -implicitDefEqProofs only [go_sem, ↓reduceIte, Nat.reduceLT, Nat.reduceEqDiff, Nat.reduceAdd, Nat.reduceSub, Nat.reduceBEq, Nat.reduceLeDiff, Int.reduceToNat, reduceCtorEq, hz, Try.results38]
  refine CodeT.seq ?_
  refine CodeT.seqR ?_
  simp -implicitDefEqProofs only [go_sem, ↓reduceIte, Nat.reduceLT, Nat.reduceEqDiff, Nat.reduceAdd, Nat.reduceSub, Nat.reduceBEq, Nat.reduceLeDiff, Int.reduceToNat, reduceCtorEq, hz, Try.results38]
  refine PureT.eq (c80i _ h1 h2) rfl ?_
  simp -implicitDefEqProofs only [go_sem, ↓reduceIte, Nat.reduceLT, Nat.reduceEqDiff, Nat.reduceAdd, Nat.reduceSub, Nat.reduceBEq, Nat.reduceLeDiff, Int.reduceToNat, reduceCtorEq, hz, Try.results38]
  refine CodeT.condF rfl ?_
  refine CodeT.skip ?_
  simp -implicitDefEqProofs only [go_sem, ↓reduceIte, Nat.reduceLT, Nat.reduceEqDiff, Nat.reduceAdd, Nat.reduceSub, Nat.reduceBEq, Nat.reduceLeDiff, Int.reduceToNat, reduceCtorEq, hz, Try.results38]
  refine CodeT.seqR ?_
  simp -implicitDefEqProofs only [go_sem, ↓reduceIte, Nat.reduceLT, Nat.reduceEqDiff, Nat.reduceAdd, Nat.reduceSub, Nat.reduceBEq, Nat.reduceLeDiff, Int.reduceToNat, reduceCtorEq, hz, Try.results38]
  refine And.intro (by omega) ?_
  refine And.intro (by omega) ?_
  refine And.intro (by omega) ?_
  refine CodeT.ret ?_
  simp -implicitDefEqProofs only [go_sem, ↓reduceIte, Nat.reduceLT, Nat.reduceEqDiff, Nat.reduceAdd, Nat.reduceSub, Nat.reduceBEq, Nat.reduceLeDiff, Int.reduceToNat, reduceCtorEq, hz, Try.results38]
  refine And.intro (by omega) ?_
  refine pureEnd rfl ?_
  rotate_left
  simp only [newV, hz, Bool.not_true, Bool.false_eq_true, ↓reduceIte]
  rfl
end Go.Proofs.Try

namespace Go.Proofs.Try
set_option linter.unusedSimpArgs false
set_option linter.unusedVariables false
open Go.PM
set_option maxHeartbeats 4000000
theorem c55d (l : List UInt8) (hl : l.length ≤ 4000000) : CallT Try.prog 55 [.sl false (bs l)] [] (fun r h' => r = .ret (.hsl 0 1 0 l.length) ∧ h' = [.row true 1 1 (bs l)]) := by
  have hnil : (bs l ≠ [] → true = false) → l = [] := fun h => by
    cases l with
    | nil => rfl
    | cons x l => exact absurd (h (by simp [bs])) (by simp)
  refine CallT.intro Try.func55 (by decide) rfl ?_
  simp -implicitDefEqProofs only [go_sem, ↓reduceIte, Nat.reduceLT, Nat.reduceEqDiff, Nat.reduceAdd, Nat.reduceSub, Nat.reduceBEq, Nat.reduceLeDiff, Int.reduceToNat, reduceCtorEq, enterTm, Try.ntmps55, List.range'_succ, List.range'_zero, List.zip_cons_cons, List.zip_nil_left]
  refine CodeT.seqR ?_
  simp -implicitDefEqProofs only [go_sem, ↓reduceIte, Nat.reduceLT, Nat.reduceEqDiff, Nat.reduceAdd, Nat.reduceSub, Nat.reduceBEq, Nat.reduceLeDiff, Int.reduceToNat, reduceCtorEq, Try.results55]
  refine CodeT.seq ?_
  refine CodeT.seqR ?_
  simp -implicitDefEqProofs only [go_sem, ↓reduceIte, Nat.reduceLT, Nat.reduceEqDiff, Nat.reduceAdd, Nat.reduceSub, Nat.reduceBEq, Nat.reduceLeDiff, Int.reduceToNat, reduceCtorEq, Try.results55]
  intro b1
  intro hb2
  refine CodeT.cond rfl (fun g3 => ?_) (fun g3 => ?_)
  refine CodeT.seqR ?_
  simp -implicitDefEqProofs only [go_sem, ↓reduceIte, Nat.reduceLT, Nat.reduceEqDiff, Nat.reduceAdd, Nat.reduceSub, Nat.reduceBEq, Nat.reduceLeDiff, Int.reduceToNat, reduceCtorEq, Try.results55, g3]
  first | refine CodeT.promoteV 2 1 1 rfl ?_ | skip
  refine CodeT.ret ?_
  simp -implicitDefEqProofs only [go_sem, ↓reduceIte, Nat.reduceLT, Nat.reduceEqDiff, Nat.reduceAdd, Nat.reduceSub, Nat.reduceBEq, Nat.reduceLeDiff, Int.reduceToNat, reduceCtorEq, Try.results55, g3]
  refine And.intro ?_ ?_
  rotate_left
  rotate_left
  refine CodeT.skip ?_
  simp -implicitDefEqProofs only [go_sem, ↓reduceIte, Nat.reduceLT, Nat.reduceEqDiff, Nat.reduceAdd, Nat.reduceSub, Nat.reduceBEq, Nat.reduceLeDiff, Int.reduceToNat, reduceCtorEq, Try.results55, g3]
  refine CodeT.seqR ?_
  simp -implicitDefEqProofs only [go_sem, ↓reduceIte, Nat.reduceLT, Nat.reduceEqDiff, Nat.reduceAdd, Nat.reduceSub, Nat.reduceBEq, Nat.reduceLeDiff, Int.reduceToNat, reduceCtorEq, Try.results55, g3]
  refine And.intro (by trivial) ?_
  refine And.intro (by omega) ?_
  refine And.intro (by exact uni_bs _) ?_
  refine And.intro (by omega) ?_
  first | refine CodeT.promoteV 2 1 1 rfl ?_ | skip
  refine CodeT.ret ?_
  simp -implicitDefEqProofs only [go_sem, ↓reduceIte, Nat.reduceLT, Nat.reduceEqDiff, Nat.reduceAdd, Nat.reduceSub, Nat.reduceBEq, Nat.reduceLeDiff, Int.reduceToNat, reduceCtorEq, Try.results55, g3]
  · obtain rfl := hnil (by rw [← g3]; exact hb2)
    rfl
  · obtain rfl := hnil (by rw [← g3]; exact hb2)
    rfl
theorem c55p (l : List UInt8) (hl : l.length ≤ 4000000) : PureT Try.prog 55 [.sl false (bs l)] (· = .sl false (bs l)) := by
  refine CallT.res ?_
  refine (c55d l hl).mono ?_
  rintro r h' ⟨rfl, rfl⟩
  simp -implicitDefEqProofs only [go_sem]
  refine ⟨by simp [bs_length], rfl, _, rfl, ?_⟩
  simp [bs]
theorem opv_shift (n : Nat) (o : DOp) : (opv o).shift n = opv o := rfl
theorem dkv_shift (n : Nat) (o : Dsk) : (dkv o).shift n = dkv o := rfl
attribute [go_sem] opv_shift dkv_shift
end Go.Proofs.Try

namespace Go.Proofs.Try
set_option linter.unusedSimpArgs false
set_option linter.unusedVariables false
open Go.PM
set_option maxHeartbeats 4000000

theorem take_map_succ {α β : Type} (g : α → β) (q : List α) (i : Nat) (x : α) (h : i < q.length) : (q.take (i + 1)).map g = (q.take i).map g ++ [g (q.getD i x)] := by
  rw [List.take_add_one, List.map_append, List.getElem?_eq_getElem h]
  simp [List.getD_eq_getElem?_getD, h]
theorem c56d (q : List DOp) (f : FuncId) (g : DOp → DOp) (hf : ∀ o ∈ q, PureT Try.prog f [opv o] (· = opv (g o))) (hq : q.length ≤ 4000000) : CallT Try.prog 56 [.sl false (opvs q), .fn f []] [] (fun r h' => r = .ret (.hsl 0 q.length 0 q.length) ∧ h' = [.row true q.length 3 (opvs (q.map g))]) := by
  refine CallT.less ?_
  refine CallT.intro Try.func56 (by decide) rfl ?_
  simp -implicitDefEqProofs only [go_sem, ↓reduceIte, Nat.reduceLT, Nat.reduceEqDiff, Nat.reduceAdd, Nat.reduceSub, Nat.reduceBEq, Nat.reduceLeDiff, Int.reduceToNat, reduceCtorEq, enterTm, Try.ntmps56, List.range'_succ, List.range'_zero, List.zip_cons_cons, List.zip_nil_left]
  refine CodeT.seqR ?_
  simp -implicitDefEqProofs only [go_sem, ↓reduceIte, Nat.reduceLT, Nat.reduceEqDiff, Nat.reduceAdd, Nat.reduceSub, Nat.reduceBEq, Nat.reduceLeDiff, Int.reduceToNat, reduceCtorEq, Try.results56]
  refine CodeT.seqR ?_
  simp -implicitDefEqProofs only [go_sem, ↓reduceIte, Nat.reduceLT, Nat.reduceEqDiff, Nat.reduceAdd, Nat.reduceSub, Nat.reduceBEq, Nat.reduceLeDiff, Int.reduceToNat, reduceCtorEq, Try.results56]
  refine CodeT.seq ?_
  refine CodeT.seqR ?_
  simp -implicitDefEqProofs only [go_sem, ↓reduceIte, Nat.reduceLT, Nat.reduceEqDiff, Nat.reduceAdd, Nat.reduceSub, Nat.reduceBEq, Nat.reduceLeDiff, Int.reduceToNat, reduceCtorEq, Try.results56]
  refine CodeT.block ?_
  refine CodeT.promote 5 3 rfl ?_
  simp -implicitDefEqProofs only [go_sem, ↓reduceIte, Nat.reduceLT, Nat.reduceEqDiff, Nat.reduceAdd, Nat.reduceSub, Nat.reduceBEq, Nat.reduceLeDiff, Int.reduceToNat, reduceCtorEq, Try.results56]
  refine CodeT.whileS (fun i : Nat => [(10, .val (.int .i64 (i : Nat))), (5, .hsl 0 i 0 i)]) [9, 8, 1] (fun i : Nat => [.row true i 3 (opvs ((q.take i).map g))]) (fun i : Nat => i ≤ q.length) (fun i : Nat => q.length - i) (0) ?_ rfl ?_ ?_
  omega
  refine ⟨rfl, ?_, ?_, rfl, ?_⟩
  simp -implicitDefEqProofs only [go_sem, ↓reduceIte, Nat.reduceLT, Nat.reduceEqDiff, Nat.reduceAdd, Nat.reduceSub, Nat.reduceBEq, Nat.reduceLeDiff, Int.reduceToNat, reduceCtorEq, Try.results56, or_true, true_or, false_or, or_false, implies_true, Int.natCast_add, Int.cast_ofNat_Int, keepsD_nil]
  trivial
  simp -implicitDefEqProofs only [go_sem, ↓reduceIte, Nat.reduceLT, Nat.reduceEqDiff, Nat.reduceAdd, Nat.reduceSub, Nat.reduceBEq, Nat.reduceLeDiff, Int.reduceToNat, reduceCtorEq, Try.results56, or_true, true_or, false_or, or_false, implies_true, Int.natCast_add, Int.cast_ofNat_Int, keepsD_nil]
  trivial
  simp -implicitDefEqProofs only [go_sem, ↓reduceIte, Nat.reduceLT, Nat.reduceEqDiff, Nat.reduceAdd, Nat.reduceSub, Nat.reduceBEq, Nat.reduceLeDiff, Int.reduceToNat, reduceCtorEq, Try.results56, or_true, true_or, false_or, or_false, implies_true, Int.natCast_add, Int.cast_ofNat_Int, keepsD_nil]
  rintro i hi
  have f1 : i < q.length → q.getD i op0 ∈ q := fun h => by simp [List.getD_eq_getElem?_getD, h]
  simp -implicitDefEqProofs only [go_sem, ↓reduceIte, Nat.reduceLT, Nat.reduceEqDiff, Nat.reduceAdd, Nat.reduceSub, Nat.reduceBEq, Nat.reduceLeDiff, Int.reduceToNat, reduceCtorEq, Try.results56]
  refine CodeT.seqR ?_
  simp -implicitDefEqProofs only [go_sem, ↓reduceIte, Nat.reduceLT, Nat.reduceEqDiff, Nat.reduceAdd, Nat.reduceSub, Nat.reduceBEq, Nat.reduceLeDiff, Int.reduceToNat, reduceCtorEq, Try.results56]
  refine CodeT.seq (CodeT.cond rfl (fun g1 => ?_) (fun g1 => ?_))
  have d1 := ofDec g1
  refine CodeT.skip ?_
  simp -implicitDefEqProofs only [go_sem, ↓reduceIte, Nat.reduceLT, Nat.reduceEqDiff, Nat.reduceAdd, Nat.reduceSub, Nat.reduceBEq, Nat.reduceLeDiff, Int.reduceToNat, reduceCtorEq, Try.results56, g1]
  refine CodeT.seq (CodeT.block ?_)
  refine CodeT.seqR ?_
  simp -implicitDefEqProofs only [go_sem, ↓reduceIte, Nat.reduceLT, Nat.reduceEqDiff, Nat.reduceAdd, Nat.reduceSub, Nat.reduceBEq, Nat.reduceLeDiff, Int.reduceToNat, reduceCtorEq, Try.results56, g1]
  refine And.intro (by omega) ?_
  refine And.intro (by assumption) ?_
  simp -implicitDefEqProofs (disch := omega) only [i64_in, bs_getD, opvs_getD, is64_getD, bss_getD]
  simp -implicitDefEqProofs only [go_sem, ↓reduceIte, Nat.reduceLT, Nat.reduceEqDiff, Nat.reduceAdd, Nat.reduceSub, Nat.reduceBEq, Nat.reduceLeDiff, Int.reduceToNat, reduceCtorEq, Try.results56, g1]
  refine CodeT.region ?_
  simp -implicitDefEqProofs only [go_sem, ↓reduceIte, Nat.reduceLT, Nat.reduceEqDiff, Nat.reduceAdd, Nat.reduceSub, Nat.reduceBEq, Nat.reduceLeDiff, Int.reduceToNat, reduceCtorEq, Try.results56, g1]
  refine PureT.eq (hf _ ?_) rfl ?_
  exact f1 (by omega)
  simp -implicitDefEqProofs only [go_sem, ↓reduceIte, Nat.reduceLT, Nat.reduceEqDiff, Nat.reduceAdd, Nat.reduceSub, Nat.reduceBEq, Nat.reduceLeDiff, Int.reduceToNat, reduceCtorEq, Try.results56, g1]
  refine And.intro (by trivial) ?_
  refine And.intro (by omega) ?_
  refine And.intro (by exact uni_opvs [_]) ?_
  refine And.intro (by omega) ?_
  refine And.intro (by omega) ?_
  refine CodeT.region ?_
  simp -implicitDefEqProofs only [go_sem, ↓reduceIte, Nat.reduceLT, Nat.reduceEqDiff, Nat.reduceAdd, Nat.reduceSub, Nat.reduceBEq, Nat.reduceLeDiff, Int.reduceToNat, reduceCtorEq, Try.results56, g1]
  simp -implicitDefEqProofs (disch := omega) only [i64_in, bs_getD, opvs_getD, is64_getD, bss_getD]
  refine ⟨i + 1, ?_⟩
  refine And.intro ?_ ?_
  omega
  refine And.intro ?_ ?_
  omega
  refine ⟨rfl, ?_, ?_, rfl, ?_⟩
  simp -implicitDefEqProofs only [go_sem, ↓reduceIte, Nat.reduceLT, Nat.reduceEqDiff, Nat.reduceAdd, Nat.reduceSub, Nat.reduceBEq, Nat.reduceLeDiff, Int.reduceToNat, reduceCtorEq, Try.results56, g1, or_true, true_or, false_or, or_false, implies_true, Int.natCast_add, Int.cast_ofNat_Int, keepsD_nil]
  refine And.intro ?_ ?_
  (congr 1 <;> omega)
  trivial
  simp -implicitDefEqProofs only [go_sem, ↓reduceIte, Nat.reduceLT, Nat.reduceEqDiff, Nat.reduceAdd, Nat.reduceSub, Nat.reduceBEq, Nat.reduceLeDiff, Int.reduceToNat, reduceCtorEq, Try.results56, g1, or_true, true_or, false_or, or_false, implies_true, Int.natCast_add, Int.cast_ofNat_Int, keepsD_nil]
  rotate_left
  simp -implicitDefEqProofs only [go_sem, ↓reduceIte, Nat.reduceLT, Nat.reduceEqDiff, Nat.reduceAdd, Nat.reduceSub, Nat.reduceBEq, Nat.reduceLeDiff, Int.reduceToNat, reduceCtorEq, Try.results56, g1, or_true, true_or, false_or, or_false, implies_true, Int.natCast_add, Int.cast_ofNat_Int, keepsD_nil]
  have d1 := ofDecF g1
  refine CodeT.exit ?_
  simp -implicitDefEqProofs only [go_sem, ↓reduceIte, Nat.reduceLT, Nat.reduceEqDiff, Nat.reduceAdd, Nat.reduceSub, Nat.reduceBEq, Nat.reduceLeDiff, Int.reduceToNat, reduceCtorEq, Try.results56, g1]
  refine CodeT.seqR ?_
  simp -implicitDefEqProofs only [go_sem, ↓reduceIte, Nat.reduceLT, Nat.reduceEqDiff, Nat.reduceAdd, Nat.reduceSub, Nat.reduceBEq, Nat.reduceLeDiff, Int.reduceToNat, reduceCtorEq, Try.results56, g1]
  refine CodeT.ret ?_
  simp -implicitDefEqProofs only [go_sem, ↓reduceIte, Nat.reduceLT, Nat.reduceEqDiff, Nat.reduceAdd, Nat.reduceSub, Nat.reduceBEq, Nat.reduceLeDiff, Int.reduceToNat, reduceCtorEq, Try.results56, g1]
  rotate_left
  · rw [take_map_succ g q i op0 (by omega)]
  · have hi' : i = q.length := by omega
    subst hi'
    refine ⟨_, ?_, Nat.zero_le _, ?_, rfl, rfl⟩
    · rw [List.take_length]; exact ⟨.inr ⟨rfl, rfl⟩, trivial⟩
    · rfl
/-- One of the things that are done with a disk. -/
def doStep (d : Dsk) (o : DOp) : Dsk := if o.flush = true then ⟨seenB d, []⟩ else ⟨d.bytes, d.queue ++ [o]⟩
def doB (d : Dsk) (ops : List DOp) : Dsk := ops.foldl doStep d
theorem doB_succ (d : Dsk) (ops : List DOp) (i : Nat) (h : i < ops.length) : doB d (ops.take (i + 1)) = doStep (doB d (ops.take i)) (ops.getD i op0) := by
  unfold doB
  rw [List.take_add_one, List.foldl_append, List.getElem?_eq_getElem h]
  simp [List.getD_eq_getElem?_getD, h]
theorem within_snoc {n : Nat} {q : List DOp} {o : DOp} (h : within n q) (h1 : 0 ≤ o.at_) (h2 : o.at_ + o.bytes.length ≤ n) : within n (q ++ [o]) := by
  intro i hi
  by_cases hlt : i < q.length
  · have := h i hlt
    rw [List.getD_eq_getElem?_getD, List.getElem?_append_left hlt, ← List.getD_eq_getElem?_getD]
    exact this
  · have hi' : i = q.length := by simp at hi; omega
    subst hi'
    rw [List.getD_eq_getElem?_getD, List.getElem?_append_right (Nat.le_refl _)]
    simpa using ⟨h1, h2⟩
theorem within_nil (n : Nat) : within n [] := fun i hi => absurd hi (Nat.not_lt_zero _)
theorem doB_ok {d : Dsk} (hi : isDiskB d = true) {ops : List DOp} (hf : ∀ o ∈ ops, fitsB o d.bytes.length = true) : ∀ i, i ≤ ops.length → (doB d (ops.take i)).bytes.length = d.bytes.length ∧ within d.bytes.length (doB d (ops.take i)).queue ∧ (doB d (ops.take i)).queue.length ≤ d.queue.length + i := by
  intro i
  induction i with
  | zero =>
    intro _
    exact ⟨rfl, (isDisk_ok hi).2, Nat.le_refl _⟩
  | succ i ih =>
    intro h
    obtain ⟨h1, h2, h3⟩ := ih (by omega)
    rw [doB_succ d ops i (by omega)]
    have hm : ops.getD i op0 ∈ ops := by
      have : i < ops.length := by omega
      simp [List.getD_eq_getElem?_getD, this]
    have hfo := hf _ hm
    generalize ops.getD i op0 = o at hfo
    unfold doStep
    split
    · refine ⟨?_, within_nil _, by simp⟩
      show (seenB _).length = _
      rw [seenB_length (by rw [h1]; exact h2), h1]
    · rename_i hfl
      have hfl' : o.flush = false := by simpa using hfl
      simp [fitsB, hfl'] at hfo
      refine ⟨h1, within_snoc h2 hfo.1.1.2 (by omega), by simp; omega⟩
def badArg (d : Dsk) (ops : List DOp) : Bool := ops.any fun o => !fitsB o d.bytes.length
def doV (d : Dsk) (ops : List DOp) : AV :=
  if (!isDiskB d) = true then .tup [dkv ⟨[], []⟩, er 281]
  else if badArg d ops = true then .tup [dkv ⟨[], []⟩, er 1]
  else .tup [dkv (doB d ops), er 0]
theorem c52s (d : Dsk) (ops : List DOp) (hd : d.bytes.length ≤ 4000000) (ho : ops.length ≤ 4000000) : PureT Try.prog 52 [.sl false (opvs ops), .fn 53 [dcp d]] (· = .val (.bool (badArg d ops))) :=
  c52 ops 53 [dcp d] rfl _ (fun o _ => c53 d o hd) ho
theorem c56i (q : List DOp) (hb : ∀ o ∈ q, o.bytes.length ≤ 4000000) (hq : q.length ≤ 4000000) : CallT Try.prog 56 [.sl false (opvs q), .fn 57 []] [] (fun r h' => r = .ret (.hsl 0 q.length 0 q.length) ∧ h' = [.row true q.length 3 (opvs q)]) := by
  have := c56d q 57 (fun o => o) (fun o ho => c57 o (hb o ho)) hq
  rwa [List.map_id'] at this
theorem c17 (d : Dsk) (ops : List DOp) (hf : Few d) (ho : ops.length ≤ 1000000) (hq : d.queue.length ≤ 1000000) (hb : ∀ o ∈ ops, o.bytes.length ≤ 4000000) (hb' : ∀ o ∈ d.queue, o.bytes.length ≤ 4000000) : PureT Try.prog 17 [dkv d, .sl false (opvs ops)] (· = doV d ops) := by
  refine CallT.res (CallT.laxR ?_)
  have h1 := hf.b
  cases hi : isDiskB d
  · refine CallT.intro Try.func17 (by decide) rfl ?_
    simp -implicitDefEqProofs only [go_sem, ↓reduceIte, Nat.reduceLT, Nat.reduceEqDiff, Nat.reduceAdd, Nat.reduceSub, Nat.reduceBEq, Nat.reduceLeDiff, Int.reduceToNat, reduceCtorEq, hi, enterTm, Try.ntmps17, List.range'_succ, List.range'_zero, List.zip_cons_cons, List.zip_nil_left]
    refine CodeT.seqR ?_
    simp -implicitDefEqProofs only [go_sem, ↓reduceIte, Nat.reduceLT, Nat.reduceEqDiff, Nat.reduceAdd, Nat.reduceSub, Nat.reduceBEq, Nat.reduceLeDiff, Int.reduceToNat, reduceCtorEq, hi, Try.results17]
    refine CodeT.seq ?_
    refine CodeT.seqR ?_
    simp -implicitDefEqProofs only [go_sem, ↓reduceIte, Nat.reduceLT, Nat.reduceEqDiff, Nat.reduceAdd, Nat.reduceSub, Nat.reduceBEq, Nat.reduceLeDiff, Int.reduceToNat, reduceCtorEq, hi, Try.results17]
    refine PureT.eq (c51 _ ?_ ?_) rfl ?_
    assumption
    omega
    simp -implicitDefEqProofs only [go_sem, ↓reduceIte, Nat.reduceLT, Nat.reduceEqDiff, Nat.reduceAdd, Nat.reduceSub, Nat.reduceBEq, Nat.reduceLeDiff, Int.reduceToNat, reduceCtorEq, hi, Try.results17]
    refine CodeT.condT rfl ?_
    refine CodeT.seqR ?_
    simp -implicitDefEqProofs only [go_sem, ↓reduceIte, Nat.reduceLT, Nat.reduceEqDiff, Nat.reduceAdd, Nat.reduceSub, Nat.reduceBEq, Nat.reduceLeDiff, Int.reduceToNat, reduceCtorEq, hi, Try.results17]
    refine CodeT.ret ?_
    simp -implicitDefEqProofs only [go_sem, ↓reduceIte, Nat.reduceLT, Nat.reduceEqDiff, Nat.reduceAdd, Nat.reduceSub, Nat.reduceBEq, Nat.reduceLeDiff, Int.reduceToNat, reduceCtorEq, hi, Try.results17]
    refine pureEnd rfl ?_
    rotate_left
    simp only [doV, hi, Bool.not_false, ↓reduceIte]; rfl
  cases hbad : badArg d ops
  case true =>
    refine CallT.intro Try.func17 (by decide) rfl ?_
    simp -implicitDefEqProofs only [go_sem, ↓reduceIte, Nat.reduceLT, Nat.reduceEqDiff, Nat.reduceAdd, Nat.reduceSub, Nat.reduceBEq, Nat.reduceLeDiff, Int.reduceToNat, reduceCtorEq, hi, hbad, enterTm, Try.ntmps17, List.range'_succ, List.range'_zero, List.zip_cons_cons, List.zip_nil_left]
    refine CodeT.seqR ?_
    simp -implicitDefEqProofs only [go_sem, ↓reduceIte, Nat.reduceLT, Nat.reduceEqDiff, Nat.reduceAdd, Nat.reduceSub, Nat.reduceBEq, Nat.reduceLeDiff, Int.reduceToNat, reduceCtorEq, hi, hbad, Try.results17]
    refine CodeT.seq ?_
    refine CodeT.freeze 2 ?_
    simp -implicitDefEqProofs only [go_sem, ↓reduceIte, Nat.reduceLT, Nat.reduceEqDiff, Nat.reduceAdd, Nat.reduceSub, Nat.reduceBEq, Nat.reduceLeDiff, Int.reduceToNat, reduceCtorEq, hi, hbad, Try.results17]
    refine CodeT.seqR ?_
    simp -implicitDefEqProofs only [go_sem, ↓reduceIte, Nat.reduceLT, Nat.reduceEqDiff, Nat.reduceAdd, Nat.reduceSub, Nat.reduceBEq, Nat.reduceLeDiff, Int.reduceToNat, reduceCtorEq, hi, hbad, Try.results17]
    refine PureT.eq (c51 _ ?_ ?_) rfl ?_
    assumption
    omega
    simp -implicitDefEqProofs only [go_sem, ↓reduceIte, Nat.reduceLT, Nat.reduceEqDiff, Nat.reduceAdd, Nat.reduceSub, Nat.reduceBEq, Nat.reduceLeDiff, Int.reduceToNat, reduceCtorEq, hi, hbad, Try.results17]
    refine CodeT.condF rfl ?_
    refine CodeT.skip ?_
    simp -implicitDefEqProofs only [go_sem, ↓reduceIte, Nat.reduceLT, Nat.reduceEqDiff, Nat.reduceAdd, Nat.reduceSub, Nat.reduceBEq, Nat.reduceLeDiff, Int.reduceToNat, reduceCtorEq, hi, hbad, Try.results17]
    refine CodeT.seq ?_
    refine CodeT.seqR ?_
    simp -implicitDefEqProofs only [go_sem, ↓reduceIte, Nat.reduceLT, Nat.reduceEqDiff, Nat.reduceAdd, Nat.reduceSub, Nat.reduceBEq, Nat.reduceLeDiff, Int.reduceToNat, reduceCtorEq, hi, hbad, Try.results17]
    refine PureT.eq (c52s _ _ ?_ ?_) rfl ?_
    assumption
    omega
    simp -implicitDefEqProofs only [go_sem, ↓reduceIte, Nat.reduceLT, Nat.reduceEqDiff, Nat.reduceAdd, Nat.reduceSub, Nat.reduceBEq, Nat.reduceLeDiff, Int.reduceToNat, reduceCtorEq, hi, hbad, Try.results17]
    refine CodeT.condT rfl ?_
    refine CodeT.seqR ?_
    simp -implicitDefEqProofs only [go_sem, ↓reduceIte, Nat.reduceLT, Nat.reduceEqDiff, Nat.reduceAdd, Nat.reduceSub, Nat.reduceBEq, Nat.reduceLeDiff, Int.reduceToNat, reduceCtorEq, hi, hbad, Try.results17]
    refine CodeT.ret ?_
    simp -implicitDefEqProofs only [go_sem, ↓reduceIte, Nat.reduceLT, Nat.reduceEqDiff, Nat.reduceAdd, Nat.reduceSub, Nat.reduceBEq, Nat.reduceLeDiff, Int.reduceToNat, reduceCtorEq, hi, hbad, Try.results17]
    refine pureEnd rfl ?_
    rotate_left
    simp only [doV, hi, hbad, Bool.not_true, Bool.false_eq_true, ↓reduceIte]; rfl
  have hfit : ∀ o ∈ ops, fitsB o d.bytes.length = true := fun o ho => by
    have := List.any_eq_false.1 hbad o ho
    simpa using this
  have hsm := isDisk_small hi
  have hz := (isDisk_ok hi).1.z
  refine CallT.intro Try.func17 (by decide) rfl ?_
  simp -implicitDefEqProofs only [go_sem, ↓reduceIte, Nat.reduceLT, Nat.reduceEqDiff, Nat.reduceAdd, Nat.reduceSub, Nat.reduceBEq, Nat.reduceLeDiff, Int.reduceToNat, reduceCtorEq, hi, hbad, dcp, kpv, enterTm, Try.ntmps17, List.range'_succ, List.range'_zero, List.zip_cons_cons, List.zip_nil_left]
  refine CodeT.seqR ?_
  simp -implicitDefEqProofs only [go_sem, ↓reduceIte, Nat.reduceLT, Nat.reduceEqDiff, Nat.reduceAdd, Nat.reduceSub, Nat.reduceBEq, Nat.reduceLeDiff, Int.reduceToNat, reduceCtorEq, hi, hbad, dcp, kpv, Try.results17]
  refine CodeT.seq ?_
  refine CodeT.freeze 2 ?_
  simp -implicitDefEqProofs only [go_sem, ↓reduceIte, Nat.reduceLT, Nat.reduceEqDiff, Nat.reduceAdd, Nat.reduceSub, Nat.reduceBEq, Nat.reduceLeDiff, Int.reduceToNat, reduceCtorEq, hi, hbad, dcp, kpv, Try.results17]
  refine CodeT.seqR ?_
  simp -implicitDefEqProofs only [go_sem, ↓reduceIte, Nat.reduceLT, Nat.reduceEqDiff, Nat.reduceAdd, Nat.reduceSub, Nat.reduceBEq, Nat.reduceLeDiff, Int.reduceToNat, reduceCtorEq, hi, hbad, dcp, kpv, Try.results17]
  refine PureT.eq (c51 _ ?_ ?_) rfl ?_
  assumption
  omega
  simp -implicitDefEqProofs only [go_sem, ↓reduceIte, Nat.reduceLT, Nat.reduceEqDiff, Nat.reduceAdd, Nat.reduceSub, Nat.reduceBEq, Nat.reduceLeDiff, Int.reduceToNat, reduceCtorEq, hi, hbad, dcp, kpv, Try.results17]
  refine CodeT.condF rfl ?_
  refine CodeT.skip ?_
  simp -implicitDefEqProofs only [go_sem, ↓reduceIte, Nat.reduceLT, Nat.reduceEqDiff, Nat.reduceAdd, Nat.reduceSub, Nat.reduceBEq, Nat.reduceLeDiff, Int.reduceToNat, reduceCtorEq, hi, hbad, dcp, kpv, Try.results17]
  refine CodeT.seq ?_
  refine CodeT.seqR ?_
  simp -implicitDefEqProofs only [go_sem, ↓reduceIte, Nat.reduceLT, Nat.reduceEqDiff, Nat.reduceAdd, Nat.reduceSub, Nat.reduceBEq, Nat.reduceLeDiff, Int.reduceToNat, reduceCtorEq, hi, hbad, dcp, kpv, Try.results17]
  refine PureT.eq (c52s _ _ ?_ ?_) rfl ?_
  assumption
  omega
  simp -implicitDefEqProofs only [go_sem, ↓reduceIte, Nat.reduceLT, Nat.reduceEqDiff, Nat.reduceAdd, Nat.reduceSub, Nat.reduceBEq, Nat.reduceLeDiff, Int.reduceToNat, reduceCtorEq, hi, hbad, dcp, kpv, Try.results17]
  refine CodeT.condF rfl ?_
  refine CodeT.skip ?_
  simp -implicitDefEqProofs only [go_sem, ↓reduceIte, Nat.reduceLT, Nat.reduceEqDiff, Nat.reduceAdd, Nat.reduceSub, Nat.reduceBEq, Nat.reduceLeDiff, Int.reduceToNat, reduceCtorEq, hi, hbad, dcp, kpv, Try.results17]
  refine CodeT.seqL [7] [(0, .free), (3, .free), (1, .read), (2, .free), (4, .read), (5, .upd), (6, .free), (7, .upd), (8, .set)] mixed (by kernel_rfl) ?_
  simp -implicitDefEqProofs only [go_sem, ↓reduceIte, Nat.reduceLT, Nat.reduceEqDiff, Nat.reduceAdd, Nat.reduceSub, Nat.reduceBEq, Nat.reduceLeDiff, Int.reduceToNat, reduceCtorEq, hi, hbad, dcp, kpv, Try.results17]
  refine CallF.go (c55p _ ?_) rfl ?_
  assumption
  simp -implicitDefEqProofs only [go_sem, ↓reduceIte, Nat.reduceLT, Nat.reduceEqDiff, Nat.reduceAdd, Nat.reduceSub, Nat.reduceBEq, Nat.reduceLeDiff, Int.reduceToNat, reduceCtorEq, hi, hbad, dcp, kpv, Try.results17]
  refine ⟨⟨_, Try.func56, by decide, rfl⟩, ?_⟩
  simp -implicitDefEqProofs only [go_sem, ↓reduceIte, Nat.reduceLT, Nat.reduceEqDiff, Nat.reduceAdd, Nat.reduceSub, Nat.reduceBEq, Nat.reduceLeDiff, Int.reduceToNat, reduceCtorEq, hi, hbad, dcp, kpv, Try.results17]
  refine CallY.go (CallT.liftEq (c56i _ ?_ ?_) rfl) ?_
  assumption
  omega
  simp -implicitDefEqProofs only [go_sem, ↓reduceIte, Nat.reduceLT, Nat.reduceEqDiff, Nat.reduceAdd, Nat.reduceSub, Nat.reduceBEq, Nat.reduceLeDiff, Int.reduceToNat, reduceCtorEq, hi, hbad, dcp, kpv, Try.results17]
  refine And.intro (by exact Stable.append [_, _] [_]) ?_
  refine And.intro (by exact Stable.same (Stable.same (Stable.same (Stable.nil _)))) ?_
  refine CodeT.seq ?_
  refine CodeT.seqR ?_
  simp -implicitDefEqProofs only [go_sem, ↓reduceIte, Nat.reduceLT, Nat.reduceEqDiff, Nat.reduceAdd, Nat.reduceSub, Nat.reduceBEq, Nat.reduceLeDiff, Int.reduceToNat, reduceCtorEq, hi, hbad, dcp, kpv, Try.results17]
  refine CodeT.block ?_
  refine CodeT.whileS (fun x : Nat × Nat => [(26, .val (.int .i64 (x.1 : Nat)))]) [25, 24, 6, 4] (fun x : Nat × Nat => [.dead, .cells [.sl true [], .sl true []], .row true x.2 3 (opvs (doB d (ops.take x.1)).queue), .cells [.sl false (bs (doB d (ops.take x.1)).bytes), .hsl 2 x.2 0 (doB d (ops.take x.1)).queue.length]]) (fun x : Nat × Nat => x.1 ≤ ops.length) (fun x : Nat × Nat => ops.length - x.1) ((0, d.queue.length)) ?_ rfl ?_ ?_
  omega
  refine ⟨rfl, ?_, ?_, rfl, ?_⟩
  simp -implicitDefEqProofs only [go_sem, ↓reduceIte, Nat.reduceLT, Nat.reduceEqDiff, Nat.reduceAdd, Nat.reduceSub, Nat.reduceBEq, Nat.reduceLeDiff, Int.reduceToNat, reduceCtorEq, hi, hbad, dcp, kpv, Try.results17, or_true, true_or, false_or, or_false, implies_true, Int.natCast_add, Int.cast_ofNat_Int, keepsD_nil]
  refine And.intro ?_ ?_
  trivial
  trivial
  simp -implicitDefEqProofs only [go_sem, ↓reduceIte, Nat.reduceLT, Nat.reduceEqDiff, Nat.reduceAdd, Nat.reduceSub, Nat.reduceBEq, Nat.reduceLeDiff, Int.reduceToNat, reduceCtorEq, hi, hbad, dcp, kpv, Try.results17, or_true, true_or, false_or, or_false, implies_true, Int.natCast_add, Int.cast_ofNat_Int, keepsD_nil]
  refine And.intro ?_ ?_
  trivial
  refine And.intro ?_ ?_
  trivial
  trivial
  simp -implicitDefEqProofs only [go_sem, ↓reduceIte, Nat.reduceLT, Nat.reduceEqDiff, Nat.reduceAdd, Nat.reduceSub, Nat.reduceBEq, Nat.reduceLeDiff, Int.reduceToNat, reduceCtorEq, hi, hbad, dcp, kpv, Try.results17, or_true, true_or, false_or, or_false, implies_true, Int.natCast_add, Int.cast_ofNat_Int, keepsD_nil]
  rintro ⟨i, v⟩ hx
  obtain ⟨f3, f4, f5⟩ := doB_ok hi hfit i hx
  rw [← f3] at f4
  have f6 := doB_succ d ops i
  have f1 : i < ops.length → (ops.getD i op0).bytes.length ≤ 4000000 := fun h => hb _ (by simp [List.getD_eq_getElem?_getD, h])
  have f7 : i = ops.length → doB d (ops.take i) = doB d ops := fun h => by rw [h, List.take_length]
  generalize doB d (ops.take i) = D at *
  simp -implicitDefEqProofs only [go_sem, ↓reduceIte, Nat.reduceLT, Nat.reduceEqDiff, Nat.reduceAdd, Nat.reduceSub, Nat.reduceBEq, Nat.reduceLeDiff, Int.reduceToNat, reduceCtorEq, hi, hbad, dcp, kpv, Try.results17]
  refine CodeT.seqR ?_
  simp -implicitDefEqProofs only [go_sem, ↓reduceIte, Nat.reduceLT, Nat.reduceEqDiff, Nat.reduceAdd, Nat.reduceSub, Nat.reduceBEq, Nat.reduceLeDiff, Int.reduceToNat, reduceCtorEq, hi, hbad, dcp, kpv, Try.results17]
  refine CodeT.seq (CodeT.cond rfl (fun g4 => ?_) (fun g4 => ?_))
  have d4 := ofDec g4
  refine CodeT.skip ?_
  simp -implicitDefEqProofs only [go_sem, ↓reduceIte, Nat.reduceLT, Nat.reduceEqDiff, Nat.reduceAdd, Nat.reduceSub, Nat.reduceBEq, Nat.reduceLeDiff, Int.reduceToNat, reduceCtorEq, hi, hbad, dcp, kpv, Try.results17, g4]
  refine CodeT.seq (CodeT.block ?_)
  refine CodeT.seqR ?_
  simp -implicitDefEqProofs only [go_sem, ↓reduceIte, Nat.reduceLT, Nat.reduceEqDiff, Nat.reduceAdd, Nat.reduceSub, Nat.reduceBEq, Nat.reduceLeDiff, Int.reduceToNat, reduceCtorEq, hi, hbad, dcp, kpv, Try.results17, g4]
  refine And.intro (by omega) ?_
  refine And.intro (by assumption) ?_
  simp -implicitDefEqProofs (disch := omega) only [i64_in, bs_getD, opvs_getD, is64_getD, bss_getD]
  simp -implicitDefEqProofs only [go_sem, ↓reduceIte, Nat.reduceLT, Nat.reduceEqDiff, Nat.reduceAdd, Nat.reduceSub, Nat.reduceBEq, Nat.reduceLeDiff, Int.reduceToNat, reduceCtorEq, hi, hbad, dcp, kpv, Try.results17, g4]
  refine CodeT.seqR ?_
  simp -implicitDefEqProofs only [go_sem, ↓reduceIte, Nat.reduceLT, Nat.reduceEqDiff, Nat.reduceAdd, Nat.reduceSub, Nat.reduceBEq, Nat.reduceLeDiff, Int.reduceToNat, reduceCtorEq, hi, hbad, dcp, kpv, Try.results17, g4]
  refine CodeT.cond rfl (fun g5 => ?_) (fun g5 => ?_)
  refine CodeT.region ?_
  simp -implicitDefEqProofs only [go_sem, ↓reduceIte, Nat.reduceLT, Nat.reduceEqDiff, Nat.reduceAdd, Nat.reduceSub, Nat.reduceBEq, Nat.reduceLeDiff, Int.reduceToNat, reduceCtorEq, hi, hbad, dcp, kpv, Try.results17, g4, g5]
  refine CallT.args ⟨_, Try.func58, by decide, rfl⟩ ?_
  simp -implicitDefEqProofs only [go_sem, ↓reduceIte, Nat.reduceLT, Nat.reduceEqDiff, Nat.reduceAdd, Nat.reduceSub, Nat.reduceBEq, Nat.reduceLeDiff, Int.reduceToNat, reduceCtorEq, hi, hbad, dcp, kpv, Try.results17, g4, g5]
  refine And.intro (by omega) ?_
  refine PureT.eq (c58 _ ?_ ?_ ?_ ?_) rfl ?_
  assumption
  omega
  omega
  omega
  simp -implicitDefEqProofs only [go_sem, ↓reduceIte, Nat.reduceLT, Nat.reduceEqDiff, Nat.reduceAdd, Nat.reduceSub, Nat.reduceBEq, Nat.reduceLeDiff, Int.reduceToNat, reduceCtorEq, hi, hbad, dcp, kpv, Try.results17, g4, g5]
  first | refine CodeT.renilBox 3 1 2 rfl rfl rfl ?_ | skip
  simp -implicitDefEqProofs only [go_sem, ↓reduceIte, Nat.reduceLT, Nat.reduceEqDiff, Nat.reduceAdd, Nat.reduceSub, Nat.reduceBEq, Nat.reduceLeDiff, Int.reduceToNat, reduceCtorEq, hi, hbad, dcp, kpv, Try.results17, g4, g5]
  refine CodeT.region ?_
  simp -implicitDefEqProofs only [go_sem, ↓reduceIte, Nat.reduceLT, Nat.reduceEqDiff, Nat.reduceAdd, Nat.reduceSub, Nat.reduceBEq, Nat.reduceLeDiff, Int.reduceToNat, reduceCtorEq, hi, hbad, dcp, kpv, Try.results17, g4, g5]
  simp -implicitDefEqProofs (disch := omega) only [i64_in, bs_getD, opvs_getD, is64_getD, bss_getD]
  refine ⟨(i + 1, v + 1), ?_⟩
  refine And.intro ?_ ?_
  omega
  refine And.intro ?_ ?_
  omega
  refine ⟨rfl, ?_, ?_, rfl, ?_⟩
  simp -implicitDefEqProofs only [go_sem, ↓reduceIte, Nat.reduceLT, Nat.reduceEqDiff, Nat.reduceAdd, Nat.reduceSub, Nat.reduceBEq, Nat.reduceLeDiff, Int.reduceToNat, reduceCtorEq, hi, hbad, dcp, kpv, Try.results17, g4, g5, or_true, true_or, false_or, or_false, implies_true, Int.natCast_add, Int.cast_ofNat_Int, keepsD_nil]
  refine And.intro ?_ ?_
  trivial
  trivial
  simp -implicitDefEqProofs only [go_sem, ↓reduceIte, Nat.reduceLT, Nat.reduceEqDiff, Nat.reduceAdd, Nat.reduceSub, Nat.reduceBEq, Nat.reduceLeDiff, Int.reduceToNat, reduceCtorEq, hi, hbad, dcp, kpv, Try.results17, g4, g5, or_true, true_or, false_or, or_false, implies_true, Int.natCast_add, Int.cast_ofNat_Int, keepsD_nil]
  refine And.intro ?_ ?_
  rotate_left
  refine And.intro ?_ ?_
  rotate_left
  trivial
  simp -implicitDefEqProofs only [go_sem, ↓reduceIte, Nat.reduceLT, Nat.reduceEqDiff, Nat.reduceAdd, Nat.reduceSub, Nat.reduceBEq, Nat.reduceLeDiff, Int.reduceToNat, reduceCtorEq, hi, hbad, dcp, kpv, Try.results17, g4, g5, or_true, true_or, false_or, or_false, implies_true, Int.natCast_add, Int.cast_ofNat_Int, keepsD_nil]
  refine CodeT.drawnL [(0, .free), (1, .read), (2, .read), (3, .free), (4, .upd), (5, .upd), (6, .free), (7, .set)] mixed (by kernel_rfl) ?_
  simp -implicitDefEqProofs only [go_sem, ↓reduceIte, Nat.reduceLT, Nat.reduceEqDiff, Nat.reduceAdd, Nat.reduceSub, Nat.reduceBEq, Nat.reduceLeDiff, Int.reduceToNat, reduceCtorEq, hi, hbad, dcp, kpv, Try.results17, g4, g5]
  refine CallF.go (c57 _ ?_) rfl ?_
  exact f1 (by omega)
  simp -implicitDefEqProofs only [go_sem, ↓reduceIte, Nat.reduceLT, Nat.reduceEqDiff, Nat.reduceAdd, Nat.reduceSub, Nat.reduceBEq, Nat.reduceLeDiff, Int.reduceToNat, reduceCtorEq, hi, hbad, dcp, kpv, Try.results17, g4, g5]
  refine And.intro (by trivial) ?_
  refine And.intro (by omega) ?_
  refine And.intro (by exact Stable.refl _) ?_
  refine And.intro (by exact uni_opvs [_]) ?_
  refine And.intro (by omega) ?_
  refine And.intro (by exact Stable.same (Stable.same (Stable.row (Stable.refl _)))) ?_
  first | refine CodeT.renilBox 3 1 2 rfl rfl rfl ?_ | skip
  refine CodeT.region ?_
  simp -implicitDefEqProofs only [go_sem, ↓reduceIte, Nat.reduceLT, Nat.reduceEqDiff, Nat.reduceAdd, Nat.reduceSub, Nat.reduceBEq, Nat.reduceLeDiff, Int.reduceToNat, reduceCtorEq, hi, hbad, dcp, kpv, Try.results17, g4, g5]
  simp -implicitDefEqProofs (disch := omega) only [i64_in, bs_getD, opvs_getD, is64_getD, bss_getD]
  refine ⟨(i + 1, v + 1), ?_⟩
  refine And.intro ?_ ?_
  omega
  refine And.intro ?_ ?_
  omega
  refine ⟨rfl, ?_, ?_, rfl, ?_⟩
  simp -implicitDefEqProofs only [go_sem, ↓reduceIte, Nat.reduceLT, Nat.reduceEqDiff, Nat.reduceAdd, Nat.reduceSub, Nat.reduceBEq, Nat.reduceLeDiff, Int.reduceToNat, reduceCtorEq, hi, hbad, dcp, kpv, Try.results17, g4, g5, or_true, true_or, false_or, or_false, implies_true, Int.natCast_add, Int.cast_ofNat_Int, keepsD_nil]
  refine And.intro ?_ ?_
  trivial
  trivial
  simp -implicitDefEqProofs only [go_sem, ↓reduceIte, Nat.reduceLT, Nat.reduceEqDiff, Nat.reduceAdd, Nat.reduceSub, Nat.reduceBEq, Nat.reduceLeDiff, Int.reduceToNat, reduceCtorEq, hi, hbad, dcp, kpv, Try.results17, g4, g5, or_true, true_or, false_or, or_false, implies_true, Int.natCast_add, Int.cast_ofNat_Int, keepsD_nil]
  refine And.intro ?_ ?_
  rotate_left
  refine And.intro ?_ ?_
  rotate_left
  trivial
  simp -implicitDefEqProofs only [go_sem, ↓reduceIte, Nat.reduceLT, Nat.reduceEqDiff, Nat.reduceAdd, Nat.reduceSub, Nat.reduceBEq, Nat.reduceLeDiff, Int.reduceToNat, reduceCtorEq, hi, hbad, dcp, kpv, Try.results17, g4, g5, or_true, true_or, false_or, or_false, implies_true, Int.natCast_add, Int.cast_ofNat_Int, keepsD_nil]
  have d4 := ofDecF g4
  refine CodeT.exit ?_
  simp -implicitDefEqProofs only [go_sem, ↓reduceIte, Nat.reduceLT, Nat.reduceEqDiff, Nat.reduceAdd, Nat.reduceSub, Nat.reduceBEq, Nat.reduceLeDiff, Int.reduceToNat, reduceCtorEq, hi, hbad, dcp, kpv, Try.results17, g4]
  refine CodeT.seqR ?_
  simp -implicitDefEqProofs only [go_sem, ↓reduceIte, Nat.reduceLT, Nat.reduceEqDiff, Nat.reduceAdd, Nat.reduceSub, Nat.reduceBEq, Nat.reduceLeDiff, Int.reduceToNat, reduceCtorEq, hi, hbad, dcp, kpv, Try.results17, g4]
  refine CodeT.ret ?_
  simp -implicitDefEqProofs only [go_sem, ↓reduceIte, Nat.reduceLT, Nat.reduceEqDiff, Nat.reduceAdd, Nat.reduceSub, Nat.reduceBEq, Nat.reduceLeDiff, Int.reduceToNat, reduceCtorEq, hi, hbad, dcp, kpv, Try.results17, g4]
  refine And.intro (by omega) ?_
  refine pureEnd rfl ?_
  rotate_left
  · rw [f6 (by omega), doStep, if_pos (by assumption)]
    rfl
  · rw [f6 (by omega), doStep, if_pos (by assumption)]
    rfl
  · have e : (⟨false, (ops.getD i op0).at_, (ops.getD i op0).bytes⟩ : DOp) = ops.getD i op0 := by rw [show false = (ops.getD i op0).flush by symm; assumption]
    rw [f6 (by omega), doStep, if_neg (by rw [show (ops.getD i op0).flush = false by assumption]; decide), e]
  · rw [f6 (by omega), doStep, if_neg (by rw [show (ops.getD i op0).flush = false by assumption]; decide)]
    simp
  · rw [f7 (by simp only at hx; omega)]
    simp only [doV, hi, hbad, Bool.not_true, Bool.false_eq_true, ↓reduceIte, er]

theorem farC_le (cuts : List Int) (d : Dsk) (i : Nat) : farC cuts d i ≤ (d.queue.getD i op0).bytes.length := by
  unfold farC
  split
  · exact Nat.zero_le _
  · exact Nat.min_le_right _ _
def crashB (d : Dsk) (cuts : List Int) : List UInt8 := doneTo d.bytes d.queue (farC cuts d) d.queue.length
theorem c59c (d : Dsk) (cuts : List Int) (hw : within d.bytes.length d.queue) (hb : d.bytes.length ≤ 4000000) (hq : d.queue.length ≤ 4000000) : PureT Try.prog 59 [.sl false (bs d.bytes), .sl false (opvs d.queue), .fn 60 [.cptr [.sl false (is64 cuts)], dcp d]] (· = .sl false (bs (crashB d cuts))) :=
  c59 _ _ _ _ rfl (farC cuts d) (fun i hi => c60 d cuts i hi) (fun i _ => farC_le cuts d i) hw hb hq
def crashV (d : Dsk) (cuts : List Int) : AV := if (!isDiskB d) = true then .tup [dkv ⟨[], []⟩, er 281] else .tup [dkv ⟨crashB d cuts, []⟩, er 0]
theorem c18 (d : Dsk) (cuts : List Int) (hf : Few d) (hc : cuts.length ≤ 1000000) : PureT Try.prog 18 [dkv d, .sl false (is64 cuts)] (· = crashV d cuts) := by
  refine CallT.res (CallT.laxR ?_)
  have h1 := hf.b; have h2 := hf.q
  cases hi : isDiskB d
  · refine CallT.intro Try.func18 (by decide) rfl ?_
    simp -implicitDefEqProofs only [go_sem, ↓reduceIte, Nat.reduceLT, Nat.reduceEqDiff, Nat.reduceAdd, Nat.reduceSub, Nat.reduceBEq, Nat.reduceLeDiff, Int.reduceToNat, reduceCtorEq, hi, enterTm, Try.ntmps18, List.range'_succ, List.range'_zero, List.zip_cons_cons, List.zip_nil_left]
    refine CodeT.seqR ?_
    simp -implicitDefEqProofs only [go_sem, ↓reduceIte, Nat.reduceLT, Nat.reduceEqDiff, Nat.reduceAdd, Nat.reduceSub, Nat.reduceBEq, Nat.reduceLeDiff, Int.reduceToNat, reduceCtorEq, hi, Try.results18]
    refine CodeT.seq ?_
    refine CodeT.seqR ?_
    simp -implicitDefEqProofs only [go_sem, ↓reduceIte, Nat.reduceLT, Nat.reduceEqDiff, Nat.reduceAdd, Nat.reduceSub, Nat.reduceBEq, Nat.reduceLeDiff, Int.reduceToNat, reduceCtorEq, hi, Try.results18]
    refine PureT.eq (c51 _ ?_ ?_) rfl ?_
    assumption
    assumption
    simp -implicitDefEqProofs only [go_sem, ↓reduceIte, Nat.reduceLT, Nat.reduceEqDiff, Nat.reduceAdd, Nat.reduceSub, Nat.reduceBEq, Nat.reduceLeDiff, Int.reduceToNat, reduceCtorEq, hi, Try.results18]
    refine CodeT.condT rfl ?_
    refine CodeT.seqR ?_
    simp -implicitDefEqProofs only [go_sem, ↓reduceIte, Nat.reduceLT, Nat.reduceEqDiff, Nat.reduceAdd, Nat.reduceSub, Nat.reduceBEq, Nat.reduceLeDiff, Int.reduceToNat, reduceCtorEq, hi, Try.results18]
    refine CodeT.ret ?_
    simp -implicitDefEqProofs only [go_sem, ↓reduceIte, Nat.reduceLT, Nat.reduceEqDiff, Nat.reduceAdd, Nat.reduceSub, Nat.reduceBEq, Nat.reduceLeDiff, Int.reduceToNat, reduceCtorEq, hi, Try.results18]
    refine pureEnd rfl ?_
    rotate_left
    simp only [crashV, hi, Bool.not_false, ↓reduceIte]; rfl
  obtain ⟨k, hw⟩ := isDisk_ok hi
  refine CallT.intro Try.func18 (by decide) rfl ?_
  simp -implicitDefEqProofs only [go_sem, ↓reduceIte, Nat.reduceLT, Nat.reduceEqDiff, Nat.reduceAdd, Nat.reduceSub, Nat.reduceBEq, Nat.reduceLeDiff, Int.reduceToNat, reduceCtorEq, hi, enterTm, Try.ntmps18, List.range'_succ, List.range'_zero, List.zip_cons_cons, List.zip_nil_left]
  refine CodeT.seqR ?_
  simp -implicitDefEqProofs only [go_sem, ↓reduceIte, Nat.reduceLT, Nat.reduceEqDiff, Nat.reduceAdd, Nat.reduceSub, Nat.reduceBEq, Nat.reduceLeDiff, Int.reduceToNat, reduceCtorEq, hi, Try.results18]
  refine CodeT.seq ?_
  refine CodeT.seqR ?_
  simp -implicitDefEqProofs only [go_sem, ↓reduceIte, Nat.reduceLT, Nat.reduceEqDiff, Nat.reduceAdd, Nat.reduceSub, Nat.reduceBEq, Nat.reduceLeDiff, Int.reduceToNat, reduceCtorEq, hi, Try.results18]
  refine PureT.eq (c51 _ ?_ ?_) rfl ?_
  assumption
  assumption
  simp -implicitDefEqProofs only [go_sem, ↓reduceIte, Nat.reduceLT, Nat.reduceEqDiff, Nat.reduceAdd, Nat.reduceSub, Nat.reduceBEq, Nat.reduceLeDiff, Int.reduceToNat, reduceCtorEq, hi, Try.results18]
  refine CodeT.condF rfl ?_
  refine CodeT.skip ?_
  simp -implicitDefEqProofs only [go_sem, ↓reduceIte, Nat.reduceLT, Nat.reduceEqDiff, Nat.reduceAdd, Nat.reduceSub, Nat.reduceBEq, Nat.reduceLeDiff, Int.reduceToNat, reduceCtorEq, hi, Try.results18]
  refine CodeT.freeze 2 ?_
  simp -implicitDefEqProofs only [go_sem, ↓reduceIte, Nat.reduceLT, Nat.reduceEqDiff, Nat.reduceAdd, Nat.reduceSub, Nat.reduceBEq, Nat.reduceLeDiff, Int.reduceToNat, reduceCtorEq, hi, Try.results18]
  refine CodeT.freeze 3 ?_
  simp -implicitDefEqProofs only [go_sem, ↓reduceIte, Nat.reduceLT, Nat.reduceEqDiff, Nat.reduceAdd, Nat.reduceSub, Nat.reduceBEq, Nat.reduceLeDiff, Int.reduceToNat, reduceCtorEq, hi, Try.results18]
  refine CodeT.seqR ?_
  simp -implicitDefEqProofs only [go_sem, ↓reduceIte, Nat.reduceLT, Nat.reduceEqDiff, Nat.reduceAdd, Nat.reduceSub, Nat.reduceBEq, Nat.reduceLeDiff, Int.reduceToNat, reduceCtorEq, hi, Try.results18]
  refine PureT.eq (c59c _ _ hw ?_ ?_) rfl ?_
  assumption
  assumption
  simp -implicitDefEqProofs only [go_sem, ↓reduceIte, Nat.reduceLT, Nat.reduceEqDiff, Nat.reduceAdd, Nat.reduceSub, Nat.reduceBEq, Nat.reduceLeDiff, Int.reduceToNat, reduceCtorEq, hi, Try.results18]
  refine CodeT.ret ?_
  simp -implicitDefEqProofs only [go_sem, ↓reduceIte, Nat.reduceLT, Nat.reduceEqDiff, Nat.reduceAdd, Nat.reduceSub, Nat.reduceBEq, Nat.reduceLeDiff, Int.reduceToNat, reduceCtorEq, hi, Try.results18]
  refine pureEnd rfl ?_
  rotate_left
  simp only [crashV, hi, Bool.not_true, Bool.false_eq_true, ↓reduceIte]; rfl
end Go.Proofs.Try
