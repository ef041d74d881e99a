/-
  FEW; ROOM.
-/
import Derived.Test.YtnmghpieidlpbaaD3
import Derived.ChangeSame
import Derived.Test.YtnmghpieidlpbaaRows
import Derived.WalkKit
set_option linter.unusedVariables false
set_option linter.unusedSimpArgs false
namespace Go.Proofs.Try
set_option linter.unusedSimpArgs false
set_option linter.unusedVariables false
open Go.PM
set_option maxHeartbeats 4000000
set_option maxRecDepth 100000

/-- The bytes of all operations together, as the machine counts them. -/
def qsum (l : List DOp) : Int := l.foldl (fun n o => IntKind.i64.wrap (n + (o.bytes.length : Int))) 0
theorem qsum_succ (l : List DOp) (i : Nat) (h : i < l.length) : qsum (l.take (i + 1)) = IntKind.i64.wrap (qsum (l.take i) + ((l.getD i op0).bytes.length : Int)) := by
  unfold qsum
  rw [List.take_add_one, List.foldl_append, List.getElem?_eq_getElem h]
  simp [List.getD_eq_getElem?_getD, h]
def fewB (d : Dsk) : Bool := if decide ((d.bytes.length : Int) > 70000) || decide ((d.queue.length : Int) > 100) then false else decide (qsum d.queue ≤ 300000)
theorem fewB_few {d : Dsk} (h : fewB d = true) : Few d ∧ d.bytes.length ≤ 70000 ∧ d.queue.length ≤ 100 := by
  unfold fewB at h
  split at h
  · cases h
  · rename_i h1
    simp only [Bool.or_eq_true, decide_eq_true_eq, not_or] at h1
    exact ⟨⟨by omega, by omega⟩, by omega, by omega⟩
theorem c15 (d : Dsk) : PureT Try.prog 15 [dkv d] (· = .val (.bool (fewB d))) := by
  refine CallT.intro Try.func15 (by decide) rfl ?_
  simp -implicitDefEqProofs only [go_sem, ↓reduceIte, Nat.reduceLT, Nat.reduceEqDiff, Nat.reduceAdd, Nat.reduceSub, Nat.reduceBEq, Nat.reduceLeDiff, Int.reduceToNat, reduceCtorEq, enterTm, Try.ntmps15, List.range'_succ, List.range'_zero, List.zip_cons_cons, List.zip_nil_left]
  refine CodeT.seqR ?_
  simp -implicitDefEqProofs only [go_sem, ↓reduceIte, Nat.reduceLT, Nat.reduceEqDiff, Nat.reduceAdd, Nat.reduceSub, Nat.reduceBEq, Nat.reduceLeDiff, Int.reduceToNat, reduceCtorEq, Try.results15]
  refine CodeT.seq ?_
  refine CodeT.freeze 1 ?_
  simp -implicitDefEqProofs only [go_sem, ↓reduceIte, Nat.reduceLT, Nat.reduceEqDiff, Nat.reduceAdd, Nat.reduceSub, Nat.reduceBEq, Nat.reduceLeDiff, Int.reduceToNat, reduceCtorEq, Try.results15]
  refine CodeT.seqR ?_
  simp -implicitDefEqProofs only [go_sem, ↓reduceIte, Nat.reduceLT, Nat.reduceEqDiff, Nat.reduceAdd, Nat.reduceSub, Nat.reduceBEq, Nat.reduceLeDiff, Int.reduceToNat, reduceCtorEq, Try.results15]
  refine gif_i (fun g1 => ?_) (fun g1 => ?_)
  have d1 := ofDec g1
  simp -implicitDefEqProofs only [go_sem, ↓reduceIte, Nat.reduceLT, Nat.reduceEqDiff, Nat.reduceAdd, Nat.reduceSub, Nat.reduceBEq, Nat.reduceLeDiff, Int.reduceToNat, reduceCtorEq, Try.results15, g1]
  refine CodeT.condT rfl ?_
  refine CodeT.seqR ?_
  simp -implicitDefEqProofs only [go_sem, ↓reduceIte, Nat.reduceLT, Nat.reduceEqDiff, Nat.reduceAdd, Nat.reduceSub, Nat.reduceBEq, Nat.reduceLeDiff, Int.reduceToNat, reduceCtorEq, Try.results15, g1]
  refine CodeT.ret ?_
  simp -implicitDefEqProofs only [go_sem, ↓reduceIte, Nat.reduceLT, Nat.reduceEqDiff, Nat.reduceAdd, Nat.reduceSub, Nat.reduceBEq, Nat.reduceLeDiff, Int.reduceToNat, reduceCtorEq, Try.results15, g1]
  refine pureEnd rfl ?_
  simp only [fewB, g1, Bool.true_and, Bool.false_and, Bool.and_true, Bool.and_false, Bool.true_or, Bool.false_or, Bool.or_true, Bool.or_false, Bool.not_true, Bool.not_false, Bool.false_eq_true, ↓reduceIte]
  have d1 := ofDecF g1
  simp -implicitDefEqProofs only [go_sem, ↓reduceIte, Nat.reduceLT, Nat.reduceEqDiff, Nat.reduceAdd, Nat.reduceSub, Nat.reduceBEq, Nat.reduceLeDiff, Int.reduceToNat, reduceCtorEq, Try.results15, g1]
  refine CodeT.cond rfl (fun g2 => ?_) (fun g2 => ?_)
  have d2 := ofDec g2
  refine CodeT.seqR ?_
  simp -implicitDefEqProofs only [go_sem, ↓reduceIte, Nat.reduceLT, Nat.reduceEqDiff, Nat.reduceAdd, Nat.reduceSub, Nat.reduceBEq, Nat.reduceLeDiff, Int.reduceToNat, reduceCtorEq, Try.results15, g1, g2]
  refine CodeT.ret ?_
  simp -implicitDefEqProofs only [go_sem, ↓reduceIte, Nat.reduceLT, Nat.reduceEqDiff, Nat.reduceAdd, Nat.reduceSub, Nat.reduceBEq, Nat.reduceLeDiff, Int.reduceToNat, reduceCtorEq, Try.results15, g1, g2]
  refine pureEnd rfl ?_
  simp only [fewB, g1, g2, Bool.true_and, Bool.false_and, Bool.and_true, Bool.and_false, Bool.true_or, Bool.false_or, Bool.or_true, Bool.or_false, Bool.not_true, Bool.not_false, Bool.false_eq_true, ↓reduceIte]
  have d2 := ofDecF g2
  refine CodeT.skip ?_
  simp -implicitDefEqProofs only [go_sem, ↓reduceIte, Nat.reduceLT, Nat.reduceEqDiff, Nat.reduceAdd, Nat.reduceSub, Nat.reduceBEq, Nat.reduceLeDiff, Int.reduceToNat, reduceCtorEq, Try.results15, g1, g2]
  refine CodeT.seqR ?_
  simp -implicitDefEqProofs only [go_sem, ↓reduceIte, Nat.reduceLT, Nat.reduceEqDiff, Nat.reduceAdd, Nat.reduceSub, Nat.reduceBEq, Nat.reduceLeDiff, Int.reduceToNat, reduceCtorEq, Try.results15, g1, g2]
  refine CodeT.seq ?_
  refine CodeT.seqR ?_
  simp -implicitDefEqProofs only [go_sem, ↓reduceIte, Nat.reduceLT, Nat.reduceEqDiff, Nat.reduceAdd, Nat.reduceSub, Nat.reduceBEq, Nat.reduceLeDiff, Int.reduceToNat, reduceCtorEq, Try.results15, g1, g2]
  refine CodeT.block ?_
  refine CodeT.whileS (fun i : Nat => [(3, .val (.int .i64 (qsum (d.queue.take i)))), (4, .val (.int .i64 (i : Nat)))]) [1] (fun i : Nat => [.dead]) (fun i : Nat => i ≤ d.queue.length) (fun i : Nat => d.queue.length - i) (0) ?_ rfl ?_ ?_
  omega
  refine ⟨rfl, ?_, ?_, rfl, ?_⟩
  simp -implicitDefEqProofs only [go_sem, ↓reduceIte, Nat.reduceLT, Nat.reduceEqDiff, Nat.reduceAdd, Nat.reduceSub, Nat.reduceBEq, Nat.reduceLeDiff, Int.reduceToNat, reduceCtorEq, Try.results15, g1, g2, or_true, true_or, false_or, or_false, implies_true, Int.natCast_add, Int.cast_ofNat_Int, keepsD_nil]
  trivial
  simp -implicitDefEqProofs only [go_sem, ↓reduceIte, Nat.reduceLT, Nat.reduceEqDiff, Nat.reduceAdd, Nat.reduceSub, Nat.reduceBEq, Nat.reduceLeDiff, Int.reduceToNat, reduceCtorEq, Try.results15, g1, g2, or_true, true_or, false_or, or_false, implies_true, Int.natCast_add, Int.cast_ofNat_Int, keepsD_nil]
  simp -implicitDefEqProofs only [go_sem, ↓reduceIte, Nat.reduceLT, Nat.reduceEqDiff, Nat.reduceAdd, Nat.reduceSub, Nat.reduceBEq, Nat.reduceLeDiff, Int.reduceToNat, reduceCtorEq, Try.results15, g1, g2, or_true, true_or, false_or, or_false, implies_true, Int.natCast_add, Int.cast_ofNat_Int, keepsD_nil]
  rintro i hi
  have f1 := qsum_succ d.queue i
  simp -implicitDefEqProofs only [go_sem, ↓reduceIte, Nat.reduceLT, Nat.reduceEqDiff, Nat.reduceAdd, Nat.reduceSub, Nat.reduceBEq, Nat.reduceLeDiff, Int.reduceToNat, reduceCtorEq, Try.results15, g1, g2]
  refine CodeT.seq ?_
  refine CodeT.seqR ?_
  simp -implicitDefEqProofs only [go_sem, ↓reduceIte, Nat.reduceLT, Nat.reduceEqDiff, Nat.reduceAdd, Nat.reduceSub, Nat.reduceBEq, Nat.reduceLeDiff, Int.reduceToNat, reduceCtorEq, Try.results15, g1, g2]
  refine CodeT.cond rfl (fun g3 => ?_) (fun g3 => ?_)
  have d3 := ofDec g3
  refine CodeT.skip ?_
  simp -implicitDefEqProofs only [go_sem, ↓reduceIte, Nat.reduceLT, Nat.reduceEqDiff, Nat.reduceAdd, Nat.reduceSub, Nat.reduceBEq, Nat.reduceLeDiff, Int.reduceToNat, reduceCtorEq, Try.results15, g1, g2, g3]
  refine CodeT.seq (CodeT.block ?_)
  refine CodeT.region ?_
  simp -implicitDefEqProofs only [go_sem, ↓reduceIte, Nat.reduceLT, Nat.reduceEqDiff, Nat.reduceAdd, Nat.reduceSub, Nat.reduceBEq, Nat.reduceLeDiff, Int.reduceToNat, reduceCtorEq, Try.results15, g1, g2, g3]
  refine And.intro (by omega) ?_
  refine And.intro (by assumption) ?_
  simp -implicitDefEqProofs (disch := omega) only [i64_in, bs_getD, opvs_getD, is64_getD, bss_getD]
  simp -implicitDefEqProofs only [go_sem, ↓reduceIte, Nat.reduceLT, Nat.reduceEqDiff, Nat.reduceAdd, Nat.reduceSub, Nat.reduceBEq, Nat.reduceLeDiff, Int.reduceToNat, reduceCtorEq, Try.results15, g1, g2, g3]
  refine CodeT.region ?_
  simp -implicitDefEqProofs only [go_sem, ↓reduceIte, Nat.reduceLT, Nat.reduceEqDiff, Nat.reduceAdd, Nat.reduceSub, Nat.reduceBEq, Nat.reduceLeDiff, Int.reduceToNat, reduceCtorEq, Try.results15, g1, g2, g3]
  simp -implicitDefEqProofs (disch := omega) only [i64_in, bs_getD, opvs_getD, is64_getD, bss_getD]
  refine ⟨i + 1, ?_⟩
  refine And.intro ?_ ?_
  omega
  refine And.intro ?_ ?_
  omega
  refine ⟨rfl, ?_, ?_, rfl, ?_⟩
  simp -implicitDefEqProofs only [go_sem, ↓reduceIte, Nat.reduceLT, Nat.reduceEqDiff, Nat.reduceAdd, Nat.reduceSub, Nat.reduceBEq, Nat.reduceLeDiff, Int.reduceToNat, reduceCtorEq, Try.results15, g1, g2, g3, or_true, true_or, false_or, or_false, implies_true, Int.natCast_add, Int.cast_ofNat_Int, keepsD_nil]
  rotate_left
  simp -implicitDefEqProofs only [go_sem, ↓reduceIte, Nat.reduceLT, Nat.reduceEqDiff, Nat.reduceAdd, Nat.reduceSub, Nat.reduceBEq, Nat.reduceLeDiff, Int.reduceToNat, reduceCtorEq, Try.results15, g1, g2, g3, or_true, true_or, false_or, or_false, implies_true, Int.natCast_add, Int.cast_ofNat_Int, keepsD_nil]
  simp -implicitDefEqProofs only [go_sem, ↓reduceIte, Nat.reduceLT, Nat.reduceEqDiff, Nat.reduceAdd, Nat.reduceSub, Nat.reduceBEq, Nat.reduceLeDiff, Int.reduceToNat, reduceCtorEq, Try.results15, g1, g2, g3, or_true, true_or, false_or, or_false, implies_true, Int.natCast_add, Int.cast_ofNat_Int, keepsD_nil]
  have d3 := ofDecF g3
  refine CodeT.exit ?_
  simp -implicitDefEqProofs only [go_sem, ↓reduceIte, Nat.reduceLT, Nat.reduceEqDiff, Nat.reduceAdd, Nat.reduceSub, Nat.reduceBEq, Nat.reduceLeDiff, Int.reduceToNat, reduceCtorEq, Try.results15, g1, g2, g3]
  refine CodeT.seqR ?_
  simp -implicitDefEqProofs only [go_sem, ↓reduceIte, Nat.reduceLT, Nat.reduceEqDiff, Nat.reduceAdd, Nat.reduceSub, Nat.reduceBEq, Nat.reduceLeDiff, Int.reduceToNat, reduceCtorEq, Try.results15, g1, g2, g3]
  refine CodeT.ret ?_
  simp -implicitDefEqProofs only [go_sem, ↓reduceIte, Nat.reduceLT, Nat.reduceEqDiff, Nat.reduceAdd, Nat.reduceSub, Nat.reduceBEq, Nat.reduceLeDiff, Int.reduceToNat, reduceCtorEq, Try.results15, g1, g2, g3]
  refine pureEnd rfl ?_
  rotate_left
  · rw [f1 (by omega)]
  · have hi' : i = d.queue.length := by
      have := of_decide_eq_false g3
      omega
    rw [hi', List.take_length]
    unfold fewB
    rw [g1, g2]
    rfl
def shortB (ops : List DOp) : Bool := if decide ((ops.length : Int) ≤ 100) then fewB ⟨[], ops⟩ else false
theorem c16 (ops : List DOp) : PureT Try.prog 16 [.sl false (opvs ops)] (· = .val (.bool (shortB ops))) := by
  refine CallT.intro Try.func16 (by decide) rfl ?_
  simp -implicitDefEqProofs only [go_sem, ↓reduceIte, Nat.reduceLT, Nat.reduceEqDiff, Nat.reduceAdd, Nat.reduceSub, Nat.reduceBEq, Nat.reduceLeDiff, Int.reduceToNat, reduceCtorEq, enterTm, Try.ntmps16, List.range'_succ, List.range'_zero, List.zip_cons_cons, List.zip_nil_left]
  refine CodeT.seqR ?_
  simp -implicitDefEqProofs only [go_sem, ↓reduceIte, Nat.reduceLT, Nat.reduceEqDiff, Nat.reduceAdd, Nat.reduceSub, Nat.reduceBEq, Nat.reduceLeDiff, Int.reduceToNat, reduceCtorEq, Try.results16]
  refine CodeT.seqR ?_
  simp -implicitDefEqProofs only [go_sem, ↓reduceIte, Nat.reduceLT, Nat.reduceEqDiff, Nat.reduceAdd, Nat.reduceSub, Nat.reduceBEq, Nat.reduceLeDiff, Int.reduceToNat, reduceCtorEq, Try.results16]
  refine gif_i (fun g1 => ?_) (fun g1 => ?_)
  have d1 := ofDec g1
  simp -implicitDefEqProofs only [go_sem, ↓reduceIte, Nat.reduceLT, Nat.reduceEqDiff, Nat.reduceAdd, Nat.reduceSub, Nat.reduceBEq, Nat.reduceLeDiff, Int.reduceToNat, reduceCtorEq, Try.results16, g1]
  refine CallT.laxA ?_
  simp -implicitDefEqProofs only [go_sem, ↓reduceIte, Nat.reduceLT, Nat.reduceEqDiff, Nat.reduceAdd, Nat.reduceSub, Nat.reduceBEq, Nat.reduceLeDiff, Int.reduceToNat, reduceCtorEq, Try.results16, g1]
  refine PureT.eq (c15 ⟨[], ops⟩) rfl ?_
  simp -implicitDefEqProofs only [go_sem, ↓reduceIte, Nat.reduceLT, Nat.reduceEqDiff, Nat.reduceAdd, Nat.reduceSub, Nat.reduceBEq, Nat.reduceLeDiff, Int.reduceToNat, reduceCtorEq, Try.results16, g1]
  refine CodeT.ret ?_
  simp -implicitDefEqProofs only [go_sem, ↓reduceIte, Nat.reduceLT, Nat.reduceEqDiff, Nat.reduceAdd, Nat.reduceSub, Nat.reduceBEq, Nat.reduceLeDiff, Int.reduceToNat, reduceCtorEq, Try.results16, g1]
  refine pureEnd rfl ?_
  simp only [shortB, g1, Bool.true_and, Bool.false_and, Bool.and_true, Bool.and_false, Bool.true_or, Bool.false_or, Bool.or_true, Bool.or_false, Bool.not_true, Bool.not_false, Bool.false_eq_true, ↓reduceIte]
  have d1 := ofDecF g1
  simp -implicitDefEqProofs only [go_sem, ↓reduceIte, Nat.reduceLT, Nat.reduceEqDiff, Nat.reduceAdd, Nat.reduceSub, Nat.reduceBEq, Nat.reduceLeDiff, Int.reduceToNat, reduceCtorEq, Try.results16, g1]
  refine CodeT.ret ?_
  simp -implicitDefEqProofs only [go_sem, ↓reduceIte, Nat.reduceLT, Nat.reduceEqDiff, Nat.reduceAdd, Nat.reduceSub, Nat.reduceBEq, Nat.reduceLeDiff, Int.reduceToNat, reduceCtorEq, Try.results16, g1]
  refine pureEnd rfl ?_
  simp only [shortB, g1, Bool.true_and, Bool.false_and, Bool.and_true, Bool.and_false, Bool.true_or, Bool.false_or, Bool.or_true, Bool.or_false, Bool.not_true, Bool.not_false, Bool.false_eq_true, ↓reduceIte]
theorem app_ok (d : Dsk) (r : List UInt8) (hi : isDiskB d = true) (hw : wrB d = true) (hc : clB d = true) (h : 2 * r.length + 1 ≤ szB d - endB d) : appendV d r = .tup [.sl false (opvs [wr ((halfB d : Nat) + (endB d : Nat)) (frame r)]), er 0] := by
  have := disk_facts hi
  unfold appendV
  rw [hi, hw, hc, frame_len, decide_eq_false (by omega)]
  rfl
theorem app_no (d : Dsk) (r : List UInt8) (hi : isDiskB d = true) (hw : wrB d = true) (hc : clB d = true) (h : szB d - endB d < 2 * r.length + 1) : appendV d r = .tup [.sl false [], er 2] := by
  have := disk_facts hi
  unfold appendV
  rw [hi, hw, hc, frame_len, decide_eq_true (by omega)]
  rfl
theorem c24k (d : Dsk) (hf : Few d) (v : AV) (h : roomV d = v) : PureT Try.prog 24 [dkv d] (· = v) := h ▸ c24 d hf
theorem c25k (d : Dsk) (hf : Few d) (r : List UInt8) (hb : r.length ≤ 1000000) {v : AV} (h : appendV d r = v) : PureT Try.prog 25 [dkv d, .sl false (bs r)] (· = v) := h ▸ c25 d hf r hb
theorem take_snoc (i : Nat) (x : UInt8) : List.take (i + 1) (bs (List.replicate i x) ++ [AV.val (.int .u8 x.toNat)]) = bs (List.replicate i x ++ [x]) := by
  rw [bs_snoc, bs_take, List.take_of_length_le (by simp)]
theorem fill_set (K i : Nat) (x : UInt8) (h : i < K) : (bs (List.replicate i x ++ List.replicate (K - i) 0)).set i (updElem ((bs (List.replicate i x ++ List.replicate (K - i) 0)).getD i .dead) 0 (b8 x)) = bs (List.replicate (i + 1) x ++ List.replicate (K - (i + 1)) 0) := by
  rw [bs_getD (by simp only [List.length_append, List.length_replicate]; omega), show ∀ y : UInt8, updElem (b8 y) 0 (b8 x) = b8 x from fun _ => rfl, bs_set]
  congr 1
  rw [show K - i = (K - (i + 1)) + 1 by omega, List.replicate_succ, List.set_append_right _ _ (by simp), List.length_replicate, Nat.sub_self, List.set_cons_zero, List.replicate_succ', List.append_assoc]
  rfl
theorem c6 (d : Dsk) (x : UInt8) : PureT Try.prog 6 [dkv d, b8 x] (· = .val (.bool true)) := by
  cases hfb : fewB d
  · refine CallT.intro Try.func6 (by decide) rfl ?_
    simp -implicitDefEqProofs only [go_sem, ↓reduceIte, Nat.reduceLT, Nat.reduceEqDiff, Nat.reduceAdd, Nat.reduceSub, Nat.reduceBEq, Nat.reduceLeDiff, Int.reduceToNat, reduceCtorEq, hfb, enterTm, Try.ntmps6, List.range'_succ, List.range'_zero, List.zip_cons_cons, List.zip_nil_left]
    refine CodeT.seqR ?_
    simp -implicitDefEqProofs only [go_sem, ↓reduceIte, Nat.reduceLT, Nat.reduceEqDiff, Nat.reduceAdd, Nat.reduceSub, Nat.reduceBEq, Nat.reduceLeDiff, Int.reduceToNat, reduceCtorEq, hfb, Try.results6]
    refine CodeT.freeze 2 ?_
    simp -implicitDefEqProofs only [go_sem, ↓reduceIte, Nat.reduceLT, Nat.reduceEqDiff, Nat.reduceAdd, Nat.reduceSub, Nat.reduceBEq, Nat.reduceLeDiff, Int.reduceToNat, reduceCtorEq, hfb, Try.results6]
    refine CodeT.seqR ?_
    simp -implicitDefEqProofs only [go_sem, ↓reduceIte, Nat.reduceLT, Nat.reduceEqDiff, Nat.reduceAdd, Nat.reduceSub, Nat.reduceBEq, Nat.reduceLeDiff, Int.reduceToNat, reduceCtorEq, hfb, Try.results6]
    refine PureT.eq (c12) rfl ?_
    simp -implicitDefEqProofs only [go_sem, ↓reduceIte, Nat.reduceLT, Nat.reduceEqDiff, Nat.reduceAdd, Nat.reduceSub, Nat.reduceBEq, Nat.reduceLeDiff, Int.reduceToNat, reduceCtorEq, hfb, Try.results6]
    refine CodeT.seq ?_
    refine CodeT.seqR ?_
    simp -implicitDefEqProofs only [go_sem, ↓reduceIte, Nat.reduceLT, Nat.reduceEqDiff, Nat.reduceAdd, Nat.reduceSub, Nat.reduceBEq, Nat.reduceLeDiff, Int.reduceToNat, reduceCtorEq, hfb, Try.results6]
    refine PureT.eq (c15 _) rfl ?_
    simp -implicitDefEqProofs only [go_sem, ↓reduceIte, Nat.reduceLT, Nat.reduceEqDiff, Nat.reduceAdd, Nat.reduceSub, Nat.reduceBEq, Nat.reduceLeDiff, Int.reduceToNat, reduceCtorEq, hfb, Try.results6]
    refine CodeT.condT rfl ?_
    refine CodeT.seqR ?_
    simp -implicitDefEqProofs only [go_sem, ↓reduceIte, Nat.reduceLT, Nat.reduceEqDiff, Nat.reduceAdd, Nat.reduceSub, Nat.reduceBEq, Nat.reduceLeDiff, Int.reduceToNat, reduceCtorEq, hfb, Try.results6]
    refine CodeT.ret ?_
    simp -implicitDefEqProofs only [go_sem, ↓reduceIte, Nat.reduceLT, Nat.reduceEqDiff, Nat.reduceAdd, Nat.reduceSub, Nat.reduceBEq, Nat.reduceLeDiff, Int.reduceToNat, reduceCtorEq, hfb, Try.results6]
    refine pureEnd rfl ?_
    simp -implicitDefEqProofs only [go_sem, ↓reduceIte, Nat.reduceLT, Nat.reduceEqDiff, Nat.reduceAdd, Nat.reduceSub, Nat.reduceBEq, Nat.reduceLeDiff, Int.reduceToNat, reduceCtorEq, hfb, Try.results6] 
  obtain ⟨hf, -, -⟩ := fewB_few hfb
  cases hi : isDiskB d
  · refine CallT.intro Try.func6 (by decide) rfl ?_
    simp -implicitDefEqProofs only [go_sem, ↓reduceIte, Nat.reduceLT, Nat.reduceEqDiff, Nat.reduceAdd, Nat.reduceSub, Nat.reduceBEq, Nat.reduceLeDiff, Int.reduceToNat, reduceCtorEq, hfb, hi, roomV, appendV, enterTm, Try.ntmps6, List.range'_succ, List.range'_zero, List.zip_cons_cons, List.zip_nil_left]
    refine CodeT.seqR ?_
    simp -implicitDefEqProofs only [go_sem, ↓reduceIte, Nat.reduceLT, Nat.reduceEqDiff, Nat.reduceAdd, Nat.reduceSub, Nat.reduceBEq, Nat.reduceLeDiff, Int.reduceToNat, reduceCtorEq, hfb, hi, roomV, appendV, Try.results6]
    refine CodeT.freeze 2 ?_
    simp -implicitDefEqProofs only [go_sem, ↓reduceIte, Nat.reduceLT, Nat.reduceEqDiff, Nat.reduceAdd, Nat.reduceSub, Nat.reduceBEq, Nat.reduceLeDiff, Int.reduceToNat, reduceCtorEq, hfb, hi, roomV, appendV, Try.results6]
    refine CodeT.seqR ?_
    simp -implicitDefEqProofs only [go_sem, ↓reduceIte, Nat.reduceLT, Nat.reduceEqDiff, Nat.reduceAdd, Nat.reduceSub, Nat.reduceBEq, Nat.reduceLeDiff, Int.reduceToNat, reduceCtorEq, hfb, hi, roomV, appendV, Try.results6]
    refine PureT.eq (c12) rfl ?_
    simp -implicitDefEqProofs only [go_sem, ↓reduceIte, Nat.reduceLT, Nat.reduceEqDiff, Nat.reduceAdd, Nat.reduceSub, Nat.reduceBEq, Nat.reduceLeDiff, Int.reduceToNat, reduceCtorEq, hfb, hi, roomV, appendV, Try.results6]
    refine CodeT.seq ?_
    refine CodeT.seqR ?_
    simp -implicitDefEqProofs only [go_sem, ↓reduceIte, Nat.reduceLT, Nat.reduceEqDiff, Nat.reduceAdd, Nat.reduceSub, Nat.reduceBEq, Nat.reduceLeDiff, Int.reduceToNat, reduceCtorEq, hfb, hi, roomV, appendV, Try.results6]
    refine PureT.eq (c15 _) rfl ?_
    simp -implicitDefEqProofs only [go_sem, ↓reduceIte, Nat.reduceLT, Nat.reduceEqDiff, Nat.reduceAdd, Nat.reduceSub, Nat.reduceBEq, Nat.reduceLeDiff, Int.reduceToNat, reduceCtorEq, hfb, hi, roomV, appendV, Try.results6]
    refine CodeT.condF rfl ?_
    refine CodeT.skip ?_
    simp -implicitDefEqProofs only [go_sem, ↓reduceIte, Nat.reduceLT, Nat.reduceEqDiff, Nat.reduceAdd, Nat.reduceSub, Nat.reduceBEq, Nat.reduceLeDiff, Int.reduceToNat, reduceCtorEq, hfb, hi, roomV, appendV, Try.results6]
    refine CodeT.seqR ?_
    simp -implicitDefEqProofs only [go_sem, ↓reduceIte, Nat.reduceLT, Nat.reduceEqDiff, Nat.reduceAdd, Nat.reduceSub, Nat.reduceBEq, Nat.reduceLeDiff, Int.reduceToNat, reduceCtorEq, hfb, hi, roomV, appendV, Try.results6]
    refine PureT.eq (c24 _ ?_) rfl ?_
    assumption
    simp -implicitDefEqProofs only [go_sem, ↓reduceIte, Nat.reduceLT, Nat.reduceEqDiff, Nat.reduceAdd, Nat.reduceSub, Nat.reduceBEq, Nat.reduceLeDiff, Int.reduceToNat, reduceCtorEq, hfb, hi, roomV, appendV, Try.results6]
    refine CodeT.seq ?_
    refine CodeT.seqR ?_
    simp -implicitDefEqProofs only [go_sem, ↓reduceIte, Nat.reduceLT, Nat.reduceEqDiff, Nat.reduceAdd, Nat.reduceSub, Nat.reduceBEq, Nat.reduceLeDiff, Int.reduceToNat, reduceCtorEq, hfb, hi, roomV, appendV, Try.results6]
    refine CodeT.condT rfl ?_
    refine CodeT.seqR ?_
    simp -implicitDefEqProofs only [go_sem, ↓reduceIte, Nat.reduceLT, Nat.reduceEqDiff, Nat.reduceAdd, Nat.reduceSub, Nat.reduceBEq, Nat.reduceLeDiff, Int.reduceToNat, reduceCtorEq, hfb, hi, roomV, appendV, Try.results6]
    refine CallT.laxA ?_
    simp -implicitDefEqProofs only [go_sem, ↓reduceIte, Nat.reduceLT, Nat.reduceEqDiff, Nat.reduceAdd, Nat.reduceSub, Nat.reduceBEq, Nat.reduceLeDiff, Int.reduceToNat, reduceCtorEq, hfb, hi, roomV, appendV, Try.results6]
    refine PureT.eq (c25 d hf [] ?_) rfl ?_
    trivial
    simp -implicitDefEqProofs only [go_sem, ↓reduceIte, Nat.reduceLT, Nat.reduceEqDiff, Nat.reduceAdd, Nat.reduceSub, Nat.reduceBEq, Nat.reduceLeDiff, Int.reduceToNat, reduceCtorEq, hfb, hi, roomV, appendV, Try.results6]
    refine CodeT.seqR ?_
    simp -implicitDefEqProofs only [go_sem, ↓reduceIte, Nat.reduceLT, Nat.reduceEqDiff, Nat.reduceAdd, Nat.reduceSub, Nat.reduceBEq, Nat.reduceLeDiff, Int.reduceToNat, reduceCtorEq, hfb, hi, roomV, appendV, Try.results6]
    refine CodeT.ret ?_
    simp -implicitDefEqProofs only [go_sem, ↓reduceIte, Nat.reduceLT, Nat.reduceEqDiff, Nat.reduceAdd, Nat.reduceSub, Nat.reduceBEq, Nat.reduceLeDiff, Int.reduceToNat, reduceCtorEq, hfb, hi, roomV, appendV, Try.results6]
    refine pureEnd rfl ?_
    simp -implicitDefEqProofs only [go_sem, ↓reduceIte, Nat.reduceLT, Nat.reduceEqDiff, Nat.reduceAdd, Nat.reduceSub, Nat.reduceBEq, Nat.reduceLeDiff, Int.reduceToNat, reduceCtorEq, hfb, hi, roomV, appendV, Try.results6]
  cases hw : wrB d
  · refine CallT.intro Try.func6 (by decide) rfl ?_
    simp -implicitDefEqProofs only [go_sem, ↓reduceIte, Nat.reduceLT, Nat.reduceEqDiff, Nat.reduceAdd, Nat.reduceSub, Nat.reduceBEq, Nat.reduceLeDiff, Int.reduceToNat, reduceCtorEq, hfb, hi, hw, roomV, appendV, enterTm, Try.ntmps6, List.range'_succ, List.range'_zero, List.zip_cons_cons, List.zip_nil_left]
    refine CodeT.seqR ?_
    simp -implicitDefEqProofs only [go_sem, ↓reduceIte, Nat.reduceLT, Nat.reduceEqDiff, Nat.reduceAdd, Nat.reduceSub, Nat.reduceBEq, Nat.reduceLeDiff, Int.reduceToNat, reduceCtorEq, hfb, hi, hw, roomV, appendV, Try.results6]
    refine CodeT.freeze 2 ?_
    simp -implicitDefEqProofs only [go_sem, ↓reduceIte, Nat.reduceLT, Nat.reduceEqDiff, Nat.reduceAdd, Nat.reduceSub, Nat.reduceBEq, Nat.reduceLeDiff, Int.reduceToNat, reduceCtorEq, hfb, hi, hw, roomV, appendV, Try.results6]
    refine CodeT.seqR ?_
    simp -implicitDefEqProofs only [go_sem, ↓reduceIte, Nat.reduceLT, Nat.reduceEqDiff, Nat.reduceAdd, Nat.reduceSub, Nat.reduceBEq, Nat.reduceLeDiff, Int.reduceToNat, reduceCtorEq, hfb, hi, hw, roomV, appendV, Try.results6]
    refine PureT.eq (c12) rfl ?_
    simp -implicitDefEqProofs only [go_sem, ↓reduceIte, Nat.reduceLT, Nat.reduceEqDiff, Nat.reduceAdd, Nat.reduceSub, Nat.reduceBEq, Nat.reduceLeDiff, Int.reduceToNat, reduceCtorEq, hfb, hi, hw, roomV, appendV, Try.results6]
    refine CodeT.seq ?_
    refine CodeT.seqR ?_
    simp -implicitDefEqProofs only [go_sem, ↓reduceIte, Nat.reduceLT, Nat.reduceEqDiff, Nat.reduceAdd, Nat.reduceSub, Nat.reduceBEq, Nat.reduceLeDiff, Int.reduceToNat, reduceCtorEq, hfb, hi, hw, roomV, appendV, Try.results6]
    refine PureT.eq (c15 _) rfl ?_
    simp -implicitDefEqProofs only [go_sem, ↓reduceIte, Nat.reduceLT, Nat.reduceEqDiff, Nat.reduceAdd, Nat.reduceSub, Nat.reduceBEq, Nat.reduceLeDiff, Int.reduceToNat, reduceCtorEq, hfb, hi, hw, roomV, appendV, Try.results6]
    refine CodeT.condF rfl ?_
    refine CodeT.skip ?_
    simp -implicitDefEqProofs only [go_sem, ↓reduceIte, Nat.reduceLT, Nat.reduceEqDiff, Nat.reduceAdd, Nat.reduceSub, Nat.reduceBEq, Nat.reduceLeDiff, Int.reduceToNat, reduceCtorEq, hfb, hi, hw, roomV, appendV, Try.results6]
    refine CodeT.seqR ?_
    simp -implicitDefEqProofs only [go_sem, ↓reduceIte, Nat.reduceLT, Nat.reduceEqDiff, Nat.reduceAdd, Nat.reduceSub, Nat.reduceBEq, Nat.reduceLeDiff, Int.reduceToNat, reduceCtorEq, hfb, hi, hw, roomV, appendV, Try.results6]
    refine PureT.eq (c24 _ ?_) rfl ?_
    assumption
    simp -implicitDefEqProofs only [go_sem, ↓reduceIte, Nat.reduceLT, Nat.reduceEqDiff, Nat.reduceAdd, Nat.reduceSub, Nat.reduceBEq, Nat.reduceLeDiff, Int.reduceToNat, reduceCtorEq, hfb, hi, hw, roomV, appendV, Try.results6]
    refine CodeT.seq ?_
    refine CodeT.seqR ?_
    simp -implicitDefEqProofs only [go_sem, ↓reduceIte, Nat.reduceLT, Nat.reduceEqDiff, Nat.reduceAdd, Nat.reduceSub, Nat.reduceBEq, Nat.reduceLeDiff, Int.reduceToNat, reduceCtorEq, hfb, hi, hw, roomV, appendV, Try.results6]
    refine CodeT.condT rfl ?_
    refine CodeT.seqR ?_
    simp -implicitDefEqProofs only [go_sem, ↓reduceIte, Nat.reduceLT, Nat.reduceEqDiff, Nat.reduceAdd, Nat.reduceSub, Nat.reduceBEq, Nat.reduceLeDiff, Int.reduceToNat, reduceCtorEq, hfb, hi, hw, roomV, appendV, Try.results6]
    refine CallT.laxA ?_
    simp -implicitDefEqProofs only [go_sem, ↓reduceIte, Nat.reduceLT, Nat.reduceEqDiff, Nat.reduceAdd, Nat.reduceSub, Nat.reduceBEq, Nat.reduceLeDiff, Int.reduceToNat, reduceCtorEq, hfb, hi, hw, roomV, appendV, Try.results6]
    refine PureT.eq (c25 d hf [] ?_) rfl ?_
    trivial
    simp -implicitDefEqProofs only [go_sem, ↓reduceIte, Nat.reduceLT, Nat.reduceEqDiff, Nat.reduceAdd, Nat.reduceSub, Nat.reduceBEq, Nat.reduceLeDiff, Int.reduceToNat, reduceCtorEq, hfb, hi, hw, roomV, appendV, Try.results6]
    refine CodeT.seqR ?_
    simp -implicitDefEqProofs only [go_sem, ↓reduceIte, Nat.reduceLT, Nat.reduceEqDiff, Nat.reduceAdd, Nat.reduceSub, Nat.reduceBEq, Nat.reduceLeDiff, Int.reduceToNat, reduceCtorEq, hfb, hi, hw, roomV, appendV, Try.results6]
    refine CodeT.ret ?_
    simp -implicitDefEqProofs only [go_sem, ↓reduceIte, Nat.reduceLT, Nat.reduceEqDiff, Nat.reduceAdd, Nat.reduceSub, Nat.reduceBEq, Nat.reduceLeDiff, Int.reduceToNat, reduceCtorEq, hfb, hi, hw, roomV, appendV, Try.results6]
    refine pureEnd rfl ?_
    simp -implicitDefEqProofs only [go_sem, ↓reduceIte, Nat.reduceLT, Nat.reduceEqDiff, Nat.reduceAdd, Nat.reduceSub, Nat.reduceBEq, Nat.reduceLeDiff, Int.reduceToNat, reduceCtorEq, hfb, hi, hw, roomV, appendV, Try.results6]
  cases hc : clB d
  · refine CallT.intro Try.func6 (by decide) rfl ?_
    simp -implicitDefEqProofs only [go_sem, ↓reduceIte, Nat.reduceLT, Nat.reduceEqDiff, Nat.reduceAdd, Nat.reduceSub, Nat.reduceBEq, Nat.reduceLeDiff, Int.reduceToNat, reduceCtorEq, hfb, hi, hw, hc, roomV, appendV, enterTm, Try.ntmps6, List.range'_succ, List.range'_zero, List.zip_cons_cons, List.zip_nil_left]
    refine CodeT.seqR ?_
    simp -implicitDefEqProofs only [go_sem, ↓reduceIte, Nat.reduceLT, Nat.reduceEqDiff, Nat.reduceAdd, Nat.reduceSub, Nat.reduceBEq, Nat.reduceLeDiff, Int.reduceToNat, reduceCtorEq, hfb, hi, hw, hc, roomV, appendV, Try.results6]
    refine CodeT.freeze 2 ?_
    simp -implicitDefEqProofs only [go_sem, ↓reduceIte, Nat.reduceLT, Nat.reduceEqDiff, Nat.reduceAdd, Nat.reduceSub, Nat.reduceBEq, Nat.reduceLeDiff, Int.reduceToNat, reduceCtorEq, hfb, hi, hw, hc, roomV, appendV, Try.results6]
    refine CodeT.seqR ?_
    simp -implicitDefEqProofs only [go_sem, ↓reduceIte, Nat.reduceLT, Nat.reduceEqDiff, Nat.reduceAdd, Nat.reduceSub, Nat.reduceBEq, Nat.reduceLeDiff, Int.reduceToNat, reduceCtorEq, hfb, hi, hw, hc, roomV, appendV, Try.results6]
    refine PureT.eq (c12) rfl ?_
    simp -implicitDefEqProofs only [go_sem, ↓reduceIte, Nat.reduceLT, Nat.reduceEqDiff, Nat.reduceAdd, Nat.reduceSub, Nat.reduceBEq, Nat.reduceLeDiff, Int.reduceToNat, reduceCtorEq, hfb, hi, hw, hc, roomV, appendV, Try.results6]
    refine CodeT.seq ?_
    refine CodeT.seqR ?_
    simp -implicitDefEqProofs only [go_sem, ↓reduceIte, Nat.reduceLT, Nat.reduceEqDiff, Nat.reduceAdd, Nat.reduceSub, Nat.reduceBEq, Nat.reduceLeDiff, Int.reduceToNat, reduceCtorEq, hfb, hi, hw, hc, roomV, appendV, Try.results6]
    refine PureT.eq (c15 _) rfl ?_
    simp -implicitDefEqProofs only [go_sem, ↓reduceIte, Nat.reduceLT, Nat.reduceEqDiff, Nat.reduceAdd, Nat.reduceSub, Nat.reduceBEq, Nat.reduceLeDiff, Int.reduceToNat, reduceCtorEq, hfb, hi, hw, hc, roomV, appendV, Try.results6]
    refine CodeT.condF rfl ?_
    refine CodeT.skip ?_
    simp -implicitDefEqProofs only [go_sem, ↓reduceIte, Nat.reduceLT, Nat.reduceEqDiff, Nat.reduceAdd, Nat.reduceSub, Nat.reduceBEq, Nat.reduceLeDiff, Int.reduceToNat, reduceCtorEq, hfb, hi, hw, hc, roomV, appendV, Try.results6]
    refine CodeT.seqR ?_
    simp -implicitDefEqProofs only [go_sem, ↓reduceIte, Nat.reduceLT, Nat.reduceEqDiff, Nat.reduceAdd, Nat.reduceSub, Nat.reduceBEq, Nat.reduceLeDiff, Int.reduceToNat, reduceCtorEq, hfb, hi, hw, hc, roomV, appendV, Try.results6]
    refine PureT.eq (c24 _ ?_) rfl ?_
    assumption
    simp -implicitDefEqProofs only [go_sem, ↓reduceIte, Nat.reduceLT, Nat.reduceEqDiff, Nat.reduceAdd, Nat.reduceSub, Nat.reduceBEq, Nat.reduceLeDiff, Int.reduceToNat, reduceCtorEq, hfb, hi, hw, hc, roomV, appendV, Try.results6]
    refine CodeT.seq ?_
    refine CodeT.seqR ?_
    simp -implicitDefEqProofs only [go_sem, ↓reduceIte, Nat.reduceLT, Nat.reduceEqDiff, Nat.reduceAdd, Nat.reduceSub, Nat.reduceBEq, Nat.reduceLeDiff, Int.reduceToNat, reduceCtorEq, hfb, hi, hw, hc, roomV, appendV, Try.results6]
    refine CodeT.condT rfl ?_
    refine CodeT.seqR ?_
    simp -implicitDefEqProofs only [go_sem, ↓reduceIte, Nat.reduceLT, Nat.reduceEqDiff, Nat.reduceAdd, Nat.reduceSub, Nat.reduceBEq, Nat.reduceLeDiff, Int.reduceToNat, reduceCtorEq, hfb, hi, hw, hc, roomV, appendV, Try.results6]
    refine CallT.laxA ?_
    simp -implicitDefEqProofs only [go_sem, ↓reduceIte, Nat.reduceLT, Nat.reduceEqDiff, Nat.reduceAdd, Nat.reduceSub, Nat.reduceBEq, Nat.reduceLeDiff, Int.reduceToNat, reduceCtorEq, hfb, hi, hw, hc, roomV, appendV, Try.results6]
    refine PureT.eq (c25 d hf [] ?_) rfl ?_
    trivial
    simp -implicitDefEqProofs only [go_sem, ↓reduceIte, Nat.reduceLT, Nat.reduceEqDiff, Nat.reduceAdd, Nat.reduceSub, Nat.reduceBEq, Nat.reduceLeDiff, Int.reduceToNat, reduceCtorEq, hfb, hi, hw, hc, roomV, appendV, Try.results6]
    refine CodeT.seqR ?_
    simp -implicitDefEqProofs only [go_sem, ↓reduceIte, Nat.reduceLT, Nat.reduceEqDiff, Nat.reduceAdd, Nat.reduceSub, Nat.reduceBEq, Nat.reduceLeDiff, Int.reduceToNat, reduceCtorEq, hfb, hi, hw, hc, roomV, appendV, Try.results6]
    refine CodeT.ret ?_
    simp -implicitDefEqProofs only [go_sem, ↓reduceIte, Nat.reduceLT, Nat.reduceEqDiff, Nat.reduceAdd, Nat.reduceSub, Nat.reduceBEq, Nat.reduceLeDiff, Int.reduceToNat, reduceCtorEq, hfb, hi, hw, hc, roomV, appendV, Try.results6]
    refine pureEnd rfl ?_
    simp -implicitDefEqProofs only [go_sem, ↓reduceIte, Nat.reduceLT, Nat.reduceEqDiff, Nat.reduceAdd, Nat.reduceSub, Nat.reduceBEq, Nat.reduceLeDiff, Int.reduceToNat, reduceCtorEq, hfb, hi, hw, hc, roomV, appendV, Try.results6]
  have hd := disk_facts hi
  have hs := isDisk_small hi
  cases he : (((endB d : Nat) : Int) == (szB d : Nat))
  case true =>
    refine CallT.intro Try.func6 (by decide) rfl ?_
    simp -implicitDefEqProofs only [go_sem, ↓reduceIte, Nat.reduceLT, Nat.reduceEqDiff, Nat.reduceAdd, Nat.reduceSub, Nat.reduceBEq, Nat.reduceLeDiff, Int.reduceToNat, reduceCtorEq, hfb, hi, hw, hc, he, roomV, enterTm, Try.ntmps6, List.range'_succ, List.range'_zero, List.zip_cons_cons, List.zip_nil_left]
    refine CodeT.seqR ?_
    simp -implicitDefEqProofs only [go_sem, ↓reduceIte, Nat.reduceLT, Nat.reduceEqDiff, Nat.reduceAdd, Nat.reduceSub, Nat.reduceBEq, Nat.reduceLeDiff, Int.reduceToNat, reduceCtorEq, hfb, hi, hw, hc, he, roomV, Try.results6]
    refine CodeT.freeze 2 ?_
    simp -implicitDefEqProofs only [go_sem, ↓reduceIte, Nat.reduceLT, Nat.reduceEqDiff, Nat.reduceAdd, Nat.reduceSub, Nat.reduceBEq, Nat.reduceLeDiff, Int.reduceToNat, reduceCtorEq, hfb, hi, hw, hc, he, roomV, Try.results6]
    refine CodeT.seqR ?_
    simp -implicitDefEqProofs only [go_sem, ↓reduceIte, Nat.reduceLT, Nat.reduceEqDiff, Nat.reduceAdd, Nat.reduceSub, Nat.reduceBEq, Nat.reduceLeDiff, Int.reduceToNat, reduceCtorEq, hfb, hi, hw, hc, he, roomV, Try.results6]
    refine PureT.eq (c12) rfl ?_
    simp -implicitDefEqProofs only [go_sem, ↓reduceIte, Nat.reduceLT, Nat.reduceEqDiff, Nat.reduceAdd, Nat.reduceSub, Nat.reduceBEq, Nat.reduceLeDiff, Int.reduceToNat, reduceCtorEq, hfb, hi, hw, hc, he, roomV, Try.results6]
    refine CodeT.seq ?_
    refine CodeT.seqR ?_
    simp -implicitDefEqProofs only [go_sem, ↓reduceIte, Nat.reduceLT, Nat.reduceEqDiff, Nat.reduceAdd, Nat.reduceSub, Nat.reduceBEq, Nat.reduceLeDiff, Int.reduceToNat, reduceCtorEq, hfb, hi, hw, hc, he, roomV, Try.results6]
    refine PureT.eq (c15 _) rfl ?_
    simp -implicitDefEqProofs only [go_sem, ↓reduceIte, Nat.reduceLT, Nat.reduceEqDiff, Nat.reduceAdd, Nat.reduceSub, Nat.reduceBEq, Nat.reduceLeDiff, Int.reduceToNat, reduceCtorEq, hfb, hi, hw, hc, he, roomV, Try.results6]
    refine CodeT.condF rfl ?_
    refine CodeT.skip ?_
    simp -implicitDefEqProofs only [go_sem, ↓reduceIte, Nat.reduceLT, Nat.reduceEqDiff, Nat.reduceAdd, Nat.reduceSub, Nat.reduceBEq, Nat.reduceLeDiff, Int.reduceToNat, reduceCtorEq, hfb, hi, hw, hc, he, roomV, Try.results6]
    refine CodeT.seqR ?_
    simp -implicitDefEqProofs only [go_sem, ↓reduceIte, Nat.reduceLT, Nat.reduceEqDiff, Nat.reduceAdd, Nat.reduceSub, Nat.reduceBEq, Nat.reduceLeDiff, Int.reduceToNat, reduceCtorEq, hfb, hi, hw, hc, he, roomV, Try.results6]
    refine PureT.eq (c24 _ ?_) rfl ?_
    assumption
    simp -implicitDefEqProofs only [go_sem, ↓reduceIte, Nat.reduceLT, Nat.reduceEqDiff, Nat.reduceAdd, Nat.reduceSub, Nat.reduceBEq, Nat.reduceLeDiff, Int.reduceToNat, reduceCtorEq, hfb, hi, hw, hc, he, roomV, Try.results6]
    refine CodeT.seq ?_
    refine CodeT.seqR ?_
    simp -implicitDefEqProofs only [go_sem, ↓reduceIte, Nat.reduceLT, Nat.reduceEqDiff, Nat.reduceAdd, Nat.reduceSub, Nat.reduceBEq, Nat.reduceLeDiff, Int.reduceToNat, reduceCtorEq, hfb, hi, hw, hc, he, roomV, Try.results6]
    refine CodeT.condT rfl ?_
    refine CodeT.seqR ?_
    simp -implicitDefEqProofs only [go_sem, ↓reduceIte, Nat.reduceLT, Nat.reduceEqDiff, Nat.reduceAdd, Nat.reduceSub, Nat.reduceBEq, Nat.reduceLeDiff, Int.reduceToNat, reduceCtorEq, hfb, hi, hw, hc, he, roomV, Try.results6]
    refine CallT.laxA ?_
    simp -implicitDefEqProofs only [go_sem, ↓reduceIte, Nat.reduceLT, Nat.reduceEqDiff, Nat.reduceAdd, Nat.reduceSub, Nat.reduceBEq, Nat.reduceLeDiff, Int.reduceToNat, reduceCtorEq, hfb, hi, hw, hc, he, roomV, Try.results6]
    refine PureT.eq (c25k d hf [] ?_ (app_no d [] hi hw hc (by have := eq_of_beq he; simp only [List.length_nil]; omega))) rfl ?_
    trivial
    simp -implicitDefEqProofs only [go_sem, ↓reduceIte, Nat.reduceLT, Nat.reduceEqDiff, Nat.reduceAdd, Nat.reduceSub, Nat.reduceBEq, Nat.reduceLeDiff, Int.reduceToNat, reduceCtorEq, hfb, hi, hw, hc, he, roomV, Try.results6]
    refine CodeT.seqR ?_
    simp -implicitDefEqProofs only [go_sem, ↓reduceIte, Nat.reduceLT, Nat.reduceEqDiff, Nat.reduceAdd, Nat.reduceSub, Nat.reduceBEq, Nat.reduceLeDiff, Int.reduceToNat, reduceCtorEq, hfb, hi, hw, hc, he, roomV, Try.results6]
    refine CodeT.ret ?_
    simp -implicitDefEqProofs only [go_sem, ↓reduceIte, Nat.reduceLT, Nat.reduceEqDiff, Nat.reduceAdd, Nat.reduceSub, Nat.reduceBEq, Nat.reduceLeDiff, Int.reduceToNat, reduceCtorEq, hfb, hi, hw, hc, he, roomV, Try.results6]
    refine pureEnd rfl ?_
    simp -implicitDefEqProofs only [go_sem, ↓reduceIte, Nat.reduceLT, Nat.reduceEqDiff, Nat.reduceAdd, Nat.reduceSub, Nat.reduceBEq, Nat.reduceLeDiff, Int.reduceToNat, reduceCtorEq, hfb, hi, hw, hc, he, roomV, Try.results6]
  obtain ⟨K, hR, k1, k2⟩ : ∃ K : Nat, roomV d = .tup [.val (.int .i64 (K : Nat)), er 0] ∧ 2 * K + 1 ≤ szB d - endB d ∧ szB d - endB d < 2 * (K + 1) + 1 := by
    have hne : endB d ≠ szB d := by
      intro h
      rw [h] at he
      simp at he
    refine ⟨(szB d - endB d - 1) / 2, ?_, by omega, by omega⟩
    unfold roomV
    rw [hi, hw, hc, he]
    rfl
  have a1 := app_ok d (List.replicate K x) hi hw hc (by simp only [List.length_replicate]; omega)
  have a2 := app_no d (List.replicate K x ++ [x]) hi hw hc (by simp only [List.length_append, List.length_replicate, List.length_singleton]; omega)
  have k3 : K ≤ 999999 := by omega
  clear he k1 k2
  refine CallT.intro Try.func6 (by decide) rfl ?_
  simp -implicitDefEqProofs only [go_sem, ↓reduceIte, Nat.reduceLT, Nat.reduceEqDiff, Nat.reduceAdd, Nat.reduceSub, Nat.reduceBEq, Nat.reduceLeDiff, Int.reduceToNat, reduceCtorEq, hfb, hi, hw, hc, List.take_replicate, Nat.sub_self, List.replicate_zero, List.append_nil, Nat.min_self, take_snoc, enterTm, Try.ntmps6, List.range'_succ, List.range'_zero, List.zip_cons_cons, List.zip_nil_left]
  refine CodeT.seqR ?_
  simp -implicitDefEqProofs only [go_sem, ↓reduceIte, Nat.reduceLT, Nat.reduceEqDiff, Nat.reduceAdd, Nat.reduceSub, Nat.reduceBEq, Nat.reduceLeDiff, Int.reduceToNat, reduceCtorEq, hfb, hi, hw, hc, List.take_replicate, Nat.sub_self, List.replicate_zero, List.append_nil, Nat.min_self, take_snoc, Try.results6]
  refine CodeT.freeze 2 ?_
  simp -implicitDefEqProofs only [go_sem, ↓reduceIte, Nat.reduceLT, Nat.reduceEqDiff, Nat.reduceAdd, Nat.reduceSub, Nat.reduceBEq, Nat.reduceLeDiff, Int.reduceToNat, reduceCtorEq, hfb, hi, hw, hc, List.take_replicate, Nat.sub_self, List.replicate_zero, List.append_nil, Nat.min_self, take_snoc, Try.results6]
  refine CodeT.seqR ?_
  simp -implicitDefEqProofs only [go_sem, ↓reduceIte, Nat.reduceLT, Nat.reduceEqDiff, Nat.reduceAdd, Nat.reduceSub, Nat.reduceBEq, Nat.reduceLeDiff, Int.reduceToNat, reduceCtorEq, hfb, hi, hw, hc, List.take_replicate, Nat.sub_self, List.replicate_zero, List.append_nil, Nat.min_self, take_snoc, Try.results6]
  refine PureT.eq (c12) rfl ?_
  simp -implicitDefEqProofs only [go_sem, ↓reduceIte, Nat.reduceLT, Nat.reduceEqDiff, Nat.reduceAdd, Nat.reduceSub, Nat.reduceBEq, Nat.reduceLeDiff, Int.reduceToNat, reduceCtorEq, hfb, hi, hw, hc, List.take_replicate, Nat.sub_self, List.replicate_zero, List.append_nil, Nat.min_self, take_snoc, Try.results6]
  refine CodeT.seq ?_
  refine CodeT.seqR ?_
  simp -implicitDefEqProofs only [go_sem, ↓reduceIte, Nat.reduceLT, Nat.reduceEqDiff, Nat.reduceAdd, Nat.reduceSub, Nat.reduceBEq, Nat.reduceLeDiff, Int.reduceToNat, reduceCtorEq, hfb, hi, hw, hc, List.take_replicate, Nat.sub_self, List.replicate_zero, List.append_nil, Nat.min_self, take_snoc, Try.results6]
  refine PureT.eq (c15 _) rfl ?_
  simp -implicitDefEqProofs only [go_sem, ↓reduceIte, Nat.reduceLT, Nat.reduceEqDiff, Nat.reduceAdd, Nat.reduceSub, Nat.reduceBEq, Nat.reduceLeDiff, Int.reduceToNat, reduceCtorEq, hfb, hi, hw, hc, List.take_replicate, Nat.sub_self, List.replicate_zero, List.append_nil, Nat.min_self, take_snoc, Try.results6]
  refine CodeT.condF rfl ?_
  refine CodeT.skip ?_
  simp -implicitDefEqProofs only [go_sem, ↓reduceIte, Nat.reduceLT, Nat.reduceEqDiff, Nat.reduceAdd, Nat.reduceSub, Nat.reduceBEq, Nat.reduceLeDiff, Int.reduceToNat, reduceCtorEq, hfb, hi, hw, hc, List.take_replicate, Nat.sub_self, List.replicate_zero, List.append_nil, Nat.min_self, take_snoc, Try.results6]
  refine CodeT.seqR ?_
  simp -implicitDefEqProofs only [go_sem, ↓reduceIte, Nat.reduceLT, Nat.reduceEqDiff, Nat.reduceAdd, Nat.reduceSub, Nat.reduceBEq, Nat.reduceLeDiff, Int.reduceToNat, reduceCtorEq, hfb, hi, hw, hc, List.take_replicate, Nat.sub_self, List.replicate_zero, List.append_nil, Nat.min_self, take_snoc, Try.results6]
  refine PureT.eq (c24k d hf _ hR) rfl ?_
  simp -implicitDefEqProofs only [go_sem, ↓reduceIte, Nat.reduceLT, Nat.reduceEqDiff, Nat.reduceAdd, Nat.reduceSub, Nat.reduceBEq, Nat.reduceLeDiff, Int.reduceToNat, reduceCtorEq, hfb, hi, hw, hc, List.take_replicate, Nat.sub_self, List.replicate_zero, List.append_nil, Nat.min_self, take_snoc, Try.results6]
  refine CodeT.seq ?_
  refine CodeT.seqR ?_
  simp -implicitDefEqProofs only [go_sem, ↓reduceIte, Nat.reduceLT, Nat.reduceEqDiff, Nat.reduceAdd, Nat.reduceSub, Nat.reduceBEq, Nat.reduceLeDiff, Int.reduceToNat, reduceCtorEq, hfb, hi, hw, hc, List.take_replicate, Nat.sub_self, List.replicate_zero, List.append_nil, Nat.min_self, take_snoc, Try.results6]
  refine CodeT.condF rfl ?_
  refine CodeT.skip ?_
  simp -implicitDefEqProofs only [go_sem, ↓reduceIte, Nat.reduceLT, Nat.reduceEqDiff, Nat.reduceAdd, Nat.reduceSub, Nat.reduceBEq, Nat.reduceLeDiff, Int.reduceToNat, reduceCtorEq, hfb, hi, hw, hc, List.take_replicate, Nat.sub_self, List.replicate_zero, List.append_nil, Nat.min_self, take_snoc, Try.results6]
  refine CodeT.seqR ?_
  simp -implicitDefEqProofs only [go_sem, ↓reduceIte, Nat.reduceLT, Nat.reduceEqDiff, Nat.reduceAdd, Nat.reduceSub, Nat.reduceBEq, Nat.reduceLeDiff, Int.reduceToNat, reduceCtorEq, hfb, hi, hw, hc, List.take_replicate, Nat.sub_self, List.replicate_zero, List.append_nil, Nat.min_self, take_snoc, Try.results6]
  refine And.intro (by omega) ?_
  refine And.intro (by omega) ?_
  refine And.intro (by omega) ?_
  refine CodeT.seq ?_
  refine CodeT.seqR ?_
  simp -implicitDefEqProofs only [go_sem, ↓reduceIte, Nat.reduceLT, Nat.reduceEqDiff, Nat.reduceAdd, Nat.reduceSub, Nat.reduceBEq, Nat.reduceLeDiff, Int.reduceToNat, reduceCtorEq, hfb, hi, hw, hc, List.take_replicate, Nat.sub_self, List.replicate_zero, List.append_nil, Nat.min_self, take_snoc, Try.results6]
  refine CodeT.block ?_
  refine CodeT.whileS (fun i : Nat => [(11, .val (.int .i64 (i : Nat)))]) [10, 6, 5, 2, 1] (fun i : Nat => [.dead, .row true 0 1 (bs (List.replicate i x ++ List.replicate (K - i) 0))]) (fun i : Nat => i ≤ K) (fun i : Nat => K - i) (0) ?_ rfl ?_ ?_
  omega
  refine ⟨rfl, ?_, ?_, rfl, ?_⟩
  simp -implicitDefEqProofs only [go_sem, ↓reduceIte, Nat.reduceLT, Nat.reduceEqDiff, Nat.reduceAdd, Nat.reduceSub, Nat.reduceBEq, Nat.reduceLeDiff, Int.reduceToNat, reduceCtorEq, hfb, hi, hw, hc, List.take_replicate, Nat.sub_self, List.replicate_zero, List.append_nil, Nat.min_self, take_snoc, Try.results6, or_true, true_or, false_or, or_false, implies_true, Int.natCast_add, Int.cast_ofNat_Int, keepsD_nil]
  trivial
  simp -implicitDefEqProofs only [go_sem, ↓reduceIte, Nat.reduceLT, Nat.reduceEqDiff, Nat.reduceAdd, Nat.reduceSub, Nat.reduceBEq, Nat.reduceLeDiff, Int.reduceToNat, reduceCtorEq, hfb, hi, hw, hc, List.take_replicate, Nat.sub_self, List.replicate_zero, List.append_nil, Nat.min_self, take_snoc, Try.results6, or_true, true_or, false_or, or_false, implies_true, Int.natCast_add, Int.cast_ofNat_Int, keepsD_nil]
  trivial
  simp -implicitDefEqProofs only [go_sem, ↓reduceIte, Nat.reduceLT, Nat.reduceEqDiff, Nat.reduceAdd, Nat.reduceSub, Nat.reduceBEq, Nat.reduceLeDiff, Int.reduceToNat, reduceCtorEq, hfb, hi, hw, hc, List.take_replicate, Nat.sub_self, List.replicate_zero, List.append_nil, Nat.min_self, take_snoc, Try.results6, or_true, true_or, false_or, or_false, implies_true, Int.natCast_add, Int.cast_ofNat_Int, keepsD_nil]
  rintro i hx
  simp -implicitDefEqProofs only [go_sem, ↓reduceIte, Nat.reduceLT, Nat.reduceEqDiff, Nat.reduceAdd, Nat.reduceSub, Nat.reduceBEq, Nat.reduceLeDiff, Int.reduceToNat, reduceCtorEq, hfb, hi, hw, hc, List.take_replicate, Nat.sub_self, List.replicate_zero, List.append_nil, Nat.min_self, take_snoc, Try.results6]
  refine CodeT.seq ?_
  refine CodeT.seqR ?_
  simp -implicitDefEqProofs only [go_sem, ↓reduceIte, Nat.reduceLT, Nat.reduceEqDiff, Nat.reduceAdd, Nat.reduceSub, Nat.reduceBEq, Nat.reduceLeDiff, Int.reduceToNat, reduceCtorEq, hfb, hi, hw, hc, List.take_replicate, Nat.sub_self, List.replicate_zero, List.append_nil, Nat.min_self, take_snoc, Try.results6]
  refine CodeT.cond rfl (fun g4 => ?_) (fun g4 => ?_)
  have d4 := ofDec g4
  refine CodeT.skip ?_
  simp -implicitDefEqProofs only [go_sem, ↓reduceIte, Nat.reduceLT, Nat.reduceEqDiff, Nat.reduceAdd, Nat.reduceSub, Nat.reduceBEq, Nat.reduceLeDiff, Int.reduceToNat, reduceCtorEq, hfb, hi, hw, hc, List.take_replicate, Nat.sub_self, List.replicate_zero, List.append_nil, Nat.min_self, take_snoc, Try.results6, g4]
  refine CodeT.seq (CodeT.block ?_)
  refine CodeT.region ?_
  simp -implicitDefEqProofs only [go_sem, ↓reduceIte, Nat.reduceLT, Nat.reduceEqDiff, Nat.reduceAdd, Nat.reduceSub, Nat.reduceBEq, Nat.reduceLeDiff, Int.reduceToNat, reduceCtorEq, hfb, hi, hw, hc, List.take_replicate, Nat.sub_self, List.replicate_zero, List.append_nil, Nat.min_self, take_snoc, Try.results6, g4]
  refine And.intro (by omega) ?_
  refine And.intro (by assumption) ?_
  refine And.intro (by omega) ?_
  refine And.intro (by omega) ?_
  refine CodeT.region ?_
  simp -implicitDefEqProofs only [go_sem, ↓reduceIte, Nat.reduceLT, Nat.reduceEqDiff, Nat.reduceAdd, Nat.reduceSub, Nat.reduceBEq, Nat.reduceLeDiff, Int.reduceToNat, reduceCtorEq, hfb, hi, hw, hc, List.take_replicate, Nat.sub_self, List.replicate_zero, List.append_nil, Nat.min_self, take_snoc, Try.results6, g4]
  simp -implicitDefEqProofs (disch := omega) only [i64_in, bs_getD, opvs_getD, is64_getD, bss_getD]
  refine ⟨i + 1, ?_⟩
  refine And.intro ?_ ?_
  omega
  refine And.intro ?_ ?_
  omega
  refine ⟨rfl, ?_, ?_, rfl, ?_⟩
  simp -implicitDefEqProofs only [go_sem, ↓reduceIte, Nat.reduceLT, Nat.reduceEqDiff, Nat.reduceAdd, Nat.reduceSub, Nat.reduceBEq, Nat.reduceLeDiff, Int.reduceToNat, reduceCtorEq, hfb, hi, hw, hc, List.take_replicate, Nat.sub_self, List.replicate_zero, List.append_nil, Nat.min_self, take_snoc, Try.results6, g4, or_true, true_or, false_or, or_false, implies_true, Int.natCast_add, Int.cast_ofNat_Int, keepsD_nil]
  trivial
  simp -implicitDefEqProofs only [go_sem, ↓reduceIte, Nat.reduceLT, Nat.reduceEqDiff, Nat.reduceAdd, Nat.reduceSub, Nat.reduceBEq, Nat.reduceLeDiff, Int.reduceToNat, reduceCtorEq, hfb, hi, hw, hc, List.take_replicate, Nat.sub_self, List.replicate_zero, List.append_nil, Nat.min_self, take_snoc, Try.results6, g4, or_true, true_or, false_or, or_false, implies_true, Int.natCast_add, Int.cast_ofNat_Int, keepsD_nil]
  rotate_left
  simp -implicitDefEqProofs only [go_sem, ↓reduceIte, Nat.reduceLT, Nat.reduceEqDiff, Nat.reduceAdd, Nat.reduceSub, Nat.reduceBEq, Nat.reduceLeDiff, Int.reduceToNat, reduceCtorEq, hfb, hi, hw, hc, List.take_replicate, Nat.sub_self, List.replicate_zero, List.append_nil, Nat.min_self, take_snoc, Try.results6, g4, or_true, true_or, false_or, or_false, implies_true, Int.natCast_add, Int.cast_ofNat_Int, keepsD_nil]
  have d4 := ofDecF g4
  refine CodeT.exit ?_
  simp -implicitDefEqProofs only [go_sem, ↓reduceIte, Nat.reduceLT, Nat.reduceEqDiff, Nat.reduceAdd, Nat.reduceSub, Nat.reduceBEq, Nat.reduceLeDiff, Int.reduceToNat, reduceCtorEq, hfb, hi, hw, hc, List.take_replicate, Nat.sub_self, List.replicate_zero, List.append_nil, Nat.min_self, take_snoc, Try.results6, g4]
  obtain rfl : i = K := by omega
  simp -implicitDefEqProofs only [go_sem, ↓reduceIte, Nat.reduceLT, Nat.reduceEqDiff, Nat.reduceAdd, Nat.reduceSub, Nat.reduceBEq, Nat.reduceLeDiff, Int.reduceToNat, reduceCtorEq, hfb, hi, hw, hc, List.take_replicate, Nat.sub_self, List.replicate_zero, List.append_nil, Nat.min_self, take_snoc, Try.results6, g4]
  refine CodeT.seqR ?_
  simp -implicitDefEqProofs only [go_sem, ↓reduceIte, Nat.reduceLT, Nat.reduceEqDiff, Nat.reduceAdd, Nat.reduceSub, Nat.reduceBEq, Nat.reduceLeDiff, Int.reduceToNat, reduceCtorEq, hfb, hi, hw, hc, List.take_replicate, Nat.sub_self, List.replicate_zero, List.append_nil, Nat.min_self, take_snoc, Try.results6, g4]
  refine CallT.args ⟨_, Try.func25, by decide, rfl⟩ ?_
  simp -implicitDefEqProofs only [go_sem, ↓reduceIte, Nat.reduceLT, Nat.reduceEqDiff, Nat.reduceAdd, Nat.reduceSub, Nat.reduceBEq, Nat.reduceLeDiff, Int.reduceToNat, reduceCtorEq, hfb, hi, hw, hc, List.take_replicate, Nat.sub_self, List.replicate_zero, List.append_nil, Nat.min_self, take_snoc, Try.results6, g4]
  refine And.intro (by assumption) ?_
  refine PureT.eq (c25k d hf _ ?_ a1) rfl ?_
  rotate_left
  simp -implicitDefEqProofs only [go_sem, ↓reduceIte, Nat.reduceLT, Nat.reduceEqDiff, Nat.reduceAdd, Nat.reduceSub, Nat.reduceBEq, Nat.reduceLeDiff, Int.reduceToNat, reduceCtorEq, hfb, hi, hw, hc, List.take_replicate, Nat.sub_self, List.replicate_zero, List.append_nil, Nat.min_self, take_snoc, Try.results6, g4]
  refine CodeT.seqD [(1, .free), (2, .free), (0, .read), (3, .upd), (4, .upd), (5, .upd), (6, .free), (7, .free), (8, .free), (9, .free), (10, .free)] mixed (by kernel_rfl) ?_
  simp -implicitDefEqProofs only [go_sem, ↓reduceIte, Nat.reduceLT, Nat.reduceEqDiff, Nat.reduceAdd, Nat.reduceSub, Nat.reduceBEq, Nat.reduceLeDiff, Int.reduceToNat, reduceCtorEq, hfb, hi, hw, hc, List.take_replicate, Nat.sub_self, List.replicate_zero, List.append_nil, Nat.min_self, take_snoc, Try.results6, g4]
  refine And.intro (by trivial) ?_
  refine And.intro (by omega) ?_
  refine And.intro (by exact Stable.refl _) ?_
  refine And.intro (by exact uni_bs [_]) ?_
  refine And.intro (by omega) ?_
  refine And.intro (by exact Stable.same (Stable.row (Stable.refl _))) ?_
  refine ⟨⟨_, Try.func25, by decide, rfl⟩, ?_⟩
  simp -implicitDefEqProofs only [go_sem, ↓reduceIte, Nat.reduceLT, Nat.reduceEqDiff, Nat.reduceAdd, Nat.reduceSub, Nat.reduceBEq, Nat.reduceLeDiff, Int.reduceToNat, reduceCtorEq, hfb, hi, hw, hc, List.take_replicate, Nat.sub_self, List.replicate_zero, List.append_nil, Nat.min_self, take_snoc, Try.results6, g4]
  refine And.intro (by assumption) ?_
  refine CallY.pure (c25k d hf _ ?_ a2) rfl ?_
  rotate_left
  simp -implicitDefEqProofs only [go_sem, ↓reduceIte, Nat.reduceLT, Nat.reduceEqDiff, Nat.reduceAdd, Nat.reduceSub, Nat.reduceBEq, Nat.reduceLeDiff, Int.reduceToNat, reduceCtorEq, hfb, hi, hw, hc, List.take_replicate, Nat.sub_self, List.replicate_zero, List.append_nil, Nat.min_self, take_snoc, Try.results6, g4]
  refine And.intro (by exact Stable.refl _) ?_
  refine CodeT.seqR ?_
  simp -implicitDefEqProofs only [go_sem, ↓reduceIte, Nat.reduceLT, Nat.reduceEqDiff, Nat.reduceAdd, Nat.reduceSub, Nat.reduceBEq, Nat.reduceLeDiff, Int.reduceToNat, reduceCtorEq, hfb, hi, hw, hc, List.take_replicate, Nat.sub_self, List.replicate_zero, List.append_nil, Nat.min_self, take_snoc, Try.results6, g4]
  refine gif_i (fun g7 => ?_) (fun g7 => ?_)
  have d7 := ofDec g7
  simp -implicitDefEqProofs only [go_sem, ↓reduceIte, Nat.reduceLT, Nat.reduceEqDiff, Nat.reduceAdd, Nat.reduceSub, Nat.reduceBEq, Nat.reduceLeDiff, Int.reduceToNat, reduceCtorEq, hfb, hi, hw, hc, List.take_replicate, Nat.sub_self, List.replicate_zero, List.append_nil, Nat.min_self, take_snoc, Try.results6, g4, g7]
  refine CodeT.ret ?_
  simp -implicitDefEqProofs only [go_sem, ↓reduceIte, Nat.reduceLT, Nat.reduceEqDiff, Nat.reduceAdd, Nat.reduceSub, Nat.reduceBEq, Nat.reduceLeDiff, Int.reduceToNat, reduceCtorEq, hfb, hi, hw, hc, List.take_replicate, Nat.sub_self, List.replicate_zero, List.append_nil, Nat.min_self, take_snoc, Try.results6, g4, g7]
  refine pureEnd rfl ?_
  simp -implicitDefEqProofs only [go_sem, ↓reduceIte, Nat.reduceLT, Nat.reduceEqDiff, Nat.reduceAdd, Nat.reduceSub, Nat.reduceBEq, Nat.reduceLeDiff, Int.reduceToNat, reduceCtorEq, hfb, hi, hw, hc, List.take_replicate, Nat.sub_self, List.replicate_zero, List.append_nil, Nat.min_self, take_snoc, Try.results6, g4, g7]
  have d7 := ofDecF g7
  (exfalso; omega)
  · rw [fill_set K i x (by omega)]
  · simp only [List.length_replicate]; omega
  · rw [List.length_append, List.length_replicate, List.length_singleton]; omega
end Go.Proofs.Try

namespace Go.PM
open Go.RowKit Go.Deep

section
variable {H : Type} {enc : TypeId × Value → H} {P : Program} {W : World}

/-- Fields that lie one behind the other, from cell off on: n cells in all. -/
def OpensF (enc : TypeId × Value → H) (P : Program) (W : World) (off n : Nat) (fs : List Field) {α : Type} (f : α → List AV) (p : α → Prop) : Prop :=
  ∀ (fuel : Nat) (cs : List Value), (∀ fd ∈ fs, ∃ x, DataW.trod enc P W 0 (fun _ => true) true fuel fd.type ((cs.drop fd.offset).take (P.cellsOf fd.type)) = some x) → ∃ a, p a ∧ CellsL (Mem.of W) (f a) ((cs.drop off).take n)

theorem opensF_nil {off : Nat} : OpensF enc P W off 0 [] (fun _ : Unit => []) (fun _ => True) := by
  intro fuel cs _
  refine ⟨(), trivial, by simp, fun j c hc => by simp at hc⟩
theorem opensF_cons {off n m sz : Nat} {fd : Field} {fs : List Field} {α β : Type} {g : α → AV} {p : α → Prop} {f : β → List AV} {q : β → Prop} (ho : fd.offset = off) (hsz : P.cellsOf fd.type = sz) (hm : m = sz + n)
    (h0 : Opens enc P W fd.type g p) (hl : ∀ a, (g a).cells.length = sz) (h1 : OpensF enc P W (off + sz) n fs f q) : OpensF enc P W off m (fd :: fs) (fun x : α × β => (g x.1).cells ++ f x.2) (fun x => p x.1 ∧ q x.2) := by
  subst hm
  intro fuel cs h
  obtain ⟨x, hx⟩ := h fd (List.mem_cons_self ..)
  obtain ⟨a, k1, k2⟩ := h0 _ _ _ hx
  obtain ⟨b, k3, k4⟩ := h1 fuel cs (fun fd' hf => h fd' (List.mem_cons_of_mem _ hf))
  rw [ho, hsz] at k2
  exact ⟨(a, b), ⟨k1, k3⟩, k2.app k4 (hl a)⟩
theorem opens_struct {t : TypeId} {fs : Array Field} {n : Nat} {α : Type} {f : α → List AV} {p : α → Prop} (ht : P.underlying t = some (.struct fs)) (hn : P.cellsOf t = n) (h : OpensF enc P W 0 n fs.toList f p) : Opens enc P W t (fun a => .agg (f a)) p := by
  intro fuel cs x hx
  obtain ⟨xs, m, _, rfl, hl, hlen, hf⟩ := DataW.trod_struct ht hx
  obtain ⟨a, k1, k2⟩ := h m cs (fun fd hfd => by
    obtain ⟨i, hi⟩ := List.getElem?_of_mem hfd
    have := hf i fd (by simpa using hi)
    have hlt : i < xs.length := by
      rw [hlen]
      have := (List.getElem?_eq_some_iff.1 hi).1
      simpa using this
    exact ⟨xs[i], this.trans (List.getElem?_eq_getElem hlt)⟩)
  refine ⟨a, k1, ?_⟩
  rw [List.drop_zero, List.take_of_length_le (by omega)] at k2
  exact k2
theorem Opens.map {t : TypeId} {α β : Type} {f : α → AV} {p : α → Prop} {f' : β → AV} (h : Opens enc P W t f p) (g : α → β) (hg : ∀ a, f a = f' (g a)) : Opens enc P W t f' (fun b => ∃ a, p a ∧ g a = b) := fun fuel cs x hx => by
  obtain ⟨a, h1, h2⟩ := h fuel cs x hx
  exact ⟨g a, ⟨a, h1, rfl⟩, hg a ▸ h2⟩
end
end Go.PM

namespace Go.Proofs.Try
set_option linter.unusedVariables false
open Go.PM Go.RowKit
variable {H : Type} {enc : TypeId × Value → H} {W : World}
theorem opensBytes : Opens enc Try.prog W 22 (fun l : List UInt8 => AV.sl false (l.map b8)) (fun l => l.length ≤ maxLen) :=
  (opens_slice (sz := 1) Try.underlying22 (by kernel_rfl) (by decide) (fun _ => rfl) (opens_u8 Try.underlying5)).mono fun _ h => h.2
/-- What every operation that is given is like. -/
structure OpW (o : DOp) : Prop where
  a0 : -9223372036854775808 ≤ o.at_
  a1 : o.at_ ≤ 9223372036854775807
  b : o.bytes.length ≤ maxLen
theorem opensOp : Opens enc Try.prog W 39 opv OpW :=
  ((opens_struct Try.underlying39 (by kernel_rfl) (opensF_cons rfl (by kernel_rfl) rfl (opens_bool Try.underlying4) (fun _ => rfl) (opensF_cons rfl (by kernel_rfl) rfl (opens_i64 Try.underlying3) (fun _ => rfl) (opensF_cons rfl (by kernel_rfl) rfl opensBytes (fun _ => rfl) opensF_nil)))).map (f' := opv) (fun x => (⟨x.1, x.2.1, x.2.2.1⟩ : DOp)) (fun _ => rfl)).mono
    fun o ⟨x, ⟨_, h1, h2, _⟩, h3⟩ => h3 ▸ ⟨h1.1, h1.2, h2⟩
instance : Inhabited DOp := ⟨op0⟩
theorem opensOps : Opens enc Try.prog W 29 (fun l : List DOp => AV.sl false (opvs l)) (fun l => (∀ o ∈ l, OpW o) ∧ l.length ≤ maxLen) :=
  opens_slice (sz := 3) Try.underlying29 (by kernel_rfl) (by decide) (fun _ => rfl) opensOp
structure DskW (d : Dsk) : Prop where
  b : d.bytes.length ≤ maxLen
  q : d.queue.length ≤ maxLen
  o : ∀ o ∈ d.queue, OpW o
theorem opensDsk : Opens enc Try.prog W 31 dkv DskW :=
  ((opens_struct Try.underlying31 (by kernel_rfl) (opensF_cons rfl (by kernel_rfl) rfl opensBytes (fun _ => rfl) (opensF_cons rfl (by kernel_rfl) rfl opensOps (fun _ => rfl) opensF_nil))).map (f' := dkv) (fun x => (⟨x.1, x.2.1⟩ : Dsk)) (fun _ => rfl)).mono
    fun o ⟨x, ⟨h0, h1, _⟩, h3⟩ => h3 ▸ ⟨h0, h1.2, h1.1⟩
theorem opensInts : Opens enc Try.prog W 32 (fun l : List Int => AV.sl false (is64 l)) (fun l => (∀ n ∈ l, -9223372036854775808 ≤ n ∧ n ≤ 9223372036854775807) ∧ l.length ≤ maxLen) :=
  opens_slice (sz := 1) Try.underlying32 (by kernel_rfl) (by decide) (fun _ => rfl) (opens_i64 Try.underlying3)
end Go.Proofs.Try
