/-
  FEW; ROOM.
-/
import Derived.Test.YtnmghpieidlpbaaD2
set_option linter.unusedVariables false
set_option linter.unusedSimpArgs false
set_option linter.unusedSectionVars false
namespace Go.Proofs.Try
set_option linter.unusedSimpArgs false
set_option linter.unusedVariables false
open Go.PM
set_option maxHeartbeats 4000000
set_option maxRecDepth 100000

/-- The bytes of all operations together, as the machine counts them. -/
def qsum (l : List DOp) : Int := l.foldl (fun n o => IntKind.i64.wrap (n + (o.bytes.length : Int))) 0
theorem qsum_succ (l : List DOp) (i : Nat) (h : i < l.length) : qsum (l.take (i + 1)) = IntKind.i64.wrap (qsum (l.take i) + ((l.getD i op0).bytes.length : Int)) := by
  unfold qsum
  rw [List.take_add_one, List.foldl_append, List.getElem?_eq_getElem h]
  simp [List.getD_eq_getElem?_getD, h]
def fewB (d : Dsk) : Bool := if decide ((d.bytes.length : Int) > 70000) || decide ((d.queue.length : Int) > 100) then false else decide (qsum d.queue ≤ 300000)
theorem fewB_few {d : Dsk} (h : fewB d = true) : Few d ∧ d.bytes.length ≤ 70000 ∧ d.queue.length ≤ 100 := by
  unfold fewB at h
  split at h
  · cases h
  · rename_i h1
    simp only [Bool.or_eq_true, decide_eq_true_eq, not_or] at h1
    exact ⟨⟨by omega, by omega⟩, by omega, by omega⟩
theorem c15 (d : Dsk) : PureT Try.prog 15 [dkv d] (· = .val (.bool (fewB d))) := by
  refine CallT.intro Try.func15 (by decide) rfl ?_
  simp -implicitDefEqProofs (dsimp := false) only [go_sem, simprocAttr, enterTm, Try.ntmps15, List.range'_succ, List.range'_zero, List.zip_cons_cons, List.zip_nil_left]
  refine CodeT.seqR ?_
  simp -implicitDefEqProofs (dsimp := false) only [go_sem, simprocAttr]
  refine CodeT.seq ?_
  refine CodeT.freeze 1 ?_
  simp -implicitDefEqProofs (dsimp := false) only [go_sem, simprocAttr]
  refine CodeT.seqR ?_
  simp -implicitDefEqProofs (dsimp := false) only [go_sem, simprocAttr]
  refine gif_i (fun g1 => ?_) (fun g1 => ?_)
  have d1 := ofDec g1
  simp -implicitDefEqProofs (dsimp := false) only [go_sem, simprocAttr, g1]
  refine CodeT.condT rfl ?_
  refine CodeT.seqR ?_
  simp -implicitDefEqProofs (dsimp := false) only [go_sem, simprocAttr, g1]
  refine CodeT.ret ?_
  simp -implicitDefEqProofs (dsimp := false) only [go_sem, simprocAttr, g1]
  refine pureEnd rfl ?_
  simp only [fewB, g1, Bool.true_and, Bool.false_and, Bool.and_true, Bool.and_false, Bool.true_or, Bool.false_or, Bool.or_true, Bool.or_false, Bool.not_true, Bool.not_false, Bool.false_eq_true, ↓reduceIte]
  have d1 := ofDecF g1
  simp -implicitDefEqProofs (dsimp := false) only [go_sem, simprocAttr, g1]
  refine CodeT.cond rfl (fun g2 => ?_) (fun g2 => ?_)
  have d2 := ofDec g2
  refine CodeT.seqR ?_
  simp -implicitDefEqProofs (dsimp := false) only [go_sem, simprocAttr, g1, g2]
  refine CodeT.ret ?_
  simp -implicitDefEqProofs (dsimp := false) only [go_sem, simprocAttr, g1, g2]
  refine pureEnd rfl ?_
  simp only [fewB, g1, g2, Bool.true_and, Bool.false_and, Bool.and_true, Bool.and_false, Bool.true_or, Bool.false_or, Bool.or_true, Bool.or_false, Bool.not_true, Bool.not_false, Bool.false_eq_true, ↓reduceIte]
  have d2 := ofDecF g2
  refine CodeT.skip ?_
  simp -implicitDefEqProofs (dsimp := false) only [go_sem, simprocAttr, g1, g2]
  refine CodeT.seqR ?_
  simp -implicitDefEqProofs (dsimp := false) only [go_sem, simprocAttr, g1, g2]
  refine CodeT.seq ?_
  refine CodeT.seqR ?_
  simp -implicitDefEqProofs (dsimp := false) only [go_sem, simprocAttr, g1, g2]
  refine CodeT.block ?_
  refine CodeT.whileS (fun i : Nat => [(3, .val (.int .i64 (qsum (d.queue.take i)))), (4, .val (.int .i64 (i : Nat)))]) [1] (fun i : Nat => [.dead]) (fun i : Nat => i ≤ d.queue.length) (fun i : Nat => d.queue.length - i) (0) ?_ rfl ?_ ?_
  omega
  refine ⟨rfl, ?_, ?_, rfl, ?_⟩
  simp -implicitDefEqProofs (dsimp := false) only [go_sem, simprocAttr, g1, g2, or_true, true_or, false_or, or_false, implies_true, Int.natCast_add, Int.cast_ofNat_Int, keepsD_nil]
  trivial
  simp -implicitDefEqProofs (dsimp := false) only [go_sem, simprocAttr, g1, g2, or_true, true_or, false_or, or_false, implies_true, Int.natCast_add, Int.cast_ofNat_Int, keepsD_nil]
  simp -implicitDefEqProofs (dsimp := false) only [go_sem, simprocAttr, g1, g2, or_true, true_or, false_or, or_false, implies_true, Int.natCast_add, Int.cast_ofNat_Int, keepsD_nil]
  rintro i hi
  have f1 := qsum_succ d.queue i
  simp -implicitDefEqProofs (dsimp := false) only [go_sem, simprocAttr, g1, g2]
  refine CodeT.seq ?_
  refine CodeT.seqR ?_
  simp -implicitDefEqProofs (dsimp := false) only [go_sem, simprocAttr, g1, g2]
  refine CodeT.cond rfl (fun g3 => ?_) (fun g3 => ?_)
  have d3 := ofDec g3
  refine CodeT.skip ?_
  simp -implicitDefEqProofs (dsimp := false) only [go_sem, simprocAttr, g1, g2, g3]
  refine CodeT.seq (CodeT.block ?_)
  refine CodeT.region ?_
  simp -implicitDefEqProofs (dsimp := false) only [go_sem, simprocAttr, g1, g2, g3]
  refine gate_i ?_ ?_
  omega
  simp -implicitDefEqProofs (dsimp := false) (disch := omega) only [Int.toNat_natCast, i64_in, bs_getD, opvs_getD, is64_getD, bss_getD]
  simp -implicitDefEqProofs (dsimp := false) only [go_sem, simprocAttr, g1, g2, g3]
  refine CodeT.region ?_
  simp -implicitDefEqProofs (dsimp := false) only [go_sem, simprocAttr, g1, g2, g3]
  simp -implicitDefEqProofs (dsimp := false) (disch := omega) only [i64_in, bs_getD, opvs_getD, is64_getD, bss_getD]
  refine ⟨i + 1, ?_⟩
  refine And.intro ?_ ?_
  omega
  refine And.intro ?_ ?_
  omega
  refine ⟨rfl, ?_, ?_, rfl, ?_⟩
  simp -implicitDefEqProofs (dsimp := false) only [go_sem, simprocAttr, g1, g2, g3, or_true, true_or, false_or, or_false, implies_true, Int.natCast_add, Int.cast_ofNat_Int, keepsD_nil]
  rotate_left
  simp -implicitDefEqProofs (dsimp := false) only [go_sem, simprocAttr, g1, g2, g3, or_true, true_or, false_or, or_false, implies_true, Int.natCast_add, Int.cast_ofNat_Int, keepsD_nil]
  simp -implicitDefEqProofs (dsimp := false) only [go_sem, simprocAttr, g1, g2, g3, or_true, true_or, false_or, or_false, implies_true, Int.natCast_add, Int.cast_ofNat_Int, keepsD_nil]
  have d3 := ofDecF g3
  refine CodeT.exit ?_
  simp -implicitDefEqProofs (dsimp := false) only [go_sem, simprocAttr, g1, g2, g3]
  refine CodeT.seqR ?_
  simp -implicitDefEqProofs (dsimp := false) only [go_sem, simprocAttr, g1, g2, g3]
  refine CodeT.ret ?_
  simp -implicitDefEqProofs (dsimp := false) only [go_sem, simprocAttr, g1, g2, g3]
  refine pureEnd rfl ?_
  rotate_left
  · rw [f1 (by omega)]
  · have hi' : i = d.queue.length := by
      have := of_decide_eq_false g3
      omega
    rw [hi', List.take_length]
    unfold fewB
    rw [g1, g2]
    rfl
def shortB (ops : List DOp) : Bool := if decide ((ops.length : Int) ≤ 100) then fewB ⟨[], ops⟩ else false
theorem c16 (ops : List DOp) : PureT Try.prog 16 [.sl false (opvs ops)] (· = .val (.bool (shortB ops))) := by
  refine CallT.intro Try.func16 (by decide) rfl ?_
  simp -implicitDefEqProofs (dsimp := false) only [go_sem, simprocAttr, enterTm, Try.ntmps16, List.range'_succ, List.range'_zero, List.zip_cons_cons, List.zip_nil_left]
  refine CodeT.seqR ?_
  simp -implicitDefEqProofs (dsimp := false) only [go_sem, simprocAttr]
  refine CodeT.seqR ?_
  simp -implicitDefEqProofs (dsimp := false) only [go_sem, simprocAttr]
  refine gif_i (fun g1 => ?_) (fun g1 => ?_)
  have d1 := ofDec g1
  simp -implicitDefEqProofs (dsimp := false) only [go_sem, simprocAttr, g1]
  refine CallT.laxA ?_
  simp -implicitDefEqProofs (dsimp := false) only [go_sem, simprocAttr, g1]
  refine PureT.eq (c15 ⟨[], ops⟩) rfl ?_
  simp -implicitDefEqProofs (dsimp := false) only [go_sem, simprocAttr, g1]
  refine CodeT.ret ?_
  simp -implicitDefEqProofs (dsimp := false) only [go_sem, simprocAttr, g1]
  refine pureEnd rfl ?_
  simp only [shortB, g1, Bool.true_and, Bool.false_and, Bool.and_true, Bool.and_false, Bool.true_or, Bool.false_or, Bool.or_true, Bool.or_false, Bool.not_true, Bool.not_false, Bool.false_eq_true, ↓reduceIte]
  have d1 := ofDecF g1
  simp -implicitDefEqProofs (dsimp := false) only [go_sem, simprocAttr, g1]
  refine CodeT.ret ?_
  simp -implicitDefEqProofs (dsimp := false) only [go_sem, simprocAttr, g1]
  refine pureEnd rfl ?_
  simp only [shortB, g1, Bool.true_and, Bool.false_and, Bool.and_true, Bool.and_false, Bool.true_or, Bool.false_or, Bool.or_true, Bool.or_false, Bool.not_true, Bool.not_false, Bool.false_eq_true, ↓reduceIte]
theorem app_ok (d : Dsk) (r : List UInt8) (hi : isDiskB d = true) (hw : wrB d = true) (hc : clB d = true) (h : 2 * r.length + 1 ≤ szB d - endB d) : appendV d r = .tup [.sl false (opvs [wr ((halfB d : Nat) + (endB d : Nat)) (frame r)]), er 0] := by
  have := disk_facts hi
  unfold appendV
  rw [hi, hw, hc, frame_len, decide_eq_false (by omega)]
  rfl
theorem app_no (d : Dsk) (r : List UInt8) (hi : isDiskB d = true) (hw : wrB d = true) (hc : clB d = true) (h : szB d - endB d < 2 * r.length + 1) : appendV d r = .tup [.sl false [], er 2] := by
  have := disk_facts hi
  unfold appendV
  rw [hi, hw, hc, frame_len, decide_eq_true (by omega)]
  rfl
theorem c24k (d : Dsk) (hf : Few d) (v : AV) (h : roomV d = v) : PureT Try.prog 24 [dkv d] (· = v) := h ▸ c24 d hf
theorem c25k (d : Dsk) (hf : Few d) (r : List UInt8) (hb : r.length ≤ 1000000) {v : AV} (h : appendV d r = v) : PureT Try.prog 25 [dkv d, .sl false (bs r)] (· = v) := h ▸ c25 d hf r hb
theorem take_snoc (i : Nat) (x : UInt8) : List.take (i + 1) (bs (List.replicate i x) ++ [AV.val (.int .u8 x.toNat)]) = bs (List.replicate i x ++ [x]) := by
  rw [bs_snoc, bs_take, List.take_of_length_le (by simp)]
theorem fill_set (K i : Nat) (x : UInt8) (h : i < K) : (bs (List.replicate i x ++ List.replicate (K - i) 0)).set i (updElem ((bs (List.replicate i x ++ List.replicate (K - i) 0)).getD i .dead) 0 (b8 x)) = bs (List.replicate (i + 1) x ++ List.replicate (K - (i + 1)) 0) := by
  rw [bs_getD (by simp only [List.length_append, List.length_replicate]; omega), show ∀ y : UInt8, updElem (b8 y) 0 (b8 x) = b8 x from fun _ => rfl, bs_set]
  congr 1
  rw [show K - i = (K - (i + 1)) + 1 by omega, List.replicate_succ, List.set_append_right _ _ (by simp), List.length_replicate, Nat.sub_self, List.set_cons_zero, List.replicate_succ', List.append_assoc]
  rfl
theorem c6 (d : Dsk) (x : UInt8) : PureT Try.prog 6 [dkv d, b8 x] (· = .val (.bool true)) := by
  cases hfb : fewB d
  · refine CallT.intro Try.func6 (by decide) rfl ?_
    simp -implicitDefEqProofs (dsimp := false) only [go_sem, simprocAttr, hfb, enterTm, Try.ntmps6, List.range'_succ, List.range'_zero, List.zip_cons_cons, List.zip_nil_left]
    refine CodeT.seqR ?_
    simp -implicitDefEqProofs (dsimp := false) only [go_sem, simprocAttr, hfb]
    refine CodeT.freeze 2 ?_
    simp -implicitDefEqProofs (dsimp := false) only [go_sem, simprocAttr, hfb]
    refine CodeT.seqR ?_
    simp -implicitDefEqProofs (dsimp := false) only [go_sem, simprocAttr, hfb]
    refine PureT.eq (c12) rfl ?_
    simp -implicitDefEqProofs (dsimp := false) only [go_sem, simprocAttr, hfb]
    refine CodeT.seq ?_
    refine CodeT.seqR ?_
    simp -implicitDefEqProofs (dsimp := false) only [go_sem, simprocAttr, hfb]
    refine PureT.eq (c15 _) rfl ?_
    simp -implicitDefEqProofs (dsimp := false) only [go_sem, simprocAttr, hfb]
    refine CodeT.condT rfl ?_
    refine CodeT.seqR ?_
    simp -implicitDefEqProofs (dsimp := false) only [go_sem, simprocAttr, hfb]
    refine CodeT.ret ?_
    simp -implicitDefEqProofs (dsimp := false) only [go_sem, simprocAttr, hfb]
    refine pureEnd rfl ?_
    simp -implicitDefEqProofs (dsimp := false) only [go_sem, simprocAttr, hfb] 
  obtain ⟨hf, -, -⟩ := fewB_few hfb
  cases hi : isDiskB d
  · refine CallT.intro Try.func6 (by decide) rfl ?_
    simp -implicitDefEqProofs (dsimp := false) only [go_sem, simprocAttr, hfb, hi, roomV, appendV, enterTm, Try.ntmps6, List.range'_succ, List.range'_zero, List.zip_cons_cons, List.zip_nil_left]
    refine CodeT.seqR ?_
    simp -implicitDefEqProofs (dsimp := false) only [go_sem, simprocAttr, hfb, hi, roomV, appendV]
    refine CodeT.freeze 2 ?_
    simp -implicitDefEqProofs (dsimp := false) only [go_sem, simprocAttr, hfb, hi, roomV, appendV]
    refine CodeT.seqR ?_
    simp -implicitDefEqProofs (dsimp := false) only [go_sem, simprocAttr, hfb, hi, roomV, appendV]
    refine PureT.eq (c12) rfl ?_
    simp -implicitDefEqProofs (dsimp := false) only [go_sem, simprocAttr, hfb, hi, roomV, appendV]
    refine CodeT.seq ?_
    refine CodeT.seqR ?_
    simp -implicitDefEqProofs (dsimp := false) only [go_sem, simprocAttr, hfb, hi, roomV, appendV]
    refine PureT.eq (c15 _) rfl ?_
    simp -implicitDefEqProofs (dsimp := false) only [go_sem, simprocAttr, hfb, hi, roomV, appendV]
    refine CodeT.condF rfl ?_
    refine CodeT.skip ?_
    simp -implicitDefEqProofs (dsimp := false) only [go_sem, simprocAttr, hfb, hi, roomV, appendV]
    refine CodeT.seqR ?_
    simp -implicitDefEqProofs (dsimp := false) only [go_sem, simprocAttr, hfb, hi, roomV, appendV]
    refine PureT.eq (c24 _ ?_) rfl ?_
    assumption
    simp -implicitDefEqProofs (dsimp := false) only [go_sem, simprocAttr, hfb, hi, roomV, appendV]
    refine CodeT.seq ?_
    refine CodeT.seqR ?_
    simp -implicitDefEqProofs (dsimp := false) only [go_sem, simprocAttr, hfb, hi, roomV, appendV]
    refine CodeT.condT rfl ?_
    refine CodeT.seqR ?_
    simp -implicitDefEqProofs (dsimp := false) only [go_sem, simprocAttr, hfb, hi, roomV, appendV]
    refine CallT.laxA ?_
    simp -implicitDefEqProofs (dsimp := false) only [go_sem, simprocAttr, hfb, hi, roomV, appendV]
    refine PureT.eq (c25 d hf [] ?_) rfl ?_
    trivial
    simp -implicitDefEqProofs (dsimp := false) only [go_sem, simprocAttr, hfb, hi, roomV, appendV]
    refine CodeT.seqR ?_
    simp -implicitDefEqProofs (dsimp := false) only [go_sem, simprocAttr, hfb, hi, roomV, appendV]
    refine CodeT.ret ?_
    simp -implicitDefEqProofs (dsimp := false) only [go_sem, simprocAttr, hfb, hi, roomV, appendV]
    refine pureEnd rfl ?_
    simp -implicitDefEqProofs (dsimp := false) only [go_sem, simprocAttr, hfb, hi, roomV, appendV]
  cases hw : wrB d
  · refine CallT.intro Try.func6 (by decide) rfl ?_
    simp -implicitDefEqProofs (dsimp := false) only [go_sem, simprocAttr, hfb, hi, hw, roomV, appendV, enterTm, Try.ntmps6, List.range'_succ, List.range'_zero, List.zip_cons_cons, List.zip_nil_left]
    refine CodeT.seqR ?_
    simp -implicitDefEqProofs (dsimp := false) only [go_sem, simprocAttr, hfb, hi, hw, roomV, appendV]
    refine CodeT.freeze 2 ?_
    simp -implicitDefEqProofs (dsimp := false) only [go_sem, simprocAttr, hfb, hi, hw, roomV, appendV]
    refine CodeT.seqR ?_
    simp -implicitDefEqProofs (dsimp := false) only [go_sem, simprocAttr, hfb, hi, hw, roomV, appendV]
    refine PureT.eq (c12) rfl ?_
    simp -implicitDefEqProofs (dsimp := false) only [go_sem, simprocAttr, hfb, hi, hw, roomV, appendV]
    refine CodeT.seq ?_
    refine CodeT.seqR ?_
    simp -implicitDefEqProofs (dsimp := false) only [go_sem, simprocAttr, hfb, hi, hw, roomV, appendV]
    refine PureT.eq (c15 _) rfl ?_
    simp -implicitDefEqProofs (dsimp := false) only [go_sem, simprocAttr, hfb, hi, hw, roomV, appendV]
    refine CodeT.condF rfl ?_
    refine CodeT.skip ?_
    simp -implicitDefEqProofs (dsimp := false) only [go_sem, simprocAttr, hfb, hi, hw, roomV, appendV]
    refine CodeT.seqR ?_
    simp -implicitDefEqProofs (dsimp := false) only [go_sem, simprocAttr, hfb, hi, hw, roomV, appendV]
    refine PureT.eq (c24 _ ?_) rfl ?_
    assumption
    simp -implicitDefEqProofs (dsimp := false) only [go_sem, simprocAttr, hfb, hi, hw, roomV, appendV]
    refine CodeT.seq ?_
    refine CodeT.seqR ?_
    simp -implicitDefEqProofs (dsimp := false) only [go_sem, simprocAttr, hfb, hi, hw, roomV, appendV]
    refine CodeT.condT rfl ?_
    refine CodeT.seqR ?_
    simp -implicitDefEqProofs (dsimp := false) only [go_sem, simprocAttr, hfb, hi, hw, roomV, appendV]
    refine CallT.laxA ?_
    simp -implicitDefEqProofs (dsimp := false) only [go_sem, simprocAttr, hfb, hi, hw, roomV, appendV]
    refine PureT.eq (c25 d hf [] ?_) rfl ?_
    trivial
    simp -implicitDefEqProofs (dsimp := false) only [go_sem, simprocAttr, hfb, hi, hw, roomV, appendV]
    refine CodeT.seqR ?_
    simp -implicitDefEqProofs (dsimp := false) only [go_sem, simprocAttr, hfb, hi, hw, roomV, appendV]
    refine CodeT.ret ?_
    simp -implicitDefEqProofs (dsimp := false) only [go_sem, simprocAttr, hfb, hi, hw, roomV, appendV]
    refine pureEnd rfl ?_
    simp -implicitDefEqProofs (dsimp := false) only [go_sem, simprocAttr, hfb, hi, hw, roomV, appendV]
  cases hc : clB d
  · refine CallT.intro Try.func6 (by decide) rfl ?_
    simp -implicitDefEqProofs (dsimp := false) only [go_sem, simprocAttr, hfb, hi, hw, hc, roomV, appendV, enterTm, Try.ntmps6, List.range'_succ, List.range'_zero, List.zip_cons_cons, List.zip_nil_left]
    refine CodeT.seqR ?_
    simp -implicitDefEqProofs (dsimp := false) only [go_sem, simprocAttr, hfb, hi, hw, hc, roomV, appendV]
    refine CodeT.freeze 2 ?_
    simp -implicitDefEqProofs (dsimp := false) only [go_sem, simprocAttr, hfb, hi, hw, hc, roomV, appendV]
    refine CodeT.seqR ?_
    simp -implicitDefEqProofs (dsimp := false) only [go_sem, simprocAttr, hfb, hi, hw, hc, roomV, appendV]
    refine PureT.eq (c12) rfl ?_
    simp -implicitDefEqProofs (dsimp := false) only [go_sem, simprocAttr, hfb, hi, hw, hc, roomV, appendV]
    refine CodeT.seq ?_
    refine CodeT.seqR ?_
    simp -implicitDefEqProofs (dsimp := false) only [go_sem, simprocAttr, hfb, hi, hw, hc, roomV, appendV]
    refine PureT.eq (c15 _) rfl ?_
    simp -implicitDefEqProofs (dsimp := false) only [go_sem, simprocAttr, hfb, hi, hw, hc, roomV, appendV]
    refine CodeT.condF rfl ?_
    refine CodeT.skip ?_
    simp -implicitDefEqProofs (dsimp := false) only [go_sem, simprocAttr, hfb, hi, hw, hc, roomV, appendV]
    refine CodeT.seqR ?_
    simp -implicitDefEqProofs (dsimp := false) only [go_sem, simprocAttr, hfb, hi, hw, hc, roomV, appendV]
    refine PureT.eq (c24 _ ?_) rfl ?_
    assumption
    simp -implicitDefEqProofs (dsimp := false) only [go_sem, simprocAttr, hfb, hi, hw, hc, roomV, appendV]
    refine CodeT.seq ?_
    refine CodeT.seqR ?_
    simp -implicitDefEqProofs (dsimp := false) only [go_sem, simprocAttr, hfb, hi, hw, hc, roomV, appendV]
    refine CodeT.condT rfl ?_
    refine CodeT.seqR ?_
    simp -implicitDefEqProofs (dsimp := false) only [go_sem, simprocAttr, hfb, hi, hw, hc, roomV, appendV]
    refine CallT.laxA ?_
    simp -implicitDefEqProofs (dsimp := false) only [go_sem, simprocAttr, hfb, hi, hw, hc, roomV, appendV]
    refine PureT.eq (c25 d hf [] ?_) rfl ?_
    trivial
    simp -implicitDefEqProofs (dsimp := false) only [go_sem, simprocAttr, hfb, hi, hw, hc, roomV, appendV]
    refine CodeT.seqR ?_
    simp -implicitDefEqProofs (dsimp := false) only [go_sem, simprocAttr, hfb, hi, hw, hc, roomV, appendV]
    refine CodeT.ret ?_
    simp -implicitDefEqProofs (dsimp := false) only [go_sem, simprocAttr, hfb, hi, hw, hc, roomV, appendV]
    refine pureEnd rfl ?_
    simp -implicitDefEqProofs (dsimp := false) only [go_sem, simprocAttr, hfb, hi, hw, hc, roomV, appendV]
  have hd := disk_facts hi
  have hs := isDisk_small hi
  cases he : (((endB d : Nat) : Int) == (szB d : Nat))
  case true =>
    refine CallT.intro Try.func6 (by decide) rfl ?_
    simp -implicitDefEqProofs (dsimp := false) only [go_sem, simprocAttr, hfb, hi, hw, hc, he, roomV, enterTm, Try.ntmps6, List.range'_succ, List.range'_zero, List.zip_cons_cons, List.zip_nil_left]
    refine CodeT.seqR ?_
    simp -implicitDefEqProofs (dsimp := false) only [go_sem, simprocAttr, hfb, hi, hw, hc, he, roomV]
    refine CodeT.freeze 2 ?_
    simp -implicitDefEqProofs (dsimp := false) only [go_sem, simprocAttr, hfb, hi, hw, hc, he, roomV]
    refine CodeT.seqR ?_
    simp -implicitDefEqProofs (dsimp := false) only [go_sem, simprocAttr, hfb, hi, hw, hc, he, roomV]
    refine PureT.eq (c12) rfl ?_
    simp -implicitDefEqProofs (dsimp := false) only [go_sem, simprocAttr, hfb, hi, hw, hc, he, roomV]
    refine CodeT.seq ?_
    refine CodeT.seqR ?_
    simp -implicitDefEqProofs (dsimp := false) only [go_sem, simprocAttr, hfb, hi, hw, hc, he, roomV]
    refine PureT.eq (c15 _) rfl ?_
    simp -implicitDefEqProofs (dsimp := false) only [go_sem, simprocAttr, hfb, hi, hw, hc, he, roomV]
    refine CodeT.condF rfl ?_
    refine CodeT.skip ?_
    simp -implicitDefEqProofs (dsimp := false) only [go_sem, simprocAttr, hfb, hi, hw, hc, he, roomV]
    refine CodeT.seqR ?_
    simp -implicitDefEqProofs (dsimp := false) only [go_sem, simprocAttr, hfb, hi, hw, hc, he, roomV]
    refine PureT.eq (c24 _ ?_) rfl ?_
    assumption
    simp -implicitDefEqProofs (dsimp := false) only [go_sem, simprocAttr, hfb, hi, hw, hc, he, roomV]
    refine CodeT.seq ?_
    refine CodeT.seqR ?_
    simp -implicitDefEqProofs (dsimp := false) only [go_sem, simprocAttr, hfb, hi, hw, hc, he, roomV]
    refine CodeT.condT rfl ?_
    refine CodeT.seqR ?_
    simp -implicitDefEqProofs (dsimp := false) only [go_sem, simprocAttr, hfb, hi, hw, hc, he, roomV]
    refine CallT.laxA ?_
    simp -implicitDefEqProofs (dsimp := false) only [go_sem, simprocAttr, hfb, hi, hw, hc, he, roomV]
    refine PureT.eq (c25k d hf [] ?_ (app_no d [] hi hw hc (by have := eq_of_beq he; simp only [List.length_nil]; omega))) rfl ?_
    trivial
    simp -implicitDefEqProofs (dsimp := false) only [go_sem, simprocAttr, hfb, hi, hw, hc, he, roomV]
    refine CodeT.seqR ?_
    simp -implicitDefEqProofs (dsimp := false) only [go_sem, simprocAttr, hfb, hi, hw, hc, he, roomV]
    refine CodeT.ret ?_
    simp -implicitDefEqProofs (dsimp := false) only [go_sem, simprocAttr, hfb, hi, hw, hc, he, roomV]
    refine pureEnd rfl ?_
    simp -implicitDefEqProofs (dsimp := false) only [go_sem, simprocAttr, hfb, hi, hw, hc, he, roomV]
  obtain ⟨K, hR, k1, k2⟩ : ∃ K : Nat, roomV d = .tup [.val (.int .i64 (K : Nat)), er 0] ∧ 2 * K + 1 ≤ szB d - endB d ∧ szB d - endB d < 2 * (K + 1) + 1 := by
    have hne : endB d ≠ szB d := by
      intro h
      rw [h] at he
      simp at he
    refine ⟨(szB d - endB d - 1) / 2, ?_, by omega, by omega⟩
    unfold roomV
    rw [hi, hw, hc, he]
    rfl
  have a1 := app_ok d (List.replicate K x) hi hw hc (by simp only [List.length_replicate]; omega)
  have a2 := app_no d (List.replicate K x ++ [x]) hi hw hc (by simp only [List.length_append, List.length_replicate, List.length_singleton]; omega)
  have k3 : K ≤ 999999 := by omega
  clear he k1 k2
  refine CallT.intro Try.func6 (by decide) rfl ?_
  simp -implicitDefEqProofs (dsimp := false) only [go_sem, simprocAttr, hfb, hi, hw, hc, List.take_replicate, Nat.sub_self, List.replicate_zero, List.append_nil, Nat.min_self, take_snoc, enterTm, Try.ntmps6, List.range'_succ, List.range'_zero, List.zip_cons_cons, List.zip_nil_left]
  refine CodeT.seqR ?_
  simp -implicitDefEqProofs (dsimp := false) only [go_sem, simprocAttr, hfb, hi, hw, hc, List.take_replicate, Nat.sub_self, List.replicate_zero, List.append_nil, Nat.min_self, take_snoc]
  refine CodeT.freeze 2 ?_
  simp -implicitDefEqProofs (dsimp := false) only [go_sem, simprocAttr, hfb, hi, hw, hc, List.take_replicate, Nat.sub_self, List.replicate_zero, List.append_nil, Nat.min_self, take_snoc]
  refine CodeT.seqR ?_
  simp -implicitDefEqProofs (dsimp := false) only [go_sem, simprocAttr, hfb, hi, hw, hc, List.take_replicate, Nat.sub_self, List.replicate_zero, List.append_nil, Nat.min_self, take_snoc]
  refine PureT.eq (c12) rfl ?_
  simp -implicitDefEqProofs (dsimp := false) only [go_sem, simprocAttr, hfb, hi, hw, hc, List.take_replicate, Nat.sub_self, List.replicate_zero, List.append_nil, Nat.min_self, take_snoc]
  refine CodeT.seq ?_
  refine CodeT.seqR ?_
  simp -implicitDefEqProofs (dsimp := false) only [go_sem, simprocAttr, hfb, hi, hw, hc, List.take_replicate, Nat.sub_self, List.replicate_zero, List.append_nil, Nat.min_self, take_snoc]
  refine PureT.eq (c15 _) rfl ?_
  simp -implicitDefEqProofs (dsimp := false) only [go_sem, simprocAttr, hfb, hi, hw, hc, List.take_replicate, Nat.sub_self, List.replicate_zero, List.append_nil, Nat.min_self, take_snoc]
  refine CodeT.condF rfl ?_
  refine CodeT.skip ?_
  simp -implicitDefEqProofs (dsimp := false) only [go_sem, simprocAttr, hfb, hi, hw, hc, List.take_replicate, Nat.sub_self, List.replicate_zero, List.append_nil, Nat.min_self, take_snoc]
  refine CodeT.seqR ?_
  simp -implicitDefEqProofs (dsimp := false) only [go_sem, simprocAttr, hfb, hi, hw, hc, List.take_replicate, Nat.sub_self, List.replicate_zero, List.append_nil, Nat.min_self, take_snoc]
  refine PureT.eq (c24k d hf _ hR) rfl ?_
  simp -implicitDefEqProofs (dsimp := false) only [go_sem, simprocAttr, hfb, hi, hw, hc, List.take_replicate, Nat.sub_self, List.replicate_zero, List.append_nil, Nat.min_self, take_snoc]
  refine CodeT.seq ?_
  refine CodeT.seqR ?_
  simp -implicitDefEqProofs (dsimp := false) only [go_sem, simprocAttr, hfb, hi, hw, hc, List.take_replicate, Nat.sub_self, List.replicate_zero, List.append_nil, Nat.min_self, take_snoc]
  refine CodeT.condF rfl ?_
  refine CodeT.skip ?_
  simp -implicitDefEqProofs (dsimp := false) only [go_sem, simprocAttr, hfb, hi, hw, hc, List.take_replicate, Nat.sub_self, List.replicate_zero, List.append_nil, Nat.min_self, take_snoc]
  refine CodeT.seqR ?_
  simp -implicitDefEqProofs (dsimp := false) only [go_sem, simprocAttr, hfb, hi, hw, hc, List.take_replicate, Nat.sub_self, List.replicate_zero, List.append_nil, Nat.min_self, take_snoc]
  refine And.intro (by omega) ?_
  refine And.intro (by omega) ?_
  refine And.intro (by omega) ?_
  refine CodeT.seq ?_
  refine CodeT.seqR ?_
  simp -implicitDefEqProofs (dsimp := false) only [go_sem, simprocAttr, hfb, hi, hw, hc, List.take_replicate, Nat.sub_self, List.replicate_zero, List.append_nil, Nat.min_self, take_snoc]
  refine CodeT.block ?_
  refine CodeT.whileS (fun i : Nat => [(11, .val (.int .i64 (i : Nat)))]) [10, 6, 5, 2, 1] (fun i : Nat => [.dead, .row true 0 1 (bs (List.replicate i x ++ List.replicate (K - i) 0))]) (fun i : Nat => i ≤ K) (fun i : Nat => K - i) (0) ?_ rfl ?_ ?_
  omega
  refine ⟨rfl, ?_, ?_, rfl, ?_⟩
  simp -implicitDefEqProofs (dsimp := false) only [go_sem, simprocAttr, hfb, hi, hw, hc, List.take_replicate, Nat.sub_self, List.replicate_zero, List.append_nil, Nat.min_self, take_snoc, or_true, true_or, false_or, or_false, implies_true, Int.natCast_add, Int.cast_ofNat_Int, keepsD_nil]
  trivial
  simp -implicitDefEqProofs (dsimp := false) only [go_sem, simprocAttr, hfb, hi, hw, hc, List.take_replicate, Nat.sub_self, List.replicate_zero, List.append_nil, Nat.min_self, take_snoc, or_true, true_or, false_or, or_false, implies_true, Int.natCast_add, Int.cast_ofNat_Int, keepsD_nil]
  trivial
  simp -implicitDefEqProofs (dsimp := false) only [go_sem, simprocAttr, hfb, hi, hw, hc, List.take_replicate, Nat.sub_self, List.replicate_zero, List.append_nil, Nat.min_self, take_snoc, or_true, true_or, false_or, or_false, implies_true, Int.natCast_add, Int.cast_ofNat_Int, keepsD_nil]
  rintro i hx
  simp -implicitDefEqProofs (dsimp := false) only [go_sem, simprocAttr, hfb, hi, hw, hc, List.take_replicate, Nat.sub_self, List.replicate_zero, List.append_nil, Nat.min_self, take_snoc]
  refine CodeT.seq ?_
  refine CodeT.seqR ?_
  simp -implicitDefEqProofs (dsimp := false) only [go_sem, simprocAttr, hfb, hi, hw, hc, List.take_replicate, Nat.sub_self, List.replicate_zero, List.append_nil, Nat.min_self, take_snoc]
  refine CodeT.cond rfl (fun g4 => ?_) (fun g4 => ?_)
  have d4 := ofDec g4
  refine CodeT.skip ?_
  simp -implicitDefEqProofs (dsimp := false) only [go_sem, simprocAttr, hfb, hi, hw, hc, List.take_replicate, Nat.sub_self, List.replicate_zero, List.append_nil, Nat.min_self, take_snoc, g4]
  refine CodeT.seq (CodeT.block ?_)
  refine CodeT.region ?_
  simp -implicitDefEqProofs (dsimp := false) only [go_sem, simprocAttr, hfb, hi, hw, hc, List.take_replicate, Nat.sub_self, List.replicate_zero, List.append_nil, Nat.min_self, take_snoc, g4]
  refine And.intro (by omega) ?_
  refine And.intro (by assumption) ?_
  refine And.intro (by omega) ?_
  refine And.intro (by omega) ?_
  refine CodeT.region ?_
  simp -implicitDefEqProofs (dsimp := false) only [go_sem, simprocAttr, hfb, hi, hw, hc, List.take_replicate, Nat.sub_self, List.replicate_zero, List.append_nil, Nat.min_self, take_snoc, g4]
  simp -implicitDefEqProofs (dsimp := false) (disch := omega) only [i64_in, bs_getD, opvs_getD, is64_getD, bss_getD]
  refine ⟨i + 1, ?_⟩
  refine And.intro ?_ ?_
  omega
  refine And.intro ?_ ?_
  omega
  refine ⟨rfl, ?_, ?_, rfl, ?_⟩
  simp -implicitDefEqProofs (dsimp := false) only [go_sem, simprocAttr, hfb, hi, hw, hc, List.take_replicate, Nat.sub_self, List.replicate_zero, List.append_nil, Nat.min_self, take_snoc, g4, or_true, true_or, false_or, or_false, implies_true, Int.natCast_add, Int.cast_ofNat_Int, keepsD_nil]
  trivial
  simp -implicitDefEqProofs (dsimp := false) only [go_sem, simprocAttr, hfb, hi, hw, hc, List.take_replicate, Nat.sub_self, List.replicate_zero, List.append_nil, Nat.min_self, take_snoc, g4, or_true, true_or, false_or, or_false, implies_true, Int.natCast_add, Int.cast_ofNat_Int, keepsD_nil]
  rotate_left
  simp -implicitDefEqProofs (dsimp := false) only [go_sem, simprocAttr, hfb, hi, hw, hc, List.take_replicate, Nat.sub_self, List.replicate_zero, List.append_nil, Nat.min_self, take_snoc, g4, or_true, true_or, false_or, or_false, implies_true, Int.natCast_add, Int.cast_ofNat_Int, keepsD_nil]
  have d4 := ofDecF g4
  refine CodeT.exit ?_
  simp -implicitDefEqProofs (dsimp := false) only [go_sem, simprocAttr, hfb, hi, hw, hc, List.take_replicate, Nat.sub_self, List.replicate_zero, List.append_nil, Nat.min_self, take_snoc, g4]
  obtain rfl : i = K := by omega
  simp -implicitDefEqProofs (dsimp := false) only [go_sem, simprocAttr, hfb, hi, hw, hc, List.take_replicate, Nat.sub_self, List.replicate_zero, List.append_nil, Nat.min_self, take_snoc, g4]
  refine CodeT.seqR ?_
  simp -implicitDefEqProofs (dsimp := false) only [go_sem, simprocAttr, hfb, hi, hw, hc, List.take_replicate, Nat.sub_self, List.replicate_zero, List.append_nil, Nat.min_self, take_snoc, g4]
  refine CallT.args ⟨_, Try.func25, by decide, rfl⟩ ?_
  simp -implicitDefEqProofs (dsimp := false) only [go_sem, simprocAttr, hfb, hi, hw, hc, List.take_replicate, Nat.sub_self, List.replicate_zero, List.append_nil, Nat.min_self, take_snoc, g4]
  refine And.intro (by assumption) ?_
  refine PureT.eq (c25k d hf _ ?_ a1) rfl ?_
  rotate_left
  simp -implicitDefEqProofs (dsimp := false) only [go_sem, simprocAttr, hfb, hi, hw, hc, List.take_replicate, Nat.sub_self, List.replicate_zero, List.append_nil, Nat.min_self, take_snoc, g4]
  refine CodeT.seqD [(1, .free), (2, .free), (0, .read), (3, .upd), (4, .upd), (5, .upd), (6, .free), (7, .free), (8, .free), (9, .free), (10, .free)] mixed (by kernel_rfl) ?_
  simp -implicitDefEqProofs (dsimp := false) only [go_sem, simprocAttr, hfb, hi, hw, hc, List.take_replicate, Nat.sub_self, List.replicate_zero, List.append_nil, Nat.min_self, take_snoc, g4]
  refine And.intro (by trivial) ?_
  refine And.intro (by exact Stable.refl _) ?_
  refine And.intro (by exact uni_bs [_]) ?_
  refine And.intro (by omega) ?_
  refine And.intro (by exact Stable.same (Stable.row (Stable.refl _))) ?_
  refine ⟨⟨_, Try.func25, by decide, rfl⟩, Or.inl ?_⟩
  simp -implicitDefEqProofs (dsimp := false) only [go_sem, simprocAttr, hfb, hi, hw, hc, List.take_replicate, Nat.sub_self, List.replicate_zero, List.append_nil, Nat.min_self, take_snoc, g4]
  refine And.intro (by assumption) ?_
  refine CallY.pure (c25k d hf _ ?_ a2) rfl ?_
  rotate_left
  simp -implicitDefEqProofs (dsimp := false) only [go_sem, simprocAttr, hfb, hi, hw, hc, List.take_replicate, Nat.sub_self, List.replicate_zero, List.append_nil, Nat.min_self, take_snoc, g4]
  refine And.intro (by exact Stable.refl _) ?_
  refine CodeT.seqR ?_
  simp -implicitDefEqProofs (dsimp := false) only [go_sem, simprocAttr, hfb, hi, hw, hc, List.take_replicate, Nat.sub_self, List.replicate_zero, List.append_nil, Nat.min_self, take_snoc, g4]
  refine gif_i (fun g7 => ?_) (fun g7 => ?_)
  have d7 := ofDec g7
  simp -implicitDefEqProofs (dsimp := false) only [go_sem, simprocAttr, hfb, hi, hw, hc, List.take_replicate, Nat.sub_self, List.replicate_zero, List.append_nil, Nat.min_self, take_snoc, g4, g7]
  refine CodeT.ret ?_
  simp -implicitDefEqProofs (dsimp := false) only [go_sem, simprocAttr, hfb, hi, hw, hc, List.take_replicate, Nat.sub_self, List.replicate_zero, List.append_nil, Nat.min_self, take_snoc, g4, g7]
  refine pureEnd rfl ?_
  simp -implicitDefEqProofs (dsimp := false) only [go_sem, simprocAttr, hfb, hi, hw, hc, List.take_replicate, Nat.sub_self, List.replicate_zero, List.append_nil, Nat.min_self, take_snoc, g4, g7]
  have d7 := ofDecF g7
  (exfalso; omega)
  · rw [fill_set K i x (by omega)]
  · simp only [List.length_replicate]; omega
  · rw [List.length_append, List.length_replicate, List.length_singleton]; omega
end Go.Proofs.Try

namespace Go.Proofs.Try
set_option linter.unusedSimpArgs false
set_option linter.unusedVariables false
open Go.PM
set_option maxHeartbeats 4000000
set_option maxRecDepth 100000

deriving instance DecidableEq for DOp
deriving instance DecidableEq for Dsk

theorem ls_len {α : Type} [BEq α] [LawfulBEq α] {a b : List α} (h : (a.length : Int) ≠ b.length) : (a == b) = false := beq_eq_false_iff_ne.2 fun e => h (by rw [e])
theorem ls_at {α : Type} [BEq α] [LawfulBEq α] {a b : List α} (i : Nat) (x : α) (h : a.getD i x ≠ b.getD i x) : (a == b) = false := beq_eq_false_iff_ne.2 fun e => h (by rw [e])
theorem ls_succ {α : Type} {a b : List α} {i : Nat} (x : α) (h : a.take i = b.take i) (ha : i < a.length) (hb : i < b.length) (he : a.getD i x = b.getD i x) : a.take (i + 1) = b.take (i + 1) := by
  rw [List.take_add_one, List.take_add_one, h]
  congr 1
  rw [List.getD_eq_getElem?_getD, List.getD_eq_getElem?_getD, List.getElem?_eq_getElem ha, List.getElem?_eq_getElem hb] at he
  rw [List.getElem?_eq_getElem ha, List.getElem?_eq_getElem hb]
  simpa using he
theorem ls_all {α : Type} [BEq α] [LawfulBEq α] {a b : List α} {i : Nat} (hl : (a.length : Int) = b.length) (h : a.take i = b.take i) (hi : ¬ (i : Int) < a.length) : (a == b) = true := by
  rw [List.take_of_length_le (by omega), List.take_of_length_le (by omega)] at h
  rw [h]
  simp
theorem c23 (a b : List (List UInt8)) (ha : a.length ≤ 4000000) : PureT Try.prog 23 [.sl false (bss a), .sl false (bss b)] (· = .val (.bool (a == b))) := by
  refine CallT.intro Try.func23 (by decide) rfl ?_
  simp -implicitDefEqProofs (dsimp := false) only [go_sem, simprocAttr, strOf_bs, strB_ne, enterTm, Try.ntmps23, List.range'_succ, List.range'_zero, List.zip_cons_cons, List.zip_nil_left]
  refine CodeT.seqR ?_
  simp -implicitDefEqProofs (dsimp := false) only [go_sem, simprocAttr, strOf_bs, strB_ne]
  refine CodeT.seq ?_
  refine CodeT.seqR ?_
  simp -implicitDefEqProofs (dsimp := false) only [go_sem, simprocAttr, strOf_bs, strB_ne]
  refine CodeT.cond rfl (fun g1 => ?_) (fun g1 => ?_)
  have d1 := ofBne g1
  refine CodeT.seqR ?_
  simp -implicitDefEqProofs (dsimp := false) only [go_sem, simprocAttr, strOf_bs, strB_ne, g1]
  refine CodeT.ret ?_
  simp -implicitDefEqProofs (dsimp := false) only [go_sem, simprocAttr, strOf_bs, strB_ne, g1]
  refine pureEnd rfl ?_
  rotate_left
  have d1 := ofBneF g1
  refine CodeT.skip ?_
  simp -implicitDefEqProofs (dsimp := false) only [go_sem, simprocAttr, strOf_bs, strB_ne, g1]
  refine CodeT.seq ?_
  refine CodeT.seqR ?_
  simp -implicitDefEqProofs (dsimp := false) only [go_sem, simprocAttr, strOf_bs, strB_ne, g1]
  refine CodeT.block ?_
  refine CodeT.whileS (fun i : Nat => [(5, .val (.int .i64 (i : Nat)))]) [0, 1] (fun i : Nat => []) (fun i : Nat => i ≤ a.length ∧ a.take i = b.take i) (fun i : Nat => a.length - i) (0) ?_ rfl ?_ ?_
  simp -implicitDefEqProofs (dsimp := false) only [go_sem, simprocAttr, strOf_bs, strB_ne, g1]
  omega
  refine ⟨rfl, ?_, ?_, rfl, ?_⟩
  simp -implicitDefEqProofs (dsimp := false) only [go_sem, simprocAttr, strOf_bs, strB_ne, g1, or_true, true_or, false_or, or_false, implies_true, Int.natCast_add, Int.cast_ofNat_Int, keepsD_nil]
  simp -implicitDefEqProofs (dsimp := false) only [go_sem, simprocAttr, strOf_bs, strB_ne, g1, or_true, true_or, false_or, or_false, implies_true, Int.natCast_add, Int.cast_ofNat_Int, keepsD_nil]
  simp -implicitDefEqProofs (dsimp := false) only [go_sem, simprocAttr, strOf_bs, strB_ne, g1, or_true, true_or, false_or, or_false, implies_true, Int.natCast_add, Int.cast_ofNat_Int, keepsD_nil]
  rintro i hi
  obtain ⟨f1, f2⟩ := hi
  simp -implicitDefEqProofs (dsimp := false) only [go_sem, simprocAttr, strOf_bs, strB_ne, g1]
  refine CodeT.seq ?_
  refine CodeT.seqR ?_
  simp -implicitDefEqProofs (dsimp := false) only [go_sem, simprocAttr, strOf_bs, strB_ne, g1]
  refine CodeT.cond rfl (fun g2 => ?_) (fun g2 => ?_)
  have d2 := ofDec g2
  refine CodeT.skip ?_
  simp -implicitDefEqProofs (dsimp := false) only [go_sem, simprocAttr, strOf_bs, strB_ne, g1, g2]
  refine CodeT.seq (CodeT.block ?_)
  refine CodeT.seqD [(0, .free), (1, .free), (5, .free), (6, .free), (2, .read), (3, .read), (4, .free), (7, .read), (8, .read), (9, .free), (10, .free)] mixed (by kernel_rfl) ?_
  simp -implicitDefEqProofs (dsimp := false) only [go_sem, simprocAttr, strOf_bs, strB_ne, g1, g2]
  refine gate_i ?_ ?_
  omega
  simp -implicitDefEqProofs (dsimp := false) (disch := omega) only [Int.toNat_natCast, i64_in, bs_getD, opvs_getD, is64_getD, bss_getD]
  simp -implicitDefEqProofs (dsimp := false) only [go_sem, simprocAttr, strOf_bs, strB_ne, g1, g2]
  refine And.intro (by exact bs_byte _) ?_
  refine gate_i ?_ ?_
  omega
  simp -implicitDefEqProofs (dsimp := false) (disch := omega) only [Int.toNat_natCast, i64_in, bs_getD, opvs_getD, is64_getD, bss_getD]
  simp -implicitDefEqProofs (dsimp := false) only [go_sem, simprocAttr, strOf_bs, strB_ne, g1, g2]
  refine And.intro (by exact bs_byte _) ?_
  refine CodeT.cond rfl (fun g3 => ?_) (fun g3 => ?_)
  refine CodeT.seqR ?_
  simp -implicitDefEqProofs (dsimp := false) only [go_sem, simprocAttr, strOf_bs, strB_ne, g1, g2, g3]
  refine CodeT.ret ?_
  simp -implicitDefEqProofs (dsimp := false) only [go_sem, simprocAttr, strOf_bs, strB_ne, g1, g2, g3]
  refine pureEnd rfl ?_
  rotate_left
  refine CodeT.skip ?_
  simp -implicitDefEqProofs (dsimp := false) only [go_sem, simprocAttr, strOf_bs, strB_ne, g1, g2, g3]
  refine CodeT.region ?_
  simp -implicitDefEqProofs (dsimp := false) only [go_sem, simprocAttr, strOf_bs, strB_ne, g1, g2, g3]
  simp -implicitDefEqProofs (dsimp := false) (disch := omega) only [i64_in, bs_getD, opvs_getD, is64_getD, bss_getD]
  refine ⟨i + 1, ?_⟩
  refine And.intro ?_ ?_
  refine And.intro ?_ ?_
  omega
  rotate_left
  refine And.intro ?_ ?_
  omega
  refine ⟨rfl, ?_, ?_, rfl, ?_⟩
  simp -implicitDefEqProofs (dsimp := false) only [go_sem, simprocAttr, strOf_bs, strB_ne, g1, g2, g3, or_true, true_or, false_or, or_false, implies_true, Int.natCast_add, Int.cast_ofNat_Int, keepsD_nil]
  simp -implicitDefEqProofs (dsimp := false) only [go_sem, simprocAttr, strOf_bs, strB_ne, g1, g2, g3, or_true, true_or, false_or, or_false, implies_true, Int.natCast_add, Int.cast_ofNat_Int, keepsD_nil]
  simp -implicitDefEqProofs (dsimp := false) only [go_sem, simprocAttr, strOf_bs, strB_ne, g1, g2, g3, or_true, true_or, false_or, or_false, implies_true, Int.natCast_add, Int.cast_ofNat_Int, keepsD_nil]
  have d2 := ofDecF g2
  refine CodeT.exit ?_
  simp -implicitDefEqProofs (dsimp := false) only [go_sem, simprocAttr, strOf_bs, strB_ne, g1, g2]
  refine CodeT.seqR ?_
  simp -implicitDefEqProofs (dsimp := false) only [go_sem, simprocAttr, strOf_bs, strB_ne, g1, g2]
  refine CodeT.ret ?_
  simp -implicitDefEqProofs (dsimp := false) only [go_sem, simprocAttr, strOf_bs, strB_ne, g1, g2]
  refine pureEnd rfl ?_
  rotate_left
  · rw [ls_len d1]
  · rw [ls_at i [] (by simpa using g3)]
  · exact ls_succ [] f2 (by omega) (by omega) (by simpa using g3)
  · rw [ls_all d1 f2 d2]
theorem op_ext {x y : DOp} (h1 : (!x.flush == y.flush) = false) (h2 : (x.at_ != y.at_) = false) (h3 : (!x.bytes == y.bytes) = false) : x = y := by
  obtain ⟨a, b, c⟩ := x
  obtain ⟨a', b', c'⟩ := y
  simp at h1 h2 h3
  rw [h1, h2, h3]
theorem c31 (a b : List DOp) (ha : a.length ≤ 4000000) : PureT Try.prog 31 [.sl false (opvs a), .sl false (opvs b)] (· = .val (.bool (a == b))) := by
  refine CallT.intro Try.func31 (by decide) rfl ?_
  simp -implicitDefEqProofs (dsimp := false) only [go_sem, simprocAttr, strOf_bs, strB_ne, enterTm, Try.ntmps31, List.range'_succ, List.range'_zero, List.zip_cons_cons, List.zip_nil_left]
  refine CodeT.seqR ?_
  simp -implicitDefEqProofs (dsimp := false) only [go_sem, simprocAttr, strOf_bs, strB_ne]
  refine CodeT.seq ?_
  refine CodeT.seqR ?_
  simp -implicitDefEqProofs (dsimp := false) only [go_sem, simprocAttr, strOf_bs, strB_ne]
  refine CodeT.cond rfl (fun g1 => ?_) (fun g1 => ?_)
  have d1 := ofBne g1
  refine CodeT.seqR ?_
  simp -implicitDefEqProofs (dsimp := false) only [go_sem, simprocAttr, strOf_bs, strB_ne, g1]
  refine CodeT.ret ?_
  simp -implicitDefEqProofs (dsimp := false) only [go_sem, simprocAttr, strOf_bs, strB_ne, g1]
  refine pureEnd rfl ?_
  rotate_left
  have d1 := ofBneF g1
  refine CodeT.skip ?_
  simp -implicitDefEqProofs (dsimp := false) only [go_sem, simprocAttr, strOf_bs, strB_ne, g1]
  refine CodeT.seq ?_
  refine CodeT.seqR ?_
  simp -implicitDefEqProofs (dsimp := false) only [go_sem, simprocAttr, strOf_bs, strB_ne, g1]
  refine CodeT.block ?_
  refine CodeT.whileS (fun i : Nat => [(5, .val (.int .i64 (i : Nat)))]) [0, 1] (fun i : Nat => []) (fun i : Nat => i ≤ a.length ∧ a.take i = b.take i) (fun i : Nat => a.length - i) (0) ?_ rfl ?_ ?_
  simp -implicitDefEqProofs (dsimp := false) only [go_sem, simprocAttr, strOf_bs, strB_ne, g1]
  omega
  refine ⟨rfl, ?_, ?_, rfl, ?_⟩
  simp -implicitDefEqProofs (dsimp := false) only [go_sem, simprocAttr, strOf_bs, strB_ne, g1, or_true, true_or, false_or, or_false, implies_true, Int.natCast_add, Int.cast_ofNat_Int, keepsD_nil]
  simp -implicitDefEqProofs (dsimp := false) only [go_sem, simprocAttr, strOf_bs, strB_ne, g1, or_true, true_or, false_or, or_false, implies_true, Int.natCast_add, Int.cast_ofNat_Int, keepsD_nil]
  simp -implicitDefEqProofs (dsimp := false) only [go_sem, simprocAttr, strOf_bs, strB_ne, g1, or_true, true_or, false_or, or_false, implies_true, Int.natCast_add, Int.cast_ofNat_Int, keepsD_nil]
  rintro i hi
  obtain ⟨f1, f2⟩ := hi
  simp -implicitDefEqProofs (dsimp := false) only [go_sem, simprocAttr, strOf_bs, strB_ne, g1]
  refine CodeT.seq ?_
  refine CodeT.seqR ?_
  simp -implicitDefEqProofs (dsimp := false) only [go_sem, simprocAttr, strOf_bs, strB_ne, g1]
  refine CodeT.cond rfl (fun g2 => ?_) (fun g2 => ?_)
  have d2 := ofDec g2
  refine CodeT.skip ?_
  simp -implicitDefEqProofs (dsimp := false) only [go_sem, simprocAttr, strOf_bs, strB_ne, g1, g2]
  refine CodeT.seq (CodeT.block ?_)
  refine CodeT.seqD [(0, .free), (1, .free), (5, .free), (6, .free), (2, .read), (3, .free), (4, .read), (7, .read), (8, .free), (9, .read), (10, .free), (11, .free), (12, .free), (13, .free), (17, .free), (18, .free), (14, .read), (15, .free), (16, .read), (19, .read), (20, .free), (21, .read), (22, .free), (23, .free), (24, .free), (25, .free), (26, .free), (31, .free), (32, .free), (27, .read), (28, .free), (29, .read), (30, .free), (33, .read), (34, .free), (35, .read), (36, .free), (37, .free), (38, .free)] mixed (by kernel_rfl) ?_
  simp -implicitDefEqProofs (dsimp := false) only [go_sem, simprocAttr, strOf_bs, strB_ne, g1, g2]
  refine gate_i ?_ ?_
  omega
  simp -implicitDefEqProofs (dsimp := false) (disch := omega) only [Int.toNat_natCast, i64_in, bs_getD, opvs_getD, is64_getD, bss_getD]
  simp -implicitDefEqProofs (dsimp := false) only [go_sem, simprocAttr, strOf_bs, strB_ne, g1, g2]
  refine gate_i ?_ ?_
  omega
  simp -implicitDefEqProofs (dsimp := false) (disch := omega) only [Int.toNat_natCast, i64_in, bs_getD, opvs_getD, is64_getD, bss_getD]
  simp -implicitDefEqProofs (dsimp := false) only [go_sem, simprocAttr, strOf_bs, strB_ne, g1, g2]
  refine gif_i (fun g3 => ?_) (fun g3 => ?_)
  simp -implicitDefEqProofs (dsimp := false) only [go_sem, simprocAttr, strOf_bs, strB_ne, g1, g2, g3]
  refine CodeT.condT rfl ?_
  refine CodeT.seqR ?_
  simp -implicitDefEqProofs (dsimp := false) only [go_sem, simprocAttr, strOf_bs, strB_ne, g1, g2, g3]
  refine CodeT.ret ?_
  simp -implicitDefEqProofs (dsimp := false) only [go_sem, simprocAttr, strOf_bs, strB_ne, g1, g2, g3]
  refine pureEnd rfl ?_
  rotate_left
  simp -implicitDefEqProofs (dsimp := false) only [go_sem, simprocAttr, strOf_bs, strB_ne, g1, g2, g3]
  refine gate_i ?_ ?_
  omega
  simp -implicitDefEqProofs (dsimp := false) (disch := omega) only [Int.toNat_natCast, i64_in, bs_getD, opvs_getD, is64_getD, bss_getD]
  simp -implicitDefEqProofs (dsimp := false) only [go_sem, simprocAttr, strOf_bs, strB_ne, g1, g2, g3]
  refine gate_i ?_ ?_
  omega
  simp -implicitDefEqProofs (dsimp := false) (disch := omega) only [Int.toNat_natCast, i64_in, bs_getD, opvs_getD, is64_getD, bss_getD]
  simp -implicitDefEqProofs (dsimp := false) only [go_sem, simprocAttr, strOf_bs, strB_ne, g1, g2, g3]
  refine gif_i (fun g4 => ?_) (fun g4 => ?_)
  have d4 := ofBne g4
  simp -implicitDefEqProofs (dsimp := false) only [go_sem, simprocAttr, strOf_bs, strB_ne, g1, g2, g3, g4]
  refine CodeT.condT rfl ?_
  refine CodeT.seqR ?_
  simp -implicitDefEqProofs (dsimp := false) only [go_sem, simprocAttr, strOf_bs, strB_ne, g1, g2, g3, g4]
  refine CodeT.ret ?_
  simp -implicitDefEqProofs (dsimp := false) only [go_sem, simprocAttr, strOf_bs, strB_ne, g1, g2, g3, g4]
  refine pureEnd rfl ?_
  rotate_left
  have d4 := ofBneF g4
  simp -implicitDefEqProofs (dsimp := false) only [go_sem, simprocAttr, strOf_bs, strB_ne, g1, g2, g3, g4]
  refine gate_i ?_ ?_
  omega
  simp -implicitDefEqProofs (dsimp := false) (disch := omega) only [Int.toNat_natCast, i64_in, bs_getD, opvs_getD, is64_getD, bss_getD]
  simp -implicitDefEqProofs (dsimp := false) only [go_sem, simprocAttr, strOf_bs, strB_ne, g1, g2, g3, g4]
  refine And.intro (by exact bs_byte _) ?_
  refine gate_i ?_ ?_
  omega
  simp -implicitDefEqProofs (dsimp := false) (disch := omega) only [Int.toNat_natCast, i64_in, bs_getD, opvs_getD, is64_getD, bss_getD]
  simp -implicitDefEqProofs (dsimp := false) only [go_sem, simprocAttr, strOf_bs, strB_ne, g1, g2, g3, g4]
  refine And.intro (by exact bs_byte _) ?_
  refine CodeT.cond rfl (fun g5 => ?_) (fun g5 => ?_)
  refine CodeT.seqR ?_
  simp -implicitDefEqProofs (dsimp := false) only [go_sem, simprocAttr, strOf_bs, strB_ne, g1, g2, g3, g4, g5]
  refine CodeT.ret ?_
  simp -implicitDefEqProofs (dsimp := false) only [go_sem, simprocAttr, strOf_bs, strB_ne, g1, g2, g3, g4, g5]
  refine pureEnd rfl ?_
  rotate_left
  refine CodeT.skip ?_
  simp -implicitDefEqProofs (dsimp := false) only [go_sem, simprocAttr, strOf_bs, strB_ne, g1, g2, g3, g4, g5]
  refine CodeT.region ?_
  simp -implicitDefEqProofs (dsimp := false) only [go_sem, simprocAttr, strOf_bs, strB_ne, g1, g2, g3, g4, g5]
  simp -implicitDefEqProofs (dsimp := false) (disch := omega) only [i64_in, bs_getD, opvs_getD, is64_getD, bss_getD]
  refine ⟨i + 1, ?_⟩
  refine And.intro ?_ ?_
  refine And.intro ?_ ?_
  omega
  rotate_left
  refine And.intro ?_ ?_
  omega
  refine ⟨rfl, ?_, ?_, rfl, ?_⟩
  simp -implicitDefEqProofs (dsimp := false) only [go_sem, simprocAttr, strOf_bs, strB_ne, g1, g2, g3, g4, g5, or_true, true_or, false_or, or_false, implies_true, Int.natCast_add, Int.cast_ofNat_Int, keepsD_nil]
  simp -implicitDefEqProofs (dsimp := false) only [go_sem, simprocAttr, strOf_bs, strB_ne, g1, g2, g3, g4, g5, or_true, true_or, false_or, or_false, implies_true, Int.natCast_add, Int.cast_ofNat_Int, keepsD_nil]
  simp -implicitDefEqProofs (dsimp := false) only [go_sem, simprocAttr, strOf_bs, strB_ne, g1, g2, g3, g4, g5, or_true, true_or, false_or, or_false, implies_true, Int.natCast_add, Int.cast_ofNat_Int, keepsD_nil]
  have d2 := ofDecF g2
  refine CodeT.exit ?_
  simp -implicitDefEqProofs (dsimp := false) only [go_sem, simprocAttr, strOf_bs, strB_ne, g1, g2]
  refine CodeT.seqR ?_
  simp -implicitDefEqProofs (dsimp := false) only [go_sem, simprocAttr, strOf_bs, strB_ne, g1, g2]
  refine CodeT.ret ?_
  simp -implicitDefEqProofs (dsimp := false) only [go_sem, simprocAttr, strOf_bs, strB_ne, g1, g2]
  refine pureEnd rfl ?_
  rotate_left
  · rw [ls_len d1]
  · rw [ls_at i op0 (fun h => by rw [h] at g3; simp at g3)]
  · rw [ls_at i op0 (fun h => by rw [h] at g4; simp at g4)]
  · rw [ls_at i op0 (fun h => by rw [h] at g5; simp at g5)]
  · exact ls_succ op0 f2 (by omega) (by omega) (op_ext g3 g4 g5)
  · rw [ls_all d1 f2 d2]
theorem dk_beq (a b : Dsk) : (a == b) = ((a.bytes == b.bytes) && (a.queue == b.queue)) := by
  rw [Bool.eq_iff_iff, Bool.and_eq_true]
  simp only [beq_iff_eq]
  obtain ⟨x, y⟩ := a
  obtain ⟨x', y'⟩ := b
  simp
theorem c19 (a b : Dsk) (ha : a.queue.length ≤ 4000000) : PureT Try.prog 19 [dkv a, dkv b] (· = .val (.bool (a == b))) := by
  refine CallT.intro Try.func19 (by decide) rfl ?_
  simp -implicitDefEqProofs (dsimp := false) only [go_sem, simprocAttr, strOf_bs, strB_ne, enterTm, Try.ntmps19, List.range'_succ, List.range'_zero, List.zip_cons_cons, List.zip_nil_left]
  refine CodeT.seqR ?_
  simp -implicitDefEqProofs (dsimp := false) only [go_sem, simprocAttr, strOf_bs, strB_ne]
  refine CodeT.seqR ?_
  simp -implicitDefEqProofs (dsimp := false) only [go_sem, simprocAttr, strOf_bs, strB_ne]
  refine And.intro (by exact bs_byte _) ?_
  refine And.intro (by exact bs_byte _) ?_
  refine gif_i (fun g1 => ?_) (fun g1 => ?_)
  simp -implicitDefEqProofs (dsimp := false) only [go_sem, simprocAttr, strOf_bs, strB_ne, g1]
  refine PureT.eq (c31 _ _ ?_) rfl ?_
  assumption
  simp -implicitDefEqProofs (dsimp := false) only [go_sem, simprocAttr, strOf_bs, strB_ne, g1]
  refine CodeT.ret ?_
  simp -implicitDefEqProofs (dsimp := false) only [go_sem, simprocAttr, strOf_bs, strB_ne, g1]
  refine pureEnd rfl ?_
  rotate_left
  simp -implicitDefEqProofs (dsimp := false) only [go_sem, simprocAttr, strOf_bs, strB_ne, g1]
  refine CodeT.ret ?_
  simp -implicitDefEqProofs (dsimp := false) only [go_sem, simprocAttr, strOf_bs, strB_ne, g1]
  refine pureEnd rfl ?_
  rotate_left
  · rw [strB_beq] at g1
    rw [dk_beq, g1, Bool.true_and]
  · rw [strB_beq] at g1
    rw [dk_beq, g1, Bool.false_and]
theorem fits_small {d : Dsk} {ops : List DOp} (h : badArg d ops = false) (hd : d.bytes.length ≤ 4000000) : ∀ o ∈ ops, o.bytes.length ≤ 4000000 := by
  intro o ho
  have := List.any_eq_false.1 h o ho
  simp [fitsB] at this
  cases hf : o.flush
  · rw [hf] at this; simp at this; omega
  · rw [hf] at this; simp at this; rw [this.2]; simp
theorem queue_small {d : Dsk} (hi : isDiskB d = true) (hd : d.bytes.length ≤ 4000000) : ∀ o ∈ d.queue, o.bytes.length ≤ 4000000 := by
  intro o ho
  obtain ⟨h1, h2, h3⟩ := isDisk_sound hi
  obtain ⟨i, hi', rfl⟩ := List.getElem_of_mem ho
  have := h2 i hi'
  rw [List.getD_eq_getElem?_getD, List.getElem?_eq_getElem hi', Option.getD_some] at this
  omega
theorem c17u (d : Dsk) (ops : List DOp) (hf : Few d) (ho : ops.length ≤ 1000000) (hq : d.queue.length ≤ 1000000) : PureT Try.prog 17 [dkv d, .sl false (opvs ops)] (· = doV d ops) := by
  have h1 := hf.b
  cases hi : isDiskB d
  · refine CallT.res (CallT.laxR ?_)
    refine CallT.intro Try.func17 (by decide) rfl ?_
    simp -implicitDefEqProofs (dsimp := false) only [go_sem, simprocAttr, hi, enterTm, Try.ntmps17, List.range'_succ, List.range'_zero, List.zip_cons_cons, List.zip_nil_left]
    refine CodeT.seqR ?_
    simp -implicitDefEqProofs (dsimp := false) only [go_sem, simprocAttr, hi]
    refine CodeT.seq ?_
    refine CodeT.seqR ?_
    simp -implicitDefEqProofs (dsimp := false) only [go_sem, simprocAttr, hi]
    refine PureT.eq (c51 _ ?_ ?_) rfl ?_
    assumption
    omega
    simp -implicitDefEqProofs (dsimp := false) only [go_sem, simprocAttr, hi]
    refine CodeT.condT rfl ?_
    refine CodeT.seqR ?_
    simp -implicitDefEqProofs (dsimp := false) only [go_sem, simprocAttr, hi]
    refine CodeT.ret ?_
    simp -implicitDefEqProofs (dsimp := false) only [go_sem, simprocAttr, hi]
    refine pureEnd rfl ?_
    rotate_left
    simp only [doV, hi, Bool.not_false, ↓reduceIte]; rfl
  cases hbad : badArg d ops
  case true =>
    refine CallT.res (CallT.laxR ?_)
    refine CallT.intro Try.func17 (by decide) rfl ?_
    simp -implicitDefEqProofs (dsimp := false) only [go_sem, simprocAttr, hi, hbad, enterTm, Try.ntmps17, List.range'_succ, List.range'_zero, List.zip_cons_cons, List.zip_nil_left]
    refine CodeT.seqR ?_
    simp -implicitDefEqProofs (dsimp := false) only [go_sem, simprocAttr, hi, hbad]
    refine CodeT.seq ?_
    refine CodeT.freeze 2 ?_
    simp -implicitDefEqProofs (dsimp := false) only [go_sem, simprocAttr, hi, hbad]
    refine CodeT.seqR ?_
    simp -implicitDefEqProofs (dsimp := false) only [go_sem, simprocAttr, hi, hbad]
    refine PureT.eq (c51 _ ?_ ?_) rfl ?_
    assumption
    omega
    simp -implicitDefEqProofs (dsimp := false) only [go_sem, simprocAttr, hi, hbad]
    refine CodeT.condF rfl ?_
    refine CodeT.skip ?_
    simp -implicitDefEqProofs (dsimp := false) only [go_sem, simprocAttr, hi, hbad]
    refine CodeT.seq ?_
    refine CodeT.seqR ?_
    simp -implicitDefEqProofs (dsimp := false) only [go_sem, simprocAttr, hi, hbad]
    refine PureT.eq (c52s _ _ ?_ ?_) rfl ?_
    assumption
    omega
    simp -implicitDefEqProofs (dsimp := false) only [go_sem, simprocAttr, hi, hbad]
    refine CodeT.condT rfl ?_
    refine CodeT.seqR ?_
    simp -implicitDefEqProofs (dsimp := false) only [go_sem, simprocAttr, hi, hbad]
    refine CodeT.ret ?_
    simp -implicitDefEqProofs (dsimp := false) only [go_sem, simprocAttr, hi, hbad]
    refine pureEnd rfl ?_
    rotate_left
    simp only [doV, hi, hbad, Bool.not_true, Bool.false_eq_true, ↓reduceIte]; rfl
  exact c17 d ops hf ho hq (fits_small hbad h1) (queue_small hi h1)
end Go.Proofs.Try

namespace Go.Proofs.Try
set_option linter.unusedSimpArgs false
set_option linter.unusedVariables false
open Go.PM

/-- Where records end that stand one behind the other. -/
def ends : List (List UInt8) → Nat → List (List UInt8 × Nat)
  | [], _ => []
  | p :: r, a => (p, a + (frame p).length) :: ends r (a + (frame p).length)
theorem frames_nil : frames [] = [] := rfl
theorem frames_cons (p : List UInt8) (r : List (List UInt8)) : frames (p :: r) = frame p ++ frames r := rfl
theorem frames_append (l r : List (List UInt8)) : frames (l ++ r) = frames l ++ frames r := by simp [frames]
theorem recs_of : ∀ (R : List (List UInt8)) (f : Nat) (t : List UInt8) (a : Nat), scan1 t = none → R.length < f → recs f (frames R ++ t) a = ends R a
  | [], f, t, a, h, hf => by rw [frames_nil, List.nil_append, recs_none h]; rfl
  | p :: R, 0, t, a, h, hf => by simp at hf
  | p :: R, f + 1, t, a, h, hf => by
    rw [frames_cons, List.append_assoc]
    simp only [recs, scan_frame, ends]
    rw [← frame_len, List.drop_left, recs_of R f t _ h (by simpa using hf)]
theorem ends_fst : ∀ (R : List (List UInt8)) (a : Nat), (ends R a).map (·.1) = R
  | [], a => rfl
  | p :: R, a => by rw [ends, List.map_cons, ends_fst R]
theorem endAt_ends : ∀ (R : List (List UInt8)) (a : Nat), R ≠ [] → endAt (ends R a) = a + (frames R).length
  | [], a, h => absurd rfl h
  | [p], a, h => by simp [ends, endAt, frames]
  | p :: q :: R, a, h => by
    rw [ends, endAt_cons, if_neg (by simp [ends]), endAt_ends (q :: R) _ (by simp), frames_cons p, List.length_append]
    omega
theorem frames_len_ge : ∀ R : List (List UInt8), R.length ≤ (frames R).length
  | [] => Nat.le_refl _
  | p :: R => by
    have := frames_len_ge R
    rw [frames_cons, List.length_append, frame_len]
    simp; omega
theorem parse_of (R : List (List UInt8)) (t : List UInt8) (h : scan1 t = none) : parseR (frames R ++ t) = R ∧ parseE (frames R ++ t) = (frames R).length := by
  have := frames_len_ge R
  unfold parseR parseE parseAll
  rw [recs_of R _ t 0 h (by rw [List.length_append]; omega), ends_fst]
  refine ⟨rfl, ?_⟩
  by_cases hr : R = []
  · subst hr; rfl
  · rw [endAt_ends R 0 hr]; omega
theorem scan_zs : ∀ n, scan1 (zs n) = none
  | 0 => rfl
  | 1 => rfl
  | n + 2 => by
    show scan1 (0 :: 0 :: List.replicate n 0) = none
    simp only [scan1]
    rfl
/-- The same records, with zeros behind. -/
theorem parse_zs (b : List UInt8) (k : Nat) : parseR (b.take (parseE b) ++ zs k) = parseR b ∧ parseE (b.take (parseE b) ++ zs k) = parseE b := by
  rw [← parse_frames]
  obtain ⟨h1, h2⟩ := parse_of (parseR b) (zs k) (scan_zs k)
  refine ⟨h1, h2.trans ?_⟩
  rw [parse_frames, List.length_take]
  have := parseE_le b
  omega

theorem seen_nil (b : List UInt8) : seenB ⟨b, []⟩ = b := rfl
theorem isDisk_nil {d : Dsk} (hi : isDiskB d = true) {b : List UInt8} (hb : b.length = d.bytes.length) : isDiskB ⟨b, []⟩ = true := by
  have := (isDisk_sound hi).1
  simp [isDiskB, hb, this]
theorem zeros_iff (l : List UInt8) : zerosB l = true ↔ l = zs l.length := by
  unfold zerosB zs
  constructor
  · intro h
    rw [List.eq_replicate_iff]
    refine ⟨rfl, fun x hx => ?_⟩
    simp at h
    exact h x hx
  · intro h
    rw [h]
    simp
theorem zeros_zs (n : Nat) : zerosB (zs n) = true := (zeros_iff _).2 (by simp [zs])

/-- A disk without writes that wait, whose half in use is that of another one with zeros behind its records. -/
structure Settled (d : Dsk) (b : List UInt8) : Prop where
  l : b.length = d.bytes.length
  h : halfAt b = halfB d
  u : (b.drop (halfB d)).take (szB d) = (useB d).take (endB d) ++ zs (szB d - endB d)
theorem settled_facts {d : Dsk} (hi : isDiskB d = true) {b : List UInt8} (s : Settled d b) : isDiskB ⟨b, []⟩ = true ∧ szB ⟨b, []⟩ = szB d ∧ halfB ⟨b, []⟩ = halfB d ∧ useB ⟨b, []⟩ = (useB d).take (endB d) ++ zs (szB d - endB d) ∧ parseR (useB ⟨b, []⟩) = parseR (useB d) ∧ endB ⟨b, []⟩ = endB d := by
  have hu : useB ⟨b, []⟩ = (useB d).take (endB d) ++ zs (szB d - endB d) := by
    rw [← s.u]
    show ((b.drop (halfAt b)).take (b.length / 2)) = _
    rw [s.h, s.l]; rfl
  have hp := parse_zs (useB d) (szB d - endB d)
  refine ⟨isDisk_nil hi s.l, by unfold szB; rw [s.l], s.h, hu, ?_, ?_⟩
  · rw [hu]; exact hp.1
  · show parseE (useB ⟨b, []⟩) = _
    rw [hu]; exact hp.2
theorem settled_wr {d : Dsk} (hi : isDiskB d = true) {b : List UInt8} (s : Settled d b) : wrB ⟨b, []⟩ = wrB d := by
  obtain ⟨h1, h2, h3, h4, h5, h6⟩ := settled_facts hi s
  rw [wrB_eq, wrB_eq, h5]
theorem settled_tail {d : Dsk} (hi : isDiskB d = true) {b : List UInt8} (s : Settled d b) : (useB ⟨b, []⟩).drop (endB d) = zs (szB d - endB d) := by
  obtain ⟨h1, h2, h3, h4, h5, h6⟩ := settled_facts hi s
  have := disk_facts hi
  rw [h4, List.drop_append_of_le_length (by rw [List.length_take]; omega), List.drop_take]
  simp
theorem settled_cl {d : Dsk} (hi : isDiskB d = true) {b : List UInt8} (s : Settled d b) : clB ⟨b, []⟩ = true := by
  obtain ⟨h1, h2, h3, h4, h5, h6⟩ := settled_facts hi s
  have ht := settled_tail hi s
  have hz : zerosB ((useB ⟨b, []⟩).drop (endB ⟨b, []⟩)) = true := by rw [h6, ht]; exact zeros_zs _
  have ho : oldB ⟨b, []⟩ (halfAt (seenB ⟨b, []⟩)) = useB ⟨b, []⟩ := rfl
  unfold clB cleanB
  rw [ho]
  show (if (!zerosB ((useB ⟨b, []⟩).drop (endB ⟨b, []⟩))) = true then false else if (((halfAt b : Nat) : Int) != ((halfAt b : Nat) : Int)) = true then false else zerosB ((useB ⟨b, []⟩).drop (endB ⟨b, []⟩))) = true
  rw [hz]
  simp
theorem settled_read {d : Dsk} (hi : isDiskB d = true) {b : List UInt8} (s : Settled d b) : readV ⟨b, []⟩ = readV d := by
  obtain ⟨h1, h2, h3, h4, h5, h6⟩ := settled_facts hi s
  unfold readV
  rw [h1, hi, settled_wr hi s, h5]
theorem settled_open {d : Dsk} (hi : isDiskB d = true) (hw : wrB d = true) {b : List UInt8} (s : Settled d b) : openV ⟨b, []⟩ = .tup [.sl false [], er 0] := by
  obtain ⟨h1, h2, h3, h4, h5, h6⟩ := settled_facts hi s
  unfold openV
  rw [h1, settled_wr hi s, hw, h6, settled_tail hi s, zeros_zs]
  simp
theorem settled_check {d : Dsk} (hi : isDiskB d = true) (hw : wrB d = true) {b : List UInt8} (s : Settled d b) : checkV ⟨b, []⟩ = .tup [.val (.bool true), .val (.bool true), er 0] := by
  obtain ⟨h1, h2, h3, h4, h5, h6⟩ := settled_facts hi s
  unfold checkV
  rw [h1, settled_wr hi s, hw, settled_cl hi s]
  simp

theorem seen_one (b : List UInt8) (o : DOp) : seenB ⟨b, [o]⟩ = putB b o.at_.toNat o.bytes := by
  show putB b o.at_.toNat (o.bytes.take o.bytes.length) = _
  rw [List.take_length]
theorem half_put {b x : List UInt8} {a : Nat} (ha : 1 ≤ a) (hl : a + x.length ≤ b.length) : halfAt (putB b a x) = halfAt b := by
  unfold halfAt
  rw [putB_length hl]
  have : (putB b a x).getD 0 0 = b.getD 0 0 := by
    simp only [putB, List.getD_eq_getElem?_getD]
    rw [List.append_assoc, List.getElem?_append_left (by rw [List.length_take]; omega), List.getElem?_take_of_lt (by omega)]
  rw [this]
theorem drop_put {b x : List UInt8} {h e : Nat} (hl : h + e + x.length ≤ b.length) : ((putB b (h + e) x).drop h).take (e + x.length) = (b.drop h).take e ++ x := by
  unfold putB
  rw [List.append_assoc, List.drop_append_of_le_length (by rw [List.length_take]; omega), List.drop_take, Nat.add_sub_cancel_left,
    ← List.append_assoc, List.take_append_of_le_length (by rw [List.length_append, List.length_take, List.length_drop]; omega), List.take_of_length_le]
  rw [List.length_append, List.length_take, List.length_drop]; omega
/-- What Open says leads to a disk that is settled. -/
theorem open_settles {d : Dsk} (hi : isDiskB d = true) (hw : wrB d = true) : ∃ ops b, openV d = .tup [.sl false (opvs ops), er 0] ∧ doV d ops = .tup [dkv ⟨b, []⟩, er 0] ∧ ops.length ≤ 3 ∧ Settled d b := by
  obtain ⟨f1, f2, f3, f4, f5, f6⟩ := disk_facts hi
  have sl := seenB_length (isDisk_ok hi).2
  have hu : useB d = ((seenB d).drop (halfB d)).take (szB d) := rfl
  cases hz : zerosB ((useB d).drop (endB d))
  case false =>
    refine ⟨[fl, wr ((halfB d : Nat) + (endB d : Nat)) (zs (szB d - endB d)), fl], putB (seenB d) (halfB d + endB d) (zs (szB d - endB d)), ?_, ?_, by simp, ?_⟩
    · unfold openV; rw [hi, hw, hz]; rfl
    · have he : endB d < szB d := by
        rcases Nat.lt_or_ge (endB d) (szB d) with h | h
        · exact h
        · rw [List.drop_of_length_le (by omega)] at hz; cases hz
      have hb : badArg d [fl, wr ((halfB d : Nat) + (endB d : Nat)) (zs (szB d - endB d)), fl] = false := by
        simp [badArg, fitsB, fl, wr, zs_length]
        omega
      unfold doV
      rw [hi, hb]
      simp only [Bool.not_true, Bool.false_eq_true, ↓reduceIte]
      have : doB d [fl, wr ((halfB d : Nat) + (endB d : Nat)) (zs (szB d - endB d)), fl] = ⟨putB (seenB d) (halfB d + endB d) (zs (szB d - endB d)), []⟩ := by
        show (⟨seenB ⟨seenB d, [wr ((halfB d : Nat) + (endB d : Nat)) (zs (szB d - endB d))]⟩, []⟩ : Dsk) = _
        rw [seen_one]
        rfl
      rw [this]
    · have hlz : (zs (szB d - endB d)).length = szB d - endB d := zs_length _
      refine ⟨?_, ?_, ?_⟩
      · rw [putB_length (by rw [hlz]; omega), sl]
      · rw [half_put (by omega) (by rw [hlz]; omega)]; rfl
      · have := drop_put (b := seenB d) (x := zs (szB d - endB d)) (h := halfB d) (e := endB d) (by rw [hlz]; omega)
        rw [hlz, show endB d + (szB d - endB d) = szB d by omega] at this
        rw [this, hu, List.take_take, Nat.min_eq_left f5]
  case true =>
    have set : Settled d (seenB d) := by
      refine ⟨sl, rfl, ?_⟩
      have h1 := (zeros_iff _).1 hz
      rw [List.length_drop, f6] at h1
      rw [← h1, List.take_append_drop]
      rfl
    cases hq : decide ((d.queue.length : Int) > 0)
    case true =>
      refine ⟨[fl], seenB d, ?_, ?_, by simp, set⟩
      · unfold openV; rw [hi, hw, hz, hq]; rfl
      · have hb : badArg d [fl] = false := by simp [badArg, fitsB, fl]
        unfold doV
        rw [hi, hb]
        rfl
    case false =>
      have hq' : d.queue = [] := by
        have := of_decide_eq_false hq
        cases h : d.queue with
        | nil => rfl
        | cons x l => rw [h] at this; simp at this
      refine ⟨[], seenB d, ?_, ?_, by simp, set⟩
      · unfold openV; rw [hi, hw, hz, hq]; rfl
      · have hs : seenB d = d.bytes := by
          obtain ⟨b, q⟩ := d
          simp only at hq'
          subst hq'
          rfl
        unfold doV
        rw [hi]
        show AV.tup [dkv d, er 0] = _
        rw [hs]
        obtain ⟨b, q⟩ := d
        simp only at hq'
        subst hq'
        rfl
end Go.Proofs.Try

namespace Go.Proofs.Try
set_option linter.unusedSimpArgs false
set_option linter.unusedVariables false
open Go.PM
set_option maxHeartbeats 400000
set_option maxRecDepth 100000

theorem c20k (d : Dsk) (hf : Few d) {v : AV} (h : openV d = v) : PureT Try.prog 20 [dkv d] (· = v) := h ▸ c20 d hf
theorem c22k (d : Dsk) (hf : Few d) {v : AV} (h : checkV d = v) : PureT Try.prog 22 [dkv d] (· = v) := h ▸ c22 d hf
theorem c21k (d : Dsk) (hf : Few d) {v : AV} (h : readV d = v) : PureT Try.prog 21 [dkv d] (· = v) := h ▸ c21 d hf
theorem c17k (d : Dsk) (ops : List DOp) (hf : Few d) (ho : ops.length ≤ 1000000) (hq : d.queue.length ≤ 1000000) {v : AV} (h : doV d ops = v) : PureT Try.prog 17 [dkv d, .sl false (opvs ops)] (· = v) := h ▸ c17u d ops hf ho hq
theorem nil_sl : AV.sl false [] = .sl false (opvs []) := rfl
theorem c5ok (d : Dsk) (hfb : fewB d = true) (hf : Few d) (hq : d.queue.length ≤ 100) (ops : List DOp) (b : List UInt8) (R : List (List UInt8)) (hl : R.length ≤ 4000000) (l1 : ops.length ≤ 3) (f2 : Few ⟨b, []⟩)
    (e1 : openV d = .tup [.sl false (opvs ops), er 0]) (e2 : doV d ops = .tup [dkv ⟨b, []⟩, er 0]) (e3 : readV ⟨b, []⟩ = .tup [.sl false (bs (R.getD 0 [])), .sl false (bss (R.drop 1)), er 0])
    (e4 : openV ⟨b, []⟩ = .tup [.sl false [], er 0]) (e5 : checkV ⟨b, []⟩ = .tup [.val (.bool true), .val (.bool true), er 0]) (e6 : readV d = .tup [.sl false (bs (R.getD 0 [])), .sl false (bss (R.drop 1)), er 0]) : PureT Try.prog 5 [dkv d] (· = .val (.bool true)) := by
  have r1 : ∀ x : List UInt8, (strB x == strB x) = true := fun x => by rw [strB_beq]; simp
  have r2 : ∀ x : List (List UInt8), (x == x) = true := fun x => by simp
  have r3 : (R.drop 1).length ≤ 4000000 := by rw [List.length_drop]; omega
  generalize R.drop 1 = l at *
  generalize R.getD 0 [] = z at *
  refine CallT.intro Try.func5 (by decide) rfl ?_
  simp -implicitDefEqProofs (dsimp := false) only [go_sem, simprocAttr, hfb, strOf_bs, r1, r2, Int.cast_ofNat_Int, enterTm, Try.ntmps5, List.range'_succ, List.range'_zero, List.zip_cons_cons, List.zip_nil_left]
  refine CodeT.seqR ?_
  simp -implicitDefEqProofs (dsimp := false) only [go_sem, simprocAttr, hfb, strOf_bs, r1, r2, Int.cast_ofNat_Int]
  refine CodeT.freeze 1 ?_
  simp -implicitDefEqProofs (dsimp := false) only [go_sem, simprocAttr, hfb, strOf_bs, r1, r2, Int.cast_ofNat_Int]
  refine CodeT.seqR ?_
  simp -implicitDefEqProofs (dsimp := false) only [go_sem, simprocAttr, hfb, strOf_bs, r1, r2, Int.cast_ofNat_Int]
  refine PureT.eq (c12) rfl ?_
  simp -implicitDefEqProofs (dsimp := false) only [go_sem, simprocAttr, hfb, strOf_bs, r1, r2, Int.cast_ofNat_Int]
  refine CodeT.seq ?_
  refine CodeT.seqR ?_
  simp -implicitDefEqProofs (dsimp := false) only [go_sem, simprocAttr, hfb, strOf_bs, r1, r2, Int.cast_ofNat_Int]
  refine PureT.eq (c15 _) rfl ?_
  simp -implicitDefEqProofs (dsimp := false) only [go_sem, simprocAttr, hfb, strOf_bs, r1, r2, Int.cast_ofNat_Int]
  refine CodeT.condF rfl ?_
  refine CodeT.skip ?_
  simp -implicitDefEqProofs (dsimp := false) only [go_sem, simprocAttr, hfb, strOf_bs, r1, r2, Int.cast_ofNat_Int]
  refine CodeT.seqR ?_
  simp -implicitDefEqProofs (dsimp := false) only [go_sem, simprocAttr, hfb, strOf_bs, r1, r2, Int.cast_ofNat_Int]
  refine PureT.eq (c20k d hf e1) rfl ?_
  simp -implicitDefEqProofs (dsimp := false) only [go_sem, simprocAttr, hfb, strOf_bs, r1, r2, Int.cast_ofNat_Int]
  refine CodeT.seq ?_
  refine CodeT.seqR ?_
  simp -implicitDefEqProofs (dsimp := false) only [go_sem, simprocAttr, hfb, strOf_bs, r1, r2, Int.cast_ofNat_Int]
  refine CodeT.condF rfl ?_
  refine CodeT.skip ?_
  simp -implicitDefEqProofs (dsimp := false) only [go_sem, simprocAttr, hfb, strOf_bs, r1, r2, Int.cast_ofNat_Int]
  refine CodeT.seqR ?_
  simp -implicitDefEqProofs (dsimp := false) only [go_sem, simprocAttr, hfb, strOf_bs, r1, r2, Int.cast_ofNat_Int]
  refine PureT.eq (c21k d hf e6) rfl ?_
  simp -implicitDefEqProofs (dsimp := false) only [go_sem, simprocAttr, hfb, strOf_bs, r1, r2, Int.cast_ofNat_Int]
  refine CodeT.seqR ?_
  simp -implicitDefEqProofs (dsimp := false) only [go_sem, simprocAttr, hfb, strOf_bs, r1, r2, Int.cast_ofNat_Int]
  refine PureT.eq (c17k d ops hf ?_ ?_ e2) rfl ?_
  omega
  omega
  simp -implicitDefEqProofs (dsimp := false) only [go_sem, simprocAttr, hfb, strOf_bs, r1, r2, Int.cast_ofNat_Int]
  refine CodeT.freeze 9 ?_
  simp -implicitDefEqProofs (dsimp := false) only [go_sem, simprocAttr, hfb, strOf_bs, r1, r2, Int.cast_ofNat_Int]
  refine CodeT.seqR ?_
  simp -implicitDefEqProofs (dsimp := false) only [go_sem, simprocAttr, hfb, strOf_bs, r1, r2, Int.cast_ofNat_Int]
  refine PureT.eq (c21k _ f2 e3) rfl ?_
  simp -implicitDefEqProofs (dsimp := false) only [go_sem, simprocAttr, hfb, strOf_bs, r1, r2, Int.cast_ofNat_Int]
  refine CodeT.seqR ?_
  simp -implicitDefEqProofs (dsimp := false) only [go_sem, simprocAttr, hfb, strOf_bs, r1, r2, Int.cast_ofNat_Int]
  refine PureT.eq (c20k _ f2 e4) rfl ?_
  simp -implicitDefEqProofs (dsimp := false) only [go_sem, simprocAttr, hfb, strOf_bs, r1, r2, Int.cast_ofNat_Int]
  refine CodeT.seqR ?_
  simp -implicitDefEqProofs (dsimp := false) only [go_sem, simprocAttr, hfb, strOf_bs, r1, r2, Int.cast_ofNat_Int]
  refine PureT.eq (c22k _ f2 e5) rfl ?_
  simp -implicitDefEqProofs (dsimp := false) only [go_sem, simprocAttr, hfb, strOf_bs, r1, r2, Int.cast_ofNat_Int]
  refine CodeT.seqR ?_
  simp -implicitDefEqProofs (dsimp := false) only [go_sem, simprocAttr, hfb, strOf_bs, r1, r2, Int.cast_ofNat_Int]
  refine And.intro (by exact bs_byte _) ?_
  refine And.intro (by exact bs_byte _) ?_
  refine PureT.eq (c23 _ _ ?_) rfl ?_
  assumption
  simp -implicitDefEqProofs (dsimp := false) only [go_sem, simprocAttr, hfb, strOf_bs, r1, r2, Int.cast_ofNat_Int]
  refine CodeT.ret ?_
  simp -implicitDefEqProofs (dsimp := false) only [go_sem, simprocAttr, hfb, strOf_bs, r1, r2, Int.cast_ofNat_Int]
  refine pureEnd rfl ?_
  simp -implicitDefEqProofs (dsimp := false) only [go_sem, simprocAttr, hfb, strOf_bs, r1, r2, Int.cast_ofNat_Int]
theorem c5 (d : Dsk) : PureT Try.prog 5 [dkv d] (· = .val (.bool true)) := by
  cases hfb : fewB d
  · refine CallT.intro Try.func5 (by decide) rfl ?_
    simp -implicitDefEqProofs (dsimp := false) only [go_sem, simprocAttr, hfb, enterTm, Try.ntmps5, List.range'_succ, List.range'_zero, List.zip_cons_cons, List.zip_nil_left]
    refine CodeT.seqR ?_
    simp -implicitDefEqProofs (dsimp := false) only [go_sem, simprocAttr, hfb]
    refine CodeT.freeze 1 ?_
    simp -implicitDefEqProofs (dsimp := false) only [go_sem, simprocAttr, hfb]
    refine CodeT.seqR ?_
    simp -implicitDefEqProofs (dsimp := false) only [go_sem, simprocAttr, hfb]
    refine PureT.eq (c12) rfl ?_
    simp -implicitDefEqProofs (dsimp := false) only [go_sem, simprocAttr, hfb]
    refine CodeT.seq ?_
    refine CodeT.seqR ?_
    simp -implicitDefEqProofs (dsimp := false) only [go_sem, simprocAttr, hfb]
    refine PureT.eq (c15 _) rfl ?_
    simp -implicitDefEqProofs (dsimp := false) only [go_sem, simprocAttr, hfb]
    refine CodeT.condT rfl ?_
    refine CodeT.seqR ?_
    simp -implicitDefEqProofs (dsimp := false) only [go_sem, simprocAttr, hfb]
    refine CodeT.ret ?_
    simp -implicitDefEqProofs (dsimp := false) only [go_sem, simprocAttr, hfb]
    refine pureEnd rfl ?_
    simp -implicitDefEqProofs (dsimp := false) only [go_sem, simprocAttr, hfb] 
  obtain ⟨hf, -, hq⟩ := fewB_few hfb
  cases hi : isDiskB d
  · refine CallT.intro Try.func5 (by decide) rfl ?_
    simp -implicitDefEqProofs (dsimp := false) only [go_sem, simprocAttr, hfb, hi, openV, Int.cast_ofNat_Int, beq_self_eq_true, enterTm, Try.ntmps5, List.range'_succ, List.range'_zero, List.zip_cons_cons, List.zip_nil_left]
    refine CodeT.seqR ?_
    simp -implicitDefEqProofs (dsimp := false) only [go_sem, simprocAttr, hfb, hi, openV, Int.cast_ofNat_Int, beq_self_eq_true]
    refine CodeT.freeze 1 ?_
    simp -implicitDefEqProofs (dsimp := false) only [go_sem, simprocAttr, hfb, hi, openV, Int.cast_ofNat_Int, beq_self_eq_true]
    refine CodeT.seqR ?_
    simp -implicitDefEqProofs (dsimp := false) only [go_sem, simprocAttr, hfb, hi, openV, Int.cast_ofNat_Int, beq_self_eq_true]
    refine PureT.eq (c12) rfl ?_
    simp -implicitDefEqProofs (dsimp := false) only [go_sem, simprocAttr, hfb, hi, openV, Int.cast_ofNat_Int, beq_self_eq_true]
    refine CodeT.seq ?_
    refine CodeT.seqR ?_
    simp -implicitDefEqProofs (dsimp := false) only [go_sem, simprocAttr, hfb, hi, openV, Int.cast_ofNat_Int, beq_self_eq_true]
    refine PureT.eq (c15 _) rfl ?_
    simp -implicitDefEqProofs (dsimp := false) only [go_sem, simprocAttr, hfb, hi, openV, Int.cast_ofNat_Int, beq_self_eq_true]
    refine CodeT.condF rfl ?_
    refine CodeT.skip ?_
    simp -implicitDefEqProofs (dsimp := false) only [go_sem, simprocAttr, hfb, hi, openV, Int.cast_ofNat_Int, beq_self_eq_true]
    refine CodeT.seqR ?_
    simp -implicitDefEqProofs (dsimp := false) only [go_sem, simprocAttr, hfb, hi, openV, Int.cast_ofNat_Int, beq_self_eq_true]
    refine PureT.eq (c20 _ ?_) rfl ?_
    assumption
    simp -implicitDefEqProofs (dsimp := false) only [go_sem, simprocAttr, hfb, hi, openV, Int.cast_ofNat_Int, beq_self_eq_true]
    refine CodeT.seq ?_
    refine CodeT.seqR ?_
    simp -implicitDefEqProofs (dsimp := false) only [go_sem, simprocAttr, hfb, hi, openV, Int.cast_ofNat_Int, beq_self_eq_true]
    refine CodeT.condT rfl ?_
    refine CodeT.seqR ?_
    simp -implicitDefEqProofs (dsimp := false) only [go_sem, simprocAttr, hfb, hi, openV, Int.cast_ofNat_Int, beq_self_eq_true]
    refine CodeT.ret ?_
    simp -implicitDefEqProofs (dsimp := false) only [go_sem, simprocAttr, hfb, hi, openV, Int.cast_ofNat_Int, beq_self_eq_true]
    refine pureEnd rfl ?_
    simp -implicitDefEqProofs (dsimp := false) only [go_sem, simprocAttr, hfb, hi, openV, Int.cast_ofNat_Int, beq_self_eq_true]
  cases hw : wrB d
  · refine CallT.intro Try.func5 (by decide) rfl ?_
    simp -implicitDefEqProofs (dsimp := false) only [go_sem, simprocAttr, hfb, hi, hw, openV, Int.cast_ofNat_Int, beq_self_eq_true, enterTm, Try.ntmps5, List.range'_succ, List.range'_zero, List.zip_cons_cons, List.zip_nil_left]
    refine CodeT.seqR ?_
    simp -implicitDefEqProofs (dsimp := false) only [go_sem, simprocAttr, hfb, hi, hw, openV, Int.cast_ofNat_Int, beq_self_eq_true]
    refine CodeT.freeze 1 ?_
    simp -implicitDefEqProofs (dsimp := false) only [go_sem, simprocAttr, hfb, hi, hw, openV, Int.cast_ofNat_Int, beq_self_eq_true]
    refine CodeT.seqR ?_
    simp -implicitDefEqProofs (dsimp := false) only [go_sem, simprocAttr, hfb, hi, hw, openV, Int.cast_ofNat_Int, beq_self_eq_true]
    refine PureT.eq (c12) rfl ?_
    simp -implicitDefEqProofs (dsimp := false) only [go_sem, simprocAttr, hfb, hi, hw, openV, Int.cast_ofNat_Int, beq_self_eq_true]
    refine CodeT.seq ?_
    refine CodeT.seqR ?_
    simp -implicitDefEqProofs (dsimp := false) only [go_sem, simprocAttr, hfb, hi, hw, openV, Int.cast_ofNat_Int, beq_self_eq_true]
    refine PureT.eq (c15 _) rfl ?_
    simp -implicitDefEqProofs (dsimp := false) only [go_sem, simprocAttr, hfb, hi, hw, openV, Int.cast_ofNat_Int, beq_self_eq_true]
    refine CodeT.condF rfl ?_
    refine CodeT.skip ?_
    simp -implicitDefEqProofs (dsimp := false) only [go_sem, simprocAttr, hfb, hi, hw, openV, Int.cast_ofNat_Int, beq_self_eq_true]
    refine CodeT.seqR ?_
    simp -implicitDefEqProofs (dsimp := false) only [go_sem, simprocAttr, hfb, hi, hw, openV, Int.cast_ofNat_Int, beq_self_eq_true]
    refine PureT.eq (c20 _ ?_) rfl ?_
    assumption
    simp -implicitDefEqProofs (dsimp := false) only [go_sem, simprocAttr, hfb, hi, hw, openV, Int.cast_ofNat_Int, beq_self_eq_true]
    refine CodeT.seq ?_
    refine CodeT.seqR ?_
    simp -implicitDefEqProofs (dsimp := false) only [go_sem, simprocAttr, hfb, hi, hw, openV, Int.cast_ofNat_Int, beq_self_eq_true]
    refine CodeT.condT rfl ?_
    refine CodeT.seqR ?_
    simp -implicitDefEqProofs (dsimp := false) only [go_sem, simprocAttr, hfb, hi, hw, openV, Int.cast_ofNat_Int, beq_self_eq_true]
    refine CodeT.ret ?_
    simp -implicitDefEqProofs (dsimp := false) only [go_sem, simprocAttr, hfb, hi, hw, openV, Int.cast_ofNat_Int, beq_self_eq_true]
    refine pureEnd rfl ?_
    simp -implicitDefEqProofs (dsimp := false) only [go_sem, simprocAttr, hfb, hi, hw, openV, Int.cast_ofNat_Int, beq_self_eq_true]
  obtain ⟨ops, b, e1, e2, l1, set⟩ := open_settles hi hw
  refine c5ok d hfb hf hq ops b (parseR (useB d)) ?_ l1 ⟨by rw [set.l]; exact hf.b, by simp⟩ e1 e2 ?_ (settled_open hi hw set) (settled_check hi hw set) ?_
  · have h1 := parse_len (useB d); have h2 := disk_facts hi
    rw [parseR_len]; omega
  · rw [settled_read hi set]
    unfold readV; rw [hi, hw]; rfl
  · unfold readV; rw [hi, hw]; rfl
end Go.Proofs.Try

namespace Go.Proofs.Try
set_option linter.unusedSimpArgs false
set_option linter.unusedVariables false
open Go.PM
set_option maxHeartbeats 4000000
set_option maxRecDepth 100000

theorem c18k (d : Dsk) (cuts : List Int) (hf : Few d) (hc : cuts.length ≤ 1000000) {v : AV} (h : crashV d cuts = v) : PureT Try.prog 18 [dkv d, .sl false (is64 cuts)] (· = v) := h ▸ c18 d cuts hf hc
theorem shortB_short {ops : List DOp} (h : shortB ops = true) : ops.length ≤ 100 := by
  unfold shortB at h
  split at h
  · rename_i h1; simp at h1; omega
  · cases h
theorem doStep_disk {d : Dsk} (hi : isDiskB d = true) {o : DOp} (ho : fitsB o d.bytes.length = true) : isDiskB (doStep d o) = true ∧ (doStep d o).bytes.length = d.bytes.length ∧ (doStep d o).queue.length ≤ d.queue.length + 1 := by
  obtain ⟨h1, h2, h3⟩ := isDisk_sound hi
  unfold doStep
  cases hf : o.flush with
  | true =>
    rw [if_pos rfl]
    have := seenB_length h2
    exact ⟨isDisk_nil hi this, this, by simp⟩
  | false =>
    rw [if_neg (by decide)]
    refine ⟨?_, rfl, by simp⟩
    have h4 : badOp d.bytes.length o = false := by simp [badOp, hf, ho]
    unfold isDiskB at hi ⊢
    simp only [Bool.and_eq_true, Bool.not_eq_true'] at hi ⊢
    refine ⟨hi.1, ?_⟩
    simp only [List.any_append, hi.2, Bool.false_or]
    simp [h4]
theorem doB_disk : ∀ (ops : List DOp) {d : Dsk}, isDiskB d = true → badArg d ops = false → isDiskB (doB d ops) = true ∧ (doB d ops).bytes.length = d.bytes.length ∧ (doB d ops).queue.length ≤ d.queue.length + ops.length
  | [], d, hi, hb => ⟨hi, rfl, Nat.le_refl _⟩
  | o :: ops, d, hi, hb => by
    simp only [badArg, List.any_cons, Bool.or_eq_false_iff] at hb
    obtain ⟨h1, h2, h3⟩ := doStep_disk hi (o := o) (by simpa using hb.1)
    obtain ⟨h4, h5, h6⟩ := doB_disk ops h1 (by rw [badArg, h2]; exact hb.2)
    refine ⟨h4, h5.trans h2, ?_⟩
    show (doB (doStep d o) ops).queue.length ≤ _
    rw [List.length_cons]; omega
theorem doB_append (d : Dsk) (a b : List DOp) : doB d (a ++ b) = doB (doB d a) b := by simp [doB]
theorem bad_append (d : Dsk) (a b : List DOp) : badArg d (a ++ b) = (badArg d a || badArg d b) := by simp [badArg]
/-- A crash that keeps as much as there is of each write. -/
theorem crash_all (z : Dsk) : crashB z (z.queue.map fun o => (o.bytes.length : Int)) = seenB z := by
  unfold crashB seenB
  have : ∀ i, farC (z.queue.map fun o => (o.bytes.length : Int)) z i = if z.queue.length ≤ i then 0 else (z.queue.getD i op0).bytes.length := by
    intro i
    unfold farC
    rw [List.length_map]
    split
    · rfl
    · rename_i h
      simp [List.getD_eq_getElem?_getD, List.getElem?_eq_getElem (Nat.lt_of_not_le h)]
  have key : ∀ n, n ≤ z.queue.length → doneTo z.bytes z.queue (farC (z.queue.map fun o => (o.bytes.length : Int)) z) n = doneTo z.bytes z.queue (fun i => (z.queue.getD i op0).bytes.length) n := by
    intro n
    induction n with
    | zero => intro _; rfl
    | succ n ih =>
      intro h
      rw [doneTo_succ, doneTo_succ, ih (by omega), this, if_neg (by omega)]
  exact key _ (Nat.le_refl _)
def lens (q : List DOp) : List Int := q.map fun o => (o.bytes.length : Int)
theorem lens_length (q : List DOp) : (lens q).length = q.length := by simp [lens]
theorem laxL_is64 (l : List Int) : laxL (is64 l) = is64 l := by
  rw [laxL_eq, is64, List.map_map]
  rfl
theorem uni_is64 (l : List Int) : Uni 1 (is64 l) := by
  intro e he
  obtain ⟨x, _, rfl⟩ := List.mem_map.1 he
  rfl
theorem is64_take (l : List Int) (n : Nat) : (is64 l).take n = is64 (l.take n) := by simp [is64]
theorem is64_drop (l : List Int) (n : Nat) : (is64 l).drop n = is64 (l.drop n) := by simp [is64]
theorem lens_succ (q : List DOp) (i : Nat) (h : i < q.length) : is64 (lens (q.take i)) ++ [.val (.int .i64 ((q.getD i op0).bytes.length : Nat))] = is64 (lens (q.take (i + 1))) := by
  rw [List.take_add_one, List.getElem?_eq_getElem h]
  simp only [is64, lens, List.getD_eq_getElem?_getD, List.getElem?_eq_getElem h, List.map_append, Option.toList, List.map_cons, List.map_nil, Option.getD_some]
theorem c4ok (d : Dsk) (a b : List DOp) (cuts : List Int) (hfb : fewB d = true) (hsa : shortB a = true) (hsb : shortB b = true) (hc : cuts.length ≤ 1000) (x z : Dsk) (S : List UInt8) (fx : Few x) (fz : Few z) (fS : Few ⟨S, []⟩) (qx : x.queue.length ≤ 1000000) (qz : z.queue.length ≤ 1000000)
    (e1 : doV d a = .tup [dkv x, er 0]) (e2 : doV x b = .tup [dkv z, er 0]) (e3 : doV d (a ++ b) = .tup [dkv z, er 0]) (e4 : doV z [fl] = .tup [dkv ⟨S, []⟩, er 0]) (e5 : crashV z (lens z.queue) = .tup [dkv ⟨S, []⟩, er 0]) (e6 : crashV ⟨S, []⟩ cuts = .tup [dkv ⟨S, []⟩, er 0]) :
    PureT Try.prog 4 [dkv d, .sl false (opvs a), .sl false (opvs b), .sl false (is64 cuts)] (· = .val (.bool true)) := by
  obtain ⟨hf, -, hq⟩ := fewB_few hfb
  have la := shortB_short hsa
  have lb := shortB_short hsb
  have r1 : ∀ x : Dsk, (x == x) = true := fun x => by simp
  have tk : List.take (a.length + b.length) (a ++ b) = a ++ b := List.take_of_length_le (by rw [List.length_append]; exact Nat.le_refl _)
  have tl : List.take z.queue.length (is64 (lens z.queue)) = is64 (lens z.queue) := List.take_of_length_le (by rw [is64_length, lens_length]; exact Nat.le_refl _)
  have l3 : (a ++ b).length ≤ 1000000 := by rw [List.length_append]; omega
  refine CallT.intro Try.func4 (by decide) rfl ?_
  simp -implicitDefEqProofs (dsimp := false) only [go_sem, simprocAttr, hfb, hsa, hsb, r1, fld6, Int.cast_ofNat_Int, tk, laxL_is64, tl, enterTm, Try.ntmps4, List.range'_succ, List.range'_zero, List.zip_cons_cons, List.zip_nil_left]
  refine CodeT.seqR ?_
  simp -implicitDefEqProofs (dsimp := false) only [go_sem, simprocAttr, hfb, hsa, hsb, r1, fld6, Int.cast_ofNat_Int, tk, laxL_is64, tl]
  refine CodeT.freeze 4 ?_
  simp -implicitDefEqProofs (dsimp := false) only [go_sem, simprocAttr, hfb, hsa, hsb, r1, fld6, Int.cast_ofNat_Int, tk, laxL_is64, tl]
  refine CodeT.seqR ?_
  simp -implicitDefEqProofs (dsimp := false) only [go_sem, simprocAttr, hfb, hsa, hsb, r1, fld6, Int.cast_ofNat_Int, tk, laxL_is64, tl]
  refine PureT.eq (c12) rfl ?_
  simp -implicitDefEqProofs (dsimp := false) only [go_sem, simprocAttr, hfb, hsa, hsb, r1, fld6, Int.cast_ofNat_Int, tk, laxL_is64, tl]
  refine CodeT.seq ?_
  refine CodeT.seqR ?_
  simp -implicitDefEqProofs (dsimp := false) only [go_sem, simprocAttr, hfb, hsa, hsb, r1, fld6, Int.cast_ofNat_Int, tk, laxL_is64, tl]
  refine PureT.eq (c15 _) rfl ?_
  simp -implicitDefEqProofs (dsimp := false) only [go_sem, simprocAttr, hfb, hsa, hsb, r1, fld6, Int.cast_ofNat_Int, tk, laxL_is64, tl]
  refine PureT.eq (c16 _) rfl ?_
  simp -implicitDefEqProofs (dsimp := false) only [go_sem, simprocAttr, hfb, hsa, hsb, r1, fld6, Int.cast_ofNat_Int, tk, laxL_is64, tl]
  refine PureT.eq (c16 _) rfl ?_
  simp -implicitDefEqProofs (dsimp := false) only [go_sem, simprocAttr, hfb, hsa, hsb, r1, fld6, Int.cast_ofNat_Int, tk, laxL_is64, tl]
  refine CodeT.cond rfl (fun g6 => ?_) (fun g6 => ?_)
  have d6 := ofDec g6
  (exfalso; omega)
  have d6 := ofDecF g6
  refine CodeT.skip ?_
  simp -implicitDefEqProofs (dsimp := false) only [go_sem, simprocAttr, hfb, hsa, hsb, r1, fld6, Int.cast_ofNat_Int, tk, laxL_is64, tl, g6]
  refine CodeT.seqR ?_
  simp -implicitDefEqProofs (dsimp := false) only [go_sem, simprocAttr, hfb, hsa, hsb, r1, fld6, Int.cast_ofNat_Int, tk, laxL_is64, tl, g6]
  refine PureT.eq (c17k d a hf ?_ ?_ e1) rfl ?_
  omega
  omega
  simp -implicitDefEqProofs (dsimp := false) only [go_sem, simprocAttr, hfb, hsa, hsb, r1, fld6, Int.cast_ofNat_Int, tk, laxL_is64, tl, g6]
  refine CodeT.seqR ?_
  simp -implicitDefEqProofs (dsimp := false) only [go_sem, simprocAttr, hfb, hsa, hsb, r1, fld6, Int.cast_ofNat_Int, tk, laxL_is64, tl, g6]
  refine PureT.eq (c17k x b fx ?_ qx e2) rfl ?_
  omega
  simp -implicitDefEqProofs (dsimp := false) only [go_sem, simprocAttr, hfb, hsa, hsb, r1, fld6, Int.cast_ofNat_Int, tk, laxL_is64, tl, g6]
  refine CodeT.seqL [10] [(2, .free), (4, .free), (0, .read), (1, .upd), (3, .upd), (5, .upd), (6, .upd), (7, .free), (8, .free), (9, .free), (10, .upd), (11, .set), (12, .free)] mixed (by kernel_rfl) ?_
  simp -implicitDefEqProofs (dsimp := false) only [go_sem, simprocAttr, hfb, hsa, hsb, r1, fld6, Int.cast_ofNat_Int, tk, laxL_is64, tl, g6]
  refine And.intro (by trivial) ?_
  refine And.intro (by exact Stable.refl _) ?_
  refine And.intro (by exact uni_opvs _) ?_
  refine And.intro (by omega) ?_
  refine And.intro (by exact Stable.same (Stable.same (Stable.same (Stable.nil _)))) ?_
  refine And.intro (by exact uni_opvs _) ?_
  refine And.intro (by omega) ?_
  refine And.intro (by exact Stable.same (Stable.same (Stable.same (Stable.row (Stable.refl _))))) ?_
  refine ⟨⟨_, Try.func17, by decide, rfl⟩, Or.inl ?_⟩
  simp -implicitDefEqProofs (dsimp := false) only [go_sem, simprocAttr, hfb, hsa, hsb, r1, fld6, Int.cast_ofNat_Int, tk, laxL_is64, tl, g6]
  refine And.intro (by omega) ?_
  refine CallY.pure (c17k d (a ++ b) hf ?_ ?_ e3) rfl ?_
  assumption
  omega
  simp -implicitDefEqProofs (dsimp := false) only [go_sem, simprocAttr, hfb, hsa, hsb, r1, fld6, Int.cast_ofNat_Int, tk, laxL_is64, tl, g6]
  refine And.intro (by exact Stable.same (Stable.same (Stable.same (Stable.row (Stable.refl _))))) ?_
  refine And.intro (by exact Stable.append [_, _, _, _] [_]) ?_
  refine CodeT.seq ?_
  refine CodeT.seqR ?_
  simp -implicitDefEqProofs (dsimp := false) only [go_sem, simprocAttr, hfb, hsa, hsb, r1, fld6, Int.cast_ofNat_Int, tk, laxL_is64, tl, g6]
  refine CodeT.condF rfl ?_
  refine CodeT.skip ?_
  simp -implicitDefEqProofs (dsimp := false) only [go_sem, simprocAttr, hfb, hsa, hsb, r1, fld6, Int.cast_ofNat_Int, tk, laxL_is64, tl, g6]
  refine CodeT.freeze 14 ?_
  simp -implicitDefEqProofs (dsimp := false) only [go_sem, simprocAttr, hfb, hsa, hsb, r1, fld6, Int.cast_ofNat_Int, tk, laxL_is64, tl, g6]
  refine CodeT.freeze 12 ?_
  simp -implicitDefEqProofs (dsimp := false) only [go_sem, simprocAttr, hfb, hsa, hsb, r1, fld6, Int.cast_ofNat_Int, tk, laxL_is64, tl, g6]
  refine CodeT.seqR ?_
  simp -implicitDefEqProofs (dsimp := false) only [go_sem, simprocAttr, hfb, hsa, hsb, r1, fld6, Int.cast_ofNat_Int, tk, laxL_is64, tl, g6]
  refine CodeT.seq ?_
  refine CodeT.seqR ?_
  simp -implicitDefEqProofs (dsimp := false) only [go_sem, simprocAttr, hfb, hsa, hsb, r1, fld6, Int.cast_ofNat_Int, tk, laxL_is64, tl, g6]
  refine CodeT.block ?_
  refine CodeT.promote 16 1 rfl ?_
  simp -implicitDefEqProofs (dsimp := false) only [go_sem, simprocAttr, hfb, hsa, hsb, r1, fld6, Int.cast_ofNat_Int, tk, laxL_is64, tl, g6]
  refine CodeT.whileS (fun i : Nat => [(17, .val (.int .i64 (i : Nat))), (16, .hsl 5 i 0 i)]) [15, 14, 12, 9, 3] (fun i : Nat => [.dead, .dead, .dead, .dead, .dead, .row true i 1 (is64 (lens (z.queue.take i)))]) (fun i : Nat => i ≤ z.queue.length) (fun i : Nat => z.queue.length - i) (0) ?_ rfl ?_ ?_
  omega
  refine ⟨rfl, ?_, ?_, rfl, ?_⟩
  simp -implicitDefEqProofs (dsimp := false) only [go_sem, simprocAttr, hfb, hsa, hsb, r1, fld6, Int.cast_ofNat_Int, tk, laxL_is64, tl, g6, or_true, true_or, false_or, or_false, implies_true, Int.natCast_add, Int.cast_ofNat_Int, keepsD_nil]
  trivial
  simp -implicitDefEqProofs (dsimp := false) only [go_sem, simprocAttr, hfb, hsa, hsb, r1, fld6, Int.cast_ofNat_Int, tk, laxL_is64, tl, g6, or_true, true_or, false_or, or_false, implies_true, Int.natCast_add, Int.cast_ofNat_Int, keepsD_nil]
  trivial
  simp -implicitDefEqProofs (dsimp := false) only [go_sem, simprocAttr, hfb, hsa, hsb, r1, fld6, Int.cast_ofNat_Int, tk, laxL_is64, tl, g6, or_true, true_or, false_or, or_false, implies_true, Int.natCast_add, Int.cast_ofNat_Int, keepsD_nil]
  rintro i hx
  have f1 := lens_succ z.queue i
  have f2 : (lens (z.queue.take i)).length = i := by rw [lens_length, List.length_take]; omega
  simp -implicitDefEqProofs (dsimp := false) only [go_sem, simprocAttr, hfb, hsa, hsb, r1, fld6, Int.cast_ofNat_Int, tk, laxL_is64, tl, g6]
  refine CodeT.seq ?_
  refine CodeT.seqR ?_
  simp -implicitDefEqProofs (dsimp := false) only [go_sem, simprocAttr, hfb, hsa, hsb, r1, fld6, Int.cast_ofNat_Int, tk, laxL_is64, tl, g6]
  refine CodeT.cond rfl (fun g9 => ?_) (fun g9 => ?_)
  have d9 := ofDec g9
  refine CodeT.skip ?_
  simp -implicitDefEqProofs (dsimp := false) only [go_sem, simprocAttr, hfb, hsa, hsb, r1, fld6, Int.cast_ofNat_Int, tk, laxL_is64, tl, g6, g9]
  refine CodeT.seq (CodeT.block ?_)
  refine CodeT.region ?_
  simp -implicitDefEqProofs (dsimp := false) only [go_sem, simprocAttr, hfb, hsa, hsb, r1, fld6, Int.cast_ofNat_Int, tk, laxL_is64, tl, g6, g9]
  refine gate_i ?_ ?_
  omega
  simp -implicitDefEqProofs (dsimp := false) (disch := omega) only [Int.toNat_natCast, i64_in, bs_getD, opvs_getD, is64_getD, bss_getD]
  simp -implicitDefEqProofs (dsimp := false) only [go_sem, simprocAttr, hfb, hsa, hsb, r1, fld6, Int.cast_ofNat_Int, tk, laxL_is64, tl, g6, g9]
  refine And.intro (by trivial) ?_
  refine And.intro (by exact uni_is64 [_]) ?_
  refine And.intro (by omega) ?_
  refine And.intro (by omega) ?_
  refine CodeT.region ?_
  simp -implicitDefEqProofs (dsimp := false) only [go_sem, simprocAttr, hfb, hsa, hsb, r1, fld6, Int.cast_ofNat_Int, tk, laxL_is64, tl, g6, g9]
  simp -implicitDefEqProofs (dsimp := false) (disch := omega) only [i64_in, bs_getD, opvs_getD, is64_getD, bss_getD]
  refine ⟨i + 1, ?_⟩
  refine And.intro ?_ ?_
  omega
  refine And.intro ?_ ?_
  omega
  refine ⟨rfl, ?_, ?_, rfl, ?_⟩
  simp -implicitDefEqProofs (dsimp := false) only [go_sem, simprocAttr, hfb, hsa, hsb, r1, fld6, Int.cast_ofNat_Int, tk, laxL_is64, tl, g6, g9, or_true, true_or, false_or, or_false, implies_true, Int.natCast_add, Int.cast_ofNat_Int, keepsD_nil]
  refine And.intro ?_ ?_
  (congr 1 <;> omega)
  trivial
  simp -implicitDefEqProofs (dsimp := false) only [go_sem, simprocAttr, hfb, hsa, hsb, r1, fld6, Int.cast_ofNat_Int, tk, laxL_is64, tl, g6, g9, or_true, true_or, false_or, or_false, implies_true, Int.natCast_add, Int.cast_ofNat_Int, keepsD_nil]
  rotate_left
  simp -implicitDefEqProofs (dsimp := false) only [go_sem, simprocAttr, hfb, hsa, hsb, r1, fld6, Int.cast_ofNat_Int, tk, laxL_is64, tl, g6, g9, or_true, true_or, false_or, or_false, implies_true, Int.natCast_add, Int.cast_ofNat_Int, keepsD_nil]
  have d9 := ofDecF g9
  refine CodeT.exit ?_
  simp -implicitDefEqProofs (dsimp := false) only [go_sem, simprocAttr, hfb, hsa, hsb, r1, fld6, Int.cast_ofNat_Int, tk, laxL_is64, tl, g6, g9]
  obtain rfl : i = z.queue.length := by omega
  simp -implicitDefEqProofs (dsimp := false) only [go_sem, simprocAttr, hfb, hsa, hsb, r1, fld6, Int.cast_ofNat_Int, tk, laxL_is64, tl, g6, g9]
  rw [List.take_length] at f1 f2
  refine CodeT.seqR ?_
  simp -implicitDefEqProofs (dsimp := false) only [go_sem, simprocAttr, hfb, hsa, hsb, r1, fld6, Int.cast_ofNat_Int, tk, laxL_is64, tl, g6, g9]
  refine CallT.args ⟨_, Try.func18, by decide, rfl⟩ ?_
  simp -implicitDefEqProofs (dsimp := false) only [go_sem, simprocAttr, hfb, hsa, hsb, r1, fld6, Int.cast_ofNat_Int, tk, laxL_is64, tl, g6, g9]
  refine And.intro (by omega) ?_
  refine PureT.eq (c18k z (lens z.queue) fz ?_ e5) rfl ?_
  omega
  simp -implicitDefEqProofs (dsimp := false) only [go_sem, simprocAttr, hfb, hsa, hsb, r1, fld6, Int.cast_ofNat_Int, tk, laxL_is64, tl, g6, g9]
  refine CodeT.seqR ?_
  simp -implicitDefEqProofs (dsimp := false) only [go_sem, simprocAttr, hfb, hsa, hsb, r1, fld6, Int.cast_ofNat_Int, tk, laxL_is64, tl, g6, g9]
  refine And.intro (by trivial) ?_
  refine CallT.laxA ?_
  simp -implicitDefEqProofs (dsimp := false) only [go_sem, simprocAttr, hfb, hsa, hsb, r1, fld6, Int.cast_ofNat_Int, tk, laxL_is64, tl, g6, g9]
  refine PureT.eq (c17k z [fl] fz ?_ qz e4) rfl ?_
  trivial
  simp -implicitDefEqProofs (dsimp := false) only [go_sem, simprocAttr, hfb, hsa, hsb, r1, fld6, Int.cast_ofNat_Int, tk, laxL_is64, tl, g6, g9]
  refine CodeT.seqR ?_
  simp -implicitDefEqProofs (dsimp := false) only [go_sem, simprocAttr, hfb, hsa, hsb, r1, fld6, Int.cast_ofNat_Int, tk, laxL_is64, tl, g6, g9]
  refine PureT.eq (c18k _ cuts fS ?_ e6) rfl ?_
  omega
  simp -implicitDefEqProofs (dsimp := false) only [go_sem, simprocAttr, hfb, hsa, hsb, r1, fld6, Int.cast_ofNat_Int, tk, laxL_is64, tl, g6, g9]
  refine CodeT.seqR ?_
  simp -implicitDefEqProofs (dsimp := false) only [go_sem, simprocAttr, hfb, hsa, hsb, r1, fld6, Int.cast_ofNat_Int, tk, laxL_is64, tl, g6, g9]
  refine PureT.eq (c19 _ _ ?_) rfl ?_
  omega
  simp -implicitDefEqProofs (dsimp := false) only [go_sem, simprocAttr, hfb, hsa, hsb, r1, fld6, Int.cast_ofNat_Int, tk, laxL_is64, tl, g6, g9]
  refine PureT.eq (c19 _ _ ?_) rfl ?_
  rotate_left
  simp -implicitDefEqProofs (dsimp := false) only [go_sem, simprocAttr, hfb, hsa, hsb, r1, fld6, Int.cast_ofNat_Int, tk, laxL_is64, tl, g6, g9]
  refine PureT.eq (c19 _ _ ?_) rfl ?_
  rotate_left
  simp -implicitDefEqProofs (dsimp := false) only [go_sem, simprocAttr, hfb, hsa, hsb, r1, fld6, Int.cast_ofNat_Int, tk, laxL_is64, tl, g6, g9]
  refine CodeT.ret ?_
  simp -implicitDefEqProofs (dsimp := false) only [go_sem, simprocAttr, hfb, hsa, hsb, r1, fld6, Int.cast_ofNat_Int, tk, laxL_is64, tl, g6, g9]
  refine pureEnd rfl ?_
  simp -implicitDefEqProofs (dsimp := false) only [go_sem, simprocAttr, hfb, hsa, hsb, r1, fld6, Int.cast_ofNat_Int, tk, laxL_is64, tl, g6, g9]
  · rw [f1 (by omega)]
  · exact Nat.zero_le _
  · exact Nat.zero_le _
theorem c4bad (d : Dsk) (a b : List DOp) (cuts : List Int) (hfb : fewB d = true) (hsa : shortB a = true) (hsb : shortB b = true) (hc : cuts.length ≤ 1000) (x y w : Dsk) (fx : Few x) (qx : x.queue.length ≤ 1000000) (n1 n2 n3 : Int)
    (e1 : doV d a = .tup [dkv x, er n1]) (e2 : doV x b = .tup [dkv y, er n2]) (e3 : doV d (a ++ b) = .tup [dkv w, er n3]) (h1 : ((n1 != 0) || (n2 != 0)) = true) (h3 : (n3 != 0) = true) :
    PureT Try.prog 4 [dkv d, .sl false (opvs a), .sl false (opvs b), .sl false (is64 cuts)] (· = .val (.bool true)) := by
  obtain ⟨hf, -, hq⟩ := fewB_few hfb
  have la := shortB_short hsa
  have lb := shortB_short hsb
  have tk : List.take (a.length + b.length) (a ++ b) = a ++ b := List.take_of_length_le (by rw [List.length_append]; exact Nat.le_refl _)
  have l3 : (a ++ b).length ≤ 1000000 := by rw [List.length_append]; omega
  cases hn : n1 != 0
  · rw [hn, Bool.false_or] at h1
    refine CallT.intro Try.func4 (by decide) rfl ?_
    simp -implicitDefEqProofs (dsimp := false) only [go_sem, simprocAttr, hfb, hsa, hsb, Int.cast_ofNat_Int, tk, hn, h1, h3, enterTm, Try.ntmps4, List.range'_succ, List.range'_zero, List.zip_cons_cons, List.zip_nil_left]
    refine CodeT.seqR ?_
    simp -implicitDefEqProofs (dsimp := false) only [go_sem, simprocAttr, hfb, hsa, hsb, Int.cast_ofNat_Int, tk, hn, h1, h3]
    refine CodeT.freeze 4 ?_
    simp -implicitDefEqProofs (dsimp := false) only [go_sem, simprocAttr, hfb, hsa, hsb, Int.cast_ofNat_Int, tk, hn, h1, h3]
    refine CodeT.seqR ?_
    simp -implicitDefEqProofs (dsimp := false) only [go_sem, simprocAttr, hfb, hsa, hsb, Int.cast_ofNat_Int, tk, hn, h1, h3]
    refine PureT.eq (c12) rfl ?_
    simp -implicitDefEqProofs (dsimp := false) only [go_sem, simprocAttr, hfb, hsa, hsb, Int.cast_ofNat_Int, tk, hn, h1, h3]
    refine CodeT.seq ?_
    refine CodeT.seqR ?_
    simp -implicitDefEqProofs (dsimp := false) only [go_sem, simprocAttr, hfb, hsa, hsb, Int.cast_ofNat_Int, tk, hn, h1, h3]
    refine PureT.eq (c15 _) rfl ?_
    simp -implicitDefEqProofs (dsimp := false) only [go_sem, simprocAttr, hfb, hsa, hsb, Int.cast_ofNat_Int, tk, hn, h1, h3]
    refine PureT.eq (c16 _) rfl ?_
    simp -implicitDefEqProofs (dsimp := false) only [go_sem, simprocAttr, hfb, hsa, hsb, Int.cast_ofNat_Int, tk, hn, h1, h3]
    refine PureT.eq (c16 _) rfl ?_
    simp -implicitDefEqProofs (dsimp := false) only [go_sem, simprocAttr, hfb, hsa, hsb, Int.cast_ofNat_Int, tk, hn, h1, h3]
    refine CodeT.cond rfl (fun g8 => ?_) (fun g8 => ?_)
    have d8 := ofDec g8
    (exfalso; omega)
    have d8 := ofDecF g8
    refine CodeT.skip ?_
    simp -implicitDefEqProofs (dsimp := false) only [go_sem, simprocAttr, hfb, hsa, hsb, Int.cast_ofNat_Int, tk, hn, h1, h3, g8]
    refine CodeT.seqR ?_
    simp -implicitDefEqProofs (dsimp := false) only [go_sem, simprocAttr, hfb, hsa, hsb, Int.cast_ofNat_Int, tk, hn, h1, h3, g8]
    refine PureT.eq (c17k d a hf ?_ ?_ e1) rfl ?_
    omega
    omega
    simp -implicitDefEqProofs (dsimp := false) only [go_sem, simprocAttr, hfb, hsa, hsb, Int.cast_ofNat_Int, tk, hn, h1, h3, g8]
    refine CodeT.seqR ?_
    simp -implicitDefEqProofs (dsimp := false) only [go_sem, simprocAttr, hfb, hsa, hsb, Int.cast_ofNat_Int, tk, hn, h1, h3, g8]
    refine PureT.eq (c17k x b fx ?_ qx e2) rfl ?_
    omega
    simp -implicitDefEqProofs (dsimp := false) only [go_sem, simprocAttr, hfb, hsa, hsb, Int.cast_ofNat_Int, tk, hn, h1, h3, g8]
    refine CodeT.seqL [10] [(2, .free), (4, .free), (0, .read), (1, .upd), (3, .upd), (5, .upd), (6, .upd), (7, .free), (8, .free), (9, .free), (10, .upd), (11, .set), (12, .free)] mixed (by kernel_rfl) ?_
    simp -implicitDefEqProofs (dsimp := false) only [go_sem, simprocAttr, hfb, hsa, hsb, Int.cast_ofNat_Int, tk, hn, h1, h3, g8]
    refine And.intro (by trivial) ?_
    refine And.intro (by exact Stable.refl _) ?_
    refine And.intro (by exact uni_opvs _) ?_
    refine And.intro (by omega) ?_
    refine And.intro (by exact Stable.same (Stable.same (Stable.same (Stable.nil _)))) ?_
    refine And.intro (by exact uni_opvs _) ?_
    refine And.intro (by omega) ?_
    refine And.intro (by exact Stable.same (Stable.same (Stable.same (Stable.row (Stable.refl _))))) ?_
    refine ⟨⟨_, Try.func17, by decide, rfl⟩, Or.inl ?_⟩
    simp -implicitDefEqProofs (dsimp := false) only [go_sem, simprocAttr, hfb, hsa, hsb, Int.cast_ofNat_Int, tk, hn, h1, h3, g8]
    refine And.intro (by omega) ?_
    refine CallY.pure (c17k d (a ++ b) hf ?_ ?_ e3) rfl ?_
    assumption
    omega
    simp -implicitDefEqProofs (dsimp := false) only [go_sem, simprocAttr, hfb, hsa, hsb, Int.cast_ofNat_Int, tk, hn, h1, h3, g8]
    refine And.intro (by exact Stable.same (Stable.same (Stable.same (Stable.row (Stable.refl _))))) ?_
    refine And.intro (by exact Stable.append [_, _, _, _] [_]) ?_
    refine CodeT.seq ?_
    refine CodeT.seqR ?_
    simp -implicitDefEqProofs (dsimp := false) only [go_sem, simprocAttr, hfb, hsa, hsb, Int.cast_ofNat_Int, tk, hn, h1, h3, g8]
    refine CodeT.condT rfl ?_
    refine CodeT.seqR ?_
    simp -implicitDefEqProofs (dsimp := false) only [go_sem, simprocAttr, hfb, hsa, hsb, Int.cast_ofNat_Int, tk, hn, h1, h3, g8]
    refine CodeT.ret ?_
    simp -implicitDefEqProofs (dsimp := false) only [go_sem, simprocAttr, hfb, hsa, hsb, Int.cast_ofNat_Int, tk, hn, h1, h3, g8]
    refine pureEnd rfl ?_
    simp -implicitDefEqProofs (dsimp := false) only [go_sem, simprocAttr, hfb, hsa, hsb, Int.cast_ofNat_Int, tk, hn, h1, h3, g8]
  · refine CallT.intro Try.func4 (by decide) rfl ?_
    simp -implicitDefEqProofs (dsimp := false) only [go_sem, simprocAttr, hfb, hsa, hsb, Int.cast_ofNat_Int, tk, hn, h3, enterTm, Try.ntmps4, List.range'_succ, List.range'_zero, List.zip_cons_cons, List.zip_nil_left]
    refine CodeT.seqR ?_
    simp -implicitDefEqProofs (dsimp := false) only [go_sem, simprocAttr, hfb, hsa, hsb, Int.cast_ofNat_Int, tk, hn, h3]
    refine CodeT.freeze 4 ?_
    simp -implicitDefEqProofs (dsimp := false) only [go_sem, simprocAttr, hfb, hsa, hsb, Int.cast_ofNat_Int, tk, hn, h3]
    refine CodeT.seqR ?_
    simp -implicitDefEqProofs (dsimp := false) only [go_sem, simprocAttr, hfb, hsa, hsb, Int.cast_ofNat_Int, tk, hn, h3]
    refine PureT.eq (c12) rfl ?_
    simp -implicitDefEqProofs (dsimp := false) only [go_sem, simprocAttr, hfb, hsa, hsb, Int.cast_ofNat_Int, tk, hn, h3]
    refine CodeT.seq ?_
    refine CodeT.seqR ?_
    simp -implicitDefEqProofs (dsimp := false) only [go_sem, simprocAttr, hfb, hsa, hsb, Int.cast_ofNat_Int, tk, hn, h3]
    refine PureT.eq (c15 _) rfl ?_
    simp -implicitDefEqProofs (dsimp := false) only [go_sem, simprocAttr, hfb, hsa, hsb, Int.cast_ofNat_Int, tk, hn, h3]
    refine PureT.eq (c16 _) rfl ?_
    simp -implicitDefEqProofs (dsimp := false) only [go_sem, simprocAttr, hfb, hsa, hsb, Int.cast_ofNat_Int, tk, hn, h3]
    refine PureT.eq (c16 _) rfl ?_
    simp -implicitDefEqProofs (dsimp := false) only [go_sem, simprocAttr, hfb, hsa, hsb, Int.cast_ofNat_Int, tk, hn, h3]
    refine CodeT.cond rfl (fun g8 => ?_) (fun g8 => ?_)
    have d8 := ofDec g8
    (exfalso; omega)
    have d8 := ofDecF g8
    refine CodeT.skip ?_
    simp -implicitDefEqProofs (dsimp := false) only [go_sem, simprocAttr, hfb, hsa, hsb, Int.cast_ofNat_Int, tk, hn, h3, g8]
    refine CodeT.seqR ?_
    simp -implicitDefEqProofs (dsimp := false) only [go_sem, simprocAttr, hfb, hsa, hsb, Int.cast_ofNat_Int, tk, hn, h3, g8]
    refine PureT.eq (c17k d a hf ?_ ?_ e1) rfl ?_
    omega
    omega
    simp -implicitDefEqProofs (dsimp := false) only [go_sem, simprocAttr, hfb, hsa, hsb, Int.cast_ofNat_Int, tk, hn, h3, g8]
    refine CodeT.seqR ?_
    simp -implicitDefEqProofs (dsimp := false) only [go_sem, simprocAttr, hfb, hsa, hsb, Int.cast_ofNat_Int, tk, hn, h3, g8]
    refine PureT.eq (c17k x b fx ?_ qx e2) rfl ?_
    omega
    simp -implicitDefEqProofs (dsimp := false) only [go_sem, simprocAttr, hfb, hsa, hsb, Int.cast_ofNat_Int, tk, hn, h3, g8]
    refine CodeT.seqL [10] [(2, .free), (4, .free), (0, .read), (1, .upd), (3, .upd), (5, .upd), (6, .upd), (7, .free), (8, .free), (9, .free), (10, .upd), (11, .set), (12, .free)] mixed (by kernel_rfl) ?_
    simp -implicitDefEqProofs (dsimp := false) only [go_sem, simprocAttr, hfb, hsa, hsb, Int.cast_ofNat_Int, tk, hn, h3, g8]
    refine And.intro (by trivial) ?_
    refine And.intro (by exact Stable.refl _) ?_
    refine And.intro (by exact uni_opvs _) ?_
    refine And.intro (by omega) ?_
    refine And.intro (by exact Stable.same (Stable.same (Stable.same (Stable.nil _)))) ?_
    refine And.intro (by exact uni_opvs _) ?_
    refine And.intro (by omega) ?_
    refine And.intro (by exact Stable.same (Stable.same (Stable.same (Stable.row (Stable.refl _))))) ?_
    refine ⟨⟨_, Try.func17, by decide, rfl⟩, Or.inl ?_⟩
    simp -implicitDefEqProofs (dsimp := false) only [go_sem, simprocAttr, hfb, hsa, hsb, Int.cast_ofNat_Int, tk, hn, h3, g8]
    refine And.intro (by omega) ?_
    refine CallY.pure (c17k d (a ++ b) hf ?_ ?_ e3) rfl ?_
    assumption
    omega
    simp -implicitDefEqProofs (dsimp := false) only [go_sem, simprocAttr, hfb, hsa, hsb, Int.cast_ofNat_Int, tk, hn, h3, g8]
    refine And.intro (by exact Stable.same (Stable.same (Stable.same (Stable.row (Stable.refl _))))) ?_
    refine And.intro (by exact Stable.append [_, _, _, _] [_]) ?_
    refine CodeT.seq ?_
    refine CodeT.seqR ?_
    simp -implicitDefEqProofs (dsimp := false) only [go_sem, simprocAttr, hfb, hsa, hsb, Int.cast_ofNat_Int, tk, hn, h3, g8]
    refine CodeT.condT rfl ?_
    refine CodeT.seqR ?_
    simp -implicitDefEqProofs (dsimp := false) only [go_sem, simprocAttr, hfb, hsa, hsb, Int.cast_ofNat_Int, tk, hn, h3, g8]
    refine CodeT.ret ?_
    simp -implicitDefEqProofs (dsimp := false) only [go_sem, simprocAttr, hfb, hsa, hsb, Int.cast_ofNat_Int, tk, hn, h3, g8]
    refine pureEnd rfl ?_
    simp -implicitDefEqProofs (dsimp := false) only [go_sem, simprocAttr, hfb, hsa, hsb, Int.cast_ofNat_Int, tk, hn, h3, g8]
theorem c4 (d : Dsk) (a b : List DOp) (cuts : List Int) : PureT Try.prog 4 [dkv d, .sl false (opvs a), .sl false (opvs b), .sl false (is64 cuts)] (· = .val (.bool true)) := by
  cases hfb : fewB d
  · refine CallT.intro Try.func4 (by decide) rfl ?_
    simp -implicitDefEqProofs (dsimp := false) only [go_sem, simprocAttr, hfb, enterTm, Try.ntmps4, List.range'_succ, List.range'_zero, List.zip_cons_cons, List.zip_nil_left]
    refine CodeT.seqR ?_
    simp -implicitDefEqProofs (dsimp := false) only [go_sem, simprocAttr, hfb]
    refine CodeT.freeze 4 ?_
    simp -implicitDefEqProofs (dsimp := false) only [go_sem, simprocAttr, hfb]
    refine CodeT.seqR ?_
    simp -implicitDefEqProofs (dsimp := false) only [go_sem, simprocAttr, hfb]
    refine PureT.eq (c12) rfl ?_
    simp -implicitDefEqProofs (dsimp := false) only [go_sem, simprocAttr, hfb]
    refine CodeT.seq ?_
    refine CodeT.seqR ?_
    simp -implicitDefEqProofs (dsimp := false) only [go_sem, simprocAttr, hfb]
    refine PureT.eq (c15 _) rfl ?_
    simp -implicitDefEqProofs (dsimp := false) only [go_sem, simprocAttr, hfb]
    refine CodeT.condT rfl ?_
    refine CodeT.seqR ?_
    simp -implicitDefEqProofs (dsimp := false) only [go_sem, simprocAttr, hfb]
    refine CodeT.ret ?_
    simp -implicitDefEqProofs (dsimp := false) only [go_sem, simprocAttr, hfb]
    refine pureEnd rfl ?_
    simp -implicitDefEqProofs (dsimp := false) only [go_sem, simprocAttr, hfb]
  cases hsa : shortB a
  · refine CallT.intro Try.func4 (by decide) rfl ?_
    simp -implicitDefEqProofs (dsimp := false) only [go_sem, simprocAttr, hfb, hsa, enterTm, Try.ntmps4, List.range'_succ, List.range'_zero, List.zip_cons_cons, List.zip_nil_left]
    refine CodeT.seqR ?_
    simp -implicitDefEqProofs (dsimp := false) only [go_sem, simprocAttr, hfb, hsa]
    refine CodeT.freeze 4 ?_
    simp -implicitDefEqProofs (dsimp := false) only [go_sem, simprocAttr, hfb, hsa]
    refine CodeT.seqR ?_
    simp -implicitDefEqProofs (dsimp := false) only [go_sem, simprocAttr, hfb, hsa]
    refine PureT.eq (c12) rfl ?_
    simp -implicitDefEqProofs (dsimp := false) only [go_sem, simprocAttr, hfb, hsa]
    refine CodeT.seq ?_
    refine CodeT.seqR ?_
    simp -implicitDefEqProofs (dsimp := false) only [go_sem, simprocAttr, hfb, hsa]
    refine PureT.eq (c15 _) rfl ?_
    simp -implicitDefEqProofs (dsimp := false) only [go_sem, simprocAttr, hfb, hsa]
    refine PureT.eq (c16 _) rfl ?_
    simp -implicitDefEqProofs (dsimp := false) only [go_sem, simprocAttr, hfb, hsa]
    refine CodeT.condT rfl ?_
    refine CodeT.seqR ?_
    simp -implicitDefEqProofs (dsimp := false) only [go_sem, simprocAttr, hfb, hsa]
    refine CodeT.ret ?_
    simp -implicitDefEqProofs (dsimp := false) only [go_sem, simprocAttr, hfb, hsa]
    refine pureEnd rfl ?_
    simp -implicitDefEqProofs (dsimp := false) only [go_sem, simprocAttr, hfb, hsa]
  cases hsb : shortB b
  · refine CallT.intro Try.func4 (by decide) rfl ?_
    simp -implicitDefEqProofs (dsimp := false) only [go_sem, simprocAttr, hfb, hsa, hsb, enterTm, Try.ntmps4, List.range'_succ, List.range'_zero, List.zip_cons_cons, List.zip_nil_left]
    refine CodeT.seqR ?_
    simp -implicitDefEqProofs (dsimp := false) only [go_sem, simprocAttr, hfb, hsa, hsb]
    refine CodeT.freeze 4 ?_
    simp -implicitDefEqProofs (dsimp := false) only [go_sem, simprocAttr, hfb, hsa, hsb]
    refine CodeT.seqR ?_
    simp -implicitDefEqProofs (dsimp := false) only [go_sem, simprocAttr, hfb, hsa, hsb]
    refine PureT.eq (c12) rfl ?_
    simp -implicitDefEqProofs (dsimp := false) only [go_sem, simprocAttr, hfb, hsa, hsb]
    refine CodeT.seq ?_
    refine CodeT.seqR ?_
    simp -implicitDefEqProofs (dsimp := false) only [go_sem, simprocAttr, hfb, hsa, hsb]
    refine PureT.eq (c15 _) rfl ?_
    simp -implicitDefEqProofs (dsimp := false) only [go_sem, simprocAttr, hfb, hsa, hsb]
    refine PureT.eq (c16 _) rfl ?_
    simp -implicitDefEqProofs (dsimp := false) only [go_sem, simprocAttr, hfb, hsa, hsb]
    refine PureT.eq (c16 _) rfl ?_
    simp -implicitDefEqProofs (dsimp := false) only [go_sem, simprocAttr, hfb, hsa, hsb]
    refine CodeT.condT rfl ?_
    refine CodeT.seqR ?_
    simp -implicitDefEqProofs (dsimp := false) only [go_sem, simprocAttr, hfb, hsa, hsb]
    refine CodeT.ret ?_
    simp -implicitDefEqProofs (dsimp := false) only [go_sem, simprocAttr, hfb, hsa, hsb]
    refine pureEnd rfl ?_
    simp -implicitDefEqProofs (dsimp := false) only [go_sem, simprocAttr, hfb, hsa, hsb]
  cases hcu : decide ((cuts.length : Int) > 1000)
  case true =>
    refine CallT.intro Try.func4 (by decide) rfl ?_
    simp -implicitDefEqProofs (dsimp := false) only [go_sem, simprocAttr, hfb, hsa, hsb, hcu, enterTm, Try.ntmps4, List.range'_succ, List.range'_zero, List.zip_cons_cons, List.zip_nil_left]
    refine CodeT.seqR ?_
    simp -implicitDefEqProofs (dsimp := false) only [go_sem, simprocAttr, hfb, hsa, hsb, hcu]
    refine CodeT.freeze 4 ?_
    simp -implicitDefEqProofs (dsimp := false) only [go_sem, simprocAttr, hfb, hsa, hsb, hcu]
    refine CodeT.seqR ?_
    simp -implicitDefEqProofs (dsimp := false) only [go_sem, simprocAttr, hfb, hsa, hsb, hcu]
    refine PureT.eq (c12) rfl ?_
    simp -implicitDefEqProofs (dsimp := false) only [go_sem, simprocAttr, hfb, hsa, hsb, hcu]
    refine CodeT.seq ?_
    refine CodeT.seqR ?_
    simp -implicitDefEqProofs (dsimp := false) only [go_sem, simprocAttr, hfb, hsa, hsb, hcu]
    refine PureT.eq (c15 _) rfl ?_
    simp -implicitDefEqProofs (dsimp := false) only [go_sem, simprocAttr, hfb, hsa, hsb, hcu]
    refine PureT.eq (c16 _) rfl ?_
    simp -implicitDefEqProofs (dsimp := false) only [go_sem, simprocAttr, hfb, hsa, hsb, hcu]
    refine PureT.eq (c16 _) rfl ?_
    simp -implicitDefEqProofs (dsimp := false) only [go_sem, simprocAttr, hfb, hsa, hsb, hcu]
    refine CodeT.condT rfl ?_
    refine CodeT.seqR ?_
    simp -implicitDefEqProofs (dsimp := false) only [go_sem, simprocAttr, hfb, hsa, hsb, hcu]
    refine CodeT.ret ?_
    simp -implicitDefEqProofs (dsimp := false) only [go_sem, simprocAttr, hfb, hsa, hsb, hcu]
    refine pureEnd rfl ?_
    simp -implicitDefEqProofs (dsimp := false) only [go_sem, simprocAttr, hfb, hsa, hsb, hcu]
  have hc : cuts.length ≤ 1000 := by have := of_decide_eq_false hcu; omega
  obtain ⟨hf, -, hq⟩ := fewB_few hfb
  have la := shortB_short hsa
  have lb := shortB_short hsb
  have fe : Few ⟨[], []⟩ := ⟨by simp, by simp⟩
  have ee : ∀ l, doV ⟨[], []⟩ l = .tup [dkv ⟨[], []⟩, er 281] := fun l => rfl
  cases hi : isDiskB d
  · have ed : ∀ l, doV d l = .tup [dkv ⟨[], []⟩, er 281] := fun l => by unfold doV; rw [hi]; rfl
    exact c4bad d a b cuts hfb hsa hsb hc _ _ _ fe (by simp) _ _ _ (ed a) (ee b) (ed _) rfl rfl
  cases ha : badArg d a
  case true =>
    have e1 : doV d a = .tup [dkv ⟨[], []⟩, er 1] := by unfold doV; rw [hi, ha]; rfl
    have e3 : doV d (a ++ b) = .tup [dkv ⟨[], []⟩, er 1] := by unfold doV; rw [hi, bad_append, ha]; rfl
    exact c4bad d a b cuts hfb hsa hsb hc _ _ _ fe (by simp) _ _ _ e1 (ee b) e3 rfl rfl
  obtain ⟨hx, bx, qx⟩ := doB_disk a hi ha
  have fx : Few (doB d a) := ⟨by rw [bx]; exact hf.b, by omega⟩
  have e1 : doV d a = .tup [dkv (doB d a), er 0] := by unfold doV; rw [hi, ha]; rfl
  cases hb : badArg d b
  case true =>
    have e2 : doV (doB d a) b = .tup [dkv ⟨[], []⟩, er 1] := by
      have : badArg (doB d a) b = true := by rw [badArg, bx]; exact hb
      unfold doV; rw [hx, this]; rfl
    have e3 : doV d (a ++ b) = .tup [dkv ⟨[], []⟩, er 1] := by unfold doV; rw [hi, bad_append, ha, hb]; rfl
    exact c4bad d a b cuts hfb hsa hsb hc _ _ _ fx (by omega) _ _ _ e1 e2 e3 rfl rfl
  have hbx : badArg (doB d a) b = false := by rw [badArg, bx]; exact hb
  obtain ⟨hz, bz, qz⟩ := doB_disk b hx hbx
  have fz : Few (doB (doB d a) b) := ⟨by rw [bz, bx]; exact hf.b, by omega⟩
  have e2 : doV (doB d a) b = .tup [dkv (doB (doB d a) b), er 0] := by unfold doV; rw [hx, hbx]; rfl
  have e3 : doV d (a ++ b) = .tup [dkv (doB (doB d a) b), er 0] := by unfold doV; rw [hi, bad_append, ha, hb, doB_append]; rfl
  have sl := seenB_length (isDisk_ok hz).2
  generalize doB (doB d a) b = z at *
  have hS := isDisk_nil hz sl
  refine c4ok d a b cuts hfb hsa hsb hc _ z (seenB z) fx fz ⟨by rw [sl]; exact fz.b, by simp⟩ (by omega) (by omega) e1 e2 e3 ?_ ?_ ?_
  · have : badArg z [fl] = false := by simp [badArg, fitsB, fl]
    unfold doV; rw [hz, this]; rfl
  · unfold crashV; rw [hz, lens, crash_all]; rfl
  · unfold crashV; rw [hS]; rfl
end Go.Proofs.Try

namespace Go.Proofs.Try
set_option linter.unusedSimpArgs false
set_option linter.unusedVariables false
open Go.PM
set_option maxHeartbeats 4000000
set_option maxRecDepth 100000

/-- The records of b are o, up to e, and those from there on. -/
def Got (b : List UInt8) (o : List (List UInt8)) (e : Nat) : Prop :=
  ∃ f, b.length - e < f ∧ e ≤ b.length ∧ o.length ≤ e ∧ parseR b = o ++ (recs f (b.drop e) e).map (·.1) ∧ parseE b = if recs f (b.drop e) e = [] then e else endAt (recs f (b.drop e) e)
theorem got_0 (b : List UInt8) : Got b [] 0 := by
  refine ⟨b.length + 1, by omega, by omega, by simp, rfl, ?_⟩
  show endAt (recs (b.length + 1) b 0) = _
  split
  · rename_i h; rw [List.drop_zero] at h; rw [h]; rfl
  · rfl
theorem got_end {b : List UInt8} {o : List (List UInt8)} {e : Nat} (h : Got b o e) (hs : scan1 (b.drop e) = none) : parseR b = o ∧ parseE b = e := by
  obtain ⟨f, h1, h2, h0, h3, h4⟩ := h
  rw [recs_none hs] at h3 h4
  exact ⟨by simpa using h3, by simpa using h4⟩
theorem got_next {b : List UInt8} {o : List (List UInt8)} {e : Nat} (h : Got b o e) {r : List UInt8} {m : Nat} (hs : scan1 (b.drop e) = some (r, m)) : Got b (o ++ [r]) (e + m) := by
  obtain ⟨f, h1, h2, h0, h3, h4⟩ := h
  obtain ⟨k1, k2, _⟩ := scan1_pos hs
  rw [List.length_drop] at k2
  cases f with
  | zero => omega
  | succ f =>
    simp only [recs, hs, List.drop_drop] at h3 h4
    refine ⟨f, by omega, by omega, by simp; omega, by rw [h3]; simp, ?_⟩
    rw [h4, if_neg (by simp), endAt_cons]
theorem tonat (n : Nat) : (((n : Nat) : Int) + 1).toNat = n + 1 := by omega
theorem joined2 (x y : UInt8) : IntKind.u8.wrap (IntKind.u8.wrap (IntKind.u8.wrap (IntKind.u8.wrap ((x.toNat : Int) - 16) * 16) + (y.toNat : Int)) - 16) = ((joinb x y).toNat : Int) := by
  rw [Int.mul_comm]
  exact joined x y
theorem dg {x : UInt8} (h1 : (x.toNat : Int) ≥ 16) (h2 : (x.toNat : Int) < 32) : digit x = true := by
  simp [digit, UInt8.le_iff_toNat_le, UInt8.lt_iff_toNat_lt]; omega
theorem dg1 {x : UInt8} (h1 : ¬ (x.toNat : Int) ≥ 16) : digit x = false := by
  simp [digit, UInt8.le_iff_toNat_le, UInt8.lt_iff_toNat_lt]; omega
theorem dg2 {x : UInt8} (h1 : ¬ (x.toNat : Int) < 32) : digit x = false := by
  simp [digit, UInt8.le_iff_toNat_le, UInt8.lt_iff_toNat_lt]; omega
theorem nl {x : UInt8} (h : (x.toNat : Int) < 32) : x ≠ 255 := fun h' => by rw [h'] at h; simp at h
/-- Where no further byte of a record stands. -/
def Stop (b : List UInt8) (i : Nat) : Prop := b.length ≤ i + 1 ∨ (digit (b.getD i 0) && digit (b.getD (i + 1) 0)) = false
theorem stop_none {b : List UInt8} {i : Nat} (h : Stop b i) (hx : b.length ≤ i ∨ b.getD i 0 ≠ 255) : scan1 (b.drop i) = none := by
  by_cases hi : b.length ≤ i
  · exact scan1_end hi
  have hx' : b.getD i 0 ≠ 255 := hx.resolve_left hi
  rcases h with h | h
  · exact scan1_odd (by omega) h hx'
  · by_cases h2 : b.length ≤ i + 1
    · exact scan1_odd (by omega) h2 hx'
    · exact scan1_bad (by omega) hx' (by rw [h]; simp)
theorem c44 (b : List UInt8) (hb : b.length ≤ 4000000) : PureT Try.prog 44 [.sl false (bs b)] (· = .tup [.sl false (bss (parseR b)), .val (.int .i64 (parseE b : Nat))]) := by
  refine CallT.res ?_
  refine CallT.intro Try.func44 (by decide) rfl ?_
  simp -implicitDefEqProofs (dsimp := false) only [go_sem, simprocAttr, joined2, bs_snoc, tonat, enterTm, Try.ntmps44, List.range'_succ, List.range'_zero, List.zip_cons_cons, List.zip_nil_left]
  refine CodeT.seqR ?_
  simp -implicitDefEqProofs (dsimp := false) only [go_sem, simprocAttr, joined2, bs_snoc, tonat]
  refine CodeT.seqR ?_
  simp -implicitDefEqProofs (dsimp := false) only [go_sem, simprocAttr, joined2, bs_snoc, tonat]
  refine CodeT.seqR ?_
  simp -implicitDefEqProofs (dsimp := false) only [go_sem, simprocAttr, joined2, bs_snoc, tonat]
  refine CodeT.block ?_
  refine CodeT.promote 4 1 rfl ?_
  simp -implicitDefEqProofs (dsimp := false) only [go_sem, simprocAttr, joined2, bs_snoc, tonat]
  refine CodeT.whileS (fun x : List (List UInt8) × Nat => [(4, .hsl 0 x.1.length 0 x.1.length), (5, .val (.int .i64 (x.2 : Nat)))]) [0] (fun x : List (List UInt8) × Nat => [.row true x.1.length 1 (bss x.1)]) (fun x : List (List UInt8) × Nat => Got b x.1 x.2) (fun x : List (List UInt8) × Nat => b.length - x.2) (([], 0)) ?_ rfl ?_ ?_
  simp -implicitDefEqProofs (dsimp := false) only [go_sem, simprocAttr, joined2, bs_snoc, tonat]
  rotate_left
  refine ⟨rfl, ?_, ?_, rfl, ?_⟩
  simp -implicitDefEqProofs (dsimp := false) only [go_sem, simprocAttr, joined2, bs_snoc, tonat, or_true, true_or, false_or, or_false, implies_true, Int.natCast_add, Int.cast_ofNat_Int, keepsD_nil]
  trivial
  simp -implicitDefEqProofs (dsimp := false) only [go_sem, simprocAttr, joined2, bs_snoc, tonat, or_true, true_or, false_or, or_false, implies_true, Int.natCast_add, Int.cast_ofNat_Int, keepsD_nil]
  trivial
  simp -implicitDefEqProofs (dsimp := false) only [go_sem, simprocAttr, joined2, bs_snoc, tonat, or_true, true_or, false_or, or_false, implies_true, Int.natCast_add, Int.cast_ofNat_Int, keepsD_nil]
  rintro ⟨o, e⟩ hx
  have f1 : e ≤ b.length ∧ o.length ≤ e := by obtain ⟨f, h1, h2, h0, h3, h4⟩ := hx; exact ⟨h2, h0⟩
  obtain ⟨f1, f2⟩ := f1
  simp -implicitDefEqProofs (dsimp := false) only [go_sem, simprocAttr, joined2, bs_snoc, tonat]
  refine CodeT.block ?_
  refine CodeT.seqR ?_
  simp -implicitDefEqProofs (dsimp := false) only [go_sem, simprocAttr, joined2, bs_snoc, tonat]
  refine CodeT.seqR ?_
  simp -implicitDefEqProofs (dsimp := false) only [go_sem, simprocAttr, joined2, bs_snoc, tonat]
  refine CodeT.cutS (fun z : Nat × List UInt8 => [(6, .hsl 1 z.1 0 z.1), (7, .val (.int .i64 (e + 2 * z.1 : Nat)))]) [4, 5, 0] (fun z : Nat × List UInt8 => [.row true o.length 1 (bss o), .row true z.1 1 (bs z.2)]) (fun z : Nat × List UInt8 => sofar b e z.1 z.2 ∧ e + 2 * z.1 ≤ b.length ∧ Stop b (e + 2 * z.1)) ?_ ?_
  refine CodeT.block ?_
  refine CodeT.promote 6 1 rfl ?_
  simp -implicitDefEqProofs (dsimp := false) only [go_sem, simprocAttr, joined2, bs_snoc, tonat]
  refine CodeT.whileS (fun y : Nat × List UInt8 => [(6, .hsl 1 y.1 0 y.1), (7, .val (.int .i64 (e + 2 * y.1 : Nat)))]) [4, 5, 0] (fun y : Nat × List UInt8 => [.row true o.length 1 (bss o), .row true y.1 1 (bs y.2)]) (fun y : Nat × List UInt8 => sofar b e y.1 y.2 ∧ e + 2 * y.1 ≤ b.length) (fun y : Nat × List UInt8 => b.length - (e + 2 * y.1)) ((0, [])) ?_ rfl ?_ ?_
  simp -implicitDefEqProofs (dsimp := false) only [go_sem, simprocAttr, joined2, bs_snoc, tonat]
  rotate_left
  refine ⟨rfl, ?_, ?_, rfl, ?_⟩
  simp -implicitDefEqProofs (dsimp := false) only [go_sem, simprocAttr, joined2, bs_snoc, tonat, or_true, true_or, false_or, or_false, implies_true, Int.natCast_add, Int.cast_ofNat_Int, keepsD_nil]
  refine And.intro ?_ ?_
  trivial
  trivial
  simp -implicitDefEqProofs (dsimp := false) only [go_sem, simprocAttr, joined2, bs_snoc, tonat, or_true, true_or, false_or, or_false, implies_true, Int.natCast_add, Int.cast_ofNat_Int, keepsD_nil]
  trivial
  simp -implicitDefEqProofs (dsimp := false) only [go_sem, simprocAttr, joined2, bs_snoc, tonat, or_true, true_or, false_or, or_false, implies_true, Int.natCast_add, Int.cast_ofNat_Int, keepsD_nil]
  rintro ⟨j, r⟩ hy
  obtain ⟨f3, f4⟩ := hy
  have f5 : r.length = j := f3.1
  have f7 : IntKind.i64.wrap (((e + 2 * j : Nat) : Int) + 1) = ((e + 2 * j : Nat) : Int) + 1 := i64_in (by omega) (by omega)
  simp -implicitDefEqProofs (dsimp := false) only [go_sem, simprocAttr, joined2, bs_snoc, tonat]
  refine CodeT.seq ?_
  refine CodeT.seqR ?_
  simp -implicitDefEqProofs (dsimp := false) only [go_sem, simprocAttr, joined2, bs_snoc, tonat]
  simp -implicitDefEqProofs (dsimp := false) (disch := omega) only [i64_in, bs_getD, opvs_getD, is64_getD, bss_getD]
  refine gif_i (fun g1 => ?_) (fun g1 => ?_)
  have d1 := ofDec g1
  simp -implicitDefEqProofs (dsimp := false) only [go_sem, simprocAttr, joined2, bs_snoc, tonat, g1]
  simp -implicitDefEqProofs (dsimp := false) (disch := omega) only [i64_in, bs_getD, opvs_getD, is64_getD, bss_getD]
  simp -implicitDefEqProofs (dsimp := false) only [go_sem, simprocAttr, joined2, bs_snoc, tonat, g1]
  simp -implicitDefEqProofs (dsimp := false) (disch := omega) only [i64_in, bs_getD, opvs_getD, is64_getD, bss_getD]
  simp -implicitDefEqProofs (dsimp := false) only [go_sem, simprocAttr, joined2, bs_snoc, tonat, g1]
  refine gate_i ?_ ?_
  omega
  simp -implicitDefEqProofs (dsimp := false) (disch := omega) only [Int.toNat_natCast, i64_in, bs_getD, opvs_getD, is64_getD, bss_getD]
  simp -implicitDefEqProofs (dsimp := false) only [go_sem, simprocAttr, joined2, bs_snoc, tonat, g1]
  refine gif_i (fun g2 => ?_) (fun g2 => ?_)
  have d2 := ofDec g2
  simp -implicitDefEqProofs (dsimp := false) only [go_sem, simprocAttr, joined2, bs_snoc, tonat, g1, g2]
  refine gate_i ?_ ?_
  omega
  simp -implicitDefEqProofs (dsimp := false) (disch := omega) only [Int.toNat_natCast, i64_in, bs_getD, opvs_getD, is64_getD, bss_getD]
  simp -implicitDefEqProofs (dsimp := false) only [go_sem, simprocAttr, joined2, bs_snoc, tonat, g1, g2]
  refine gif_i (fun g3 => ?_) (fun g3 => ?_)
  have d3 := ofDec g3
  simp -implicitDefEqProofs (dsimp := false) only [go_sem, simprocAttr, joined2, bs_snoc, tonat, g1, g2, g3]
  refine gate_i ?_ ?_
  omega
  simp -implicitDefEqProofs (dsimp := false) (disch := omega) only [Int.toNat_natCast, i64_in, bs_getD, opvs_getD, is64_getD, bss_getD]
  simp -implicitDefEqProofs (dsimp := false) only [go_sem, simprocAttr, joined2, bs_snoc, tonat, g1, g2, g3]
  refine gif_i (fun g4 => ?_) (fun g4 => ?_)
  have d4 := ofDec g4
  simp -implicitDefEqProofs (dsimp := false) only [go_sem, simprocAttr, joined2, bs_snoc, tonat, g1, g2, g3, g4]
  refine gate_i ?_ ?_
  omega
  simp -implicitDefEqProofs (dsimp := false) (disch := omega) only [Int.toNat_natCast, i64_in, bs_getD, opvs_getD, is64_getD, bss_getD]
  simp -implicitDefEqProofs (dsimp := false) only [go_sem, simprocAttr, joined2, bs_snoc, tonat, g1, g2, g3, g4]
  refine CodeT.cond rfl (fun g5 => ?_) (fun g5 => ?_)
  have d5 := ofDec g5
  refine CodeT.skip ?_
  simp -implicitDefEqProofs (dsimp := false) only [go_sem, simprocAttr, joined2, bs_snoc, tonat, g1, g2, g3, g4, g5]
  refine CodeT.block ?_
  refine CodeT.seqD [(0, .free), (1, .free), (2, .free), (7, .free), (8, .free), (9, .free), (3, .read), (4, .read), (5, .free), (6, .free), (10, .read), (11, .read), (12, .free), (13, .free), (14, .upd), (15, .upd), (16, .free)] mixed (by kernel_rfl) ?_
  simp -implicitDefEqProofs (dsimp := false) only [go_sem, simprocAttr, joined2, bs_snoc, tonat, g1, g2, g3, g4, g5]
  refine gate_i ?_ ?_
  omega
  simp -implicitDefEqProofs (dsimp := false) (disch := omega) only [Int.toNat_natCast, i64_in, bs_getD, opvs_getD, is64_getD, bss_getD]
  simp -implicitDefEqProofs (dsimp := false) only [go_sem, simprocAttr, joined2, bs_snoc, tonat, g1, g2, g3, g4, g5]
  refine gate_i ?_ ?_
  omega
  simp -implicitDefEqProofs (dsimp := false) (disch := omega) only [Int.toNat_natCast, i64_in, bs_getD, opvs_getD, is64_getD, bss_getD]
  simp -implicitDefEqProofs (dsimp := false) only [go_sem, simprocAttr, joined2, bs_snoc, tonat, g1, g2, g3, g4, g5]
  refine And.intro (by trivial) ?_
  refine And.intro (by exact Stable.refl _) ?_
  refine And.intro (by exact uni_bs [_]) ?_
  refine And.intro (by omega) ?_
  refine And.intro (by omega) ?_
  refine And.intro (by exact Stable.same (Stable.row (Stable.refl _))) ?_
  refine CodeT.region ?_
  simp -implicitDefEqProofs (dsimp := false) only [go_sem, simprocAttr, joined2, bs_snoc, tonat, g1, g2, g3, g4, g5]
  simp -implicitDefEqProofs (dsimp := false) (disch := omega) only [i64_in, bs_getD, opvs_getD, is64_getD, bss_getD]
  refine ⟨(j + 1, r ++ [joinb (b.getD (e + 2 * j) 0) (b.getD (e + 2 * j + 1) 0)]), ?_⟩
  refine And.intro ?_ ?_
  refine And.intro ?_ ?_
  simp -implicitDefEqProofs (dsimp := false) only [go_sem, simprocAttr, joined2, bs_snoc, tonat, g1, g2, g3, g4, g5, Nat.le_refl, List.length_cons, List.length_append, List.length_nil]
  rotate_left
  omega
  refine And.intro ?_ ?_
  omega
  refine ⟨rfl, ?_, ?_, rfl, ?_⟩
  simp -implicitDefEqProofs (dsimp := false) only [go_sem, simprocAttr, joined2, bs_snoc, tonat, g1, g2, g3, g4, g5, or_true, true_or, false_or, or_false, implies_true, Int.natCast_add, Int.cast_ofNat_Int, keepsD_nil]
  refine And.intro ?_ ?_
  (congr 1 <;> omega)
  refine And.intro ?_ ?_
  trivial
  refine And.intro ?_ ?_
  trivial
  trivial
  simp -implicitDefEqProofs (dsimp := false) only [go_sem, simprocAttr, joined2, bs_snoc, tonat, g1, g2, g3, g4, g5, or_true, true_or, false_or, or_false, implies_true, Int.natCast_add, Int.cast_ofNat_Int, keepsD_nil]
  simp -implicitDefEqProofs (dsimp := false) only [go_sem, simprocAttr, joined2, bs_snoc, tonat, g1, g2, g3, g4, g5, or_true, true_or, false_or, or_false, implies_true, Int.natCast_add, Int.cast_ofNat_Int, keepsD_nil]
  have d5 := ofDecF g5
  refine CodeT.exit ?_
  simp -implicitDefEqProofs (dsimp := false) only [go_sem, simprocAttr, joined2, bs_snoc, tonat, g1, g2, g3, g4, g5]
  refine ⟨(j, r), ?_⟩
  refine And.intro ?_ ?_
  refine And.intro ?_ ?_
  assumption
  refine And.intro ?_ ?_
  assumption
  simp -implicitDefEqProofs (dsimp := false) only [go_sem, simprocAttr, joined2, bs_snoc, tonat, g1, g2, g3, g4, g5, Nat.le_refl, List.length_cons, List.length_append, List.length_nil]
  rotate_left
  refine ⟨rfl, ?_, ?_, rfl, ?_⟩
  simp -implicitDefEqProofs (dsimp := false) only [go_sem, simprocAttr, joined2, bs_snoc, tonat, g1, g2, g3, g4, g5, or_true, true_or, false_or, or_false, implies_true, Int.natCast_add, Int.cast_ofNat_Int, keepsD_nil]
  refine And.intro ?_ ?_
  trivial
  trivial
  simp -implicitDefEqProofs (dsimp := false) only [go_sem, simprocAttr, joined2, bs_snoc, tonat, g1, g2, g3, g4, g5, or_true, true_or, false_or, or_false, implies_true, Int.natCast_add, Int.cast_ofNat_Int, keepsD_nil]
  simp -implicitDefEqProofs (dsimp := false) only [go_sem, simprocAttr, joined2, bs_snoc, tonat, g1, g2, g3, g4, g5, or_true, true_or, false_or, or_false, implies_true, Int.natCast_add, Int.cast_ofNat_Int, keepsD_nil]
  have d4 := ofDecF g4
  simp -implicitDefEqProofs (dsimp := false) only [go_sem, simprocAttr, joined2, bs_snoc, tonat, g1, g2, g3, g4]
  refine CodeT.condF rfl ?_
  refine CodeT.exit ?_
  simp -implicitDefEqProofs (dsimp := false) only [go_sem, simprocAttr, joined2, bs_snoc, tonat, g1, g2, g3, g4]
  refine ⟨(j, r), ?_⟩
  refine And.intro ?_ ?_
  refine And.intro ?_ ?_
  assumption
  refine And.intro ?_ ?_
  assumption
  simp -implicitDefEqProofs (dsimp := false) only [go_sem, simprocAttr, joined2, bs_snoc, tonat, g1, g2, g3, g4, Nat.le_refl, List.length_cons, List.length_append, List.length_nil]
  rotate_left
  refine ⟨rfl, ?_, ?_, rfl, ?_⟩
  simp -implicitDefEqProofs (dsimp := false) only [go_sem, simprocAttr, joined2, bs_snoc, tonat, g1, g2, g3, g4, or_true, true_or, false_or, or_false, implies_true, Int.natCast_add, Int.cast_ofNat_Int, keepsD_nil]
  refine And.intro ?_ ?_
  trivial
  trivial
  simp -implicitDefEqProofs (dsimp := false) only [go_sem, simprocAttr, joined2, bs_snoc, tonat, g1, g2, g3, g4, or_true, true_or, false_or, or_false, implies_true, Int.natCast_add, Int.cast_ofNat_Int, keepsD_nil]
  simp -implicitDefEqProofs (dsimp := false) only [go_sem, simprocAttr, joined2, bs_snoc, tonat, g1, g2, g3, g4, or_true, true_or, false_or, or_false, implies_true, Int.natCast_add, Int.cast_ofNat_Int, keepsD_nil]
  have d3 := ofDecF g3
  simp -implicitDefEqProofs (dsimp := false) only [go_sem, simprocAttr, joined2, bs_snoc, tonat, g1, g2, g3]
  refine CodeT.condF rfl ?_
  refine CodeT.exit ?_
  simp -implicitDefEqProofs (dsimp := false) only [go_sem, simprocAttr, joined2, bs_snoc, tonat, g1, g2, g3]
  refine ⟨(j, r), ?_⟩
  refine And.intro ?_ ?_
  refine And.intro ?_ ?_
  assumption
  refine And.intro ?_ ?_
  assumption
  simp -implicitDefEqProofs (dsimp := false) only [go_sem, simprocAttr, joined2, bs_snoc, tonat, g1, g2, g3, Nat.le_refl, List.length_cons, List.length_append, List.length_nil]
  rotate_left
  refine ⟨rfl, ?_, ?_, rfl, ?_⟩
  simp -implicitDefEqProofs (dsimp := false) only [go_sem, simprocAttr, joined2, bs_snoc, tonat, g1, g2, g3, or_true, true_or, false_or, or_false, implies_true, Int.natCast_add, Int.cast_ofNat_Int, keepsD_nil]
  refine And.intro ?_ ?_
  trivial
  trivial
  simp -implicitDefEqProofs (dsimp := false) only [go_sem, simprocAttr, joined2, bs_snoc, tonat, g1, g2, g3, or_true, true_or, false_or, or_false, implies_true, Int.natCast_add, Int.cast_ofNat_Int, keepsD_nil]
  simp -implicitDefEqProofs (dsimp := false) only [go_sem, simprocAttr, joined2, bs_snoc, tonat, g1, g2, g3, or_true, true_or, false_or, or_false, implies_true, Int.natCast_add, Int.cast_ofNat_Int, keepsD_nil]
  have d2 := ofDecF g2
  simp -implicitDefEqProofs (dsimp := false) only [go_sem, simprocAttr, joined2, bs_snoc, tonat, g1, g2]
  refine CodeT.condF rfl ?_
  refine CodeT.exit ?_
  simp -implicitDefEqProofs (dsimp := false) only [go_sem, simprocAttr, joined2, bs_snoc, tonat, g1, g2]
  refine ⟨(j, r), ?_⟩
  refine And.intro ?_ ?_
  refine And.intro ?_ ?_
  assumption
  refine And.intro ?_ ?_
  assumption
  simp -implicitDefEqProofs (dsimp := false) only [go_sem, simprocAttr, joined2, bs_snoc, tonat, g1, g2, Nat.le_refl, List.length_cons, List.length_append, List.length_nil]
  rotate_left
  refine ⟨rfl, ?_, ?_, rfl, ?_⟩
  simp -implicitDefEqProofs (dsimp := false) only [go_sem, simprocAttr, joined2, bs_snoc, tonat, g1, g2, or_true, true_or, false_or, or_false, implies_true, Int.natCast_add, Int.cast_ofNat_Int, keepsD_nil]
  refine And.intro ?_ ?_
  trivial
  trivial
  simp -implicitDefEqProofs (dsimp := false) only [go_sem, simprocAttr, joined2, bs_snoc, tonat, g1, g2, or_true, true_or, false_or, or_false, implies_true, Int.natCast_add, Int.cast_ofNat_Int, keepsD_nil]
  simp -implicitDefEqProofs (dsimp := false) only [go_sem, simprocAttr, joined2, bs_snoc, tonat, g1, g2, or_true, true_or, false_or, or_false, implies_true, Int.natCast_add, Int.cast_ofNat_Int, keepsD_nil]
  have d1 := ofDecF g1
  simp -implicitDefEqProofs (dsimp := false) only [go_sem, simprocAttr, joined2, bs_snoc, tonat, g1]
  simp -implicitDefEqProofs (dsimp := false) (disch := omega) only [i64_in, bs_getD, opvs_getD, is64_getD, bss_getD]
  simp -implicitDefEqProofs (dsimp := false) only [go_sem, simprocAttr, joined2, bs_snoc, tonat, g1]
  simp -implicitDefEqProofs (dsimp := false) (disch := omega) only [i64_in, bs_getD, opvs_getD, is64_getD, bss_getD]
  simp -implicitDefEqProofs (dsimp := false) only [go_sem, simprocAttr, joined2, bs_snoc, tonat, g1]
  simp -implicitDefEqProofs (dsimp := false) (disch := omega) only [i64_in, bs_getD, opvs_getD, is64_getD, bss_getD]
  simp -implicitDefEqProofs (dsimp := false) only [go_sem, simprocAttr, joined2, bs_snoc, tonat, g1]
  simp -implicitDefEqProofs (dsimp := false) (disch := omega) only [i64_in, bs_getD, opvs_getD, is64_getD, bss_getD]
  simp -implicitDefEqProofs (dsimp := false) only [go_sem, simprocAttr, joined2, bs_snoc, tonat, g1]
  simp -implicitDefEqProofs (dsimp := false) (disch := omega) only [i64_in, bs_getD, opvs_getD, is64_getD, bss_getD]
  simp -implicitDefEqProofs (dsimp := false) only [go_sem, simprocAttr, joined2, bs_snoc, tonat, g1]
  simp -implicitDefEqProofs (dsimp := false) (disch := omega) only [i64_in, bs_getD, opvs_getD, is64_getD, bss_getD]
  simp -implicitDefEqProofs (dsimp := false) only [go_sem, simprocAttr, joined2, bs_snoc, tonat, g1]
  refine CodeT.condF rfl ?_
  refine CodeT.exit ?_
  simp -implicitDefEqProofs (dsimp := false) only [go_sem, simprocAttr, joined2, bs_snoc, tonat, g1]
  refine ⟨(j, r), ?_⟩
  refine And.intro ?_ ?_
  refine And.intro ?_ ?_
  assumption
  refine And.intro ?_ ?_
  assumption
  simp -implicitDefEqProofs (dsimp := false) only [go_sem, simprocAttr, joined2, bs_snoc, tonat, g1, Nat.le_refl, List.length_cons, List.length_append, List.length_nil]
  rotate_left
  refine ⟨rfl, ?_, ?_, rfl, ?_⟩
  simp -implicitDefEqProofs (dsimp := false) only [go_sem, simprocAttr, joined2, bs_snoc, tonat, g1, or_true, true_or, false_or, or_false, implies_true, Int.natCast_add, Int.cast_ofNat_Int, keepsD_nil]
  refine And.intro ?_ ?_
  trivial
  trivial
  simp -implicitDefEqProofs (dsimp := false) only [go_sem, simprocAttr, joined2, bs_snoc, tonat, g1, or_true, true_or, false_or, or_false, implies_true, Int.natCast_add, Int.cast_ofNat_Int, keepsD_nil]
  simp -implicitDefEqProofs (dsimp := false) only [go_sem, simprocAttr, joined2, bs_snoc, tonat, g1, or_true, true_or, false_or, or_false, implies_true, Int.natCast_add, Int.cast_ofNat_Int, keepsD_nil]
  rintro ⟨j, r⟩ hz
  obtain ⟨f3, f4, f6⟩ := hz
  have f5 : r.length = j := f3.1
  simp -implicitDefEqProofs (dsimp := false) only [go_sem, simprocAttr, joined2, bs_snoc, tonat]
  refine CodeT.seq ?_
  refine CodeT.seqR ?_
  simp -implicitDefEqProofs (dsimp := false) only [go_sem, simprocAttr, joined2, bs_snoc, tonat]
  refine gif_i (fun g6 => ?_) (fun g6 => ?_)
  have d6 := ofDec g6
  simp -implicitDefEqProofs (dsimp := false) only [go_sem, simprocAttr, joined2, bs_snoc, tonat, g6]
  refine CodeT.condT rfl ?_
  refine CodeT.seqR ?_
  simp -implicitDefEqProofs (dsimp := false) only [go_sem, simprocAttr, joined2, bs_snoc, tonat, g6]
  refine CodeT.ret ?_
  simp -implicitDefEqProofs (dsimp := false) only [go_sem, simprocAttr, joined2, bs_snoc, tonat, g6]
  refine And.intro (by omega) ?_
  refine pureEnd rfl ?_
  rotate_left
  have d6 := ofDecF g6
  simp -implicitDefEqProofs (dsimp := false) only [go_sem, simprocAttr, joined2, bs_snoc, tonat, g6]
  refine gate_i ?_ ?_
  omega
  simp -implicitDefEqProofs (dsimp := false) (disch := omega) only [Int.toNat_natCast, i64_in, bs_getD, opvs_getD, is64_getD, bss_getD]
  simp -implicitDefEqProofs (dsimp := false) only [go_sem, simprocAttr, joined2, bs_snoc, tonat, g6]
  refine CodeT.cond rfl (fun g7 => ?_) (fun g7 => ?_)
  have d7 := ofBne g7
  refine CodeT.seqR ?_
  simp -implicitDefEqProofs (dsimp := false) only [go_sem, simprocAttr, joined2, bs_snoc, tonat, g6, g7]
  refine CodeT.ret ?_
  simp -implicitDefEqProofs (dsimp := false) only [go_sem, simprocAttr, joined2, bs_snoc, tonat, g6, g7]
  refine And.intro (by omega) ?_
  refine pureEnd rfl ?_
  rotate_left
  have d7 := ofBneF g7
  refine CodeT.skip ?_
  simp -implicitDefEqProofs (dsimp := false) only [go_sem, simprocAttr, joined2, bs_snoc, tonat, g6, g7]
  refine CodeT.seqR ?_
  simp -implicitDefEqProofs (dsimp := false) only [go_sem, simprocAttr, joined2, bs_snoc, tonat, g6, g7]
  refine And.intro (by trivial) ?_
  refine And.intro (by omega) ?_
  refine And.intro (by exact uni_bss [_]) ?_
  refine And.intro (by omega) ?_
  refine CodeT.region ?_
  simp -implicitDefEqProofs (dsimp := false) only [go_sem, simprocAttr, joined2, bs_snoc, tonat, g6, g7]
  simp -implicitDefEqProofs (dsimp := false) (disch := omega) only [i64_in, bs_getD, opvs_getD, is64_getD, bss_getD]
  refine ⟨(o ++ [r], e + (2 * j + 1)), ?_⟩
  refine And.intro ?_ ?_
  simp -implicitDefEqProofs (dsimp := false) only [go_sem, simprocAttr, joined2, bs_snoc, tonat, g6, g7, Nat.le_refl, List.length_cons, List.length_append, List.length_nil]
  rotate_left
  refine And.intro ?_ ?_
  omega
  refine ⟨rfl, ?_, ?_, rfl, ?_⟩
  simp -implicitDefEqProofs (dsimp := false) only [go_sem, simprocAttr, joined2, bs_snoc, tonat, g6, g7, or_true, true_or, false_or, or_false, implies_true, Int.natCast_add, Int.cast_ofNat_Int, keepsD_nil]
  refine And.intro ?_ ?_
  trivial
  trivial
  simp -implicitDefEqProofs (dsimp := false) only [go_sem, simprocAttr, joined2, bs_snoc, tonat, g6, g7, or_true, true_or, false_or, or_false, implies_true, Int.natCast_add, Int.cast_ofNat_Int, keepsD_nil]
  rotate_left
  simp -implicitDefEqProofs (dsimp := false) only [go_sem, simprocAttr, joined2, bs_snoc, tonat, g6, g7, or_true, true_or, false_or, or_false, implies_true, Int.natCast_add, Int.cast_ofNat_Int, keepsD_nil]
  · exact got_0 b
  · exact ⟨sofar_0 b e, f1⟩
  · exact sofar_step f3 rfl (by omega) (nl d3) (by rw [dg d2 d3, dg d4 d5]; rfl)
  · exact .inr (by rw [dg2 d5, Bool.and_false])
  · exact .inr (by rw [dg1 d4, Bool.and_false])
  · exact .inr (by rw [dg2 d3, Bool.false_and])
  · exact .inr (by rw [dg1 d2, Bool.false_and])
  · exact .inl (by omega)
  · obtain ⟨h1, h2⟩ := got_end hx (by rw [f3.2, stop_none f6 (.inl (by omega))]; rfl)
    rw [h1, h2]
  · obtain ⟨h1, h2⟩ := got_end hx (by rw [f3.2, stop_none f6 (.inr (fun h => d7 (by rw [h]; rfl)))]; rfl)
    rw [h1, h2]
  · refine got_next hx ?_
    have h255 : b.getD (e + 2 * j) 0 = 255 := UInt8.toNat_inj.1 (by have := d7; rw [show (255 : UInt8).toNat = 255 from rfl]; omega)
    rw [f3.2, scan1_stop (by omega) h255]
    simp
    omega
  · rw [List.take_of_length_le (by omega)]
end Go.Proofs.Try

namespace Go.Proofs.Try
set_option linter.unusedSimpArgs false
set_option linter.unusedVariables false
open Go.PM
set_option maxHeartbeats 4000000
set_option maxRecDepth 100000

theorem c74 (a : Int) (b : List UInt8) : PureT Try.prog 74 [.val (.int .i64 a), .sl false (bs b)] (· = opv (wr a b)) := by
  refine CallT.laxR ?_
  refine CallT.intro Try.func74 (by decide) rfl ?_
  simp -implicitDefEqProofs (dsimp := false) only [go_sem, simprocAttr, enterTm, Try.ntmps74, List.range'_succ, List.range'_zero, List.zip_cons_cons, List.zip_nil_left]
  refine CodeT.seqR ?_
  simp -implicitDefEqProofs (dsimp := false) only [go_sem, simprocAttr]
  refine CodeT.seqR ?_
  simp -implicitDefEqProofs (dsimp := false) only [go_sem, simprocAttr]
  refine CodeT.ret ?_
  simp -implicitDefEqProofs (dsimp := false) only [go_sem, simprocAttr]
  refine pureEnd rfl ?_
  simp only [wr, Bool.true_and, Bool.false_and, Bool.and_true, Bool.and_false, Bool.true_or, Bool.false_or, Bool.or_true, Bool.or_false, Bool.not_true, Bool.not_false, Bool.false_eq_true, ↓reduceIte]
theorem c75 : PureT Try.prog 75 [] (· = opv fl) := by
  refine CallT.laxR ?_
  refine CallT.intro Try.func75 (by decide) rfl ?_
  simp -implicitDefEqProofs (dsimp := false) only [go_sem, simprocAttr, enterTm, Try.ntmps75, List.range'_succ, List.range'_zero, List.zip_cons_cons, List.zip_nil_left]
  refine CodeT.seqR ?_
  simp -implicitDefEqProofs (dsimp := false) only [go_sem, simprocAttr]
  refine CodeT.seqR ?_
  simp -implicitDefEqProofs (dsimp := false) only [go_sem, simprocAttr]
  refine CodeT.ret ?_
  simp -implicitDefEqProofs (dsimp := false) only [go_sem, simprocAttr]
  refine pureEnd rfl ?_
  rotate_left
  rfl
theorem zeros_take (b : List UInt8) (i : Nat) (h : i < b.length) : zerosB (b.take (i + 1)) = (zerosB (b.take i) && (b.getD i 0 == 0)) := by
  unfold zerosB
  rw [List.take_add_one, List.getElem?_eq_getElem h, List.any_append, Bool.not_or]
  simp [List.getD_eq_getElem?_getD, h, bne]
theorem zeros_no (b : List UInt8) (i : Nat) (h : i < b.length) (hx : b.getD i 0 ≠ 0) : zerosB b = false := by
  unfold zerosB
  simp only [Bool.not_eq_false', List.any_eq_true]
  refine ⟨b.getD i 0, ?_, by simpa using hx⟩
  rw [List.getD_eq_getElem?_getD, List.getElem?_eq_getElem h]
  exact List.getElem_mem h
theorem c79 (b : List UInt8) (hb : b.length ≤ 4000000) : PureT Try.prog 79 [.sl false (bs b)] (· = .val (.bool (zerosB b))) := by
  refine CallT.intro Try.func79 (by decide) rfl ?_
  simp -implicitDefEqProofs (dsimp := false) only [go_sem, simprocAttr, enterTm, Try.ntmps79, List.range'_succ, List.range'_zero, List.zip_cons_cons, List.zip_nil_left]
  refine CodeT.seqR ?_
  simp -implicitDefEqProofs (dsimp := false) only [go_sem, simprocAttr]
  refine CodeT.seq ?_
  refine CodeT.seqR ?_
  simp -implicitDefEqProofs (dsimp := false) only [go_sem, simprocAttr]
  refine CodeT.block ?_
  refine CodeT.whileS (fun i : Nat => [(3, .val (.int .i64 (i : Nat)))]) [0] (fun i : Nat => []) (fun i : Nat => i ≤ b.length ∧ zerosB (b.take i) = true) (fun i : Nat => b.length - i) (0) ?_ rfl ?_ ?_
  simp -implicitDefEqProofs (dsimp := false) only [go_sem, simprocAttr]
  rotate_left
  refine ⟨rfl, ?_, ?_, rfl, ?_⟩
  simp -implicitDefEqProofs (dsimp := false) only [go_sem, simprocAttr, or_true, true_or, false_or, or_false, implies_true, Int.natCast_add, Int.cast_ofNat_Int, keepsD_nil]
  simp -implicitDefEqProofs (dsimp := false) only [go_sem, simprocAttr, or_true, true_or, false_or, or_false, implies_true, Int.natCast_add, Int.cast_ofNat_Int, keepsD_nil]
  simp -implicitDefEqProofs (dsimp := false) only [go_sem, simprocAttr, or_true, true_or, false_or, or_false, implies_true, Int.natCast_add, Int.cast_ofNat_Int, keepsD_nil]
  rintro i hi
  obtain ⟨f1, f2⟩ := hi
  simp -implicitDefEqProofs (dsimp := false) only [go_sem, simprocAttr]
  refine CodeT.seq ?_
  refine CodeT.seqR ?_
  simp -implicitDefEqProofs (dsimp := false) only [go_sem, simprocAttr]
  refine CodeT.cond rfl (fun g1 => ?_) (fun g1 => ?_)
  have d1 := ofDec g1
  refine CodeT.skip ?_
  simp -implicitDefEqProofs (dsimp := false) only [go_sem, simprocAttr, g1]
  refine CodeT.seq (CodeT.block ?_)
  refine CodeT.seqR ?_
  simp -implicitDefEqProofs (dsimp := false) only [go_sem, simprocAttr, g1]
  refine gate_i ?_ ?_
  omega
  simp -implicitDefEqProofs (dsimp := false) (disch := omega) only [Int.toNat_natCast, i64_in, bs_getD, opvs_getD, is64_getD, bss_getD]
  simp -implicitDefEqProofs (dsimp := false) only [go_sem, simprocAttr, g1]
  refine CodeT.cond rfl (fun g2 => ?_) (fun g2 => ?_)
  have d2 := ofBne g2
  refine CodeT.seqR ?_
  simp -implicitDefEqProofs (dsimp := false) only [go_sem, simprocAttr, g1, g2]
  refine CodeT.ret ?_
  simp -implicitDefEqProofs (dsimp := false) only [go_sem, simprocAttr, g1, g2]
  refine pureEnd rfl ?_
  rotate_left
  have d2 := ofBneF g2
  refine CodeT.skip ?_
  simp -implicitDefEqProofs (dsimp := false) only [go_sem, simprocAttr, g1, g2]
  refine CodeT.region ?_
  simp -implicitDefEqProofs (dsimp := false) only [go_sem, simprocAttr, g1, g2]
  simp -implicitDefEqProofs (dsimp := false) (disch := omega) only [i64_in, bs_getD, opvs_getD, is64_getD, bss_getD]
  refine ⟨i + 1, ?_⟩
  refine And.intro ?_ ?_
  refine And.intro ?_ ?_
  omega
  rotate_left
  refine And.intro ?_ ?_
  omega
  refine ⟨rfl, ?_, ?_, rfl, ?_⟩
  simp -implicitDefEqProofs (dsimp := false) only [go_sem, simprocAttr, g1, g2, or_true, true_or, false_or, or_false, implies_true, Int.natCast_add, Int.cast_ofNat_Int, keepsD_nil]
  simp -implicitDefEqProofs (dsimp := false) only [go_sem, simprocAttr, g1, g2, or_true, true_or, false_or, or_false, implies_true, Int.natCast_add, Int.cast_ofNat_Int, keepsD_nil]
  simp -implicitDefEqProofs (dsimp := false) only [go_sem, simprocAttr, g1, g2, or_true, true_or, false_or, or_false, implies_true, Int.natCast_add, Int.cast_ofNat_Int, keepsD_nil]
  have d1 := ofDecF g1
  refine CodeT.exit ?_
  simp -implicitDefEqProofs (dsimp := false) only [go_sem, simprocAttr, g1]
  refine CodeT.seqR ?_
  simp -implicitDefEqProofs (dsimp := false) only [go_sem, simprocAttr, g1]
  refine CodeT.ret ?_
  simp -implicitDefEqProofs (dsimp := false) only [go_sem, simprocAttr, g1]
  refine pureEnd rfl ?_
  rotate_left
  · exact ⟨Nat.zero_le _, rfl⟩
  · rw [zeros_no b i (by omega) (fun h => d2 (by rw [h]; rfl))]
  · rw [zeros_take b i (by omega), f2, show b.getD i 0 = 0 from UInt8.toNat_inj.1 (by have := d2; rw [show (0 : UInt8).toNat = 0 from rfl]; omega)]
    rfl
  · rw [List.take_of_length_le (by omega)] at f2
    rw [f2]
theorem c81 (n : Int) (h1 : -9223372036854775808 ≤ n) (h2 : n ≤ 9223372036854775807) : PureT Try.prog 81 [.val (.int .i64 n)] (· = .val (.bool (sizeI n))) := by
  have hw : IntKind.i64.wrap (n.tdiv 2) = n.tdiv 2 := by
    have h3 : n.tdiv 2 * 2 + n.tmod 2 = n := Int.tdiv_mul_add_tmod n 2
    have h4 : n.tmod 2 < 2 := Int.tmod_lt_of_pos n (by omega)
    have h5 : -2 < n.tmod 2 := by
      have h6 := Int.tmod_lt_of_pos (-n) (b := 2) (by omega)
      rw [Int.neg_tmod] at h6
      omega
    exact i64_in (by omega) (by omega)
  refine CallT.intro Try.func81 (by decide) rfl ?_
  simp -implicitDefEqProofs (dsimp := false) only [go_sem, simprocAttr, hw, enterTm, Try.ntmps81, List.range'_succ, List.range'_zero, List.zip_cons_cons, List.zip_nil_left]
  refine CodeT.seqR ?_
  simp -implicitDefEqProofs (dsimp := false) only [go_sem, simprocAttr, hw]
  refine CodeT.seqR ?_
  simp -implicitDefEqProofs (dsimp := false) only [go_sem, simprocAttr, hw]
  refine gif_i (fun g3 => ?_) (fun g3 => ?_)
  have d3 := ofBeq g3
  simp -implicitDefEqProofs (dsimp := false) only [go_sem, simprocAttr, hw, g3]
  refine gif_i (fun g4 => ?_) (fun g4 => ?_)
  have d4 := ofDec g4
  simp -implicitDefEqProofs (dsimp := false) only [go_sem, simprocAttr, hw, g3, g4]
  refine CodeT.ret ?_
  simp -implicitDefEqProofs (dsimp := false) only [go_sem, simprocAttr, hw, g3, g4]
  refine pureEnd rfl ?_
  simp only [sizeI, g3, g4, Bool.true_and, Bool.false_and, Bool.and_true, Bool.and_false, Bool.true_or, Bool.false_or, Bool.or_true, Bool.or_false, Bool.not_true, Bool.not_false, Bool.false_eq_true, ↓reduceIte]
  have d4 := ofDecF g4
  simp -implicitDefEqProofs (dsimp := false) only [go_sem, simprocAttr, hw, g3, g4]
  refine CodeT.ret ?_
  simp -implicitDefEqProofs (dsimp := false) only [go_sem, simprocAttr, hw, g3, g4]
  refine pureEnd rfl ?_
  simp only [sizeI, g3, g4, Bool.true_and, Bool.false_and, Bool.and_true, Bool.and_false, Bool.true_or, Bool.false_or, Bool.or_true, Bool.or_false, Bool.not_true, Bool.not_false, Bool.false_eq_true, ↓reduceIte]
  have d3 := ofBeqF g3
  simp -implicitDefEqProofs (dsimp := false) only [go_sem, simprocAttr, hw, g3]
  refine CodeT.ret ?_
  simp -implicitDefEqProofs (dsimp := false) only [go_sem, simprocAttr, hw, g3]
  refine pureEnd rfl ?_
  simp only [sizeI, g3, Bool.true_and, Bool.false_and, Bool.and_true, Bool.and_false, Bool.true_or, Bool.false_or, Bool.or_true, Bool.or_false, Bool.not_true, Bool.not_false, Bool.false_eq_true, ↓reduceIte]
theorem sizeI_nat (n : Nat) : sizeI n = sizeB n := by rw [sizeI_eq]; simp
def insB (n : Nat) (o : DOp) : Bool := !o.flush && decide ((o.bytes.length : Int) ≥ 1) && decide ((o.bytes.length : Int) ≤ n) && decide (o.at_ ≥ 0) && decide (o.at_ ≤ (n : Int) - o.bytes.length)
theorem c82 (n : Nat) (o : DOp) (hn : n ≤ 4000000) : PureT Try.prog 82 [.val (.int .i64 (n : Nat)), opv o] (· = .val (.bool (insB n o))) := by
  refine CallT.intro Try.func82 (by decide) rfl ?_
  simp -implicitDefEqProofs (dsimp := false) only [go_sem, simprocAttr, enterTm, Try.ntmps82, List.range'_succ, List.range'_zero, List.zip_cons_cons, List.zip_nil_left]
  refine CodeT.seqR ?_
  simp -implicitDefEqProofs (dsimp := false) only [go_sem, simprocAttr]
  refine CodeT.seqR ?_
  simp -implicitDefEqProofs (dsimp := false) only [go_sem, simprocAttr]
  refine gif_i (fun g1 => ?_) (fun g1 => ?_)
  simp -implicitDefEqProofs (dsimp := false) only [go_sem, simprocAttr, g1]
  refine gif_i (fun g2 => ?_) (fun g2 => ?_)
  have d2 := ofDec g2
  simp -implicitDefEqProofs (dsimp := false) only [go_sem, simprocAttr, g1, g2]
  refine gif_i (fun g3 => ?_) (fun g3 => ?_)
  have d3 := ofDec g3
  simp -implicitDefEqProofs (dsimp := false) only [go_sem, simprocAttr, g1, g2, g3]
  refine gif_i (fun g4 => ?_) (fun g4 => ?_)
  have d4 := ofDec g4
  simp -implicitDefEqProofs (dsimp := false) only [go_sem, simprocAttr, g1, g2, g3, g4]
  refine CodeT.ret ?_
  simp -implicitDefEqProofs (dsimp := false) only [go_sem, simprocAttr, g1, g2, g3, g4]
  refine pureEnd rfl ?_
  simp -implicitDefEqProofs (dsimp := false) (disch := omega) only [i64_in, bs_getD, opvs_getD, is64_getD, bss_getD]
  simp only [insB, g1, g2, g3, g4, Bool.true_and, Bool.false_and, Bool.and_true, Bool.and_false, Bool.true_or, Bool.false_or, Bool.or_true, Bool.or_false, Bool.not_true, Bool.not_false, Bool.false_eq_true, ↓reduceIte]
  have d4 := ofDecF g4
  simp -implicitDefEqProofs (dsimp := false) only [go_sem, simprocAttr, g1, g2, g3, g4]
  refine CodeT.ret ?_
  simp -implicitDefEqProofs (dsimp := false) only [go_sem, simprocAttr, g1, g2, g3, g4]
  refine pureEnd rfl ?_
  simp only [insB, g1, g2, g3, g4, Bool.true_and, Bool.false_and, Bool.and_true, Bool.and_false, Bool.true_or, Bool.false_or, Bool.or_true, Bool.or_false, Bool.not_true, Bool.not_false, Bool.false_eq_true, ↓reduceIte]
  have d3 := ofDecF g3
  simp -implicitDefEqProofs (dsimp := false) only [go_sem, simprocAttr, g1, g2, g3]
  refine CodeT.ret ?_
  simp -implicitDefEqProofs (dsimp := false) only [go_sem, simprocAttr, g1, g2, g3]
  refine pureEnd rfl ?_
  simp only [insB, g1, g2, g3, Bool.true_and, Bool.false_and, Bool.and_true, Bool.and_false, Bool.true_or, Bool.false_or, Bool.or_true, Bool.or_false, Bool.not_true, Bool.not_false, Bool.false_eq_true, ↓reduceIte]
  have d2 := ofDecF g2
  simp -implicitDefEqProofs (dsimp := false) only [go_sem, simprocAttr, g1, g2]
  refine CodeT.ret ?_
  simp -implicitDefEqProofs (dsimp := false) only [go_sem, simprocAttr, g1, g2]
  refine pureEnd rfl ?_
  simp only [insB, g1, g2, Bool.true_and, Bool.false_and, Bool.and_true, Bool.and_false, Bool.true_or, Bool.false_or, Bool.or_true, Bool.or_false, Bool.not_true, Bool.not_false, Bool.false_eq_true, ↓reduceIte]
  simp -implicitDefEqProofs (dsimp := false) only [go_sem, simprocAttr, g1]
  refine CodeT.ret ?_
  simp -implicitDefEqProofs (dsimp := false) only [go_sem, simprocAttr, g1]
  refine pureEnd rfl ?_
  simp only [insB, g1, Bool.true_and, Bool.false_and, Bool.and_true, Bool.and_false, Bool.true_or, Bool.false_or, Bool.or_true, Bool.or_false, Bool.not_true, Bool.not_false, Bool.false_eq_true, ↓reduceIte]
theorem insB_eq (n : Nat) (o : DOp) : insB n o = !badOp n o := by
  unfold insB badOp fitsB
  cases o.flush
  · rw [Bool.eq_iff_iff]
    simp
    omega
  · simp
theorem c108 (b : List UInt8) (h0 : 0 < b.length) (hb : b.length ≤ 4000000) (ho : b.length % 2 = 1) : PureT Try.prog 108 [.sl false (bs b)] (· = .tup [.val (.int .i64 (halfAt b : Nat)), .val (.int .i64 (halfAt b + b.length / 2 : Nat))]) := by
  have hl := half_len hb
  refine CallT.intro Try.func108 (by decide) rfl ?_
  simp -implicitDefEqProofs (dsimp := false) only [go_sem, simprocAttr, hl, enterTm, Try.ntmps108, List.range'_succ, List.range'_zero, List.zip_cons_cons, List.zip_nil_left]
  refine CodeT.seqR ?_
  simp -implicitDefEqProofs (dsimp := false) only [go_sem, simprocAttr, hl]
  refine CodeT.seqR ?_
  simp -implicitDefEqProofs (dsimp := false) only [go_sem, simprocAttr, hl]
  refine CodeT.seq ?_
  refine CodeT.seqR ?_
  simp -implicitDefEqProofs (dsimp := false) only [go_sem, simprocAttr, hl]
  refine gate_i ?_ ?_
  omega
  simp -implicitDefEqProofs (dsimp := false) (disch := omega) only [Int.toNat_natCast, i64_in, bs_getD, opvs_getD, is64_getD, bss_getD]
  simp -implicitDefEqProofs (dsimp := false) only [go_sem, simprocAttr, hl]
  refine CodeT.cond rfl (fun g1 => ?_) (fun g1 => ?_)
  have d1 := ofBeq g1
  refine CodeT.seqR ?_
  simp -implicitDefEqProofs (dsimp := false) only [go_sem, simprocAttr, hl, g1]
  refine CodeT.ret ?_
  simp -implicitDefEqProofs (dsimp := false) only [go_sem, simprocAttr, hl, g1]
  refine pureEnd rfl ?_
  simp -implicitDefEqProofs (dsimp := false) (disch := omega) only [i64_in, bs_getD, opvs_getD, is64_getD, bss_getD]
  rotate_left
  have d1 := ofBeqF g1
  refine CodeT.skip ?_
  simp -implicitDefEqProofs (dsimp := false) only [go_sem, simprocAttr, hl, g1]
  refine CodeT.seqR ?_
  simp -implicitDefEqProofs (dsimp := false) only [go_sem, simprocAttr, hl, g1]
  refine CodeT.ret ?_
  simp -implicitDefEqProofs (dsimp := false) only [go_sem, simprocAttr, hl, g1]
  refine pureEnd rfl ?_
  simp -implicitDefEqProofs (dsimp := false) (disch := omega) only [i64_in, bs_getD, opvs_getD, is64_getD, bss_getD]
  rotate_left
  · have h : b.getD 0 0 = 0 := UInt8.toNat_inj.1 (by have := d1; rw [show (0 : UInt8).toNat = 0 from rfl]; omega)
    rw [halfAt, if_pos h]; simp
  · have h : b.getD 0 0 ≠ 0 := fun h => d1 (by rw [h]; rfl)
    rw [halfAt, if_neg h]; simp; omega
/-- What is told of bytes. -/
def halfOf (b : List UInt8) : List UInt8 := (b.drop (halfAt b)).take (b.length / 2)
theorem halfAt_le (b : List UInt8) (ho : b.length % 2 = 1) : halfAt b + b.length / 2 ≤ b.length ∧ 1 ≤ halfAt b := by
  unfold halfAt; split <;> omega
theorem c76 (b : List UInt8) (hb : b.length ≤ 4000000) (ho : b.length % 2 = 1) : PureT Try.prog 76 [.sl false (bs b)] (· = .tup [.sl false (bss (parseR (halfOf b))), .val (.int .i64 (halfAt b + parseE (halfOf b) : Nat)), .val (.int .i64 (halfAt b + b.length / 2 : Nat))]) := by
  obtain ⟨h1, h2⟩ := halfAt_le b ho
  have h3 := parseE_le (halfOf b)
  have h4 : (halfOf b).length = b.length / 2 := by simp [halfOf]; omega
  have h5 : (b.take (halfAt b + b.length / 2)).drop (halfAt b) = halfOf b := by rw [halfOf, List.drop_take, Nat.add_sub_cancel_left]
  refine CallT.intro Try.func76 (by decide) rfl ?_
  simp -implicitDefEqProofs (dsimp := false) only [go_sem, simprocAttr, h5, enterTm, Try.ntmps76, List.range'_succ, List.range'_zero, List.zip_cons_cons, List.zip_nil_left]
  refine CodeT.seqR ?_
  simp -implicitDefEqProofs (dsimp := false) only [go_sem, simprocAttr, h5]
  refine CodeT.seqR ?_
  simp -implicitDefEqProofs (dsimp := false) only [go_sem, simprocAttr, h5]
  refine PureT.eq (c108 _ ?_ ?_ ?_) rfl ?_
  omega
  assumption
  assumption
  simp -implicitDefEqProofs (dsimp := false) only [go_sem, simprocAttr, h5]
  refine CodeT.seqR ?_
  simp -implicitDefEqProofs (dsimp := false) only [go_sem, simprocAttr, h5]
  refine And.intro (by exact uni_bs _) ?_
  refine And.intro (by omega) ?_
  refine And.intro (by omega) ?_
  refine And.intro (by omega) ?_
  refine PureT.eq (c44 _ ?_) rfl ?_
  omega
  simp -implicitDefEqProofs (dsimp := false) only [go_sem, simprocAttr, h5]
  refine CodeT.seqR ?_
  simp -implicitDefEqProofs (dsimp := false) only [go_sem, simprocAttr, h5]
  refine CodeT.ret ?_
  simp -implicitDefEqProofs (dsimp := false) only [go_sem, simprocAttr, h5]
  refine pureEnd rfl ?_
  simp -implicitDefEqProofs (dsimp := false) (disch := omega) only [i64_in, bs_getD, opvs_getD, is64_getD, bss_getD]
  rotate_left
  rw [Int.natCast_add (halfAt b) (parseE _)]
theorem any_take (p : DOp → Bool) (q : List DOp) (i : Nat) (h : i < q.length) : (q.take (i + 1)).any p = ((q.take i).any p || p (q.getD i op0)) := by
  rw [List.take_add_one, List.getElem?_eq_getElem h, List.any_append]
  simp [List.getD_eq_getElem?_getD, h]
theorem any_at (p : DOp → Bool) (q : List DOp) (i : Nat) (h : i < q.length) (hp : p (q.getD i op0) = true) : q.any p = true := by
  rw [List.any_eq_true]
  refine ⟨q.getD i op0, ?_, hp⟩
  rw [List.getD_eq_getElem?_getD, List.getElem?_eq_getElem h]
  exact List.getElem_mem h
theorem c73 (d : Dsk) (hf : Few d) : PureT Try.prog 73 [dkv d] (· = .val (.bool (isDiskB d))) := by
  have h1 := hf.b; have h2 := hf.q
  refine CallT.intro Try.func73 (by decide) rfl ?_
  simp -implicitDefEqProofs (dsimp := false) only [go_sem, simprocAttr, sizeI_nat, enterTm, Try.ntmps73, List.range'_succ, List.range'_zero, List.zip_cons_cons, List.zip_nil_left]
  refine CodeT.seqR ?_
  simp -implicitDefEqProofs (dsimp := false) only [go_sem, simprocAttr, sizeI_nat]
  refine CodeT.seq ?_
  refine CodeT.freeze 1 ?_
  simp -implicitDefEqProofs (dsimp := false) only [go_sem, simprocAttr, sizeI_nat]
  refine CodeT.seqR ?_
  simp -implicitDefEqProofs (dsimp := false) only [go_sem, simprocAttr, sizeI_nat]
  refine PureT.eq (c81 _ ?_ ?_) rfl ?_
  omega
  omega
  simp -implicitDefEqProofs (dsimp := false) only [go_sem, simprocAttr, sizeI_nat]
  refine CodeT.cond rfl (fun g4 => ?_) (fun g4 => ?_)
  refine CodeT.seqR ?_
  simp -implicitDefEqProofs (dsimp := false) only [go_sem, simprocAttr, sizeI_nat, g4]
  refine CodeT.ret ?_
  simp -implicitDefEqProofs (dsimp := false) only [go_sem, simprocAttr, sizeI_nat, g4]
  refine pureEnd rfl ?_
  rotate_left
  refine CodeT.skip ?_
  simp -implicitDefEqProofs (dsimp := false) only [go_sem, simprocAttr, sizeI_nat, g4]
  refine CodeT.seq ?_
  refine CodeT.seqR ?_
  simp -implicitDefEqProofs (dsimp := false) only [go_sem, simprocAttr, sizeI_nat, g4]
  refine CodeT.block ?_
  refine CodeT.whileS (fun i : Nat => [(3, .val (.int .i64 (i : Nat)))]) [1] (fun i : Nat => [.dead]) (fun i : Nat => i ≤ d.queue.length ∧ (d.queue.take i).any (badOp d.bytes.length) = false) (fun i : Nat => d.queue.length - i) (0) ?_ rfl ?_ ?_
  simp -implicitDefEqProofs (dsimp := false) only [go_sem, simprocAttr, sizeI_nat, g4]
  simp [isDiskB, g4]
  refine ⟨rfl, ?_, ?_, rfl, ?_⟩
  simp -implicitDefEqProofs (dsimp := false) only [go_sem, simprocAttr, sizeI_nat, g4, or_true, true_or, false_or, or_false, implies_true, Int.natCast_add, Int.cast_ofNat_Int, keepsD_nil]
  simp -implicitDefEqProofs (dsimp := false) only [go_sem, simprocAttr, sizeI_nat, g4, or_true, true_or, false_or, or_false, implies_true, Int.natCast_add, Int.cast_ofNat_Int, keepsD_nil]
  simp -implicitDefEqProofs (dsimp := false) only [go_sem, simprocAttr, sizeI_nat, g4, or_true, true_or, false_or, or_false, implies_true, Int.natCast_add, Int.cast_ofNat_Int, keepsD_nil]
  rintro i hi
  obtain ⟨f1, f2⟩ := hi
  simp -implicitDefEqProofs (dsimp := false) only [go_sem, simprocAttr, sizeI_nat, g4]
  refine CodeT.seq ?_
  refine CodeT.seqR ?_
  simp -implicitDefEqProofs (dsimp := false) only [go_sem, simprocAttr, sizeI_nat, g4]
  refine CodeT.cond rfl (fun g5 => ?_) (fun g5 => ?_)
  have d5 := ofDec g5
  refine CodeT.skip ?_
  simp -implicitDefEqProofs (dsimp := false) only [go_sem, simprocAttr, sizeI_nat, g4, g5]
  refine CodeT.seq (CodeT.block ?_)
  refine CodeT.seqD [(0, .free), (3, .free), (5, .free), (1, .read), (2, .read), (4, .read), (6, .read), (7, .read), (8, .free), (9, .free)] mixed (by kernel_rfl) ?_
  simp -implicitDefEqProofs (dsimp := false) only [go_sem, simprocAttr, sizeI_nat, g4, g5]
  refine And.intro (by trivial) ?_
  refine gate_i ?_ ?_
  omega
  simp -implicitDefEqProofs (dsimp := false) (disch := omega) only [Int.toNat_natCast, i64_in, bs_getD, opvs_getD, is64_getD, bss_getD]
  simp -implicitDefEqProofs (dsimp := false) only [go_sem, simprocAttr, sizeI_nat, g4, g5]
  refine CallF.go (c82 _ _ ?_) rfl ?_
  assumption
  simp -implicitDefEqProofs (dsimp := false) only [go_sem, simprocAttr, sizeI_nat, g4, g5]
  refine CodeT.cond rfl (fun g6 => ?_) (fun g6 => ?_)
  refine CodeT.seqR ?_
  simp -implicitDefEqProofs (dsimp := false) only [go_sem, simprocAttr, sizeI_nat, g4, g5, g6]
  refine CodeT.ret ?_
  simp -implicitDefEqProofs (dsimp := false) only [go_sem, simprocAttr, sizeI_nat, g4, g5, g6]
  refine pureEnd rfl ?_
  rotate_left
  refine CodeT.skip ?_
  simp -implicitDefEqProofs (dsimp := false) only [go_sem, simprocAttr, sizeI_nat, g4, g5, g6]
  refine CodeT.region ?_
  simp -implicitDefEqProofs (dsimp := false) only [go_sem, simprocAttr, sizeI_nat, g4, g5, g6]
  simp -implicitDefEqProofs (dsimp := false) (disch := omega) only [i64_in, bs_getD, opvs_getD, is64_getD, bss_getD]
  refine ⟨i + 1, ?_⟩
  refine And.intro ?_ ?_
  refine And.intro ?_ ?_
  omega
  rotate_left
  refine And.intro ?_ ?_
  omega
  refine ⟨rfl, ?_, ?_, rfl, ?_⟩
  simp -implicitDefEqProofs (dsimp := false) only [go_sem, simprocAttr, sizeI_nat, g4, g5, g6, or_true, true_or, false_or, or_false, implies_true, Int.natCast_add, Int.cast_ofNat_Int, keepsD_nil]
  simp -implicitDefEqProofs (dsimp := false) only [go_sem, simprocAttr, sizeI_nat, g4, g5, g6, or_true, true_or, false_or, or_false, implies_true, Int.natCast_add, Int.cast_ofNat_Int, keepsD_nil]
  simp -implicitDefEqProofs (dsimp := false) only [go_sem, simprocAttr, sizeI_nat, g4, g5, g6, or_true, true_or, false_or, or_false, implies_true, Int.natCast_add, Int.cast_ofNat_Int, keepsD_nil]
  have d5 := ofDecF g5
  refine CodeT.exit ?_
  simp -implicitDefEqProofs (dsimp := false) only [go_sem, simprocAttr, sizeI_nat, g4, g5]
  refine CodeT.seqR ?_
  simp -implicitDefEqProofs (dsimp := false) only [go_sem, simprocAttr, sizeI_nat, g4, g5]
  refine CodeT.ret ?_
  simp -implicitDefEqProofs (dsimp := false) only [go_sem, simprocAttr, sizeI_nat, g4, g5]
  refine pureEnd rfl ?_
  rotate_left
  · rw [isDiskB, show sizeB d.bytes.length = false by simpa using g4]; rfl
  · rw [isDiskB, any_at _ _ i (by omega) (by rw [insB_eq] at g6; simpa using g6), Bool.not_true, Bool.and_false]
  · rw [any_take _ _ i (by omega), f2]; rw [insB_eq] at g6; simpa using g6
  · rw [List.take_of_length_le (by omega)] at f2
    rw [isDiskB, f2, show sizeB d.bytes.length = true by simpa using g4]; rfl
def seenTo (d : Dsk) (i : Nat) : List UInt8 := doneTo d.bytes d.queue (fun i => (d.queue.getD i op0).bytes.length) i
theorem seenTo_succ (d : Dsk) (i : Nat) : seenTo d (i + 1) = putB (seenTo d i) (d.queue.getD i op0).at_.toNat (d.queue.getD i op0).bytes := by
  unfold seenTo; rw [doneTo_succ, List.take_length]
theorem putB_nil (b : List UInt8) (a : Nat) : putB b a [] = b := by simp [putB]
theorem putB_set {b x : List UInt8} {a k : Nat} (hk : k < x.length) (h : a + x.length ≤ b.length) : (putB b a (x.take k)).set (a + k) (x.getD k 0) = putB b a (x.take (k + 1)) := by
  unfold putB
  have e1 : (x.take k).length = k := by rw [List.length_take]; omega
  have e2 : (x.take (k + 1)).length = k + 1 := by rw [List.length_take]; omega
  have e3 : (b.take a).length = a := by rw [List.length_take]; omega
  rw [List.append_assoc, List.append_assoc, List.set_append_right _ _ (by omega), e3, Nat.add_sub_cancel_left, List.set_append_right _ _ (by omega), e1, Nat.sub_self, e2]
  congr 1
  rw [List.take_add_one, List.getElem?_eq_getElem hk, Option.toList, List.append_assoc]
  congr 1
  rw [List.drop_eq_getElem_cons (show a + k < b.length by omega), List.set_cons_zero, List.getD_eq_getElem?_getD, List.getElem?_eq_getElem hk]
  rfl
theorem bs_updset {l : List UInt8} {i : Nat} (h : i < l.length) (x : UInt8) : (bs l).set i (updElem ((bs l).getD i .dead) 0 (b8 x)) = bs (l.set i x) := by
  rw [bs_getD h, show updElem (b8 (l.getD i 0)) 0 (b8 x) = b8 x from rfl, bs_set]
theorem c77 (d : Dsk) (hw : within d.bytes.length d.queue) (hf : Few d) : PureT Try.prog 77 [dkv d] (· = .sl false (bs (seenB d))) := by
  have h1 := hf.b; have h2 := hf.q
  refine CallT.res ?_
  refine CallT.intro Try.func77 (by decide) rfl ?_
  simp -implicitDefEqProofs (dsimp := false) only [go_sem, simprocAttr, enterTm, Try.ntmps77, List.range'_succ, List.range'_zero, List.zip_cons_cons, List.zip_nil_left]
  refine CodeT.seqR ?_
  simp -implicitDefEqProofs (dsimp := false) only [go_sem, simprocAttr]
  refine CodeT.freeze 1 ?_
  simp -implicitDefEqProofs (dsimp := false) only [go_sem, simprocAttr]
  refine CodeT.seqR ?_
  simp -implicitDefEqProofs (dsimp := false) only [go_sem, simprocAttr]
  refine And.intro (by exact uni_bs _) ?_
  refine And.intro (by omega) ?_
  refine CodeT.seq ?_
  refine CodeT.seqR ?_
  simp -implicitDefEqProofs (dsimp := false) only [go_sem, simprocAttr]
  refine CodeT.block ?_
  refine CodeT.whileS (fun i : Nat => [(4, .val (.int .i64 (i : Nat)))]) [3, 1] (fun i : Nat => [.dead, .row true 1 1 (bs (seenTo d i))]) (fun i : Nat => i ≤ d.queue.length) (fun i : Nat => d.queue.length - i) (0) ?_ rfl ?_ ?_
  omega
  refine ⟨rfl, ?_, ?_, rfl, ?_⟩
  simp -implicitDefEqProofs (dsimp := false) only [go_sem, simprocAttr, or_true, true_or, false_or, or_false, implies_true, Int.natCast_add, Int.cast_ofNat_Int, keepsD_nil]
  trivial
  simp -implicitDefEqProofs (dsimp := false) only [go_sem, simprocAttr, or_true, true_or, false_or, or_false, implies_true, Int.natCast_add, Int.cast_ofNat_Int, keepsD_nil]
  trivial
  simp -implicitDefEqProofs (dsimp := false) only [go_sem, simprocAttr, or_true, true_or, false_or, or_false, implies_true, Int.natCast_add, Int.cast_ofNat_Int, keepsD_nil]
  rintro i hi
  have f1 := hw i
  have f2 : (seenTo d i).length = d.bytes.length := doneTo_length hw i hi
  have f3 := seenTo_succ d i
  generalize hS : seenTo d i = S at *
  simp -implicitDefEqProofs (dsimp := false) only [go_sem, simprocAttr]
  refine CodeT.seq ?_
  refine CodeT.seqR ?_
  simp -implicitDefEqProofs (dsimp := false) only [go_sem, simprocAttr]
  refine CodeT.cond rfl (fun g3 => ?_) (fun g3 => ?_)
  have d3 := ofDec g3
  refine CodeT.skip ?_
  simp -implicitDefEqProofs (dsimp := false) only [go_sem, simprocAttr, g3]
  refine CodeT.seq (CodeT.block ?_)
  refine CodeT.seqR ?_
  simp -implicitDefEqProofs (dsimp := false) only [go_sem, simprocAttr, g3]
  refine gate_i ?_ ?_
  omega
  simp -implicitDefEqProofs (dsimp := false) (disch := omega) only [Int.toNat_natCast, i64_in, bs_getD, opvs_getD, is64_getD, bss_getD]
  simp -implicitDefEqProofs (dsimp := false) only [go_sem, simprocAttr, g3]
  refine CodeT.freeze 5 ?_
  simp -implicitDefEqProofs (dsimp := false) only [go_sem, simprocAttr, g3]
  refine CodeT.seqR ?_
  simp -implicitDefEqProofs (dsimp := false) only [go_sem, simprocAttr, g3]
  refine CodeT.block ?_
  refine CodeT.whileS (fun k : Nat => [(6, .val (.int .i64 (k : Nat)))]) [5, 4, 3, 1] (fun k : Nat => [.dead, .row true 1 1 (bs (putB S (d.queue.getD i op0).at_.toNat ((d.queue.getD i op0).bytes.take k))), .dead]) (fun k : Nat => k ≤ (d.queue.getD i op0).bytes.length) (fun k : Nat => (d.queue.getD i op0).bytes.length - k) (0) ?_ rfl ?_ ?_
  omega
  refine ⟨rfl, ?_, ?_, rfl, ?_⟩
  simp -implicitDefEqProofs (dsimp := false) only [go_sem, simprocAttr, g3, or_true, true_or, false_or, or_false, implies_true, Int.natCast_add, Int.cast_ofNat_Int, keepsD_nil]
  trivial
  simp -implicitDefEqProofs (dsimp := false) only [go_sem, simprocAttr, g3, or_true, true_or, false_or, or_false, implies_true, Int.natCast_add, Int.cast_ofNat_Int, keepsD_nil]
  rotate_left
  simp -implicitDefEqProofs (dsimp := false) only [go_sem, simprocAttr, g3, or_true, true_or, false_or, or_false, implies_true, Int.natCast_add, Int.cast_ofNat_Int, keepsD_nil]
  rintro k hk
  have f4 : (putB S (d.queue.getD i op0).at_.toNat ((d.queue.getD i op0).bytes.take k)).length = d.bytes.length := by rw [putB_length (by rw [List.length_take]; omega), f2]
  obtain ⟨f5, f6⟩ := f1 (by omega)
  simp -implicitDefEqProofs (dsimp := false) only [go_sem, simprocAttr, g3]
  refine CodeT.seq ?_
  refine CodeT.seqR ?_
  simp -implicitDefEqProofs (dsimp := false) only [go_sem, simprocAttr, g3]
  refine CodeT.cond rfl (fun g4 => ?_) (fun g4 => ?_)
  have d4 := ofDec g4
  refine CodeT.skip ?_
  simp -implicitDefEqProofs (dsimp := false) only [go_sem, simprocAttr, g3, g4]
  refine CodeT.seq (CodeT.block ?_)
  refine CodeT.drawnL [(0, .free), (1, .free), (3, .free), (5, .free), (7, .free), (2, .read), (4, .free), (6, .read), (8, .read), (9, .read), (10, .upd), (11, .set)] mixed (by kernel_rfl) ?_
  simp -implicitDefEqProofs (dsimp := false) only [go_sem, simprocAttr, g3, g4]
  refine gate_i ?_ ?_
  omega
  simp -implicitDefEqProofs (dsimp := false) (disch := omega) only [Int.toNat_natCast, i64_in, bs_getD, opvs_getD, is64_getD, bss_getD]
  simp -implicitDefEqProofs (dsimp := false) only [go_sem, simprocAttr, g3, g4]
  refine And.intro (by omega) ?_
  refine And.intro (by omega) ?_
  refine And.intro (by omega) ?_
  refine And.intro (by exact Stable.refl _) ?_
  refine And.intro (by omega) ?_
  refine CodeT.region ?_
  simp -implicitDefEqProofs (dsimp := false) only [go_sem, simprocAttr, g3, g4]
  simp -implicitDefEqProofs (dsimp := false) (disch := omega) only [i64_in, bs_getD, opvs_getD, is64_getD, bss_getD]
  refine ⟨k + 1, ?_⟩
  refine And.intro ?_ ?_
  omega
  refine And.intro ?_ ?_
  omega
  refine ⟨rfl, ?_, ?_, rfl, ?_⟩
  simp -implicitDefEqProofs (dsimp := false) only [go_sem, simprocAttr, g3, g4, or_true, true_or, false_or, or_false, implies_true, Int.natCast_add, Int.cast_ofNat_Int, keepsD_nil]
  trivial
  simp -implicitDefEqProofs (dsimp := false) only [go_sem, simprocAttr, g3, g4, or_true, true_or, false_or, or_false, implies_true, Int.natCast_add, Int.cast_ofNat_Int, keepsD_nil]
  rotate_left
  simp -implicitDefEqProofs (dsimp := false) only [go_sem, simprocAttr, g3, g4, or_true, true_or, false_or, or_false, implies_true, Int.natCast_add, Int.cast_ofNat_Int, keepsD_nil]
  have d4 := ofDecF g4
  refine CodeT.exit ?_
  simp -implicitDefEqProofs (dsimp := false) only [go_sem, simprocAttr, g3, g4]
  refine CodeT.region ?_
  simp -implicitDefEqProofs (dsimp := false) only [go_sem, simprocAttr, g3, g4]
  simp -implicitDefEqProofs (dsimp := false) (disch := omega) only [i64_in, bs_getD, opvs_getD, is64_getD, bss_getD]
  refine ⟨i + 1, ?_⟩
  refine And.intro ?_ ?_
  omega
  refine And.intro ?_ ?_
  omega
  refine ⟨rfl, ?_, ?_, rfl, ?_⟩
  simp -implicitDefEqProofs (dsimp := false) only [go_sem, simprocAttr, g3, g4, or_true, true_or, false_or, or_false, implies_true, Int.natCast_add, Int.cast_ofNat_Int, keepsD_nil]
  trivial
  simp -implicitDefEqProofs (dsimp := false) only [go_sem, simprocAttr, g3, g4, or_true, true_or, false_or, or_false, implies_true, Int.natCast_add, Int.cast_ofNat_Int, keepsD_nil]
  rotate_left
  simp -implicitDefEqProofs (dsimp := false) only [go_sem, simprocAttr, g3, g4, or_true, true_or, false_or, or_false, implies_true, Int.natCast_add, Int.cast_ofNat_Int, keepsD_nil]
  have d3 := ofDecF g3
  refine CodeT.exit ?_
  simp -implicitDefEqProofs (dsimp := false) only [go_sem, simprocAttr, g3]
  refine CodeT.seqR ?_
  simp -implicitDefEqProofs (dsimp := false) only [go_sem, simprocAttr, g3]
  refine CodeT.ret ?_
  simp -implicitDefEqProofs (dsimp := false) only [go_sem, simprocAttr, g3]
  refine And.intro (by omega) ?_
  refine pureEnd rfl ?_
  rotate_left
  · rw [putB_nil]
  · rw [show ((d.queue.getD i op0).at_ + (k : Int)).toNat = (d.queue.getD i op0).at_.toNat + k by omega, ← putB_set (by omega) (by omega), ← bs_set]
    rfl
  · rw [f3, List.take_of_length_le (by omega)]
  · have : i = d.queue.length := by omega
    rw [List.take_of_length_le (by omega), ← hS, this]
    rfl
end Go.Proofs.Try
