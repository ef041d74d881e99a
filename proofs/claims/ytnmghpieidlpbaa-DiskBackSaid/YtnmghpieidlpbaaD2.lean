/-
  THE SPECIFICATION READS A CHANGE.
-/
import Derived.Test.YtnmghpieidlpbaaD1
set_option linter.unusedVariables false
set_option linter.unusedSimpArgs false
set_option linter.unusedSectionVars false
namespace Go.Proofs.Try
set_option linter.unusedSimpArgs false
set_option linter.unusedVariables false
open Go.PM
set_option maxHeartbeats 4000000
set_option maxRecDepth 100000
attribute [go_sem] Try.underlying122 Try.underlying120

theorem acc_take_lt (b : List UInt8) (i : Nat) (h : i < 8) : acc (b.take i) < 72057594037927936 := by
  have := acc_lt (b.take i)
  have h2 : 256 ^ (b.take i).length ≤ 256 ^ 7 := Nat.pow_le_pow_right (by decide) (by simp; omega)
  have h3 : (256 : Nat) ^ 7 = 72057594037927936 := by decide
  omega
theorem acc_take_succ (b : List UInt8) (i : Nat) (h : i < b.length) : acc (b.take (i + 1)) = acc (b.take i) * 256 + (b.getD i 0).toNat := by
  rw [List.take_add_one, List.getElem?_eq_getElem h, Option.toList_some, acc_snoc]
  simp [List.getD_eq_getElem?_getD, h]
theorem acc_step_add (b : List UInt8) (i : Nat) (h : i < 8) (hi : i < b.length) : IntKind.u64.wrap (IntKind.u64.wrap ((acc (b.take i) : Int) * 2 ^ 8) + ((b.getD i 0).toNat : Int)) = (acc (b.take (i + 1)) : Int) := by
  rw [acc_add _ _ (acc_take_lt b i h), acc_take_succ b i hi]
theorem acc_step_or (b : List UInt8) (i : Nat) (h : i < 8) (hi : i < b.length) : IntKind.u64.wrap ((BitVec.ofInt 64 (IntKind.u64.wrap ((acc (b.take i) : Int) * 2 ^ 8)) ||| BitVec.ofInt 64 ((b.getD i 0).toNat : Int)).toNat : Int) = (acc (b.take (i + 1)) : Int) := by
  rw [acc_or _ _ (acc_take_lt b i h), acc_take_succ b i hi]
theorem u64_byte (x : UInt8) : IntKind.u64.wrap (x.toNat : Int) = (x.toNat : Int) := by
  have := x.toNat_lt
  rw [u64w]; omega
theorem rN_yes {s : List UInt8 × Bool} (h : 8 ≤ s.1.length) : rN s = (numI s.1, (s.1.drop 8, s.2)) := if_pos h
theorem rN_no {s : List UInt8 × Bool} (h : ¬ 8 ≤ s.1.length) : rN s = (0, ([], true)) := if_neg h
theorem rN_len (s : List UInt8 × Bool) : (rN s).2.1.length ≤ s.1.length := by unfold rN; split <;> simp
theorem rT_len (s : List UInt8 × Bool) : (rT s).2.1.length ≤ s.1.length := by
  have := rN_len s
  unfold rT; split <;> simp <;> omega

theorem c92 (B0 B2 : Box) (s : List UInt8 × Bool) (hb : s.1.length ≤ 1000000) (h0 : B0 = .dead ∨ B0.under 3 = true) (h2 : B2 = .dead ∨ B2.under 3 = true) :
    CallT Try.prog 92 [.ptr 1 0] [B0, .cells [.sl false (bs s.1), .val (.bool s.2)], B2] (fun r h' => r = .ret (.val (.int .i64 (rN s).1)) ∧ h' = [B0, .cells [.sl false (bs (rN s).2.1), .val (.bool (rN s).2.2)], B2]) := by
  by_cases hl : 8 ≤ s.1.length
  · rw [rN_yes hl]
    refine CallT.intro Try.func92 (by decide) rfl ?_
    simp -implicitDefEqProofs (dsimp := false) only [go_sem, simprocAttr, enterTm, Try.ntmps92, List.range'_succ, List.range'_zero, List.zip_cons_cons, List.zip_nil_left]
    refine CodeT.seqR ?_
    simp -implicitDefEqProofs (dsimp := false) only [go_sem, simprocAttr]
    refine CodeT.seq ?_
    refine CodeT.seqR ?_
    simp -implicitDefEqProofs (dsimp := false) only [go_sem, simprocAttr]
    refine CodeT.cond rfl (fun g3 => ?_) (fun g3 => ?_)
    have d3 := ofDec g3
    (exfalso; omega)
    have d3 := ofDecF g3
    refine CodeT.skip ?_
    simp -implicitDefEqProofs (dsimp := false) only [go_sem, simprocAttr, g3]
    refine CodeT.seqR ?_
    simp -implicitDefEqProofs (dsimp := false) only [go_sem, simprocAttr, g3]
    refine CodeT.seq ?_
    refine CodeT.seqR ?_
    simp -implicitDefEqProofs (dsimp := false) only [go_sem, simprocAttr, g3]
    refine CodeT.block ?_
    refine CodeT.whileS (fun i : Nat => [(4, .val (.int .i64 (i : Nat))), (3, .val (.int .u64 (acc (s.1.take i) : Nat)))]) [0] (fun i : Nat => [B0, .cells [.sl false (bs s.1), .val (.bool s.2)], B2]) (fun i : Nat => i ≤ 8) (fun i : Nat => 8 - i) (0) ?_ rfl ?_ ?_
    omega
    refine ⟨rfl, ?_, ?_, rfl, ?_⟩
    simp -implicitDefEqProofs (dsimp := false) only [go_sem, simprocAttr, g3, or_true, true_or, false_or, or_false, implies_true, Int.natCast_add, Int.cast_ofNat_Int, keepsD_nil]
    refine And.intro ?_ ?_
    trivial
    trivial
    simp -implicitDefEqProofs (dsimp := false) only [go_sem, simprocAttr, g3, or_true, true_or, false_or, or_false, implies_true, Int.natCast_add, Int.cast_ofNat_Int, keepsD_nil]
    refine And.intro ?_ ?_
    assumption
    assumption
    simp -implicitDefEqProofs (dsimp := false) only [go_sem, simprocAttr, g3, or_true, true_or, false_or, or_false, implies_true, Int.natCast_add, Int.cast_ofNat_Int, keepsD_nil]
    rintro i hi
    have f1 := acc_step_add s.1 i
    simp -implicitDefEqProofs (dsimp := false) only [go_sem, simprocAttr, g3]
    refine CodeT.seq ?_
    refine CodeT.seqR ?_
    simp -implicitDefEqProofs (dsimp := false) only [go_sem, simprocAttr, g3]
    refine CodeT.cond rfl (fun g4 => ?_) (fun g4 => ?_)
    have d4 := ofDec g4
    refine CodeT.skip ?_
    simp -implicitDefEqProofs (dsimp := false) only [go_sem, simprocAttr, g3, g4]
    refine CodeT.seq (CodeT.block ?_)
    refine CodeT.region ?_
    simp -implicitDefEqProofs (dsimp := false) only [go_sem, simprocAttr, g3, g4]
    refine gate_i ?_ ?_
    omega
    simp -implicitDefEqProofs (dsimp := false) (disch := omega) only [Int.toNat_natCast, i64_in, bs_getD, opvs_getD, is64_getD, bss_getD]
    simp -implicitDefEqProofs (dsimp := false) only [go_sem, simprocAttr, g3, g4]
    refine CodeT.region ?_
    simp -implicitDefEqProofs (dsimp := false) only [go_sem, simprocAttr, g3, g4]
    simp -implicitDefEqProofs (dsimp := false) (disch := omega) only [i64_in, bs_getD, opvs_getD, is64_getD, bss_getD]
    refine ⟨i + 1, ?_⟩
    refine And.intro ?_ ?_
    omega
    refine And.intro ?_ ?_
    omega
    refine ⟨rfl, ?_, ?_, rfl, ?_⟩
    simp -implicitDefEqProofs (dsimp := false) only [go_sem, simprocAttr, g3, g4, or_true, true_or, false_or, or_false, implies_true, Int.natCast_add, Int.cast_ofNat_Int, keepsD_nil]
    refine And.intro ?_ ?_
    rotate_left
    trivial
    simp -implicitDefEqProofs (dsimp := false) only [go_sem, simprocAttr, g3, g4, or_true, true_or, false_or, or_false, implies_true, Int.natCast_add, Int.cast_ofNat_Int, keepsD_nil]
    refine And.intro ?_ ?_
    assumption
    assumption
    simp -implicitDefEqProofs (dsimp := false) only [go_sem, simprocAttr, g3, g4, or_true, true_or, false_or, or_false, implies_true, Int.natCast_add, Int.cast_ofNat_Int, keepsD_nil]
    have d4 := ofDecF g4
    refine CodeT.exit ?_
    simp -implicitDefEqProofs (dsimp := false) only [go_sem, simprocAttr, g3, g4]
    refine CodeT.seqR ?_
    simp -implicitDefEqProofs (dsimp := false) only [go_sem, simprocAttr, g3, g4]
    refine And.intro (by exact uni_bs _) ?_
    refine And.intro (by omega) ?_
    refine And.intro (by omega) ?_
    refine CodeT.seqR ?_
    simp -implicitDefEqProofs (dsimp := false) only [go_sem, simprocAttr, g3, g4]
    refine CodeT.ret ?_
    simp -implicitDefEqProofs (dsimp := false) only [go_sem, simprocAttr, g3, g4]
    rotate_left
    · rw [show min 8 64 = 8 from rfl, u64_byte, f1 (by omega) (by omega)]
    · obtain rfl : i = 8 := by omega
      rfl
  · rw [rN_no hl]
    refine CallT.intro Try.func92 (by decide) rfl ?_
    simp -implicitDefEqProofs (dsimp := false) only [go_sem, simprocAttr, enterTm, Try.ntmps92, List.range'_succ, List.range'_zero, List.zip_cons_cons, List.zip_nil_left]
    refine CodeT.seqR ?_
    simp -implicitDefEqProofs (dsimp := false) only [go_sem, simprocAttr]
    refine CodeT.seq ?_
    refine CodeT.seqR ?_
    simp -implicitDefEqProofs (dsimp := false) only [go_sem, simprocAttr]
    refine CodeT.cond rfl (fun g3 => ?_) (fun g3 => ?_)
    have d3 := ofDec g3
    refine CodeT.seqR ?_
    simp -implicitDefEqProofs (dsimp := false) only [go_sem, simprocAttr, g3]
    refine CodeT.seqR ?_
    simp -implicitDefEqProofs (dsimp := false) only [go_sem, simprocAttr, g3]
    refine CodeT.seqR ?_
    simp -implicitDefEqProofs (dsimp := false) only [go_sem, simprocAttr, g3]
    refine CodeT.laxCell 1 0 rfl rfl rfl ?_
    refine CodeT.ret ?_
    simp -implicitDefEqProofs (dsimp := false) only [go_sem, simprocAttr, g3]
    rotate_left
    have d3 := ofDecF g3
    (exfalso; omega)
    rfl
theorem c93 (B0 B2 : Box) (s : List UInt8 × Bool) (hb : s.1.length ≤ 1000000) (h0 : B0 = .dead ∨ B0.under 3 = true) (h2 : B2 = .dead ∨ B2.under 3 = true) :
    CallT Try.prog 93 [.ptr 1 0] [B0, .cells [.sl false (bs s.1), .val (.bool s.2)], B2] (fun r h' => r = .ret (.val (.string (strB (rT s).1))) ∧ h' = [B0, .cells [.sl false (bs (rT s).2.1), .val (.bool (rT s).2.2)], B2]) := by
  have hl := rN_len s
  by_cases ok : okT s = true
  · have e : rT s = ((rN s).2.1.take (rN s).1.toNat, ((rN s).2.1.drop (rN s).1.toNat, (rN s).2.2)) := if_pos ok
    rw [e]
    simp only [okT, Bool.and_eq_true, decide_eq_true_eq] at ok
    refine CallT.intro Try.func93 (by decide) rfl ?_
    simp -implicitDefEqProofs (dsimp := false) only [go_sem, simprocAttr, strOf_bs, enterTm, Try.ntmps93, List.range'_succ, List.range'_zero, List.zip_cons_cons, List.zip_nil_left]
    refine CodeT.seqR ?_
    simp -implicitDefEqProofs (dsimp := false) only [go_sem, simprocAttr, strOf_bs]
    refine CodeT.seqR ?_
    simp -implicitDefEqProofs (dsimp := false) only [go_sem, simprocAttr, strOf_bs]
    refine CallT.eq (c92 _ _ s hb h0 h2) ?_
    simp -implicitDefEqProofs (dsimp := false) only [go_sem, simprocAttr, strOf_bs]
    refine CodeT.seq ?_
    refine CodeT.seqR ?_
    simp -implicitDefEqProofs (dsimp := false) only [go_sem, simprocAttr, strOf_bs]
    refine gif_i (fun g4 => ?_) (fun g4 => ?_)
    have d4 := ofDec g4
    (exfalso; omega)
    have d4 := ofDecF g4
    simp -implicitDefEqProofs (dsimp := false) only [go_sem, simprocAttr, strOf_bs, g4]
    refine CodeT.cond rfl (fun g5 => ?_) (fun g5 => ?_)
    have d5 := ofDec g5
    (exfalso; omega)
    have d5 := ofDecF g5
    refine CodeT.skip ?_
    simp -implicitDefEqProofs (dsimp := false) only [go_sem, simprocAttr, strOf_bs, g4, g5]
    refine CodeT.seqR ?_
    simp -implicitDefEqProofs (dsimp := false) only [go_sem, simprocAttr, strOf_bs, g4, g5]
    refine And.intro (by exact uni_bs _) ?_
    refine And.intro (by omega) ?_
    refine And.intro (by omega) ?_
    refine And.intro (by exact bs_byte _) ?_
    refine CodeT.seqR ?_
    simp -implicitDefEqProofs (dsimp := false) only [go_sem, simprocAttr, strOf_bs, g4, g5]
    refine And.intro (by exact uni_bs _) ?_
    refine And.intro (by omega) ?_
    refine And.intro (by omega) ?_
    refine And.intro (by omega) ?_
    refine CodeT.seqR ?_
    simp -implicitDefEqProofs (dsimp := false) only [go_sem, simprocAttr, strOf_bs, g4, g5]
    refine CodeT.ret ?_
    simp -implicitDefEqProofs (dsimp := false) only [go_sem, simprocAttr, strOf_bs, g4, g5]
  · have e : rT s = ([], ((rN s).2.1, true)) := if_neg ok
    rw [e]
    simp only [okT, Bool.and_eq_true, decide_eq_true_eq] at ok
    refine CallT.intro Try.func93 (by decide) rfl ?_
    simp -implicitDefEqProofs (dsimp := false) only [go_sem, simprocAttr, strOf_bs, enterTm, Try.ntmps93, List.range'_succ, List.range'_zero, List.zip_cons_cons, List.zip_nil_left]
    refine CodeT.seqR ?_
    simp -implicitDefEqProofs (dsimp := false) only [go_sem, simprocAttr, strOf_bs]
    refine CodeT.seqR ?_
    simp -implicitDefEqProofs (dsimp := false) only [go_sem, simprocAttr, strOf_bs]
    refine CallT.eq (c92 _ _ s hb h0 h2) ?_
    simp -implicitDefEqProofs (dsimp := false) only [go_sem, simprocAttr, strOf_bs]
    refine CodeT.seq ?_
    refine CodeT.seqR ?_
    simp -implicitDefEqProofs (dsimp := false) only [go_sem, simprocAttr, strOf_bs]
    refine gif_i (fun g4 => ?_) (fun g4 => ?_)
    have d4 := ofDec g4
    simp -implicitDefEqProofs (dsimp := false) only [go_sem, simprocAttr, strOf_bs, g4]
    refine CodeT.condT rfl ?_
    refine CodeT.seqR ?_
    simp -implicitDefEqProofs (dsimp := false) only [go_sem, simprocAttr, strOf_bs, g4]
    refine CodeT.seqR ?_
    simp -implicitDefEqProofs (dsimp := false) only [go_sem, simprocAttr, strOf_bs, g4]
    refine CodeT.ret ?_
    simp -implicitDefEqProofs (dsimp := false) only [go_sem, simprocAttr, strOf_bs, g4]
    rotate_left
    have d4 := ofDecF g4
    simp -implicitDefEqProofs (dsimp := false) only [go_sem, simprocAttr, strOf_bs, g4]
    refine CodeT.cond rfl (fun g5 => ?_) (fun g5 => ?_)
    have d5 := ofDec g5
    refine CodeT.seqR ?_
    simp -implicitDefEqProofs (dsimp := false) only [go_sem, simprocAttr, strOf_bs, g4, g5]
    refine CodeT.seqR ?_
    simp -implicitDefEqProofs (dsimp := false) only [go_sem, simprocAttr, strOf_bs, g4, g5]
    refine CodeT.ret ?_
    simp -implicitDefEqProofs (dsimp := false) only [go_sem, simprocAttr, strOf_bs, g4, g5]
    rotate_left
    have d5 := ofDecF g5
    (exfalso; omega)
    · rfl
    · rfl
theorem len_ne {l : List UInt8} (h : decide ((l.length : Int) > 0) = true) : l ≠ [] := fun e => by subst e; simp at h
theorem len_eq {l : List UInt8} (h : decide ((l.length : Int) > 0) = false) : l = [] := by
  cases l with
  | nil => rfl
  | cons x l => simp at h
theorem outC_none {b : List UInt8} (h : (refC b).2.2 = true ∨ (refC b).2.1 ≠ []) : outC (unpackV b) = .tup [chv chg0, i64v 280] := by
  rw [ref_unpack, if_pos h]; rfl
theorem outC_some {b : List UInt8} (h : ¬ ((refC b).2.2 = true ∨ (refC b).2.1 ≠ [])) : outC (unpackV b) = .tup [chv (refC b).1, i64v 0] := by
  rw [ref_unpack, if_neg h]; rfl
attribute [local irreducible] rN rT
theorem c46 (b : List UInt8) (hb : b.length ≤ 1000000) : PureT Try.prog 46 [.sl false (bs b)] (· = outC (unpackV b)) := by
  have q1 : (rN (b, false)).2.1.length ≤ b.length := rN_len (b, false)
  have q2 := rN_len (rN (b, false)).2
  have q3 := rT_len (rN (rN (b, false)).2).2
  have q4 := rT_len (rT (rN (rN (b, false)).2).2).2
  have q5 := rN_len (rT (rT (rN (rN (b, false)).2).2).2).2
  have q6 := rN_len (rN (rT (rT (rN (rN (b, false)).2).2).2).2).2
  have q7 := rN_len (rN (rN (rT (rT (rN (rN (b, false)).2).2).2).2).2).2
  refine CallT.intro Try.func46 (by decide) rfl ?_
  simp -implicitDefEqProofs (dsimp := false) only [go_sem, simprocAttr, enterTm, Try.ntmps46, List.range'_succ, List.range'_zero, List.zip_cons_cons, List.zip_nil_left]
  refine CodeT.seqR ?_
  simp -implicitDefEqProofs (dsimp := false) only [go_sem, simprocAttr]
  refine CodeT.seqR ?_
  simp -implicitDefEqProofs (dsimp := false) only [go_sem, simprocAttr]
  refine CodeT.seqR ?_
  simp -implicitDefEqProofs (dsimp := false) only [go_sem, simprocAttr]
  refine CodeT.seqR ?_
  simp -implicitDefEqProofs (dsimp := false) only [go_sem, simprocAttr]
  refine CallT.eq (c92 _ _ (b, false) ?_ (Or.inr rfl) (Or.inr rfl)) ?_
  assumption
  simp -implicitDefEqProofs (dsimp := false) only [go_sem, simprocAttr]
  refine CodeT.seqR ?_
  simp -implicitDefEqProofs (dsimp := false) only [go_sem, simprocAttr]
  refine CallT.eq (c92 _ _ _ ?_ (Or.inr rfl) (Or.inr rfl)) ?_
  omega
  simp -implicitDefEqProofs (dsimp := false) only [go_sem, simprocAttr]
  refine CodeT.seqR ?_
  simp -implicitDefEqProofs (dsimp := false) only [go_sem, simprocAttr]
  refine CallT.eq (c93 _ _ _ ?_ (Or.inr rfl) (Or.inr rfl)) ?_
  omega
  simp -implicitDefEqProofs (dsimp := false) only [go_sem, simprocAttr]
  refine CodeT.seqR ?_
  simp -implicitDefEqProofs (dsimp := false) only [go_sem, simprocAttr]
  refine CallT.eq (c93 _ _ _ ?_ (Or.inr rfl) (Or.inr rfl)) ?_
  omega
  simp -implicitDefEqProofs (dsimp := false) only [go_sem, simprocAttr]
  refine CodeT.seqR ?_
  simp -implicitDefEqProofs (dsimp := false) only [go_sem, simprocAttr]
  refine CallT.eq (c92 _ _ _ ?_ (Or.inr rfl) (Or.inr rfl)) ?_
  omega
  simp -implicitDefEqProofs (dsimp := false) only [go_sem, simprocAttr]
  refine CodeT.seqR ?_
  simp -implicitDefEqProofs (dsimp := false) only [go_sem, simprocAttr]
  refine CallT.eq (c92 _ _ _ ?_ (Or.inr rfl) (Or.inr rfl)) ?_
  omega
  simp -implicitDefEqProofs (dsimp := false) only [go_sem, simprocAttr]
  refine CodeT.seqR ?_
  simp -implicitDefEqProofs (dsimp := false) only [go_sem, simprocAttr]
  refine CallT.eq (c92 _ _ _ ?_ (Or.inr rfl) (Or.inr rfl)) ?_
  omega
  simp -implicitDefEqProofs (dsimp := false) only [go_sem, simprocAttr]
  refine CodeT.seqR ?_
  simp -implicitDefEqProofs (dsimp := false) only [go_sem, simprocAttr]
  refine CallT.eq (c93 _ _ _ ?_ (Or.inr rfl) (Or.inr rfl)) ?_
  omega
  simp -implicitDefEqProofs (dsimp := false) only [go_sem, simprocAttr]
  refine CodeT.seq ?_
  refine CodeT.seqR ?_
  simp -implicitDefEqProofs (dsimp := false) only [go_sem, simprocAttr]
  refine gif_i (fun g9 => ?_) (fun g9 => ?_)
  simp -implicitDefEqProofs (dsimp := false) only [go_sem, simprocAttr, g9]
  refine CodeT.condT rfl ?_
  refine CodeT.seqR ?_
  simp -implicitDefEqProofs (dsimp := false) only [go_sem, simprocAttr, g9]
  refine CodeT.ret ?_
  simp -implicitDefEqProofs (dsimp := false) only [go_sem, simprocAttr, g9]
  refine pureEnd rfl ?_
  rotate_left
  simp -implicitDefEqProofs (dsimp := false) only [go_sem, simprocAttr, g9]
  refine CodeT.cond rfl (fun g10 => ?_) (fun g10 => ?_)
  have d10 := ofDec g10
  refine CodeT.seqR ?_
  simp -implicitDefEqProofs (dsimp := false) only [go_sem, simprocAttr, g9, g10]
  refine CodeT.ret ?_
  simp -implicitDefEqProofs (dsimp := false) only [go_sem, simprocAttr, g9, g10]
  refine pureEnd rfl ?_
  rotate_left
  have d10 := ofDecF g10
  refine CodeT.skip ?_
  simp -implicitDefEqProofs (dsimp := false) only [go_sem, simprocAttr, g9, g10]
  refine CodeT.seqR ?_
  simp -implicitDefEqProofs (dsimp := false) only [go_sem, simprocAttr, g9, g10]
  refine CodeT.ret ?_
  simp -implicitDefEqProofs (dsimp := false) only [go_sem, simprocAttr, g9, g10]
  refine pureEnd rfl ?_
  rotate_left
  · exact (outC_none (b := b) (.inl g9)).symm
  · exact (outC_none (b := b) (.inr (len_ne g10))).symm
  · exact (outC_some (b := b) (fun h => h.elim (fun h => by rw [show (refC b).2.2 = false from g9] at h; cases h) (fun h => h (len_eq g10)))).symm
end Go.Proofs.Try

namespace Go.Proofs.Try
set_option linter.unusedSimpArgs false
set_option linter.unusedVariables false
open Go.PM
set_option maxHeartbeats 4000000
set_option maxRecDepth 100000
attribute [go_sem] Try.underlying115 Try.underlying116 Try.underlying100 Try.underlying119 Try.underlying20
attribute [local irreducible] rN rT

def unread : AV := .iface 115 (.agg [])
theorem c89u (b : List UInt8) (n : Int) (hb : b.length ≤ 1000000) : CallI Try.prog 89 [.val (.int .i64 n), .ptr 0 0] [.cells [.sl false (bs b)]] (decide (0 ≤ n ∧ n ≤ (b.length : Nat))) (.sl false (bs (b.take n.toNat))) [.cells [.sl false (bs (b.drop n.toNat))]] unread [.cells [.sl false (bs b)]] := by
  refine CallI.mk ?_
  refine CallT.intro Try.func89 (by decide) rfl ?_
  simp -implicitDefEqProofs (dsimp := false) only [go_sem, simprocAttr, enterTm, Try.ntmps89, List.range'_succ, List.range'_zero, List.zip_cons_cons, List.zip_nil_left]
  refine CodeT.seqR ?_
  simp -implicitDefEqProofs (dsimp := false) only [go_sem, simprocAttr]
  refine CodeT.seq ?_
  refine CodeT.seqR ?_
  simp -implicitDefEqProofs (dsimp := false) only [go_sem, simprocAttr]
  refine gif_i (fun g1 => ?_) (fun g1 => ?_)
  have d1 := ofDec g1
  simp -implicitDefEqProofs (dsimp := false) only [go_sem, simprocAttr, g1]
  refine CodeT.condT rfl ?_
  refine CodeT.region ?_
  simp -implicitDefEqProofs (dsimp := false) only [go_sem, simprocAttr, g1]
  (simp [unread, *]; omega)
  have d1 := ofDecF g1
  simp -implicitDefEqProofs (dsimp := false) only [go_sem, simprocAttr, g1]
  refine CodeT.cond rfl (fun g2 => ?_) (fun g2 => ?_)
  have d2 := ofDec g2
  refine CodeT.region ?_
  simp -implicitDefEqProofs (dsimp := false) only [go_sem, simprocAttr, g1, g2]
  simp [unread, *]
  have d2 := ofDecF g2
  refine CodeT.skip ?_
  simp -implicitDefEqProofs (dsimp := false) only [go_sem, simprocAttr, g1, g2]
  refine CodeT.seqR ?_
  simp -implicitDefEqProofs (dsimp := false) only [go_sem, simprocAttr, g1, g2]
  refine And.intro (by exact uni_bs _) ?_
  refine And.intro (by omega) ?_
  refine And.intro (by omega) ?_
  refine CodeT.seqR ?_
  simp -implicitDefEqProofs (dsimp := false) only [go_sem, simprocAttr, g1, g2]
  refine And.intro (by exact uni_bs _) ?_
  refine And.intro (by omega) ?_
  refine And.intro (by omega) ?_
  refine And.intro (by omega) ?_
  refine CodeT.seqR ?_
  simp -implicitDefEqProofs (dsimp := false) only [go_sem, simprocAttr, g1, g2]
  refine CodeT.ret ?_
  simp -implicitDefEqProofs (dsimp := false) only [go_sem, simprocAttr, g1, g2]
  (simp [unread, *]; omega)
theorem c89x (b : List UInt8) (n : Int) (hb : b.length ≤ 1000000) (ext : List Box) : CallI Try.prog 89 [.val (.int .i64 n), .ptr 0 0] (.cells [.sl false (bs b)] :: ext) (decide (0 ≤ n ∧ n ≤ (b.length : Nat))) (.sl false (bs (b.take n.toNat))) (.cells [.sl false (bs (b.drop n.toNat))] :: ext) unread (.cells [.sl false (bs b)] :: ext) :=
  CallI.pre (c89u b n hb) ext (by intro b hb; simp at hb; subst hb; rfl) rfl rfl rfl
theorem c89q (q r : List UInt8) (hq : q.length = 8) (hb : (q ++ r).length ≤ 1000000) (ext : List Box) : CallT Try.prog 89 [.val (.int .i64 8), .ptr 0 0] (.cells [.sl false (bs (q ++ r))] :: ext) (fun x h' => x = .ret (.sl false (bs q)) ∧ h' = .cells [.sl false (bs r)] :: ext) := by
  have := (c89x (q ++ r) 8 hb ext).1 (decide_eq_true ⟨by decide, by rw [List.length_append]; omega⟩)
  rwa [show Int.toNat 8 = 8 from rfl, List.take_left' hq, List.drop_left' hq] at this
theorem c89p (b : List UInt8) (n : Int) (hb : b.length ≤ 1000000) (hn : ¬ (0 ≤ n ∧ n ≤ (b.length : Nat))) (ext : List Box) : CallT Try.prog 89 [.val (.int .i64 n), .ptr 0 0] (.cells [.sl false (bs b)] :: ext) (fun x h' => x = .panic unread ∧ h' = .cells [.sl false (bs b)] :: ext) :=
  (c89x b n hb ext).2 (decide_eq_false hn)
theorem c90y (q r : List UInt8) (hq : q.length = 8) (hb : (q ++ r).length ≤ 1000000) (B1 B2 B4 : Box) (h1 : B1 = .dead ∨ B1.under 5 = true) (h2 : B2 = .dead ∨ B2.under 5 = true) (h4 : B4 = .dead ∨ B4.under 5 = true) : CallT Try.prog 90 [.ptr 3 0] [.cells [.sl false (bs (q ++ r))], B1, B2, .cells [.fn 89 [.ptr 0 0]], B4] (fun x h' => x = .ret (.val (.int .i64 (IntKind.i64.wrap (acc q)))) ∧ h' = [.cells [.sl false (bs r)], B1, B2, .cells [.fn 89 [.ptr 0 0]], B4]) := by
  refine CallT.intro Try.func90 (by decide) rfl ?_
  simp -implicitDefEqProofs (dsimp := false) only [go_sem, simprocAttr, hq, enterTm, Try.ntmps90, List.range'_succ, List.range'_zero, List.zip_cons_cons, List.zip_nil_left]
  refine CodeT.seqR ?_
  simp -implicitDefEqProofs (dsimp := false) only [go_sem, simprocAttr, hq]
  refine CodeT.seqR ?_
  simp -implicitDefEqProofs (dsimp := false) only [go_sem, simprocAttr, hq]
  refine CodeT.seq ?_
  refine CodeT.seqR ?_
  simp -implicitDefEqProofs (dsimp := false) only [go_sem, simprocAttr, hq]
  refine CallT.eq (c89q q r hq hb _) ?_
  simp -implicitDefEqProofs (dsimp := false) only [go_sem, simprocAttr, hq]
  refine CodeT.block ?_
  refine CodeT.whileS (fun i : Nat => [(8, .val (.int .i64 (i : Nat))), (2, .val (.int .u64 (acc (q.take i) : Nat)))]) [7, 6] (fun i : Nat => [.cells [.sl false (bs r)], B1, B2, .cells [.fn 89 [.ptr 0 0]], B4]) (fun i : Nat => i ≤ 8) (fun i : Nat => 8 - i) (0) ?_ rfl ?_ ?_
  omega
  refine ⟨rfl, ?_, ?_, rfl, ?_⟩
  simp -implicitDefEqProofs (dsimp := false) only [go_sem, simprocAttr, hq, or_true, true_or, false_or, or_false, implies_true, Int.natCast_add, Int.cast_ofNat_Int, keepsD_nil]
  trivial
  simp -implicitDefEqProofs (dsimp := false) only [go_sem, simprocAttr, hq, or_true, true_or, false_or, or_false, implies_true, Int.natCast_add, Int.cast_ofNat_Int, keepsD_nil]
  refine And.intro ?_ ?_
  assumption
  refine And.intro ?_ ?_
  assumption
  refine And.intro ?_ ?_
  trivial
  assumption
  simp -implicitDefEqProofs (dsimp := false) only [go_sem, simprocAttr, hq, or_true, true_or, false_or, or_false, implies_true, Int.natCast_add, Int.cast_ofNat_Int, keepsD_nil]
  rintro i hi
  have f1 := acc_step_or q i
  simp -implicitDefEqProofs (dsimp := false) only [go_sem, simprocAttr, hq]
  refine CodeT.seqR ?_
  simp -implicitDefEqProofs (dsimp := false) only [go_sem, simprocAttr, hq]
  refine CodeT.seq (CodeT.cond rfl (fun g6 => ?_) (fun g6 => ?_))
  have d6 := ofDec g6
  refine CodeT.skip ?_
  simp -implicitDefEqProofs (dsimp := false) only [go_sem, simprocAttr, hq, g6]
  refine CodeT.seq (CodeT.block ?_)
  refine CodeT.seqR ?_
  simp -implicitDefEqProofs (dsimp := false) only [go_sem, simprocAttr, hq, g6]
  refine gate_i ?_ ?_
  omega
  simp -implicitDefEqProofs (dsimp := false) (disch := omega) only [Int.toNat_natCast, i64_in, bs_getD, opvs_getD, is64_getD, bss_getD]
  simp -implicitDefEqProofs (dsimp := false) only [go_sem, simprocAttr, hq, g6]
  refine CodeT.region ?_
  simp -implicitDefEqProofs (dsimp := false) only [go_sem, simprocAttr, hq, g6]
  refine CodeT.region ?_
  simp -implicitDefEqProofs (dsimp := false) only [go_sem, simprocAttr, hq, g6]
  simp -implicitDefEqProofs (dsimp := false) (disch := omega) only [i64_in, bs_getD, opvs_getD, is64_getD, bss_getD]
  refine ⟨i + 1, ?_⟩
  refine And.intro ?_ ?_
  omega
  refine And.intro ?_ ?_
  omega
  refine ⟨rfl, ?_, ?_, rfl, ?_⟩
  simp -implicitDefEqProofs (dsimp := false) only [go_sem, simprocAttr, hq, g6, or_true, true_or, false_or, or_false, implies_true, Int.natCast_add, Int.cast_ofNat_Int, keepsD_nil]
  rotate_left
  simp -implicitDefEqProofs (dsimp := false) only [go_sem, simprocAttr, hq, g6, or_true, true_or, false_or, or_false, implies_true, Int.natCast_add, Int.cast_ofNat_Int, keepsD_nil]
  refine And.intro ?_ ?_
  assumption
  refine And.intro ?_ ?_
  assumption
  refine And.intro ?_ ?_
  trivial
  assumption
  simp -implicitDefEqProofs (dsimp := false) only [go_sem, simprocAttr, hq, g6, or_true, true_or, false_or, or_false, implies_true, Int.natCast_add, Int.cast_ofNat_Int, keepsD_nil]
  have d6 := ofDecF g6
  refine CodeT.exit ?_
  simp -implicitDefEqProofs (dsimp := false) only [go_sem, simprocAttr, hq, g6]
  refine CodeT.seqR ?_
  simp -implicitDefEqProofs (dsimp := false) only [go_sem, simprocAttr, hq, g6]
  refine CodeT.ret ?_
  simp -implicitDefEqProofs (dsimp := false) only [go_sem, simprocAttr, hq, g6]
  rotate_left
  · rw [show min 8 64 = 8 from rfl, u64_byte]
    exact congrArg (fun x => AV.val (.int .u64 x)) (f1 (by omega) (by omega))
  · obtain rfl : i = 8 := by omega
    rw [List.take_of_length_le (by omega)]
theorem c90p (b : List UInt8) (hb : b.length ≤ 1000000) (hn : b.length < 8) (B1 B2 B4 : Box) : CallT Try.prog 90 [.ptr 3 0] [.cells [.sl false (bs b)], B1, B2, .cells [.fn 89 [.ptr 0 0]], B4] (fun x h' => x = .panic unread ∧ h' = [.cells [.sl false (bs b)], B1, B2, .cells [.fn 89 [.ptr 0 0]], B4]) := by
  refine CallT.intro Try.func90 (by decide) rfl ?_
  simp -implicitDefEqProofs (dsimp := false) only [go_sem, simprocAttr, enterTm, Try.ntmps90, List.range'_succ, List.range'_zero, List.zip_cons_cons, List.zip_nil_left]
  refine CodeT.seqR ?_
  simp -implicitDefEqProofs (dsimp := false) only [go_sem, simprocAttr]
  refine CodeT.seqR ?_
  simp -implicitDefEqProofs (dsimp := false) only [go_sem, simprocAttr]
  refine CodeT.seq ?_
  refine CodeT.seqR ?_
  simp -implicitDefEqProofs (dsimp := false) only [go_sem, simprocAttr]
  refine CallT.boom (c89p b 8 hb (by omega) _) ?_
  simp -implicitDefEqProofs (dsimp := false) only [go_sem, simprocAttr]
def okU (b : List UInt8) : Bool := decide (8 ≤ b.length ∧ 0 ≤ numI b ∧ numI b ≤ ((b.drop 8).length : Nat))
def bxU (b : List UInt8) (B1 B2 : Box) : List Box := [.cells [.sl false (bs b)], B1, B2, .cells [.fn 89 [.ptr 0 0]], .cells [.fn 90 [.ptr 3 0]]]
theorem c90q (b : List UInt8) (hl : 8 ≤ b.length) (hb : b.length ≤ 1000000) (B1 B2 B4 : Box) (h1 : B1 = .dead ∨ B1.under 5 = true) (h2 : B2 = .dead ∨ B2.under 5 = true) (h4 : B4 = .dead ∨ B4.under 5 = true) : CallT Try.prog 90 [.ptr 3 0] [.cells [.sl false (bs b)], B1, B2, .cells [.fn 89 [.ptr 0 0]], B4] (fun x h' => x = .ret (.val (.int .i64 (numI b))) ∧ h' = [.cells [.sl false (bs (b.drop 8))], B1, B2, .cells [.fn 89 [.ptr 0 0]], B4]) := by
  have := c90y (b.take 8) (b.drop 8) (by simp; omega) (by simpa using hb) B1 B2 B4 h1 h2 h4
  rwa [List.take_append_drop] at this
theorem c89r (b : List UInt8) (n : Int) (hn : 0 ≤ n ∧ n ≤ (b.length : Nat)) (hb : b.length ≤ 1000000) (ext : List Box) : CallT Try.prog 89 [.val (.int .i64 n), .ptr 0 0] (.cells [.sl false (bs b)] :: ext) (fun x h' => x = .ret (.sl false (bs (b.take n.toNat))) ∧ h' = .cells [.sl false (bs (b.drop n.toNat))] :: ext) := (c89x b n hb ext).1 (decide_eq_true hn)
theorem c91u (b : List UInt8) (hb : b.length ≤ 1000000) (B1 B2 : Box) (h1 : B1 = .dead ∨ B1.under 5 = true) (h2 : B2 = .dead ∨ B2.under 5 = true) : CallI Try.prog 91 [.ptr 3 0, .ptr 4 0] (bxU b B1 B2) (okU b) (.val (.string (strB ((b.drop 8).take (numI b).toNat)))) (bxU ((b.drop 8).drop (numI b).toNat) B1 B2) unread (bxU (if 8 ≤ b.length then b.drop 8 else b) B1 B2) := by
  by_cases hl : 8 ≤ b.length
  · have hb8 : (b.drop 8).length ≤ 1000000 := by simp; omega
    by_cases hn : 0 ≤ numI b ∧ numI b ≤ ((b.drop 8).length : Nat)
    · refine ⟨fun _ => ?_, fun e => absurd e (by unfold okU; rw [decide_eq_true ⟨hl, hn⟩]; decide)⟩
      unfold bxU
      refine CallT.intro Try.func91 (by decide) rfl ?_
      simp -implicitDefEqProofs (dsimp := false) only [go_sem, simprocAttr, strOf_bs, enterTm, Try.ntmps91, List.range'_succ, List.range'_zero, List.zip_cons_cons, List.zip_nil_left]
      refine CodeT.seqR ?_
      simp -implicitDefEqProofs (dsimp := false) only [go_sem, simprocAttr, strOf_bs]
      refine CodeT.seqTree (.alt 0 (.alt 1 (.alt 2 (.alt 3 (.alt 4 (.alt 5 .done .fail) .fail) .fail) .fail) .fail) (.alt 1 (.alt 0 (.alt 2 (.alt 3 (.alt 4 (.alt 5 .done .fail) .fail) .fail) .fail) (.alt 2 (.alt 0 (.alt 3 (.alt 4 (.alt 5 .done .fail) .fail) .fail) .fail) .fail)) .fail)) mixed (by kernel_rfl) ?_
      simp -implicitDefEqProofs (dsimp := false) only [go_sem, simprocAttr, strOf_bs]
      refine both_i ?_ ?_
      refine CallT.eq (c90q b hl hb _ _ _ h1 h2 (Or.inr rfl)) ?_
      simp -implicitDefEqProofs (dsimp := false) only [go_sem, simprocAttr, strOf_bs]
      refine CallT.eq (c89r (b.drop 8) (numI b) hn hb8 _) ?_
      simp -implicitDefEqProofs (dsimp := false) only [go_sem, simprocAttr, strOf_bs]
      refine And.intro (by exact bs_byte _) ?_
      refine CodeT.ret ?_
      simp -implicitDefEqProofs (dsimp := false) only [go_sem, simprocAttr, strOf_bs]
      refine both_i ?_ ?_
      refine CallT.eq (c90q b hl hb _ _ _ h1 h2 (Or.inr rfl)) ?_
      simp -implicitDefEqProofs (dsimp := false) only [go_sem, simprocAttr, strOf_bs]
      refine CallT.eq (c89r (b.drop 8) (numI b) hn hb8 _) ?_
      simp -implicitDefEqProofs (dsimp := false) only [go_sem, simprocAttr, strOf_bs]
      refine And.intro (by exact bs_byte _) ?_
      refine CodeT.ret ?_
      simp -implicitDefEqProofs (dsimp := false) only [go_sem, simprocAttr, strOf_bs]
      refine CallT.eq (c90q b hl hb _ _ _ h1 h2 (Or.inr rfl)) ?_
      simp -implicitDefEqProofs (dsimp := false) only [go_sem, simprocAttr, strOf_bs]
      refine CallT.eq (c89r (b.drop 8) (numI b) hn hb8 _) ?_
      simp -implicitDefEqProofs (dsimp := false) only [go_sem, simprocAttr, strOf_bs]
      refine And.intro (by exact bs_byte _) ?_
      refine CodeT.ret ?_
      simp -implicitDefEqProofs (dsimp := false) only [go_sem, simprocAttr, strOf_bs]
    · refine ⟨fun e => absurd e (by unfold okU; rw [decide_eq_false fun h => hn h.2]; decide), fun _ => ?_⟩
      unfold bxU
      rw [if_pos hl]
      refine CallT.intro Try.func91 (by decide) rfl ?_
      simp -implicitDefEqProofs (dsimp := false) only [go_sem, simprocAttr, strOf_bs, enterTm, Try.ntmps91, List.range'_succ, List.range'_zero, List.zip_cons_cons, List.zip_nil_left]
      refine CodeT.seqR ?_
      simp -implicitDefEqProofs (dsimp := false) only [go_sem, simprocAttr, strOf_bs]
      refine CodeT.seqTree (.alt 0 (.alt 1 (.alt 2 (.alt 3 (.alt 4 (.alt 5 .done .fail) .fail) .fail) .fail) .fail) (.alt 1 (.alt 0 (.alt 2 (.alt 3 (.alt 4 (.alt 5 .done .fail) .fail) .fail) .fail) (.alt 2 (.alt 0 (.alt 3 (.alt 4 (.alt 5 .done .fail) .fail) .fail) .fail) .fail)) .fail)) mixed (by kernel_rfl) ?_
      simp -implicitDefEqProofs (dsimp := false) only [go_sem, simprocAttr, strOf_bs]
      refine both_i ?_ ?_
      refine CallT.eq (c90q b hl hb _ _ _ h1 h2 (Or.inr rfl)) ?_
      simp -implicitDefEqProofs (dsimp := false) only [go_sem, simprocAttr, strOf_bs]
      refine CallT.boom (c89p (b.drop 8) (numI b) hb8 hn _) ?_
      simp -implicitDefEqProofs (dsimp := false) only [go_sem, simprocAttr, strOf_bs]
      refine both_i ?_ ?_
      refine CallT.eq (c90q b hl hb _ _ _ h1 h2 (Or.inr rfl)) ?_
      simp -implicitDefEqProofs (dsimp := false) only [go_sem, simprocAttr, strOf_bs]
      refine CallT.boom (c89p (b.drop 8) (numI b) hb8 hn _) ?_
      simp -implicitDefEqProofs (dsimp := false) only [go_sem, simprocAttr, strOf_bs]
      refine CallT.eq (c90q b hl hb _ _ _ h1 h2 (Or.inr rfl)) ?_
      simp -implicitDefEqProofs (dsimp := false) only [go_sem, simprocAttr, strOf_bs]
      refine CallT.boom (c89p (b.drop 8) (numI b) hb8 hn _) ?_
      simp -implicitDefEqProofs (dsimp := false) only [go_sem, simprocAttr, strOf_bs]
  · refine ⟨fun e => absurd e (by unfold okU; rw [decide_eq_false fun h => hl h.1]; decide), fun _ => ?_⟩
    unfold bxU
    rw [if_neg hl]
    refine CallT.intro Try.func91 (by decide) rfl ?_
    simp -implicitDefEqProofs (dsimp := false) only [go_sem, simprocAttr, strOf_bs, enterTm, Try.ntmps91, List.range'_succ, List.range'_zero, List.zip_cons_cons, List.zip_nil_left]
    refine CodeT.seqR ?_
    simp -implicitDefEqProofs (dsimp := false) only [go_sem, simprocAttr, strOf_bs]
    refine CodeT.seqTree (.alt 0 (.alt 1 (.alt 2 (.alt 3 (.alt 4 (.alt 5 .done .fail) .fail) .fail) .fail) .fail) (.alt 1 (.alt 0 (.alt 2 (.alt 3 (.alt 4 (.alt 5 .done .fail) .fail) .fail) .fail) (.alt 2 (.alt 0 (.alt 3 (.alt 4 (.alt 5 .done .fail) .fail) .fail) .fail) .fail)) .fail)) mixed (by kernel_rfl) ?_
    simp -implicitDefEqProofs (dsimp := false) only [go_sem, simprocAttr, strOf_bs]
    refine both_i ?_ ?_
    refine CallT.boom (c90p b hb (by omega) _ _ _) ?_
    simp -implicitDefEqProofs (dsimp := false) only [go_sem, simprocAttr, strOf_bs]
    refine both_i ?_ ?_
    refine CallT.boom (c90p b hb (by omega) _ _ _) ?_
    simp -implicitDefEqProofs (dsimp := false) only [go_sem, simprocAttr, strOf_bs]
    refine CallT.boom (c90p b hb (by omega) _ _ _) ?_
    simp -implicitDefEqProofs (dsimp := false) only [go_sem, simprocAttr, strOf_bs]
end Go.Proofs.Try

namespace Go.Proofs.Try
set_option linter.unusedSimpArgs false
set_option linter.unusedVariables false
open Go.PM
set_option maxHeartbeats 4000000
set_option maxRecDepth 100000

theorem d88n (h : List Box) (K : Option AV → List Box → Prop) (hk : K none h) : DefT Try.prog 88 [.ptr 1 0, .ptr 2 0] none h K := by
  refine DefT.recover Try.func88 (by decide) rfl rfl ?_
  simp -implicitDefEqProofs (dsimp := false) only [go_sem, simprocAttr, hk, enterTm, Try.ntmps88, List.range'_succ, List.range'_zero, List.zip_cons_cons, List.zip_nil_left]
  refine CodeT.block ?_
  refine CodeT.seqR ?_
  simp -implicitDefEqProofs (dsimp := false) only [go_sem, simprocAttr, hk]
  refine CodeT.condT rfl ?_
  refine CodeT.region ?_
  simp -implicitDefEqProofs (dsimp := false) only [go_sem, simprocAttr, hk]
theorem d88p (B0 B3 B4 : Box) (a1 a2 a3 a4 a5 a6 a7 a8 e : AV) (K : Option AV → List Box → Prop) (hk : K none [B0, .cells (chc chg0), .cells [.val (.int .i64 280)], B3, B4, .cells []]) : DefT Try.prog 88 [.ptr 1 0, .ptr 2 0] (some unread) [B0, .cells [a1, a2, a3, a4, a5, a6, a7, a8], .cells [e], B3, B4] K := by
  refine DefT.recover Try.func88 (by decide) rfl rfl ?_
  simp -implicitDefEqProofs (dsimp := false) only [go_sem, simprocAttr, hk, unread, enterTm, Try.ntmps88, List.range'_succ, List.range'_zero, List.zip_cons_cons, List.zip_nil_left]
  refine CodeT.block ?_
  refine CodeT.seqR ?_
  simp -implicitDefEqProofs (dsimp := false) only [go_sem, simprocAttr, hk, unread]
  refine CodeT.condF rfl ?_
  refine CodeT.seqAD ?_
  simp -implicitDefEqProofs (dsimp := false) only [go_sem, simprocAttr, hk, unread]
  refine CodeT.condT rfl ?_
  refine CodeT.seqR ?_
  simp -implicitDefEqProofs (dsimp := false) only [go_sem, simprocAttr, hk, unread]
  refine CodeT.region ?_
  simp -implicitDefEqProofs (dsimp := false) only [go_sem, simprocAttr, hk, unread]
  rotate_left
  exact hk
theorem c90i (b : List UInt8) (hb : b.length ≤ 1000000) (B1 B2 B4 : Box) (h1 : B1 = .dead ∨ B1.under 5 = true) (h2 : B2 = .dead ∨ B2.under 5 = true) (h4 : B4 = .dead ∨ B4.under 5 = true) : CallI Try.prog 90 [.ptr 3 0] [.cells [.sl false (bs b)], B1, B2, .cells [.fn 89 [.ptr 0 0]], B4] (decide (8 ≤ b.length)) (.val (.int .i64 (numI b))) [.cells [.sl false (bs (b.drop 8))], B1, B2, .cells [.fn 89 [.ptr 0 0]], B4] unread [.cells [.sl false (bs b)], B1, B2, .cells [.fn 89 [.ptr 0 0]], B4] :=
  ⟨fun e => c90q b (of_decide_eq_true e) hb B1 B2 B4 h1 h2 h4, fun e => c90p b hb (by have := of_decide_eq_false e; omega) B1 B2 B4⟩
theorem c91i (b : List UInt8) (hb : b.length ≤ 1000000) (B1 B2 : Box) (h1 : B1 = .dead ∨ B1.under 5 = true) (h2 : B2 = .dead ∨ B2.under 5 = true) : CallI Try.prog 91 [.ptr 3 0, .ptr 4 0] [.cells [.sl false (bs b)], B1, B2, .cells [.fn 89 [.ptr 0 0]], .cells [.fn 90 [.ptr 3 0]]] (okU b) (.val (.string (strB ((b.drop 8).take (numI b).toNat)))) [.cells [.sl false (bs ((b.drop 8).drop (numI b).toNat))], B1, B2, .cells [.fn 89 [.ptr 0 0]], .cells [.fn 90 [.ptr 3 0]]] unread [.cells [.sl false (bs (if 8 ≤ b.length then b.drop 8 else b))], B1, B2, .cells [.fn 89 [.ptr 0 0]], .cells [.fn 90 [.ptr 3 0]]] := c91u b hb B1 B2 h1 h2
theorem rdN_t {b : List UInt8} (h : decide (8 ≤ b.length) = true) : rdN b = some (numI b, b.drop 8) := if_pos (of_decide_eq_true h)
theorem rdN_f {b : List UInt8} (h : decide (8 ≤ b.length) = false) : rdN b = none := if_neg (of_decide_eq_false h)
theorem rdT_t {b : List UInt8} (h : okU b = true) : rdT b = some ((b.drop 8).take (numI b).toNat, (b.drop 8).drop (numI b).toNat) := if_pos (of_decide_eq_true h)
theorem rdT_f {b : List UInt8} (h : okU b = false) : rdT b = none := if_neg (of_decide_eq_false h)
theorem ifn_t {l : List UInt8} {n : Nat} {x y : Option Chg} (h : decide ((n : Int) > 0) = true) (e : l.length = n) : (if l = [] then x else y) = y := if_neg (len_ne (by rw [e]; exact h))
theorem ifn_f {l : List UInt8} {n : Nat} {x y : Option Chg} (h : decide ((n : Int) > 0) = false) (e : l.length = n) : (if l = [] then x else y) = x := if_pos (len_eq (by rw [e]; exact h))
attribute [local irreducible] numI rdN rdT okU
theorem c45 (b : List UInt8) (hb : b.length ≤ 1000000) : PureT Try.prog 45 [.sl false (bs b)] (· = outC (unpackV b)) := by
  refine CallT.intro Try.func45 (by decide) rfl ?_
  simp -implicitDefEqProofs (dsimp := false) only [go_sem, simprocAttr, enterTm, Try.ntmps45, List.range'_succ, List.range'_zero, List.zip_cons_cons, List.zip_nil_left]
  refine CodeT.seqR ?_
  simp -implicitDefEqProofs (dsimp := false) only [go_sem, simprocAttr]
  refine CodeT.seqAD ?_
  simp -implicitDefEqProofs (dsimp := false) only [go_sem, simprocAttr]
  refine CodeT.seqR ?_
  simp -implicitDefEqProofs (dsimp := false) only [go_sem, simprocAttr]
  refine CodeT.seqR ?_
  simp -implicitDefEqProofs (dsimp := false) only [go_sem, simprocAttr]
  refine CodeT.seqR ?_
  simp -implicitDefEqProofs (dsimp := false) only [go_sem, simprocAttr]
  refine CodeT.seqR ?_
  simp -implicitDefEqProofs (dsimp := false) only [go_sem, simprocAttr]
  refine CallI.go (c90i _ ?_ _ _ _ (Or.inr rfl) (Or.inr rfl) (Or.inr rfl)) (fun g1 => ?_) (fun g1 => ?_)
  assumption
  have d1 := ofDec g1
  simp -implicitDefEqProofs (dsimp := false) only [go_sem, simprocAttr, g1]
  refine CodeT.seqR ?_
  simp -implicitDefEqProofs (dsimp := false) only [go_sem, simprocAttr, g1]
  refine CallI.go (c90i _ ?_ _ _ _ (Or.inr rfl) (Or.inr rfl) (Or.inr rfl)) (fun g2 => ?_) (fun g2 => ?_)
  rotate_left
  have d2 := ofDec g2
  simp -implicitDefEqProofs (dsimp := false) only [go_sem, simprocAttr, g1, g2]
  refine CodeT.seqR ?_
  simp -implicitDefEqProofs (dsimp := false) only [go_sem, simprocAttr, g1, g2]
  refine CallI.go (c91i _ ?_ _ _ (Or.inr rfl) (Or.inr rfl)) (fun g3 => ?_) (fun g3 => ?_)
  rotate_left
  simp -implicitDefEqProofs (dsimp := false) only [go_sem, simprocAttr, g1, g2, g3]
  refine CodeT.seqR ?_
  simp -implicitDefEqProofs (dsimp := false) only [go_sem, simprocAttr, g1, g2, g3]
  refine CallI.go (c91i _ ?_ _ _ (Or.inr rfl) (Or.inr rfl)) (fun g4 => ?_) (fun g4 => ?_)
  rotate_left
  simp -implicitDefEqProofs (dsimp := false) only [go_sem, simprocAttr, g1, g2, g3, g4]
  refine CodeT.seqR ?_
  simp -implicitDefEqProofs (dsimp := false) only [go_sem, simprocAttr, g1, g2, g3, g4]
  refine CallI.go (c90i _ ?_ _ _ _ (Or.inr rfl) (Or.inr rfl) (Or.inr rfl)) (fun g5 => ?_) (fun g5 => ?_)
  rotate_left
  have d5 := ofDec g5
  simp -implicitDefEqProofs (dsimp := false) only [go_sem, simprocAttr, g1, g2, g3, g4, g5]
  refine CodeT.seqR ?_
  simp -implicitDefEqProofs (dsimp := false) only [go_sem, simprocAttr, g1, g2, g3, g4, g5]
  refine CallI.go (c90i _ ?_ _ _ _ (Or.inr rfl) (Or.inr rfl) (Or.inr rfl)) (fun g6 => ?_) (fun g6 => ?_)
  rotate_left
  have d6 := ofDec g6
  simp -implicitDefEqProofs (dsimp := false) only [go_sem, simprocAttr, g1, g2, g3, g4, g5, g6]
  refine CodeT.seqR ?_
  simp -implicitDefEqProofs (dsimp := false) only [go_sem, simprocAttr, g1, g2, g3, g4, g5, g6]
  refine CallI.go (c90i _ ?_ _ _ _ (Or.inr rfl) (Or.inr rfl) (Or.inr rfl)) (fun g7 => ?_) (fun g7 => ?_)
  rotate_left
  have d7 := ofDec g7
  simp -implicitDefEqProofs (dsimp := false) only [go_sem, simprocAttr, g1, g2, g3, g4, g5, g6, g7]
  refine CodeT.seqR ?_
  simp -implicitDefEqProofs (dsimp := false) only [go_sem, simprocAttr, g1, g2, g3, g4, g5, g6, g7]
  refine CallI.go (c91i _ ?_ _ _ (Or.inr rfl) (Or.inr rfl)) (fun g8 => ?_) (fun g8 => ?_)
  rotate_left
  simp -implicitDefEqProofs (dsimp := false) only [go_sem, simprocAttr, g1, g2, g3, g4, g5, g6, g7, g8]
  refine CodeT.seq ?_
  refine CodeT.seqR ?_
  simp -implicitDefEqProofs (dsimp := false) only [go_sem, simprocAttr, g1, g2, g3, g4, g5, g6, g7, g8]
  refine CodeT.cond rfl (fun g9 => ?_) (fun g9 => ?_)
  have d9 := ofDec g9
  refine CodeT.region ?_
  simp -implicitDefEqProofs (dsimp := false) only [go_sem, simprocAttr, g1, g2, g3, g4, g5, g6, g7, g8, g9]
  refine d88p _ _ _ _ _ _ _ _ _ _ _ _ _ ?_
  simp -implicitDefEqProofs (dsimp := false) only [go_sem, simprocAttr, g1, g2, g3, g4, g5, g6, g7, g8, g9]
  refine And.intro (by trivial) ?_
  refine pureEnd rfl ?_
  rotate_left
  have d9 := ofDecF g9
  refine CodeT.skip ?_
  simp -implicitDefEqProofs (dsimp := false) only [go_sem, simprocAttr, g1, g2, g3, g4, g5, g6, g7, g8, g9]
  refine CodeT.seqR ?_
  simp -implicitDefEqProofs (dsimp := false) only [go_sem, simprocAttr, g1, g2, g3, g4, g5, g6, g7, g8, g9]
  refine CodeT.ret ?_
  simp -implicitDefEqProofs (dsimp := false) only [go_sem, simprocAttr, g1, g2, g3, g4, g5, g6, g7, g8, g9]
  refine d88n _ _ ?_
  simp -implicitDefEqProofs (dsimp := false) only [go_sem, simprocAttr, g1, g2, g3, g4, g5, g6, g7, g8, g9]
  refine pureEnd rfl ?_
  rotate_left
  simp -implicitDefEqProofs (dsimp := false) only [go_sem, simprocAttr, g1, g2, g3, g4, g5, g6, g7, g8]
  refine d88p _ _ _ _ _ _ _ _ _ _ _ _ _ ?_
  simp -implicitDefEqProofs (dsimp := false) only [go_sem, simprocAttr, g1, g2, g3, g4, g5, g6, g7, g8]
  refine And.intro (by trivial) ?_
  refine pureEnd rfl ?_
  rotate_left
  have d7 := ofDecF g7
  simp -implicitDefEqProofs (dsimp := false) only [go_sem, simprocAttr, g1, g2, g3, g4, g5, g6, g7]
  refine d88p _ _ _ _ _ _ _ _ _ _ _ _ _ ?_
  simp -implicitDefEqProofs (dsimp := false) only [go_sem, simprocAttr, g1, g2, g3, g4, g5, g6, g7]
  refine And.intro (by trivial) ?_
  refine pureEnd rfl ?_
  rotate_left
  have d6 := ofDecF g6
  simp -implicitDefEqProofs (dsimp := false) only [go_sem, simprocAttr, g1, g2, g3, g4, g5, g6]
  refine d88p _ _ _ _ _ _ _ _ _ _ _ _ _ ?_
  simp -implicitDefEqProofs (dsimp := false) only [go_sem, simprocAttr, g1, g2, g3, g4, g5, g6]
  refine And.intro (by trivial) ?_
  refine pureEnd rfl ?_
  rotate_left
  have d5 := ofDecF g5
  simp -implicitDefEqProofs (dsimp := false) only [go_sem, simprocAttr, g1, g2, g3, g4, g5]
  refine d88p _ _ _ _ _ _ _ _ _ _ _ _ _ ?_
  simp -implicitDefEqProofs (dsimp := false) only [go_sem, simprocAttr, g1, g2, g3, g4, g5]
  refine And.intro (by trivial) ?_
  refine pureEnd rfl ?_
  rotate_left
  simp -implicitDefEqProofs (dsimp := false) only [go_sem, simprocAttr, g1, g2, g3, g4]
  refine d88p _ _ _ _ _ _ _ _ _ _ _ _ _ ?_
  simp -implicitDefEqProofs (dsimp := false) only [go_sem, simprocAttr, g1, g2, g3, g4]
  refine And.intro (by trivial) ?_
  refine pureEnd rfl ?_
  rotate_left
  simp -implicitDefEqProofs (dsimp := false) only [go_sem, simprocAttr, g1, g2, g3]
  refine d88p _ _ _ _ _ _ _ _ _ _ _ _ _ ?_
  simp -implicitDefEqProofs (dsimp := false) only [go_sem, simprocAttr, g1, g2, g3]
  refine And.intro (by trivial) ?_
  refine pureEnd rfl ?_
  rotate_left
  have d2 := ofDecF g2
  simp -implicitDefEqProofs (dsimp := false) only [go_sem, simprocAttr, g1, g2]
  refine d88p _ _ _ _ _ _ _ _ _ _ _ _ _ ?_
  simp -implicitDefEqProofs (dsimp := false) only [go_sem, simprocAttr, g1, g2]
  refine And.intro (by trivial) ?_
  refine pureEnd rfl ?_
  rotate_left
  have d1 := ofDecF g1
  simp -implicitDefEqProofs (dsimp := false) only [go_sem, simprocAttr, g1]
  refine d88p _ _ _ _ _ _ _ _ _ _ _ _ _ ?_
  simp -implicitDefEqProofs (dsimp := false) only [go_sem, simprocAttr, g1]
  refine And.intro (by trivial) ?_
  refine pureEnd rfl ?_
  rotate_left
  all_goals first
    | (simp only [List.length_drop]; omega)
    | (simp only [outC, unpackV, bind, Option.bind, rdN_t, rdN_f, rdT_t, rdT_f, decide_true, decide_false, *]; rfl)
    | (simp only [outC, unpackV, bind, Option.bind, rdN_t, rdN_f, rdT_t, rdT_f, decide_true, decide_false, *]; rw [ifn_t g9 (by simp only [List.length_drop])]; rfl)
    | (simp only [outC, unpackV, bind, Option.bind, rdN_t, rdN_f, rdT_t, rdT_f, decide_true, decide_false, *]; rw [ifn_f g9 (by simp only [List.length_drop])]; rfl)
end Go.Proofs.Try

namespace Go.Proofs.Try
set_option linter.unusedSimpArgs false
set_option linter.unusedVariables false
open Go.PM
set_option maxHeartbeats 4000000
set_option maxRecDepth 100000

theorem c48 (c : Chg) (h1 : c.name.length ≤ 100000) (h2 : c.sname.length ≤ 100000) (h3 : c.vt.length ≤ 100000) : PureT Try.prog 48 [chv c] (· = .sl false (bs (packB c))) := by
  have e8 : ∀ n, (num8 n).length = 8 := fun _ => rfl
  refine CallT.res ?_
  refine CallT.intro Try.func48 (by decide) rfl ?_
  simp -implicitDefEqProofs (dsimp := false) only [go_sem, simprocAttr, chv, chc, str, i64v, e8, str_size, enterTm, Try.ntmps48, List.range'_succ, List.range'_zero, List.zip_cons_cons, List.zip_nil_left]
  refine CodeT.seqR ?_
  simp -implicitDefEqProofs (dsimp := false) only [go_sem, simprocAttr, chv, chc, str, i64v, e8, str_size]
  refine CodeT.seqD [(0, .free), (3, .free), (1, .read), (4, .read), (2, .upd), (5, .upd), (6, .free)] mixed (by kernel_rfl) ?_
  simp -implicitDefEqProofs (dsimp := false) only [go_sem, simprocAttr, chv, chc, str, i64v, e8, str_size]
  refine ⟨⟨_, Try.func94, by decide, rfl⟩, Or.inr ?_⟩
  refine CallY.go (c94n _ _ (Or.inr rfl)) ?_
  simp -implicitDefEqProofs (dsimp := false) only [go_sem, simprocAttr, chv, chc, str, i64v, e8, str_size]
  refine And.intro (by exact Stable.append [_] [_]) ?_
  refine ⟨⟨_, Try.func94, by decide, rfl⟩, Or.inr ?_⟩
  refine CallY.go (c94 _ _ _ _ _ ?_ ?_ (Or.inr rfl)) ?_
  trivial
  omega
  simp -implicitDefEqProofs (dsimp := false) only [go_sem, simprocAttr, chv, chc, str, i64v, e8, str_size]
  refine And.intro (by exact Stable.same (Stable.row (Stable.refl _))) ?_
  refine CodeT.seqD [(0, .free), (1, .free), (4, .free), (5, .free), (2, .read), (6, .read), (3, .upd), (7, .upd), (8, .free)] mixed (by kernel_rfl) ?_
  simp -implicitDefEqProofs (dsimp := false) only [go_sem, simprocAttr, chv, chc, str, i64v, e8, str_size]
  refine ⟨⟨_, Try.func95, by decide, rfl⟩, Or.inr ?_⟩
  refine CallY.go (c95 _ _ _ _ _ ?_ ?_ ?_ (Or.inr rfl)) ?_
  trivial
  omega
  omega
  simp -implicitDefEqProofs (dsimp := false) only [go_sem, simprocAttr, chv, chc, str, i64v, e8, str_size]
  refine And.intro (by exact Stable.same (Stable.row (Stable.refl _))) ?_
  refine ⟨⟨_, Try.func95, by decide, rfl⟩, Or.inr ?_⟩
  refine CallY.go (c95 _ _ _ _ _ ?_ ?_ ?_ (Or.inr rfl)) ?_
  rotate_left
  omega
  omega
  simp -implicitDefEqProofs (dsimp := false) only [go_sem, simprocAttr, chv, chc, str, i64v, e8, str_size]
  refine And.intro (by exact Stable.same (Stable.row (Stable.refl _))) ?_
  refine CodeT.seqD [(0, .free), (1, .free), (2, .free), (5, .free), (6, .free), (7, .free), (10, .free), (11, .free), (12, .free), (3, .read), (8, .read), (13, .read), (4, .upd), (9, .upd), (14, .upd), (15, .free)] mixed (by kernel_rfl) ?_
  simp -implicitDefEqProofs (dsimp := false) only [go_sem, simprocAttr, chv, chc, str, i64v, e8, str_size]
  refine ⟨⟨_, Try.func94, by decide, rfl⟩, Or.inr ?_⟩
  refine CallY.go (c94 _ _ _ _ _ ?_ ?_ (Or.inr rfl)) ?_
  rotate_left
  omega
  simp -implicitDefEqProofs (dsimp := false) only [go_sem, simprocAttr, chv, chc, str, i64v, e8, str_size]
  refine And.intro (by exact Stable.same (Stable.row (Stable.refl _))) ?_
  refine ⟨⟨_, Try.func94, by decide, rfl⟩, Or.inr ?_⟩
  refine CallY.go (c94 _ _ _ _ _ ?_ ?_ (Or.inr rfl)) ?_
  rotate_left
  omega
  simp -implicitDefEqProofs (dsimp := false) only [go_sem, simprocAttr, chv, chc, str, i64v, e8, str_size]
  refine And.intro (by exact Stable.same (Stable.row (Stable.refl _))) ?_
  refine ⟨⟨_, Try.func94, by decide, rfl⟩, Or.inr ?_⟩
  refine CallY.go (c94 _ _ _ _ _ ?_ ?_ (Or.inr rfl)) ?_
  rotate_left
  omega
  simp -implicitDefEqProofs (dsimp := false) only [go_sem, simprocAttr, chv, chc, str, i64v, e8, str_size]
  refine And.intro (by exact Stable.same (Stable.row (Stable.refl _))) ?_
  refine CodeT.seqR ?_
  simp -implicitDefEqProofs (dsimp := false) only [go_sem, simprocAttr, chv, chc, str, i64v, e8, str_size]
  refine CallT.eq (c95 _ _ _ _ _ ?_ ?_ ?_ (Or.inr rfl)) ?_
  rotate_left
  omega
  omega
  simp -implicitDefEqProofs (dsimp := false) only [go_sem, simprocAttr, chv, chc, str, i64v, e8, str_size]
  refine CodeT.ret ?_
  simp -implicitDefEqProofs (dsimp := false) only [go_sem, simprocAttr, chv, chc, str, i64v, e8, str_size]
  refine And.intro (by omega) ?_
  refine pureEnd rfl ?_
  rotate_left
  iterate 5 (· simp only [List.length_append, e8])
  · rw [List.take_of_length_le (by simp only [List.length_append, e8]; omega)]; rfl
theorem c96 (b0 : Box) (l : List UInt8) (v : Nat) (n : Int) (m : Nat) (hm : l.length = m) (hl : m ≤ 10000000) (hb : b0 = .dead ∨ b0.under 2 = true) : CallT Try.prog 96 [.hsl 1 v 0 m, .val (.int .i64 n)] [b0, .row true v 1 (bs l)] (fun r h' => r = .ret (.hsl 1 (v + 8) 0 (m + 8)) ∧ h' = [b0, .row true (v + 8) 1 (bs (l ++ num8 n))]) := by
  subst hm
  have e8 : (num8 n).length = 8 := rfl
  refine CallT.intro Try.func96 (by decide) rfl ?_
  simp -implicitDefEqProofs (dsimp := false) only [go_sem, simprocAttr, e8, enterTm, Try.ntmps96, List.range'_succ, List.range'_zero, List.zip_cons_cons, List.zip_nil_left]
  refine CodeT.seqR ?_
  simp -implicitDefEqProofs (dsimp := false) only [go_sem, simprocAttr, e8]
  refine CodeT.seq ?_
  refine CodeT.seqR ?_
  simp -implicitDefEqProofs (dsimp := false) only [go_sem, simprocAttr, e8]
  refine CodeT.block ?_
  refine CodeT.whileS (fun j : Nat => [(0, .hsl 1 (v + j) 0 (l.length + j)), (5, .val (.int .i64 (56 - 8 * (j : Int))))]) [1] (fun j : Nat => [b0, .row true (v + j) 1 (bs (l ++ (num8 n).take j))]) (fun j : Nat => j ≤ 8) (fun j : Nat => 8 - j) (0) ?_ rfl ?_ ?_
  omega
  refine ⟨rfl, ?_, ?_, rfl, ?_⟩
  simp -implicitDefEqProofs (dsimp := false) only [go_sem, simprocAttr, e8, or_true, true_or, false_or, or_false, implies_true, Int.natCast_add, Int.cast_ofNat_Int, keepsD_nil]
  trivial
  simp -implicitDefEqProofs (dsimp := false) only [go_sem, simprocAttr, e8, or_true, true_or, false_or, or_false, implies_true, Int.natCast_add, Int.cast_ofNat_Int, keepsD_nil]
  assumption
  simp -implicitDefEqProofs (dsimp := false) only [go_sem, simprocAttr, e8, or_true, true_or, false_or, or_false, implies_true, Int.natCast_add, Int.cast_ofNat_Int, keepsD_nil]
  rintro j hj
  have f0 : min j 8 = j := by omega
  have f1 : j < 8 → _ := byte_av n j
  simp -implicitDefEqProofs (dsimp := false) only [go_sem, simprocAttr, e8]
  refine CodeT.seq ?_
  refine CodeT.seqR ?_
  simp -implicitDefEqProofs (dsimp := false) only [go_sem, simprocAttr, e8]
  refine CodeT.cond rfl (fun g1 => ?_) (fun g1 => ?_)
  have d1 := ofDec g1
  refine CodeT.skip ?_
  simp -implicitDefEqProofs (dsimp := false) only [go_sem, simprocAttr, e8, g1]
  refine CodeT.seq (CodeT.block ?_)
  refine CodeT.region ?_
  simp -implicitDefEqProofs (dsimp := false) only [go_sem, simprocAttr, e8, g1]
  refine And.intro (by assumption) ?_
  refine And.intro (by trivial) ?_
  refine And.intro ?_ ?_
  rotate_left
  refine And.intro (by omega) ?_
  refine And.intro (by omega) ?_
  refine CodeT.region ?_
  simp -implicitDefEqProofs (dsimp := false) only [go_sem, simprocAttr, e8, g1]
  simp -implicitDefEqProofs (dsimp := false) (disch := omega) only [i64_in, bs_getD, opvs_getD, is64_getD, bss_getD]
  refine ⟨j + 1, ?_⟩
  refine And.intro ?_ ?_
  omega
  refine And.intro ?_ ?_
  omega
  refine ⟨rfl, ?_, ?_, rfl, ?_⟩
  simp -implicitDefEqProofs (dsimp := false) only [go_sem, simprocAttr, e8, g1, or_true, true_or, false_or, or_false, implies_true, Int.natCast_add, Int.cast_ofNat_Int, keepsD_nil]
  refine And.intro ?_ ?_
  (congr 1 <;> omega)
  refine And.intro ?_ ?_
  trivial
  rotate_left
  simp -implicitDefEqProofs (dsimp := false) only [go_sem, simprocAttr, e8, g1, or_true, true_or, false_or, or_false, implies_true, Int.natCast_add, Int.cast_ofNat_Int, keepsD_nil]
  refine And.intro ?_ ?_
  assumption
  rotate_left
  simp -implicitDefEqProofs (dsimp := false) only [go_sem, simprocAttr, e8, g1, or_true, true_or, false_or, or_false, implies_true, Int.natCast_add, Int.cast_ofNat_Int, keepsD_nil]
  have d1 := ofDecF g1
  refine CodeT.exit ?_
  simp -implicitDefEqProofs (dsimp := false) only [go_sem, simprocAttr, e8, g1]
  refine CodeT.seqR ?_
  simp -implicitDefEqProofs (dsimp := false) only [go_sem, simprocAttr, e8, g1]
  refine CodeT.ret ?_
  simp -implicitDefEqProofs (dsimp := false) only [go_sem, simprocAttr, e8, g1]
  refine And.intro ?_ ?_
  rotate_left
  rotate_left
  · rw [f1 (by omega)]; exact uni_bs [_]
  · congr 2; omega
  · rw [f1 (by omega), num8_take n j (by omega), ← List.append_assoc, ← bs_append]; rfl
  · obtain rfl : j = 8 := by omega
    rfl
  · obtain rfl : j = 8 := by omega
    rfl
theorem c96n (b0 : Box) (n : Int) (hb : b0 = .dead ∨ b0.under 2 = true) : CallT Try.prog 96 [.sl true [], .val (.int .i64 n)] [b0] (fun r h' => r = .ret (.hsl 1 8 0 8) ∧ h' = [b0, .row true 8 1 (bs (num8 n))]) :=
  CallT.nil0 1 (c96 b0 [] 0 n 0 rfl (by decide) hb)
theorem c97 (b0 : Box) (l : List UInt8) (v : Nat) (s : List UInt8) (m : Nat) (hm : l.length = m) (hl : m ≤ 1000000) (hs : s.length ≤ 1000000) (hb : b0 = .dead ∨ b0.under 2 = true) : CallT Try.prog 97 [.hsl 1 v 0 m, .val (.string (strB s))] [b0, .row true v 1 (bs l)] (fun r h' => r = .ret (.hsl 1 (v + 9) 0 (m + 8 + s.length)) ∧ h' = [b0, .row true (v + 9) 1 (bs (l ++ num8 s.length ++ s))]) := by
  subst hm
  have e8 : ∀ n, (num8 n).length = 8 := fun _ => rfl
  refine CallT.intro Try.func97 (by decide) rfl ?_
  simp -implicitDefEqProofs (dsimp := false) only [go_sem, simprocAttr, str_size, strElems_strB, e8, enterTm, Try.ntmps97, List.range'_succ, List.range'_zero, List.zip_cons_cons, List.zip_nil_left]
  refine CodeT.seqR ?_
  simp -implicitDefEqProofs (dsimp := false) only [go_sem, simprocAttr, str_size, strElems_strB, e8]
  refine CodeT.seqR ?_
  simp -implicitDefEqProofs (dsimp := false) only [go_sem, simprocAttr, str_size, strElems_strB, e8]
  refine CallT.eq (c96 _ l v _ _ rfl ?_ hb) ?_
  omega
  simp -implicitDefEqProofs (dsimp := false) only [go_sem, simprocAttr, str_size, strElems_strB, e8]
  refine And.intro (by omega) ?_
  refine CodeT.ret ?_
  simp -implicitDefEqProofs (dsimp := false) only [go_sem, simprocAttr, str_size, strElems_strB, e8]
theorem c49 (c : Chg) (h1 : c.name.length ≤ 100000) (h2 : c.sname.length ≤ 100000) (h3 : c.vt.length ≤ 100000) : PureT Try.prog 49 [chv c] (· = .sl false (bs (packB c))) := by
  have e8 : ∀ n, (num8 n).length = 8 := fun _ => rfl
  refine CallT.res ?_
  refine CallT.intro Try.func49 (by decide) rfl ?_
  simp -implicitDefEqProofs (dsimp := false) only [go_sem, simprocAttr, chv, chc, str, i64v, e8, str_size, enterTm, Try.ntmps49, List.range'_succ, List.range'_zero, List.zip_cons_cons, List.zip_nil_left]
  refine CodeT.seqR ?_
  simp -implicitDefEqProofs (dsimp := false) only [go_sem, simprocAttr, chv, chc, str, i64v, e8, str_size]
  refine CodeT.seqR ?_
  simp -implicitDefEqProofs (dsimp := false) only [go_sem, simprocAttr, chv, chc, str, i64v, e8, str_size]
  refine CallT.eq (c96n _ _ (Or.inr rfl)) ?_
  simp -implicitDefEqProofs (dsimp := false) only [go_sem, simprocAttr, chv, chc, str, i64v, e8, str_size]
  refine CodeT.seqR ?_
  simp -implicitDefEqProofs (dsimp := false) only [go_sem, simprocAttr, chv, chc, str, i64v, e8, str_size]
  refine CallT.eq (c96 _ _ _ _ _ ?_ ?_ (Or.inr rfl)) ?_
  trivial
  omega
  simp -implicitDefEqProofs (dsimp := false) only [go_sem, simprocAttr, chv, chc, str, i64v, e8, str_size]
  refine CodeT.seqR ?_
  simp -implicitDefEqProofs (dsimp := false) only [go_sem, simprocAttr, chv, chc, str, i64v, e8, str_size]
  refine CallT.eq (c97 _ _ _ _ _ ?_ ?_ ?_ (Or.inr rfl)) ?_
  trivial
  omega
  omega
  simp -implicitDefEqProofs (dsimp := false) only [go_sem, simprocAttr, chv, chc, str, i64v, e8, str_size]
  refine CodeT.seqR ?_
  simp -implicitDefEqProofs (dsimp := false) only [go_sem, simprocAttr, chv, chc, str, i64v, e8, str_size]
  refine CallT.eq (c97 _ _ _ _ _ ?_ ?_ ?_ (Or.inr rfl)) ?_
  rotate_left
  omega
  omega
  simp -implicitDefEqProofs (dsimp := false) only [go_sem, simprocAttr, chv, chc, str, i64v, e8, str_size]
  refine CodeT.seqR ?_
  simp -implicitDefEqProofs (dsimp := false) only [go_sem, simprocAttr, chv, chc, str, i64v, e8, str_size]
  refine CallT.eq (c96 _ _ _ _ _ ?_ ?_ (Or.inr rfl)) ?_
  rotate_left
  omega
  simp -implicitDefEqProofs (dsimp := false) only [go_sem, simprocAttr, chv, chc, str, i64v, e8, str_size]
  refine CodeT.seqR ?_
  simp -implicitDefEqProofs (dsimp := false) only [go_sem, simprocAttr, chv, chc, str, i64v, e8, str_size]
  refine CallT.eq (c96 _ _ _ _ _ ?_ ?_ (Or.inr rfl)) ?_
  rotate_left
  omega
  simp -implicitDefEqProofs (dsimp := false) only [go_sem, simprocAttr, chv, chc, str, i64v, e8, str_size]
  refine CodeT.seqR ?_
  simp -implicitDefEqProofs (dsimp := false) only [go_sem, simprocAttr, chv, chc, str, i64v, e8, str_size]
  refine CallT.eq (c96 _ _ _ _ _ ?_ ?_ (Or.inr rfl)) ?_
  rotate_left
  omega
  simp -implicitDefEqProofs (dsimp := false) only [go_sem, simprocAttr, chv, chc, str, i64v, e8, str_size]
  refine CodeT.seqR ?_
  simp -implicitDefEqProofs (dsimp := false) only [go_sem, simprocAttr, chv, chc, str, i64v, e8, str_size]
  refine CallT.eq (c97 _ _ _ _ _ ?_ ?_ ?_ (Or.inr rfl)) ?_
  rotate_left
  omega
  omega
  simp -implicitDefEqProofs (dsimp := false) only [go_sem, simprocAttr, chv, chc, str, i64v, e8, str_size]
  refine CodeT.ret ?_
  simp -implicitDefEqProofs (dsimp := false) only [go_sem, simprocAttr, chv, chc, str, i64v, e8, str_size]
  refine And.intro (by omega) ?_
  refine pureEnd rfl ?_
  rotate_left
  iterate 5 (· simp only [List.length_append, e8])
  · rw [List.take_of_length_le (by simp only [List.length_append, e8]; omega)]; rfl
end Go.Proofs.Try

namespace Go.Proofs.Try
set_option linter.unusedSimpArgs false
open Go.PM
set_option maxHeartbeats 4000000

def putB (out : List UInt8) (a : Nat) (x : List UInt8) : List UInt8 := out.take a ++ x ++ out.drop (a + x.length)
theorem putB_length {out x : List UInt8} {a : Nat} (h : a + x.length ≤ out.length) : (putB out a x).length = out.length := by
  simp [putB]; omega
def doneTo (b : List UInt8) (q : List DOp) (far : Nat → Nat) (i : Nat) : List UInt8 :=
  (List.range i).foldl (fun out k => putB out (q.getD k op0).at_.toNat ((q.getD k op0).bytes.take (far k))) b
theorem doneTo_succ (b : List UInt8) (q : List DOp) (far : Nat → Nat) (i : Nat) : doneTo b q far (i + 1) = putB (doneTo b q far i) (q.getD i op0).at_.toNat ((q.getD i op0).bytes.take (far i)) := by
  simp [doneTo, List.range_succ]
/-- The writes lie within the bytes. -/
def within (n : Nat) (q : List DOp) : Prop := ∀ i, i < q.length → 0 ≤ (q.getD i op0).at_ ∧ (q.getD i op0).at_ + (q.getD i op0).bytes.length ≤ n
theorem doneTo_length {b : List UInt8} {q : List DOp} {far : Nat → Nat} (hw : within b.length q) : ∀ i, i ≤ q.length → (doneTo b q far i).length = b.length := by
  intro i
  induction i with
  | zero => intro _; rfl
  | succ i ih =>
    intro hi
    have h1 := hw i (by omega)
    have h2 := ih (by omega)
    rw [doneTo_succ, putB_length, h2]
    rw [h2, List.length_take]
    omega

theorem c59 (b : List UInt8) (q : List DOp) (f : FuncId) (caps : List AV) (hcaps : pureL caps = true) (far : Nat → Nat) (hf : ∀ i, i < q.length → PureT Try.prog f (.val (.int .i64 (i : Nat)) :: caps) (· = .val (.int .i64 (far i : Nat)))) (hfar : ∀ i, i < q.length → far i ≤ (q.getD i op0).bytes.length)
    (hw : within b.length q) (hb : b.length ≤ 4000000) (hq : q.length ≤ 4000000) : PureT Try.prog 59 [.sl false (bs b), .sl false (opvs q), .fn f caps] (· = .sl false (bs (doneTo b q far q.length))) := by
  refine CallT.res ?_
  refine CallT.intro Try.func59 (by decide) rfl ?_
  simp -implicitDefEqProofs (dsimp := false) only [go_sem, simprocAttr, pureL_under _ caps hcaps, enterTm, Try.ntmps59, List.range'_succ, List.range'_zero, List.zip_cons_cons, List.zip_nil_left]
  refine CodeT.seqR ?_
  simp -implicitDefEqProofs (dsimp := false) only [go_sem, simprocAttr, pureL_under _ caps hcaps]
  refine CodeT.seqR ?_
  simp -implicitDefEqProofs (dsimp := false) only [go_sem, simprocAttr, pureL_under _ caps hcaps]
  refine (c55 _ _ ?_).mono ?_
  assumption
  rintro r1 h1 ⟨v1, rfl, rfl⟩
  simp -implicitDefEqProofs (dsimp := false) only [go_sem, simprocAttr, pureL_under _ caps hcaps]
  refine CodeT.seq ?_
  refine CodeT.seqR ?_
  simp -implicitDefEqProofs (dsimp := false) only [go_sem, simprocAttr, pureL_under _ caps hcaps]
  refine CodeT.block ?_
  refine CodeT.whileS (fun i : Nat => [(14, .val (.int .i64 (i : Nat)))]) [13, 12, 7, 2] (fun i : Nat => [.row true _ 1 (bs (doneTo b q far i))]) (fun i : Nat => i ≤ q.length) (fun i : Nat => q.length - i) (0) ?_ rfl ?_ ?_
  omega
  refine ⟨rfl, ?_, ?_, rfl, ?_⟩
  simp -implicitDefEqProofs (dsimp := false) only [go_sem, simprocAttr, pureL_under _ caps hcaps, or_true, true_or, false_or, or_false, implies_true, Int.natCast_add, Int.cast_ofNat_Int, keepsD_nil]
  trivial
  simp -implicitDefEqProofs (dsimp := false) only [go_sem, simprocAttr, pureL_under _ caps hcaps, or_true, true_or, false_or, or_false, implies_true, Int.natCast_add, Int.cast_ofNat_Int, keepsD_nil]
  trivial
  simp -implicitDefEqProofs (dsimp := false) only [go_sem, simprocAttr, pureL_under _ caps hcaps, or_true, true_or, false_or, or_false, implies_true, Int.natCast_add, Int.cast_ofNat_Int, keepsD_nil]
  rintro i hi
  have f1 := hw i
  have f2 := hfar i
  have f3 := doneTo_length (far := far) hw i hi
  simp -implicitDefEqProofs (dsimp := false) only [go_sem, simprocAttr, pureL_under _ caps hcaps]
  refine CodeT.seqR ?_
  simp -implicitDefEqProofs (dsimp := false) only [go_sem, simprocAttr, pureL_under _ caps hcaps]
  refine CodeT.seq (CodeT.cond rfl (fun g2 => ?_) (fun g2 => ?_))
  have d2 := ofDec g2
  refine CodeT.skip ?_
  simp -implicitDefEqProofs (dsimp := false) only [go_sem, simprocAttr, pureL_under _ caps hcaps, g2]
  refine CodeT.seq (CodeT.block ?_)
  refine CodeT.seqR ?_
  simp -implicitDefEqProofs (dsimp := false) only [go_sem, simprocAttr, pureL_under _ caps hcaps, g2]
  refine gate_i ?_ ?_
  omega
  simp -implicitDefEqProofs (dsimp := false) (disch := omega) only [Int.toNat_natCast, i64_in, bs_getD, opvs_getD, is64_getD, bss_getD]
  simp -implicitDefEqProofs (dsimp := false) only [go_sem, simprocAttr, pureL_under _ caps hcaps, g2]
  refine CodeT.drawnL [(0, .free), (1, .free), (4, .free), (6, .free), (7, .free), (8, .free), (2, .read), (5, .read), (9, .read), (3, .upd), (10, .upd)] mixed (by kernel_rfl) ?_
  simp -implicitDefEqProofs (dsimp := false) only [go_sem, simprocAttr, pureL_under _ caps hcaps, g2]
  refine CallF.go (hf _ ?_) (all_pure rfl (by assumption)) ?_
  omega
  simp -implicitDefEqProofs (dsimp := false) only [go_sem, simprocAttr, pureL_under _ caps hcaps, g2]
  refine And.intro (by trivial) ?_
  refine And.intro (by exact uni_bs _) ?_
  refine And.intro (by omega) ?_
  refine And.intro (by omega) ?_
  refine And.intro (by omega) ?_
  refine And.intro (by omega) ?_
  refine And.intro (by omega) ?_
  refine And.intro (by omega) ?_
  refine And.intro (by exact Stable.refl _) ?_
  refine And.intro (by omega) ?_
  refine And.intro (by exact uni_bs _) ?_
  refine And.intro (by omega) ?_
  refine And.intro (by exact Stable.row (Stable.refl _)) ?_
  refine CodeT.region ?_
  simp -implicitDefEqProofs (dsimp := false) only [go_sem, simprocAttr, pureL_under _ caps hcaps, g2]
  simp -implicitDefEqProofs (dsimp := false) (disch := omega) only [i64_in, bs_getD, opvs_getD, is64_getD, bss_getD]
  refine ⟨i + 1, ?_⟩
  refine And.intro ?_ ?_
  omega
  refine And.intro ?_ ?_
  omega
  refine ⟨rfl, ?_, ?_, rfl, ?_⟩
  simp -implicitDefEqProofs (dsimp := false) only [go_sem, simprocAttr, pureL_under _ caps hcaps, g2, or_true, true_or, false_or, or_false, implies_true, Int.natCast_add, Int.cast_ofNat_Int, keepsD_nil]
  trivial
  simp -implicitDefEqProofs (dsimp := false) only [go_sem, simprocAttr, pureL_under _ caps hcaps, g2, or_true, true_or, false_or, or_false, implies_true, Int.natCast_add, Int.cast_ofNat_Int, keepsD_nil]
  rotate_left
  simp -implicitDefEqProofs (dsimp := false) only [go_sem, simprocAttr, pureL_under _ caps hcaps, g2, or_true, true_or, false_or, or_false, implies_true, Int.natCast_add, Int.cast_ofNat_Int, keepsD_nil]
  have d2 := ofDecF g2
  refine CodeT.exit ?_
  simp -implicitDefEqProofs (dsimp := false) only [go_sem, simprocAttr, pureL_under _ caps hcaps, g2]
  refine CodeT.seqR ?_
  simp -implicitDefEqProofs (dsimp := false) only [go_sem, simprocAttr, pureL_under _ caps hcaps, g2]
  refine CodeT.ret ?_
  simp -implicitDefEqProofs (dsimp := false) only [go_sem, simprocAttr, pureL_under _ caps hcaps, g2]
  refine And.intro (by omega) ?_
  refine pureEnd rfl ?_
  rotate_left
  · rw [doneTo_succ, putB, List.length_take]
  · have : i = q.length := by omega
    subst this
    rw [List.take_of_length_le (by omega)]

theorem isDisk_sound {d : Dsk} (h : isDiskB d = true) : sizeB d.bytes.length = true ∧ within d.bytes.length d.queue ∧ ∀ i, i < d.queue.length → (d.queue.getD i op0).flush = false ∧ 0 < (d.queue.getD i op0).bytes.length := by
  unfold isDiskB at h
  simp only [Bool.and_eq_true, Bool.not_eq_true'] at h
  obtain ⟨h1, h2⟩ := h
  have key : ∀ i, i < d.queue.length → badOp d.bytes.length (d.queue.getD i op0) = false := by
    intro i hi
    have := List.any_eq_false.1 h2 (d.queue.getD i op0) (by simp [List.getD_eq_getElem?_getD, hi])
    simpa using this
  refine ⟨h1, fun i hi => ?_, fun i hi => ?_⟩
  · have := key i hi
    generalize d.queue.getD i op0 = o at *
    simp [badOp, fitsB] at this
    obtain ⟨h3, h4⟩ := this
    rw [h3] at h4
    simp at h4
    omega
  · have := key i hi
    generalize d.queue.getD i op0 = o at *
    simp [badOp, fitsB] at this
    obtain ⟨h3, h4⟩ := this
    rw [h3] at h4
    simp at h4
    exact ⟨h3, by have := h4.1; cases hb : o.bytes with
      | nil => simp [hb] at this
      | cons x l => simp⟩

def seenB (d : Dsk) : List UInt8 := doneTo d.bytes d.queue (fun i => (d.queue.getD i op0).bytes.length) d.queue.length
theorem seenB_length {d : Dsk} (hw : within d.bytes.length d.queue) : (seenB d).length = d.bytes.length := doneTo_length hw _ (Nat.le_refl _)

theorem c59s (d : Dsk) (hw : within d.bytes.length d.queue) (hb : d.bytes.length ≤ 4000000) (hq : d.queue.length ≤ 4000000) : PureT Try.prog 59 [.sl false (bs d.bytes), .sl false (opvs d.queue), .fn 102 [dcp d]] (· = .sl false (bs (seenB d))) :=
  c59 _ _ _ _ rfl (fun i => (d.queue.getD i op0).bytes.length) (fun i hi => c102 d i hi) (fun i _ => Nat.le_refl _) hw hb hq
theorem c58 (d : Dsk) (hw : within d.bytes.length d.queue) (hb0 : 0 < d.bytes.length) (hb : d.bytes.length ≤ 4000000) (hq : d.queue.length ≤ 4000000) : PureT Try.prog 58 [dkv d] (· = kpv d (seenB d) (halfAt (seenB d) : Nat)) := by
  refine CallT.res ?_
  have hl := seenB_length hw
  refine CallT.intro Try.func58 (by decide) rfl ?_
  simp -implicitDefEqProofs (dsimp := false) only [go_sem, simprocAttr, enterTm, Try.ntmps58, List.range'_succ, List.range'_zero, List.zip_cons_cons, List.zip_nil_left]
  refine CodeT.seqR ?_
  simp -implicitDefEqProofs (dsimp := false) only [go_sem, simprocAttr]
  refine CodeT.freeze 1 ?_
  simp -implicitDefEqProofs (dsimp := false) only [go_sem, simprocAttr]
  refine CodeT.seqR ?_
  simp -implicitDefEqProofs (dsimp := false) only [go_sem, simprocAttr]
  refine PureT.eq (c59s d hw hb hq) rfl ?_
  simp -implicitDefEqProofs (dsimp := false) only [go_sem, simprocAttr]
  refine CodeT.seqD [(1, .free), (2, .free), (3, .free), (0, .read), (4, .free), (5, .upd), (6, .free)] mixed (by kernel_rfl) ?_
  simp -implicitDefEqProofs (dsimp := false) only [go_sem, simprocAttr]
  refine CallF.go (c103 _ ?_ ?_) rfl ?_
  omega
  omega
  simp -implicitDefEqProofs (dsimp := false) only [go_sem, simprocAttr]
  refine And.intro (by exact Stable.append [_] [_]) ?_
  refine CodeT.ret ?_
  simp -implicitDefEqProofs (dsimp := false) only [go_sem, simprocAttr]
  refine pureEnd rfl ?_
  rotate_left
  rfl
/-- A keeper as it should be. -/
structure KOK (d : Dsk) (seen : List UInt8) (half : Nat) : Prop where
  b : d.bytes.length ≤ 4000000
  s : seen.length = d.bytes.length
  o : d.bytes.length % 2 = 1
  z : 64 ≤ d.bytes.length / 2
  h : half = 1 ∨ half = 1 + d.bytes.length / 2
theorem KOK.top {d : Dsk} {seen : List UInt8} {half : Nat} (k : KOK d seen half) : half + d.bytes.length / 2 ≤ d.bytes.length := by
  have := k.h; have := k.o; have := k.z
  omega
theorem usedB_length {d : Dsk} {seen : List UInt8} {half : Nat} (k : KOK d seen half) : (usedB d seen half).length = d.bytes.length / 2 := by
  have := k.top; have := k.s
  simp [usedB]; omega
def writtenB (d : Dsk) (seen : List UInt8) (half : Nat) : Bool := decide (((parseR (usedB d seen half)).length : Int) > 0)
theorem c67 (d : Dsk) (seen : List UInt8) (half : Nat) (k : KOK d seen half) : PureT Try.prog 67 [kpv d seen half] (· = .val (.bool (writtenB d seen half))) := by
  have h1 := k.top; have h2 := k.s; have h3 := k.b; have h4 := usedB_length k
  refine CallT.intro Try.func67 (by decide) rfl ?_
  simp -implicitDefEqProofs (dsimp := false) only [go_sem, simprocAttr, enterTm, Try.ntmps67, List.range'_succ, List.range'_zero, List.zip_cons_cons, List.zip_nil_left]
  refine CodeT.seqR ?_
  simp -implicitDefEqProofs (dsimp := false) only [go_sem, simprocAttr]
  refine CodeT.seqR ?_
  simp -implicitDefEqProofs (dsimp := false) only [go_sem, simprocAttr]
  refine PureT.eq (c62 _ _ _ ?_ ?_ ?_) rfl ?_
  assumption
  omega
  omega
  simp -implicitDefEqProofs (dsimp := false) only [go_sem, simprocAttr]
  refine PureT.eq (c14 _ ?_) rfl ?_
  omega
  simp -implicitDefEqProofs (dsimp := false) only [go_sem, simprocAttr]
  refine CodeT.seqR ?_
  simp -implicitDefEqProofs (dsimp := false) only [go_sem, simprocAttr]
  refine CodeT.ret ?_
  simp -implicitDefEqProofs (dsimp := false) only [go_sem, simprocAttr]
  refine pureEnd rfl ?_
  simp only [writtenB, Bool.true_and, Bool.false_and, Bool.and_true, Bool.and_false, Bool.true_or, Bool.false_or, Bool.or_true, Bool.or_false, Bool.not_true, Bool.not_false, Bool.false_eq_true, ↓reduceIte]
end Go.Proofs.Try

namespace Go.Proofs.Try
set_option linter.unusedSimpArgs false
set_option linter.unusedVariables false
open Go.PM
set_option maxHeartbeats 4000000

theorem recs_end_le : ∀ (f : Nat) (l : List UInt8) (a : Nat) (p : List UInt8 × Nat), p ∈ recs f l a → p.2 ≤ a + l.length := by
  intro f
  induction f with
  | zero => intro l a p h; simp [recs] at h
  | succ f ih =>
    intro l a p h
    unfold recs at h
    split at h
    · simp at h
    · rename_i q m hs
      obtain ⟨h1, h2, _⟩ := scan1_pos hs
      rcases List.mem_cons.1 h with rfl | h
      · simp; omega
      · have := ih _ _ _ h
        rw [List.length_drop] at this
        omega
theorem parseE_le (b : List UInt8) : parseE b ≤ b.length := by
  unfold parseE endAt
  cases h : (parseAll b).getLast? with
  | none => simp
  | some p =>
    have := recs_end_le _ _ _ p (List.mem_of_getLast? h)
    simp; omega
def oldB (d : Dsk) (half : Nat) : List UInt8 := (d.bytes.drop half).take (d.bytes.length / 2)
theorem oldB_length {d : Dsk} {seen : List UInt8} {half : Nat} (k : KOK d seen half) : (oldB d half).length = d.bytes.length / 2 := by
  have := k.top
  simp [oldB]; omega
def cleanB (d : Dsk) (seen : List UInt8) (half : Nat) : Bool :=
  if (!zerosB ((usedB d seen half).drop (parseE (usedB d seen half)))) = true then false
  else if (((halfAt d.bytes : Nat) : Int) != ((half : Nat) : Int)) = true then false
  else zerosB ((oldB d half).drop (parseE (oldB d half)))
theorem c104s (d : Dsk) (seen : List UInt8) (half : Nat) (hd : d.bytes.length ≤ 4000000) (hh : half + d.bytes.length / 2 ≤ d.bytes.length) :
    PureT Try.prog 104 [kpv d seen (half : Nat), .sl false (bs d.bytes), .val (.int .i64 (half : Nat))] (· = .sl false (bs (oldB d half))) := c104 d seen half d.bytes half hd hd hh
theorem c68 (d : Dsk) (seen : List UInt8) (half : Nat) (k : KOK d seen half) : PureT Try.prog 68 [kpv d seen half] (· = .val (.bool (cleanB d seen half))) := by
  have h1 := k.top; have h2 := k.s; have h3 := k.b; have h4 := usedB_length k
  have h5 := parseE_le (usedB d seen half); have h6 := parseE_le (oldB d half); have h7 := oldB_length k; have h8 := k.z
  unfold kpv
  refine CallT.intro Try.func68 (by decide) rfl ?_
  simp -implicitDefEqProofs (dsimp := false) only [go_sem, simprocAttr, enterTm, Try.ntmps68, List.range'_succ, List.range'_zero, List.zip_cons_cons, List.zip_nil_left]
  refine CodeT.seqR ?_
  simp -implicitDefEqProofs (dsimp := false) only [go_sem, simprocAttr]
  refine CodeT.seqR ?_
  simp -implicitDefEqProofs (dsimp := false) only [go_sem, simprocAttr]
  refine PureT.eq (c62 _ _ _ ?_ ?_ ?_) rfl ?_
  assumption
  omega
  omega
  simp -implicitDefEqProofs (dsimp := false) only [go_sem, simprocAttr]
  refine PureT.eq (c14 _ ?_) rfl ?_
  omega
  simp -implicitDefEqProofs (dsimp := false) only [go_sem, simprocAttr]
  refine CodeT.seq ?_
  refine CodeT.seqR ?_
  simp -implicitDefEqProofs (dsimp := false) only [go_sem, simprocAttr]
  refine PureT.eq (c62 _ _ _ ?_ ?_ ?_) rfl ?_
  assumption
  omega
  omega
  simp -implicitDefEqProofs (dsimp := false) only [go_sem, simprocAttr]
  refine And.intro (by exact uni_bs _) ?_
  refine And.intro (by omega) ?_
  refine And.intro (by omega) ?_
  refine And.intro (by omega) ?_
  refine PureT.eq (c63 _ ?_) rfl ?_
  (simp [cleanB, *]; omega)
  simp -implicitDefEqProofs (dsimp := false) only [go_sem, simprocAttr]
  refine CodeT.cond rfl (fun g13 => ?_) (fun g13 => ?_)
  refine CodeT.seqR ?_
  simp -implicitDefEqProofs (dsimp := false) only [go_sem, simprocAttr, g13]
  refine CodeT.ret ?_
  simp -implicitDefEqProofs (dsimp := false) only [go_sem, simprocAttr, g13]
  refine pureEnd rfl ?_
  simp only [cleanB, g13, Bool.true_and, Bool.false_and, Bool.and_true, Bool.and_false, Bool.true_or, Bool.false_or, Bool.or_true, Bool.or_false, Bool.not_true, Bool.not_false, Bool.false_eq_true, ↓reduceIte]
  refine CodeT.skip ?_
  simp -implicitDefEqProofs (dsimp := false) only [go_sem, simprocAttr, g13]
  refine CodeT.seq ?_
  refine CodeT.seqD [(0, .free), (1, .free), (2, .free), (3, .free), (6, .free), (7, .free), (8, .free), (4, .read), (5, .free), (9, .read), (10, .free)] mixed (by kernel_rfl) ?_
  simp -implicitDefEqProofs (dsimp := false) only [go_sem, simprocAttr, g13]
  refine CallF.go (c103 _ ?_ ?_) rfl ?_
  omega
  assumption
  simp -implicitDefEqProofs (dsimp := false) only [go_sem, simprocAttr, g13]
  refine CodeT.cond rfl (fun g14 => ?_) (fun g14 => ?_)
  have d14 := ofBne g14
  refine CodeT.seqR ?_
  simp -implicitDefEqProofs (dsimp := false) only [go_sem, simprocAttr, g13, g14]
  refine CodeT.ret ?_
  simp -implicitDefEqProofs (dsimp := false) only [go_sem, simprocAttr, g13, g14]
  refine pureEnd rfl ?_
  simp only [cleanB, g13, g14, Bool.true_and, Bool.false_and, Bool.and_true, Bool.and_false, Bool.true_or, Bool.false_or, Bool.or_true, Bool.or_false, Bool.not_true, Bool.not_false, Bool.false_eq_true, ↓reduceIte]
  have d14 := ofBneF g14
  refine CodeT.skip ?_
  simp -implicitDefEqProofs (dsimp := false) only [go_sem, simprocAttr, g13, g14]
  refine CodeT.seqD [(0, .free), (1, .free), (2, .free), (3, .free), (4, .free), (6, .free), (7, .free), (8, .free), (5, .read), (9, .read), (10, .free), (11, .free)] mixed (by kernel_rfl) ?_
  simp -implicitDefEqProofs (dsimp := false) only [go_sem, simprocAttr, g13, g14]
  refine CallF.go (c104s _ _ _ ?_ ?_) rfl ?_
  assumption
  assumption
  simp -implicitDefEqProofs (dsimp := false) only [go_sem, simprocAttr, g13, g14]
  refine CodeT.seqR ?_
  simp -implicitDefEqProofs (dsimp := false) only [go_sem, simprocAttr, g13, g14]
  refine PureT.eq (c14 _ ?_) rfl ?_
  omega
  simp -implicitDefEqProofs (dsimp := false) only [go_sem, simprocAttr, g13, g14]
  refine CodeT.seqR ?_
  simp -implicitDefEqProofs (dsimp := false) only [go_sem, simprocAttr, g13, g14]
  refine And.intro (by exact uni_bs _) ?_
  refine And.intro (by omega) ?_
  refine And.intro (by omega) ?_
  refine And.intro (by omega) ?_
  refine PureT.eq (c63 _ ?_) rfl ?_
  (simp [cleanB, *]; omega)
  simp -implicitDefEqProofs (dsimp := false) only [go_sem, simprocAttr, g13, g14]
  refine CodeT.ret ?_
  simp -implicitDefEqProofs (dsimp := false) only [go_sem, simprocAttr, g13, g14]
  refine pureEnd rfl ?_
  simp only [cleanB, g13, g14, Bool.true_and, Bool.false_and, Bool.and_true, Bool.and_false, Bool.true_or, Bool.false_or, Bool.or_true, Bool.or_false, Bool.not_true, Bool.not_false, Bool.false_eq_true, ↓reduceIte]

theorem isDisk_ok {d : Dsk} (h : isDiskB d = true) : KOK d (seenB d) (halfAt (seenB d)) ∧ within d.bytes.length d.queue := by
  obtain ⟨h1, h2, h3⟩ := isDisk_sound h
  refine ⟨?_, h2⟩
  unfold sizeB at h1
  simp only [Bool.and_eq_true, decide_eq_true_eq] at h1
  have hs := seenB_length h2
  refine ⟨by omega, hs, h1.1.1, h1.1.2, ?_⟩
  unfold halfAt
  split
  · exact .inl rfl
  · rw [hs]; exact .inr rfl
def kOf (d : Dsk) : AV := kpv d (seenB d) (halfAt (seenB d) : Nat)
def wrB (d : Dsk) : Bool := writtenB d (seenB d) (halfAt (seenB d))
def clB (d : Dsk) : Bool := cleanB d (seenB d) (halfAt (seenB d))
def openedV (d : Dsk) (must : Bool) : AV :=
  if (!isDiskB d) = true then .tup [.val (.pointer none), .val (.int .i64 281)]
  else if (must && !wrB d) = true then .tup [.val (.pointer none), .val (.int .i64 280)]
  else .tup [kOf d, .val (.int .i64 0)]
/-- Few enough. -/
structure Few (d : Dsk) : Prop where
  b : d.bytes.length ≤ 4000000
  q : d.queue.length ≤ 4000000
theorem c61 (d : Dsk) (must : Bool) (hf : Few d) : PureT Try.prog 61 [dkv d, .val (.bool must)] (· = openedV d must) := by
  have h1 := hf.b; have h2 := hf.q
  cases hi : isDiskB d
  · refine CallT.intro Try.func61 (by decide) rfl ?_
    simp -implicitDefEqProofs (dsimp := false) only [go_sem, simprocAttr, hi, enterTm, Try.ntmps61, List.range'_succ, List.range'_zero, List.zip_cons_cons, List.zip_nil_left]
    refine CodeT.seqR ?_
    simp -implicitDefEqProofs (dsimp := false) only [go_sem, simprocAttr, hi]
    refine CodeT.seq ?_
    refine CodeT.seqR ?_
    simp -implicitDefEqProofs (dsimp := false) only [go_sem, simprocAttr, hi]
    refine PureT.eq (c51 _ ?_ ?_) rfl ?_
    assumption
    assumption
    simp -implicitDefEqProofs (dsimp := false) only [go_sem, simprocAttr, hi]
    refine CodeT.condT rfl ?_
    refine CodeT.seqR ?_
    simp -implicitDefEqProofs (dsimp := false) only [go_sem, simprocAttr, hi]
    refine CodeT.ret ?_
    simp -implicitDefEqProofs (dsimp := false) only [go_sem, simprocAttr, hi]
    refine pureEnd rfl ?_
    simp only [openedV, hi, Bool.true_and, Bool.false_and, Bool.and_true, Bool.and_false, Bool.true_or, Bool.false_or, Bool.or_true, Bool.or_false, Bool.not_true, Bool.not_false, Bool.false_eq_true, ↓reduceIte]
  obtain ⟨k, hw⟩ := isDisk_ok hi
  have h3 := k.z
  refine CallT.intro Try.func61 (by decide) rfl ?_
  simp -implicitDefEqProofs (dsimp := false) only [go_sem, simprocAttr, hi, enterTm, Try.ntmps61, List.range'_succ, List.range'_zero, List.zip_cons_cons, List.zip_nil_left]
  refine CodeT.seqR ?_
  simp -implicitDefEqProofs (dsimp := false) only [go_sem, simprocAttr, hi]
  refine CodeT.seq ?_
  refine CodeT.seqR ?_
  simp -implicitDefEqProofs (dsimp := false) only [go_sem, simprocAttr, hi]
  refine PureT.eq (c51 _ ?_ ?_) rfl ?_
  assumption
  assumption
  simp -implicitDefEqProofs (dsimp := false) only [go_sem, simprocAttr, hi]
  refine CodeT.condF rfl ?_
  refine CodeT.skip ?_
  simp -implicitDefEqProofs (dsimp := false) only [go_sem, simprocAttr, hi]
  refine CodeT.seqR ?_
  simp -implicitDefEqProofs (dsimp := false) only [go_sem, simprocAttr, hi]
  refine PureT.eq (c58 _ ?_ ?_ ?_ ?_) rfl ?_
  assumption
  omega
  assumption
  assumption
  simp -implicitDefEqProofs (dsimp := false) only [go_sem, simprocAttr, hi]
  refine CodeT.seq ?_
  refine CodeT.seqR ?_
  simp -implicitDefEqProofs (dsimp := false) only [go_sem, simprocAttr, hi]
  refine gif_i (fun g6 => ?_) (fun g6 => ?_)
  simp -implicitDefEqProofs (dsimp := false) only [go_sem, simprocAttr, hi, g6]
  refine PureT.eq (c67 _ _ _ ?_) rfl ?_
  assumption
  simp -implicitDefEqProofs (dsimp := false) only [go_sem, simprocAttr, hi, g6]
  refine CodeT.cond rfl (fun g8 => ?_) (fun g8 => ?_)
  refine CodeT.seqR ?_
  simp -implicitDefEqProofs (dsimp := false) only [go_sem, simprocAttr, hi, g6, g8]
  refine CodeT.ret ?_
  simp -implicitDefEqProofs (dsimp := false) only [go_sem, simprocAttr, hi, g6, g8]
  refine pureEnd rfl ?_
  simp only [openedV, hi, wrB, kOf, g6, g8, Bool.true_and, Bool.false_and, Bool.and_true, Bool.and_false, Bool.true_or, Bool.false_or, Bool.or_true, Bool.or_false, Bool.not_true, Bool.not_false, Bool.false_eq_true, ↓reduceIte]
  refine CodeT.skip ?_
  simp -implicitDefEqProofs (dsimp := false) only [go_sem, simprocAttr, hi, g6, g8]
  refine CodeT.seqR ?_
  simp -implicitDefEqProofs (dsimp := false) only [go_sem, simprocAttr, hi, g6, g8]
  refine CodeT.ret ?_
  simp -implicitDefEqProofs (dsimp := false) only [go_sem, simprocAttr, hi, g6, g8]
  refine pureEnd rfl ?_
  simp only [openedV, hi, wrB, kOf, g6, g8, Bool.true_and, Bool.false_and, Bool.and_true, Bool.and_false, Bool.true_or, Bool.false_or, Bool.or_true, Bool.or_false, Bool.not_true, Bool.not_false, Bool.false_eq_true, ↓reduceIte]
  simp -implicitDefEqProofs (dsimp := false) only [go_sem, simprocAttr, hi, g6]
  refine CodeT.condF rfl ?_
  refine CodeT.skip ?_
  simp -implicitDefEqProofs (dsimp := false) only [go_sem, simprocAttr, hi, g6]
  refine CodeT.seqR ?_
  simp -implicitDefEqProofs (dsimp := false) only [go_sem, simprocAttr, hi, g6]
  refine CodeT.ret ?_
  simp -implicitDefEqProofs (dsimp := false) only [go_sem, simprocAttr, hi, g6]
  refine pureEnd rfl ?_
  simp only [openedV, hi, wrB, kOf, g6, Bool.true_and, Bool.false_and, Bool.and_true, Bool.and_false, Bool.true_or, Bool.false_or, Bool.or_true, Bool.or_false, Bool.not_true, Bool.not_false, Bool.false_eq_true, ↓reduceIte]
end Go.Proofs.Try

namespace Go.Proofs.Try
set_option linter.unusedSimpArgs false
set_option linter.unusedVariables false
open Go.PM
set_option maxHeartbeats 4000000

abbrev er (n : Int) : AV := .val (.int .i64 n)
/-- The half in use, as it is seen. -/
def useB (d : Dsk) : List UInt8 := usedB d (seenB d) (halfAt (seenB d))
def endB (d : Dsk) : Nat := parseE (useB d)
theorem c62s (d : Dsk) (hi : isDiskB d = true) : PureT Try.prog 62 [kOf d] (· = .sl false (bs (useB d))) := by
  obtain ⟨k, hw⟩ := isDisk_ok hi
  have h1 := k.top; have h2 := k.s; have h3 := k.b
  exact c62 _ _ _ (by omega) (by omega) (by omega)
theorem useB_length {d : Dsk} (hi : isDiskB d = true) : (useB d).length = d.bytes.length / 2 := usedB_length (isDisk_ok hi).1
theorem endB_le {d : Dsk} (hi : isDiskB d = true) : endB d ≤ d.bytes.length / 2 := by rw [← useB_length hi]; exact parseE_le _
theorem c68s (d : Dsk) (hi : isDiskB d = true) : PureT Try.prog 68 [kOf d] (· = .val (.bool (clB d))) := c68 _ _ _ (isDisk_ok hi).1
theorem c67s (d : Dsk) (hi : isDiskB d = true) : PureT Try.prog 67 [kOf d] (· = .val (.bool (wrB d))) := c67 _ _ _ (isDisk_ok hi).1
theorem c14s (d : Dsk) (hi : isDiskB d = true) : PureT Try.prog 14 [.sl false (bs (useB d))] (· = .tup [.sl false (bss (parseR (useB d))), .val (.int .i64 (endB d : Nat))]) := by
  have := useB_length hi; have := (isDisk_ok hi).1.b
  exact c14 _ (by omega)
theorem isDisk_small {d : Dsk} (hi : isDiskB d = true) : d.bytes.length ≤ 2097153 := by
  have h := (isDisk_sound hi).1
  unfold sizeB at h
  simp only [Bool.and_eq_true, decide_eq_true_eq] at h
  omega
theorem wrB_eq (d : Dsk) : wrB d = decide (((parseR (useB d)).length : Int) > 0) := rfl

def checkV (d : Dsk) : AV :=
  if (!isDiskB d) = true then .tup [.val (.bool false), .val (.bool false), er 281]
  else .tup [.val (.bool (wrB d)), .val (.bool (wrB d && clB d)), er 0]
theorem c22 (d : Dsk) (hf : Few d) : PureT Try.prog 22 [dkv d] (· = checkV d) := by
  cases hi : isDiskB d
  · refine CallT.intro Try.func22 (by decide) rfl ?_
    simp -implicitDefEqProofs (dsimp := false) only [go_sem, simprocAttr, hi, openedV, enterTm, Try.ntmps22, List.range'_succ, List.range'_zero, List.zip_cons_cons, List.zip_nil_left]
    refine CodeT.seqR ?_
    simp -implicitDefEqProofs (dsimp := false) only [go_sem, simprocAttr, hi, openedV]
    refine CodeT.seqR ?_
    simp -implicitDefEqProofs (dsimp := false) only [go_sem, simprocAttr, hi, openedV]
    refine PureT.eq (c61 _ _ ?_) rfl ?_
    assumption
    simp -implicitDefEqProofs (dsimp := false) only [go_sem, simprocAttr, hi, openedV]
    refine CodeT.seq ?_
    refine CodeT.seqR ?_
    simp -implicitDefEqProofs (dsimp := false) only [go_sem, simprocAttr, hi, openedV]
    refine CodeT.condT rfl ?_
    refine CodeT.seqR ?_
    simp -implicitDefEqProofs (dsimp := false) only [go_sem, simprocAttr, hi, openedV]
    refine CodeT.ret ?_
    simp -implicitDefEqProofs (dsimp := false) only [go_sem, simprocAttr, hi, openedV]
    refine pureEnd rfl ?_
    simp only [checkV, hi, er, Bool.true_and, Bool.false_and, Bool.and_true, Bool.and_false, Bool.true_or, Bool.false_or, Bool.or_true, Bool.or_false, Bool.not_true, Bool.not_false, Bool.false_eq_true, ↓reduceIte]
  refine CallT.intro Try.func22 (by decide) rfl ?_
  simp -implicitDefEqProofs (dsimp := false) only [go_sem, simprocAttr, hi, openedV, enterTm, Try.ntmps22, List.range'_succ, List.range'_zero, List.zip_cons_cons, List.zip_nil_left]
  refine CodeT.seqR ?_
  simp -implicitDefEqProofs (dsimp := false) only [go_sem, simprocAttr, hi, openedV]
  refine CodeT.seqR ?_
  simp -implicitDefEqProofs (dsimp := false) only [go_sem, simprocAttr, hi, openedV]
  refine PureT.eq (c61 _ _ ?_) rfl ?_
  assumption
  simp -implicitDefEqProofs (dsimp := false) only [go_sem, simprocAttr, hi, openedV]
  refine CodeT.seq ?_
  refine CodeT.seqR ?_
  simp -implicitDefEqProofs (dsimp := false) only [go_sem, simprocAttr, hi, openedV]
  refine CodeT.condF rfl ?_
  refine CodeT.skip ?_
  simp -implicitDefEqProofs (dsimp := false) only [go_sem, simprocAttr, hi, openedV]
  refine CodeT.seqR ?_
  simp -implicitDefEqProofs (dsimp := false) only [go_sem, simprocAttr, hi, openedV]
  refine PureT.eq (c67s _ hi) rfl ?_
  simp -implicitDefEqProofs (dsimp := false) only [go_sem, simprocAttr, hi, openedV]
  refine PureT.eq (c67s _ hi) rfl ?_
  simp -implicitDefEqProofs (dsimp := false) only [go_sem, simprocAttr, hi, openedV]
  refine gif_i (fun g4 => ?_) (fun g4 => ?_)
  simp -implicitDefEqProofs (dsimp := false) only [go_sem, simprocAttr, hi, openedV, g4]
  refine PureT.eq (c68s _ hi) rfl ?_
  simp -implicitDefEqProofs (dsimp := false) only [go_sem, simprocAttr, hi, openedV, g4]
  refine CodeT.ret ?_
  simp -implicitDefEqProofs (dsimp := false) only [go_sem, simprocAttr, hi, openedV, g4]
  refine pureEnd rfl ?_
  simp only [checkV, hi, er, g4, Bool.true_and, Bool.false_and, Bool.and_true, Bool.and_false, Bool.true_or, Bool.false_or, Bool.or_true, Bool.or_false, Bool.not_true, Bool.not_false, Bool.false_eq_true, ↓reduceIte]
  simp -implicitDefEqProofs (dsimp := false) only [go_sem, simprocAttr, hi, openedV, g4]
  refine CodeT.ret ?_
  simp -implicitDefEqProofs (dsimp := false) only [go_sem, simprocAttr, hi, openedV, g4]
  refine pureEnd rfl ?_
  simp only [checkV, hi, er, g4, Bool.true_and, Bool.false_and, Bool.and_true, Bool.and_false, Bool.true_or, Bool.false_or, Bool.or_true, Bool.or_false, Bool.not_true, Bool.not_false, Bool.false_eq_true, ↓reduceIte]
def appendingV (d : Dsk) : AV :=
  if (!isDiskB d) = true then .tup [.val (.pointer none), er 0, er 281]
  else if (!wrB d) = true then .tup [.val (.pointer none), er 0, er 280]
  else if (!clB d) = true then .tup [.val (.pointer none), er 0, er 280]
  else .tup [kOf d, .val (.int .i64 (endB d : Nat)), er 0]
theorem c69 (d : Dsk) (hf : Few d) : PureT Try.prog 69 [dkv d] (· = appendingV d) := by
  cases hi : isDiskB d
  · refine CallT.intro Try.func69 (by decide) rfl ?_
    simp -implicitDefEqProofs (dsimp := false) only [go_sem, simprocAttr, hi, openedV, enterTm, Try.ntmps69, List.range'_succ, List.range'_zero, List.zip_cons_cons, List.zip_nil_left]
    refine CodeT.seqR ?_
    simp -implicitDefEqProofs (dsimp := false) only [go_sem, simprocAttr, hi, openedV]
    refine CodeT.seqR ?_
    simp -implicitDefEqProofs (dsimp := false) only [go_sem, simprocAttr, hi, openedV]
    refine PureT.eq (c61 _ _ ?_) rfl ?_
    assumption
    simp -implicitDefEqProofs (dsimp := false) only [go_sem, simprocAttr, hi, openedV]
    refine CodeT.seq ?_
    refine CodeT.seqR ?_
    simp -implicitDefEqProofs (dsimp := false) only [go_sem, simprocAttr, hi, openedV]
    refine CodeT.condT rfl ?_
    refine CodeT.seqR ?_
    simp -implicitDefEqProofs (dsimp := false) only [go_sem, simprocAttr, hi, openedV]
    refine CodeT.ret ?_
    simp -implicitDefEqProofs (dsimp := false) only [go_sem, simprocAttr, hi, openedV]
    refine pureEnd rfl ?_
    simp only [appendingV, hi, er, Bool.true_and, Bool.false_and, Bool.and_true, Bool.and_false, Bool.true_or, Bool.false_or, Bool.or_true, Bool.or_false, Bool.not_true, Bool.not_false, Bool.false_eq_true, ↓reduceIte]
  cases hw : wrB d
  · refine CallT.intro Try.func69 (by decide) rfl ?_
    simp -implicitDefEqProofs (dsimp := false) only [go_sem, simprocAttr, hi, hw, openedV, enterTm, Try.ntmps69, List.range'_succ, List.range'_zero, List.zip_cons_cons, List.zip_nil_left]
    refine CodeT.seqR ?_
    simp -implicitDefEqProofs (dsimp := false) only [go_sem, simprocAttr, hi, hw, openedV]
    refine CodeT.seqR ?_
    simp -implicitDefEqProofs (dsimp := false) only [go_sem, simprocAttr, hi, hw, openedV]
    refine PureT.eq (c61 _ _ ?_) rfl ?_
    assumption
    simp -implicitDefEqProofs (dsimp := false) only [go_sem, simprocAttr, hi, hw, openedV]
    refine CodeT.seq ?_
    refine CodeT.seqR ?_
    simp -implicitDefEqProofs (dsimp := false) only [go_sem, simprocAttr, hi, hw, openedV]
    refine CodeT.condT rfl ?_
    refine CodeT.seqR ?_
    simp -implicitDefEqProofs (dsimp := false) only [go_sem, simprocAttr, hi, hw, openedV]
    refine CodeT.ret ?_
    simp -implicitDefEqProofs (dsimp := false) only [go_sem, simprocAttr, hi, hw, openedV]
    refine pureEnd rfl ?_
    simp only [appendingV, hi, er, hw, Bool.true_and, Bool.false_and, Bool.and_true, Bool.and_false, Bool.true_or, Bool.false_or, Bool.or_true, Bool.or_false, Bool.not_true, Bool.not_false, Bool.false_eq_true, ↓reduceIte]
  refine CallT.intro Try.func69 (by decide) rfl ?_
  simp -implicitDefEqProofs (dsimp := false) only [go_sem, simprocAttr, hi, hw, openedV, enterTm, Try.ntmps69, List.range'_succ, List.range'_zero, List.zip_cons_cons, List.zip_nil_left]
  refine CodeT.seqR ?_
  simp -implicitDefEqProofs (dsimp := false) only [go_sem, simprocAttr, hi, hw, openedV]
  refine CodeT.seqR ?_
  simp -implicitDefEqProofs (dsimp := false) only [go_sem, simprocAttr, hi, hw, openedV]
  refine PureT.eq (c61 _ _ ?_) rfl ?_
  assumption
  simp -implicitDefEqProofs (dsimp := false) only [go_sem, simprocAttr, hi, hw, openedV]
  refine CodeT.seq ?_
  refine CodeT.seqR ?_
  simp -implicitDefEqProofs (dsimp := false) only [go_sem, simprocAttr, hi, hw, openedV]
  refine CodeT.condF rfl ?_
  refine CodeT.skip ?_
  simp -implicitDefEqProofs (dsimp := false) only [go_sem, simprocAttr, hi, hw, openedV]
  refine CodeT.seq ?_
  refine CodeT.seqR ?_
  simp -implicitDefEqProofs (dsimp := false) only [go_sem, simprocAttr, hi, hw, openedV]
  refine PureT.eq (c68s _ hi) rfl ?_
  simp -implicitDefEqProofs (dsimp := false) only [go_sem, simprocAttr, hi, hw, openedV]
  refine CodeT.cond rfl (fun g3 => ?_) (fun g3 => ?_)
  refine CodeT.seqR ?_
  simp -implicitDefEqProofs (dsimp := false) only [go_sem, simprocAttr, hi, hw, openedV, g3]
  refine CodeT.ret ?_
  simp -implicitDefEqProofs (dsimp := false) only [go_sem, simprocAttr, hi, hw, openedV, g3]
  refine pureEnd rfl ?_
  simp only [appendingV, hi, hw, er, g3, Bool.true_and, Bool.false_and, Bool.and_true, Bool.and_false, Bool.true_or, Bool.false_or, Bool.or_true, Bool.or_false, Bool.not_true, Bool.not_false, Bool.false_eq_true, ↓reduceIte]
  refine CodeT.skip ?_
  simp -implicitDefEqProofs (dsimp := false) only [go_sem, simprocAttr, hi, hw, openedV, g3]
  refine CodeT.seqR ?_
  simp -implicitDefEqProofs (dsimp := false) only [go_sem, simprocAttr, hi, hw, openedV, g3]
  refine PureT.eq (c62s _ hi) rfl ?_
  simp -implicitDefEqProofs (dsimp := false) only [go_sem, simprocAttr, hi, hw, openedV, g3]
  refine PureT.eq (c14s _ hi) rfl ?_
  simp -implicitDefEqProofs (dsimp := false) only [go_sem, simprocAttr, hi, hw, openedV, g3]
  refine CodeT.seqR ?_
  simp -implicitDefEqProofs (dsimp := false) only [go_sem, simprocAttr, hi, hw, openedV, g3]
  refine CodeT.ret ?_
  simp -implicitDefEqProofs (dsimp := false) only [go_sem, simprocAttr, hi, hw, openedV, g3]
  refine pureEnd rfl ?_
  simp only [appendingV, hi, hw, er, g3, Bool.true_and, Bool.false_and, Bool.and_true, Bool.and_false, Bool.true_or, Bool.false_or, Bool.or_true, Bool.or_false, Bool.not_true, Bool.not_false, Bool.false_eq_true, ↓reduceIte]
def readV (d : Dsk) : AV :=
  if (!isDiskB d) = true then .tup [.sl false [], .sl false [], er 281]
  else if (!wrB d) = true then .tup [.sl false [], .sl false [], er 280]
  else .tup [.sl false (bs ((parseR (useB d)).getD 0 [])), .sl false (bss ((parseR (useB d)).drop 1)), er 0]
theorem c21 (d : Dsk) (hf : Few d) : PureT Try.prog 21 [dkv d] (· = readV d) := by
  refine CallT.laxR ?_
  cases hi : isDiskB d
  · refine CallT.intro Try.func21 (by decide) rfl ?_
    simp -implicitDefEqProofs (dsimp := false) only [go_sem, simprocAttr, hi, openedV, enterTm, Try.ntmps21, List.range'_succ, List.range'_zero, List.zip_cons_cons, List.zip_nil_left]
    refine CodeT.seqR ?_
    simp -implicitDefEqProofs (dsimp := false) only [go_sem, simprocAttr, hi, openedV]
    refine CodeT.seqR ?_
    simp -implicitDefEqProofs (dsimp := false) only [go_sem, simprocAttr, hi, openedV]
    refine PureT.eq (c61 _ _ ?_) rfl ?_
    assumption
    simp -implicitDefEqProofs (dsimp := false) only [go_sem, simprocAttr, hi, openedV]
    refine CodeT.seq ?_
    refine CodeT.seqR ?_
    simp -implicitDefEqProofs (dsimp := false) only [go_sem, simprocAttr, hi, openedV]
    refine CodeT.condT rfl ?_
    refine CodeT.seqR ?_
    simp -implicitDefEqProofs (dsimp := false) only [go_sem, simprocAttr, hi, openedV]
    refine CodeT.ret ?_
    simp -implicitDefEqProofs (dsimp := false) only [go_sem, simprocAttr, hi, openedV]
    refine pureEnd rfl ?_
    simp only [readV, hi, er, Bool.true_and, Bool.false_and, Bool.and_true, Bool.and_false, Bool.true_or, Bool.false_or, Bool.or_true, Bool.or_false, Bool.not_true, Bool.not_false, Bool.false_eq_true, ↓reduceIte]
  cases hw : wrB d
  · refine CallT.intro Try.func21 (by decide) rfl ?_
    simp -implicitDefEqProofs (dsimp := false) only [go_sem, simprocAttr, hi, hw, openedV, enterTm, Try.ntmps21, List.range'_succ, List.range'_zero, List.zip_cons_cons, List.zip_nil_left]
    refine CodeT.seqR ?_
    simp -implicitDefEqProofs (dsimp := false) only [go_sem, simprocAttr, hi, hw, openedV]
    refine CodeT.seqR ?_
    simp -implicitDefEqProofs (dsimp := false) only [go_sem, simprocAttr, hi, hw, openedV]
    refine PureT.eq (c61 _ _ ?_) rfl ?_
    assumption
    simp -implicitDefEqProofs (dsimp := false) only [go_sem, simprocAttr, hi, hw, openedV]
    refine CodeT.seq ?_
    refine CodeT.seqR ?_
    simp -implicitDefEqProofs (dsimp := false) only [go_sem, simprocAttr, hi, hw, openedV]
    refine CodeT.condT rfl ?_
    refine CodeT.seqR ?_
    simp -implicitDefEqProofs (dsimp := false) only [go_sem, simprocAttr, hi, hw, openedV]
    refine CodeT.ret ?_
    simp -implicitDefEqProofs (dsimp := false) only [go_sem, simprocAttr, hi, hw, openedV]
    refine pureEnd rfl ?_
    simp only [readV, hi, er, hw, Bool.true_and, Bool.false_and, Bool.and_true, Bool.and_false, Bool.true_or, Bool.false_or, Bool.or_true, Bool.or_false, Bool.not_true, Bool.not_false, Bool.false_eq_true, ↓reduceIte]
  have hp := hw
  rw [wrB_eq, decide_eq_true_eq] at hp
  refine CallT.intro Try.func21 (by decide) rfl ?_
  simp -implicitDefEqProofs (dsimp := false) only [go_sem, simprocAttr, hi, hw, openedV, enterTm, Try.ntmps21, List.range'_succ, List.range'_zero, List.zip_cons_cons, List.zip_nil_left]
  refine CodeT.seqR ?_
  simp -implicitDefEqProofs (dsimp := false) only [go_sem, simprocAttr, hi, hw, openedV]
  refine CodeT.seqR ?_
  simp -implicitDefEqProofs (dsimp := false) only [go_sem, simprocAttr, hi, hw, openedV]
  refine PureT.eq (c61 _ _ ?_) rfl ?_
  assumption
  simp -implicitDefEqProofs (dsimp := false) only [go_sem, simprocAttr, hi, hw, openedV]
  refine CodeT.seq ?_
  refine CodeT.seqR ?_
  simp -implicitDefEqProofs (dsimp := false) only [go_sem, simprocAttr, hi, hw, openedV]
  refine CodeT.condF rfl ?_
  refine CodeT.skip ?_
  simp -implicitDefEqProofs (dsimp := false) only [go_sem, simprocAttr, hi, hw, openedV]
  refine CodeT.seqR ?_
  simp -implicitDefEqProofs (dsimp := false) only [go_sem, simprocAttr, hi, hw, openedV]
  refine PureT.eq (c62s _ hi) rfl ?_
  simp -implicitDefEqProofs (dsimp := false) only [go_sem, simprocAttr, hi, hw, openedV]
  refine PureT.eq (c14s _ hi) rfl ?_
  simp -implicitDefEqProofs (dsimp := false) only [go_sem, simprocAttr, hi, hw, openedV]
  refine CodeT.seqD [(0, .free), (3, .free), (1, .read), (2, .read), (5, .free), (4, .read), (6, .free), (7, .free)] mixed (by kernel_rfl) ?_
  simp -implicitDefEqProofs (dsimp := false) only [go_sem, simprocAttr, hi, hw, openedV]
  refine gate_i ?_ ?_
  assumption
  simp -implicitDefEqProofs (dsimp := false) (disch := omega) only [Int.toNat_natCast, i64_in, bs_getD, opvs_getD, is64_getD, bss_getD]
  simp -implicitDefEqProofs (dsimp := false) only [go_sem, simprocAttr, hi, hw, openedV]
  refine And.intro (by trivial) ?_
  refine And.intro (by exact uni_bss _) ?_
  refine And.intro (by assumption) ?_
  refine And.intro (by omega) ?_
  refine CodeT.ret ?_
  simp -implicitDefEqProofs (dsimp := false) only [go_sem, simprocAttr, hi, hw, openedV]
  refine pureEnd rfl ?_
  simp only [readV, hi, hw, er, Bool.true_and, Bool.false_and, Bool.and_true, Bool.and_false, Bool.true_or, Bool.false_or, Bool.or_true, Bool.or_false, Bool.not_true, Bool.not_false, Bool.false_eq_true, ↓reduceIte]
end Go.Proofs.Try

namespace Go.Proofs.Try
set_option linter.unusedSimpArgs false
set_option linter.unusedVariables false
open Go.PM
set_option maxHeartbeats 4000000

def fl : DOp := ⟨true, 0, []⟩
def wr (a : Int) (b : List UInt8) : DOp := ⟨false, a, b⟩
def zs (n : Nat) : List UInt8 := List.replicate n 0
def halfB (d : Dsk) : Nat := halfAt (seenB d)
def szB (d : Dsk) : Nat := d.bytes.length / 2
theorem c66s (d : Dsk) (hi : isDiskB d = true) : PureT Try.prog 66 [kOf d] (· = .val (.int .i64 (szB d : Nat))) := c66 _ _ _ (isDisk_ok hi).1.b
theorem c78s (d : Dsk) (hi : isDiskB d = true) : PureT Try.prog 78 [kOf d] (· = .val (.int .i64 (2 + (szB d : Nat) - (halfB d : Nat)))) := by
  have := (isDisk_ok hi).1.top; have := (isDisk_ok hi).1.b
  exact c78 _ _ _ (by omega) (by omega)
theorem kOf_eq (d : Dsk) : kOf d = .cptr [.sl false (bs d.bytes), .sl false (opvs d.queue), .sl false (bs (seenB d)), .val (.int .i64 (halfB d : Nat))] := rfl
theorem frame_length (l : List UInt8) : (frame l).length = 2 * l.length + 1 := by
  unfold frame
  simp
  induction l with
  | nil => rfl
  | cons x l ih => simp_all [List.flatMap_cons, nib]; omega
theorem disk_facts {d : Dsk} (hi : isDiskB d = true) : d.bytes.length ≤ 2097153 ∧ d.bytes.length = 2 * szB d + 1 ∧ 64 ≤ szB d ∧ (halfB d = 1 ∨ halfB d = 1 + szB d) ∧ endB d ≤ szB d ∧ (useB d).length = szB d := by
  obtain ⟨k, hw⟩ := isDisk_ok hi
  have h1 := isDisk_small hi; have h2 := k.o; have h3 := k.z; have h4 := k.h; have h5 := endB_le hi; have h6 := useB_length hi
  unfold szB halfB
  refine ⟨h1, by omega, h3, h4, h5, h6⟩

def formatV (d : Dsk) (base : List UInt8) : AV :=
  if (!isDiskB d) = true then .tup [.sl false [], er 281]
  else if decide (((frame base).length : Int) > (szB d : Nat)) = true then .tup [.sl false [], er 2]
  else .tup [.sl false (opvs [wr 0 (zs d.bytes.length), fl, wr 1 (frame base), fl]), er 0]
theorem c29 (d : Dsk) (hf : Few d) (base : List UInt8) (hb : base.length ≤ 1000000) : PureT Try.prog 29 [dkv d, .sl false (bs base)] (· = formatV d base) := by
  refine CallT.laxR ?_
  have hl := frame_length base
  cases hi : isDiskB d
  · refine CallT.intro Try.func29 (by decide) rfl ?_
    simp -implicitDefEqProofs (dsimp := false) only [go_sem, simprocAttr, hi, openedV, enterTm, Try.ntmps29, List.range'_succ, List.range'_zero, List.zip_cons_cons, List.zip_nil_left]
    refine CodeT.seqR ?_
    simp -implicitDefEqProofs (dsimp := false) only [go_sem, simprocAttr, hi, openedV]
    refine CodeT.seqR ?_
    simp -implicitDefEqProofs (dsimp := false) only [go_sem, simprocAttr, hi, openedV]
    refine PureT.eq (c61 _ _ ?_) rfl ?_
    assumption
    simp -implicitDefEqProofs (dsimp := false) only [go_sem, simprocAttr, hi, openedV]
    refine CodeT.seq ?_
    refine CodeT.seqR ?_
    simp -implicitDefEqProofs (dsimp := false) only [go_sem, simprocAttr, hi, openedV]
    refine CodeT.condT rfl ?_
    refine CodeT.seqR ?_
    simp -implicitDefEqProofs (dsimp := false) only [go_sem, simprocAttr, hi, openedV]
    refine CodeT.ret ?_
    simp -implicitDefEqProofs (dsimp := false) only [go_sem, simprocAttr, hi, openedV]
    refine pureEnd rfl ?_
    simp only [formatV, hi, er, Bool.true_and, Bool.false_and, Bool.and_true, Bool.and_false, Bool.true_or, Bool.false_or, Bool.or_true, Bool.or_false, Bool.not_true, Bool.not_false, Bool.false_eq_true, ↓reduceIte]
  have hd := disk_facts hi
  refine CallT.intro Try.func29 (by decide) rfl ?_
  simp -implicitDefEqProofs (dsimp := false) only [go_sem, simprocAttr, hi, openedV, enterTm, Try.ntmps29, List.range'_succ, List.range'_zero, List.zip_cons_cons, List.zip_nil_left]
  refine CodeT.seqR ?_
  simp -implicitDefEqProofs (dsimp := false) only [go_sem, simprocAttr, hi, openedV]
  refine CodeT.seqR ?_
  simp -implicitDefEqProofs (dsimp := false) only [go_sem, simprocAttr, hi, openedV]
  refine PureT.eq (c61 _ _ ?_) rfl ?_
  assumption
  simp -implicitDefEqProofs (dsimp := false) only [go_sem, simprocAttr, hi, openedV]
  refine CodeT.seq ?_
  refine CodeT.seqR ?_
  simp -implicitDefEqProofs (dsimp := false) only [go_sem, simprocAttr, hi, openedV]
  refine CodeT.condF rfl ?_
  refine CodeT.skip ?_
  simp -implicitDefEqProofs (dsimp := false) only [go_sem, simprocAttr, hi, openedV]
  refine CodeT.seqR ?_
  simp -implicitDefEqProofs (dsimp := false) only [go_sem, simprocAttr, hi, openedV]
  refine PureT.eq (c13 _ ?_) rfl ?_
  assumption
  simp -implicitDefEqProofs (dsimp := false) only [go_sem, simprocAttr, hi, openedV]
  refine CodeT.seq ?_
  refine CodeT.seqR ?_
  simp -implicitDefEqProofs (dsimp := false) only [go_sem, simprocAttr, hi, openedV]
  refine PureT.eq (c66s _ hi) rfl ?_
  simp -implicitDefEqProofs (dsimp := false) only [go_sem, simprocAttr, hi, openedV]
  refine CodeT.cond rfl (fun g4 => ?_) (fun g4 => ?_)
  have d4 := ofDec g4
  refine CodeT.seqR ?_
  simp -implicitDefEqProofs (dsimp := false) only [go_sem, simprocAttr, hi, openedV, g4]
  refine CodeT.ret ?_
  simp -implicitDefEqProofs (dsimp := false) only [go_sem, simprocAttr, hi, openedV, g4]
  refine pureEnd rfl ?_
  simp only [formatV, hi, er, wr, fl, zs, opvs, List.map_cons, List.map_nil, g4, Bool.true_and, Bool.false_and, Bool.and_true, Bool.and_false, Bool.true_or, Bool.false_or, Bool.or_true, Bool.or_false, Bool.not_true, Bool.not_false, Bool.false_eq_true, ↓reduceIte]
  have d4 := ofDecF g4
  refine CodeT.skip ?_
  simp -implicitDefEqProofs (dsimp := false) only [go_sem, simprocAttr, hi, openedV, g4]
  refine CodeT.seqR ?_
  simp -implicitDefEqProofs (dsimp := false) only [go_sem, simprocAttr, hi, openedV, g4]
  refine And.intro (by omega) ?_
  refine And.intro (by omega) ?_
  refine And.intro (by omega) ?_
  refine CallT.args ⟨_, Try.func65, by decide, rfl⟩ ?_
  simp -implicitDefEqProofs (dsimp := false) only [go_sem, simprocAttr, hi, openedV, g4]
  refine And.intro (by omega) ?_
  refine PureT.eq (c65 _ _) rfl ?_
  simp -implicitDefEqProofs (dsimp := false) only [go_sem, simprocAttr, hi, openedV, g4]
  refine PureT.eq (c64) rfl ?_
  simp -implicitDefEqProofs (dsimp := false) only [go_sem, simprocAttr, hi, openedV, g4]
  refine PureT.eq (c65 _ _) rfl ?_
  simp -implicitDefEqProofs (dsimp := false) only [go_sem, simprocAttr, hi, openedV, g4]
  refine PureT.eq (c64) rfl ?_
  simp -implicitDefEqProofs (dsimp := false) only [go_sem, simprocAttr, hi, openedV, g4]
  refine And.intro (by trivial) ?_
  refine CodeT.ret ?_
  simp -implicitDefEqProofs (dsimp := false) only [go_sem, simprocAttr, hi, openedV, g4]
  refine pureEnd rfl ?_
  simp only [formatV, hi, er, wr, fl, zs, opvs, List.map_cons, List.map_nil, g4, Bool.true_and, Bool.false_and, Bool.and_true, Bool.and_false, Bool.true_or, Bool.false_or, Bool.or_true, Bool.or_false, Bool.not_true, Bool.not_false, Bool.false_eq_true, ↓reduceIte]
def appendV (d : Dsk) (r : List UInt8) : AV :=
  if (!isDiskB d) = true then .tup [.sl false [], er 281]
  else if (!wrB d) = true then .tup [.sl false [], er 280]
  else if (!clB d) = true then .tup [.sl false [], er 280]
  else if decide (((frame r).length : Int) > (szB d : Nat) - (endB d : Nat)) = true then .tup [.sl false [], er 2]
  else .tup [.sl false (opvs [wr ((halfB d : Nat) + (endB d : Nat)) (frame r)]), er 0]
theorem c25 (d : Dsk) (hf : Few d) (r : List UInt8) (hb : r.length ≤ 1000000) : PureT Try.prog 25 [dkv d, .sl false (bs r)] (· = appendV d r) := by
  refine CallT.laxR ?_
  have hl := frame_length r
  cases hi : isDiskB d
  · refine CallT.intro Try.func25 (by decide) rfl ?_
    simp -implicitDefEqProofs (dsimp := false) only [go_sem, simprocAttr, hi, appendingV, enterTm, Try.ntmps25, List.range'_succ, List.range'_zero, List.zip_cons_cons, List.zip_nil_left]
    refine CodeT.seqR ?_
    simp -implicitDefEqProofs (dsimp := false) only [go_sem, simprocAttr, hi, appendingV]
    refine CodeT.seqR ?_
    simp -implicitDefEqProofs (dsimp := false) only [go_sem, simprocAttr, hi, appendingV]
    refine PureT.eq (c69 _ ?_) rfl ?_
    assumption
    simp -implicitDefEqProofs (dsimp := false) only [go_sem, simprocAttr, hi, appendingV]
    refine CodeT.seq ?_
    refine CodeT.seqR ?_
    simp -implicitDefEqProofs (dsimp := false) only [go_sem, simprocAttr, hi, appendingV]
    refine CodeT.condT rfl ?_
    refine CodeT.seqR ?_
    simp -implicitDefEqProofs (dsimp := false) only [go_sem, simprocAttr, hi, appendingV]
    refine CodeT.ret ?_
    simp -implicitDefEqProofs (dsimp := false) only [go_sem, simprocAttr, hi, appendingV]
    refine pureEnd rfl ?_
    simp only [appendV, hi, er, Bool.true_and, Bool.false_and, Bool.and_true, Bool.and_false, Bool.true_or, Bool.false_or, Bool.or_true, Bool.or_false, Bool.not_true, Bool.not_false, Bool.false_eq_true, ↓reduceIte]
  have hd := disk_facts hi
  cases hw : wrB d
  · refine CallT.intro Try.func25 (by decide) rfl ?_
    simp -implicitDefEqProofs (dsimp := false) only [go_sem, simprocAttr, hi, hw, appendingV, enterTm, Try.ntmps25, List.range'_succ, List.range'_zero, List.zip_cons_cons, List.zip_nil_left]
    refine CodeT.seqR ?_
    simp -implicitDefEqProofs (dsimp := false) only [go_sem, simprocAttr, hi, hw, appendingV]
    refine CodeT.seqR ?_
    simp -implicitDefEqProofs (dsimp := false) only [go_sem, simprocAttr, hi, hw, appendingV]
    refine PureT.eq (c69 _ ?_) rfl ?_
    assumption
    simp -implicitDefEqProofs (dsimp := false) only [go_sem, simprocAttr, hi, hw, appendingV]
    refine CodeT.seq ?_
    refine CodeT.seqR ?_
    simp -implicitDefEqProofs (dsimp := false) only [go_sem, simprocAttr, hi, hw, appendingV]
    refine CodeT.condT rfl ?_
    refine CodeT.seqR ?_
    simp -implicitDefEqProofs (dsimp := false) only [go_sem, simprocAttr, hi, hw, appendingV]
    refine CodeT.ret ?_
    simp -implicitDefEqProofs (dsimp := false) only [go_sem, simprocAttr, hi, hw, appendingV]
    refine pureEnd rfl ?_
    simp only [appendV, hi, hw, er, Bool.true_and, Bool.false_and, Bool.and_true, Bool.and_false, Bool.true_or, Bool.false_or, Bool.or_true, Bool.or_false, Bool.not_true, Bool.not_false, Bool.false_eq_true, ↓reduceIte]
  cases hc : clB d
  · refine CallT.intro Try.func25 (by decide) rfl ?_
    simp -implicitDefEqProofs (dsimp := false) only [go_sem, simprocAttr, hi, hw, hc, appendingV, enterTm, Try.ntmps25, List.range'_succ, List.range'_zero, List.zip_cons_cons, List.zip_nil_left]
    refine CodeT.seqR ?_
    simp -implicitDefEqProofs (dsimp := false) only [go_sem, simprocAttr, hi, hw, hc, appendingV]
    refine CodeT.seqR ?_
    simp -implicitDefEqProofs (dsimp := false) only [go_sem, simprocAttr, hi, hw, hc, appendingV]
    refine PureT.eq (c69 _ ?_) rfl ?_
    assumption
    simp -implicitDefEqProofs (dsimp := false) only [go_sem, simprocAttr, hi, hw, hc, appendingV]
    refine CodeT.seq ?_
    refine CodeT.seqR ?_
    simp -implicitDefEqProofs (dsimp := false) only [go_sem, simprocAttr, hi, hw, hc, appendingV]
    refine CodeT.condT rfl ?_
    refine CodeT.seqR ?_
    simp -implicitDefEqProofs (dsimp := false) only [go_sem, simprocAttr, hi, hw, hc, appendingV]
    refine CodeT.ret ?_
    simp -implicitDefEqProofs (dsimp := false) only [go_sem, simprocAttr, hi, hw, hc, appendingV]
    refine pureEnd rfl ?_
    simp only [appendV, hi, hw, hc, er, Bool.true_and, Bool.false_and, Bool.and_true, Bool.and_false, Bool.true_or, Bool.false_or, Bool.or_true, Bool.or_false, Bool.not_true, Bool.not_false, Bool.false_eq_true, ↓reduceIte]
  refine CallT.intro Try.func25 (by decide) rfl ?_
  simp -implicitDefEqProofs (dsimp := false) only [go_sem, simprocAttr, hi, hw, hc, appendingV, kOf_eq, enterTm, Try.ntmps25, List.range'_succ, List.range'_zero, List.zip_cons_cons, List.zip_nil_left]
  refine CodeT.seqR ?_
  simp -implicitDefEqProofs (dsimp := false) only [go_sem, simprocAttr, hi, hw, hc, appendingV, kOf_eq]
  refine CodeT.seqR ?_
  simp -implicitDefEqProofs (dsimp := false) only [go_sem, simprocAttr, hi, hw, hc, appendingV, kOf_eq]
  refine PureT.eq (c69 _ ?_) rfl ?_
  assumption
  simp -implicitDefEqProofs (dsimp := false) only [go_sem, simprocAttr, hi, hw, hc, appendingV, kOf_eq]
  refine CodeT.seq ?_
  refine CodeT.seqR ?_
  simp -implicitDefEqProofs (dsimp := false) only [go_sem, simprocAttr, hi, hw, hc, appendingV, kOf_eq]
  refine CodeT.condF rfl ?_
  refine CodeT.skip ?_
  simp -implicitDefEqProofs (dsimp := false) only [go_sem, simprocAttr, hi, hw, hc, appendingV, kOf_eq]
  refine CodeT.seqR ?_
  simp -implicitDefEqProofs (dsimp := false) only [go_sem, simprocAttr, hi, hw, hc, appendingV, kOf_eq]
  refine PureT.eq (c13 _ ?_) rfl ?_
  assumption
  simp -implicitDefEqProofs (dsimp := false) only [go_sem, simprocAttr, hi, hw, hc, appendingV, kOf_eq]
  refine CodeT.seq ?_
  refine CodeT.seqR ?_
  simp -implicitDefEqProofs (dsimp := false) only [go_sem, simprocAttr, hi, hw, hc, appendingV, kOf_eq]
  refine PureT.eq (c66s _ hi) rfl ?_
  simp -implicitDefEqProofs (dsimp := false) only [go_sem, simprocAttr, hi, hw, hc, appendingV, kOf_eq]
  simp -implicitDefEqProofs (dsimp := false) (disch := omega) only [i64_in, bs_getD, opvs_getD, is64_getD, bss_getD]
  refine CodeT.cond rfl (fun g4 => ?_) (fun g4 => ?_)
  have d4 := ofDec g4
  refine CodeT.seqR ?_
  simp -implicitDefEqProofs (dsimp := false) only [go_sem, simprocAttr, hi, hw, hc, appendingV, kOf_eq, g4]
  refine CodeT.ret ?_
  simp -implicitDefEqProofs (dsimp := false) only [go_sem, simprocAttr, hi, hw, hc, appendingV, kOf_eq, g4]
  refine pureEnd rfl ?_
  simp only [appendV, hi, hw, hc, er, wr, fl, zs, opvs, List.map_cons, List.map_nil, g4, Bool.true_and, Bool.false_and, Bool.and_true, Bool.and_false, Bool.true_or, Bool.false_or, Bool.or_true, Bool.or_false, Bool.not_true, Bool.not_false, Bool.false_eq_true, ↓reduceIte]
  have d4 := ofDecF g4
  refine CodeT.skip ?_
  simp -implicitDefEqProofs (dsimp := false) only [go_sem, simprocAttr, hi, hw, hc, appendingV, kOf_eq, g4]
  refine CodeT.seqR ?_
  simp -implicitDefEqProofs (dsimp := false) only [go_sem, simprocAttr, hi, hw, hc, appendingV, kOf_eq, g4]
  refine PureT.eq (c65 _ _) rfl ?_
  simp -implicitDefEqProofs (dsimp := false) only [go_sem, simprocAttr, hi, hw, hc, appendingV, kOf_eq, g4]
  refine And.intro (by trivial) ?_
  refine CodeT.ret ?_
  simp -implicitDefEqProofs (dsimp := false) only [go_sem, simprocAttr, hi, hw, hc, appendingV, kOf_eq, g4]
  refine pureEnd rfl ?_
  simp -implicitDefEqProofs (dsimp := false) (disch := omega) only [i64_in, bs_getD, opvs_getD, is64_getD, bss_getD]
  simp only [appendV, hi, hw, hc, er, wr, fl, zs, opvs, List.map_cons, List.map_nil, g4, Bool.true_and, Bool.false_and, Bool.and_true, Bool.and_false, Bool.true_or, Bool.false_or, Bool.or_true, Bool.or_false, Bool.not_true, Bool.not_false, Bool.false_eq_true, ↓reduceIte]
def otherB (d : Dsk) : Int := 2 + (szB d : Nat) - (halfB d : Nat)
def turnB (d : Dsk) : UInt8 := if (((halfB d : Nat) : Int) == 1) = true then 1 else 0
def checkinV (d : Dsk) (r : List UInt8) : AV :=
  if (!isDiskB d) = true then .tup [.sl false [], er 281]
  else if (!wrB d) = true then .tup [.sl false [], er 280]
  else if decide (((frame r).length : Int) > (szB d : Nat)) = true then .tup [.sl false [], er 2]
  else .tup [.sl false (opvs [wr (otherB d) (zs (szB d)), fl, wr (otherB d) (frame r), fl, wr 0 [turnB d], fl]), er 0]
theorem one_u8 : AV.sl false [AV.val (.int .u8 1)] = .sl false (bs [1]) := rfl
theorem zero_u8 : AV.sl false [AV.val (.int .u8 0)] = .sl false (bs [0]) := rfl
theorem c33 (d : Dsk) (hf : Few d) (r : List UInt8) (hb : r.length ≤ 1000000) : PureT Try.prog 33 [dkv d, .sl false (bs r)] (· = checkinV d r) := by
  refine CallT.laxR ?_
  have hl := frame_length r
  cases hi : isDiskB d
  · refine CallT.intro Try.func33 (by decide) rfl ?_
    simp -implicitDefEqProofs (dsimp := false) only [go_sem, simprocAttr, hi, openedV, enterTm, Try.ntmps33, List.range'_succ, List.range'_zero, List.zip_cons_cons, List.zip_nil_left]
    refine CodeT.seqR ?_
    simp -implicitDefEqProofs (dsimp := false) only [go_sem, simprocAttr, hi, openedV]
    refine CodeT.seqR ?_
    simp -implicitDefEqProofs (dsimp := false) only [go_sem, simprocAttr, hi, openedV]
    refine PureT.eq (c61 _ _ ?_) rfl ?_
    assumption
    simp -implicitDefEqProofs (dsimp := false) only [go_sem, simprocAttr, hi, openedV]
    refine CodeT.seq ?_
    refine CodeT.seqR ?_
    simp -implicitDefEqProofs (dsimp := false) only [go_sem, simprocAttr, hi, openedV]
    refine CodeT.condT rfl ?_
    refine CodeT.seqR ?_
    simp -implicitDefEqProofs (dsimp := false) only [go_sem, simprocAttr, hi, openedV]
    refine CodeT.ret ?_
    simp -implicitDefEqProofs (dsimp := false) only [go_sem, simprocAttr, hi, openedV]
    refine pureEnd rfl ?_
    simp only [checkinV, hi, er, Bool.true_and, Bool.false_and, Bool.and_true, Bool.and_false, Bool.true_or, Bool.false_or, Bool.or_true, Bool.or_false, Bool.not_true, Bool.not_false, Bool.false_eq_true, ↓reduceIte]
  have hd := disk_facts hi
  cases hw : wrB d
  · refine CallT.intro Try.func33 (by decide) rfl ?_
    simp -implicitDefEqProofs (dsimp := false) only [go_sem, simprocAttr, hi, hw, openedV, enterTm, Try.ntmps33, List.range'_succ, List.range'_zero, List.zip_cons_cons, List.zip_nil_left]
    refine CodeT.seqR ?_
    simp -implicitDefEqProofs (dsimp := false) only [go_sem, simprocAttr, hi, hw, openedV]
    refine CodeT.seqR ?_
    simp -implicitDefEqProofs (dsimp := false) only [go_sem, simprocAttr, hi, hw, openedV]
    refine PureT.eq (c61 _ _ ?_) rfl ?_
    assumption
    simp -implicitDefEqProofs (dsimp := false) only [go_sem, simprocAttr, hi, hw, openedV]
    refine CodeT.seq ?_
    refine CodeT.seqR ?_
    simp -implicitDefEqProofs (dsimp := false) only [go_sem, simprocAttr, hi, hw, openedV]
    refine CodeT.condT rfl ?_
    refine CodeT.seqR ?_
    simp -implicitDefEqProofs (dsimp := false) only [go_sem, simprocAttr, hi, hw, openedV]
    refine CodeT.ret ?_
    simp -implicitDefEqProofs (dsimp := false) only [go_sem, simprocAttr, hi, hw, openedV]
    refine pureEnd rfl ?_
    simp only [checkinV, hi, hw, er, Bool.true_and, Bool.false_and, Bool.and_true, Bool.and_false, Bool.true_or, Bool.false_or, Bool.or_true, Bool.or_false, Bool.not_true, Bool.not_false, Bool.false_eq_true, ↓reduceIte]
  refine CallT.intro Try.func33 (by decide) rfl ?_
  simp -implicitDefEqProofs (dsimp := false) only [go_sem, simprocAttr, hi, hw, openedV, kOf_eq, one_u8, zero_u8, enterTm, Try.ntmps33, List.range'_succ, List.range'_zero, List.zip_cons_cons, List.zip_nil_left]
  refine CodeT.seqR ?_
  simp -implicitDefEqProofs (dsimp := false) only [go_sem, simprocAttr, hi, hw, openedV, kOf_eq, one_u8, zero_u8]
  refine CodeT.seqR ?_
  simp -implicitDefEqProofs (dsimp := false) only [go_sem, simprocAttr, hi, hw, openedV, kOf_eq, one_u8, zero_u8]
  refine PureT.eq (c61 _ _ ?_) rfl ?_
  assumption
  simp -implicitDefEqProofs (dsimp := false) only [go_sem, simprocAttr, hi, hw, openedV, kOf_eq, one_u8, zero_u8]
  refine CodeT.seq ?_
  refine CodeT.seqR ?_
  simp -implicitDefEqProofs (dsimp := false) only [go_sem, simprocAttr, hi, hw, openedV, kOf_eq, one_u8, zero_u8]
  refine CodeT.condF rfl ?_
  refine CodeT.skip ?_
  simp -implicitDefEqProofs (dsimp := false) only [go_sem, simprocAttr, hi, hw, openedV, kOf_eq, one_u8, zero_u8]
  refine CodeT.seqR ?_
  simp -implicitDefEqProofs (dsimp := false) only [go_sem, simprocAttr, hi, hw, openedV, kOf_eq, one_u8, zero_u8]
  refine PureT.eq (c13 _ ?_) rfl ?_
  assumption
  simp -implicitDefEqProofs (dsimp := false) only [go_sem, simprocAttr, hi, hw, openedV, kOf_eq, one_u8, zero_u8]
  refine CodeT.seq ?_
  refine CodeT.seqR ?_
  simp -implicitDefEqProofs (dsimp := false) only [go_sem, simprocAttr, hi, hw, openedV, kOf_eq, one_u8, zero_u8]
  refine PureT.eq (c66s _ hi) rfl ?_
  simp -implicitDefEqProofs (dsimp := false) only [go_sem, simprocAttr, hi, hw, openedV, kOf_eq, one_u8, zero_u8]
  refine CodeT.cond rfl (fun g4 => ?_) (fun g4 => ?_)
  have d4 := ofDec g4
  refine CodeT.seqR ?_
  simp -implicitDefEqProofs (dsimp := false) only [go_sem, simprocAttr, hi, hw, openedV, kOf_eq, one_u8, zero_u8, g4]
  refine CodeT.ret ?_
  simp -implicitDefEqProofs (dsimp := false) only [go_sem, simprocAttr, hi, hw, openedV, kOf_eq, one_u8, zero_u8, g4]
  refine pureEnd rfl ?_
  simp only [checkinV, hi, hw, er, wr, fl, zs, opvs, List.map_cons, List.map_nil, otherB, turnB, g4, Bool.true_and, Bool.false_and, Bool.and_true, Bool.and_false, Bool.true_or, Bool.false_or, Bool.or_true, Bool.or_false, Bool.not_true, Bool.not_false, Bool.false_eq_true, ↓reduceIte]
  have d4 := ofDecF g4
  refine CodeT.skip ?_
  simp -implicitDefEqProofs (dsimp := false) only [go_sem, simprocAttr, hi, hw, openedV, kOf_eq, one_u8, zero_u8, g4]
  refine CodeT.seqR ?_
  simp -implicitDefEqProofs (dsimp := false) only [go_sem, simprocAttr, hi, hw, openedV, kOf_eq, one_u8, zero_u8, g4]
  refine CodeT.seq ?_
  refine CodeT.seqR ?_
  simp -implicitDefEqProofs (dsimp := false) only [go_sem, simprocAttr, hi, hw, openedV, kOf_eq, one_u8, zero_u8, g4]
  refine CodeT.cond rfl (fun g5 => ?_) (fun g5 => ?_)
  have d5 := ofBeq g5
  refine CodeT.region ?_
  simp -implicitDefEqProofs (dsimp := false) only [go_sem, simprocAttr, hi, hw, openedV, kOf_eq, one_u8, zero_u8, g4, g5]
  refine CodeT.seqR ?_
  simp -implicitDefEqProofs (dsimp := false) only [go_sem, simprocAttr, hi, hw, openedV, kOf_eq, one_u8, zero_u8, g4, g5]
  refine PureT.eq (c78s _ hi) rfl ?_
  simp -implicitDefEqProofs (dsimp := false) only [go_sem, simprocAttr, hi, hw, openedV, kOf_eq, one_u8, zero_u8, g4, g5]
  refine PureT.eq (c66s _ hi) rfl ?_
  simp -implicitDefEqProofs (dsimp := false) only [go_sem, simprocAttr, hi, hw, openedV, kOf_eq, one_u8, zero_u8, g4, g5]
  refine And.intro (by omega) ?_
  refine And.intro (by omega) ?_
  refine And.intro (by omega) ?_
  refine CallT.args ⟨_, Try.func65, by decide, rfl⟩ ?_
  simp -implicitDefEqProofs (dsimp := false) only [go_sem, simprocAttr, hi, hw, openedV, kOf_eq, one_u8, zero_u8, g4, g5]
  refine And.intro (by omega) ?_
  refine PureT.eq (c65 _ _) rfl ?_
  simp -implicitDefEqProofs (dsimp := false) only [go_sem, simprocAttr, hi, hw, openedV, kOf_eq, one_u8, zero_u8, g4, g5]
  refine PureT.eq (c64) rfl ?_
  simp -implicitDefEqProofs (dsimp := false) only [go_sem, simprocAttr, hi, hw, openedV, kOf_eq, one_u8, zero_u8, g4, g5]
  refine PureT.eq (c78s _ hi) rfl ?_
  simp -implicitDefEqProofs (dsimp := false) only [go_sem, simprocAttr, hi, hw, openedV, kOf_eq, one_u8, zero_u8, g4, g5]
  refine PureT.eq (c65 _ _) rfl ?_
  simp -implicitDefEqProofs (dsimp := false) only [go_sem, simprocAttr, hi, hw, openedV, kOf_eq, one_u8, zero_u8, g4, g5]
  refine PureT.eq (c64) rfl ?_
  simp -implicitDefEqProofs (dsimp := false) only [go_sem, simprocAttr, hi, hw, openedV, kOf_eq, one_u8, zero_u8, g4, g5]
  refine And.intro (by trivial) ?_
  refine CallT.laxA ?_
  simp -implicitDefEqProofs (dsimp := false) only [go_sem, simprocAttr, hi, hw, openedV, kOf_eq, one_u8, zero_u8, g4, g5]
  refine PureT.eq (c65 _ _) rfl ?_
  simp -implicitDefEqProofs (dsimp := false) only [go_sem, simprocAttr, hi, hw, openedV, kOf_eq, one_u8, zero_u8, g4, g5]
  refine PureT.eq (c64) rfl ?_
  simp -implicitDefEqProofs (dsimp := false) only [go_sem, simprocAttr, hi, hw, openedV, kOf_eq, one_u8, zero_u8, g4, g5]
  refine And.intro (by trivial) ?_
  refine CodeT.ret ?_
  simp -implicitDefEqProofs (dsimp := false) only [go_sem, simprocAttr, hi, hw, openedV, kOf_eq, one_u8, zero_u8, g4, g5]
  refine pureEnd rfl ?_
  simp only [checkinV, hi, hw, er, wr, fl, zs, opvs, List.map_cons, List.map_nil, otherB, turnB, g4, g5, Bool.true_and, Bool.false_and, Bool.and_true, Bool.and_false, Bool.true_or, Bool.false_or, Bool.or_true, Bool.or_false, Bool.not_true, Bool.not_false, Bool.false_eq_true, ↓reduceIte]
  have d5 := ofBeqF g5
  refine CodeT.skip ?_
  simp -implicitDefEqProofs (dsimp := false) only [go_sem, simprocAttr, hi, hw, openedV, kOf_eq, one_u8, zero_u8, g4, g5]
  refine CodeT.seqR ?_
  simp -implicitDefEqProofs (dsimp := false) only [go_sem, simprocAttr, hi, hw, openedV, kOf_eq, one_u8, zero_u8, g4, g5]
  refine PureT.eq (c78s _ hi) rfl ?_
  simp -implicitDefEqProofs (dsimp := false) only [go_sem, simprocAttr, hi, hw, openedV, kOf_eq, one_u8, zero_u8, g4, g5]
  refine PureT.eq (c66s _ hi) rfl ?_
  simp -implicitDefEqProofs (dsimp := false) only [go_sem, simprocAttr, hi, hw, openedV, kOf_eq, one_u8, zero_u8, g4, g5]
  refine And.intro (by omega) ?_
  refine And.intro (by omega) ?_
  refine And.intro (by omega) ?_
  refine CallT.args ⟨_, Try.func65, by decide, rfl⟩ ?_
  simp -implicitDefEqProofs (dsimp := false) only [go_sem, simprocAttr, hi, hw, openedV, kOf_eq, one_u8, zero_u8, g4, g5]
  refine And.intro (by omega) ?_
  refine PureT.eq (c65 _ _) rfl ?_
  simp -implicitDefEqProofs (dsimp := false) only [go_sem, simprocAttr, hi, hw, openedV, kOf_eq, one_u8, zero_u8, g4, g5]
  refine PureT.eq (c64) rfl ?_
  simp -implicitDefEqProofs (dsimp := false) only [go_sem, simprocAttr, hi, hw, openedV, kOf_eq, one_u8, zero_u8, g4, g5]
  refine PureT.eq (c78s _ hi) rfl ?_
  simp -implicitDefEqProofs (dsimp := false) only [go_sem, simprocAttr, hi, hw, openedV, kOf_eq, one_u8, zero_u8, g4, g5]
  refine PureT.eq (c65 _ _) rfl ?_
  simp -implicitDefEqProofs (dsimp := false) only [go_sem, simprocAttr, hi, hw, openedV, kOf_eq, one_u8, zero_u8, g4, g5]
  refine PureT.eq (c64) rfl ?_
  simp -implicitDefEqProofs (dsimp := false) only [go_sem, simprocAttr, hi, hw, openedV, kOf_eq, one_u8, zero_u8, g4, g5]
  refine And.intro (by trivial) ?_
  refine CallT.laxA ?_
  simp -implicitDefEqProofs (dsimp := false) only [go_sem, simprocAttr, hi, hw, openedV, kOf_eq, one_u8, zero_u8, g4, g5]
  refine PureT.eq (c65 _ _) rfl ?_
  simp -implicitDefEqProofs (dsimp := false) only [go_sem, simprocAttr, hi, hw, openedV, kOf_eq, one_u8, zero_u8, g4, g5]
  refine PureT.eq (c64) rfl ?_
  simp -implicitDefEqProofs (dsimp := false) only [go_sem, simprocAttr, hi, hw, openedV, kOf_eq, one_u8, zero_u8, g4, g5]
  refine And.intro (by trivial) ?_
  refine CodeT.ret ?_
  simp -implicitDefEqProofs (dsimp := false) only [go_sem, simprocAttr, hi, hw, openedV, kOf_eq, one_u8, zero_u8, g4, g5]
  refine pureEnd rfl ?_
  simp only [checkinV, hi, hw, er, wr, fl, zs, opvs, List.map_cons, List.map_nil, otherB, turnB, g4, g5, Bool.true_and, Bool.false_and, Bool.and_true, Bool.and_false, Bool.true_or, Bool.false_or, Bool.or_true, Bool.or_false, Bool.not_true, Bool.not_false, Bool.false_eq_true, ↓reduceIte]
def openV (d : Dsk) : AV :=
  if (!isDiskB d) = true then .tup [.sl false [], er 281]
  else if (!wrB d) = true then .tup [.sl false [], er 280]
  else if (!zerosB ((useB d).drop (endB d))) = true then .tup [.sl false (opvs [fl, wr ((halfB d : Nat) + (endB d : Nat)) (zs (szB d - endB d)), fl]), er 0]
  else if decide ((d.queue.length : Int) > 0) = true then .tup [.sl false (opvs [fl]), er 0]
  else .tup [.sl false [], er 0]
theorem c20 (d : Dsk) (hf : Few d) : PureT Try.prog 20 [dkv d] (· = openV d) := by
  refine CallT.laxR ?_
  have hq := hf.q
  cases hi : isDiskB d
  · refine CallT.intro Try.func20 (by decide) rfl ?_
    simp -implicitDefEqProofs (dsimp := false) only [go_sem, simprocAttr, hi, openedV, enterTm, Try.ntmps20, List.range'_succ, List.range'_zero, List.zip_cons_cons, List.zip_nil_left]
    refine CodeT.seqR ?_
    simp -implicitDefEqProofs (dsimp := false) only [go_sem, simprocAttr, hi, openedV]
    refine CodeT.seqR ?_
    simp -implicitDefEqProofs (dsimp := false) only [go_sem, simprocAttr, hi, openedV]
    refine PureT.eq (c61 _ _ ?_) rfl ?_
    assumption
    simp -implicitDefEqProofs (dsimp := false) only [go_sem, simprocAttr, hi, openedV]
    refine CodeT.seq ?_
    refine CodeT.seqR ?_
    simp -implicitDefEqProofs (dsimp := false) only [go_sem, simprocAttr, hi, openedV]
    refine CodeT.condT rfl ?_
    refine CodeT.seqR ?_
    simp -implicitDefEqProofs (dsimp := false) only [go_sem, simprocAttr, hi, openedV]
    refine CodeT.ret ?_
    simp -implicitDefEqProofs (dsimp := false) only [go_sem, simprocAttr, hi, openedV]
    refine pureEnd rfl ?_
    simp only [openV, hi, er, Bool.true_and, Bool.false_and, Bool.and_true, Bool.and_false, Bool.true_or, Bool.false_or, Bool.or_true, Bool.or_false, Bool.not_true, Bool.not_false, Bool.false_eq_true, ↓reduceIte]
  have hd := disk_facts hi
  cases hw : wrB d
  · refine CallT.intro Try.func20 (by decide) rfl ?_
    simp -implicitDefEqProofs (dsimp := false) only [go_sem, simprocAttr, hi, hw, openedV, enterTm, Try.ntmps20, List.range'_succ, List.range'_zero, List.zip_cons_cons, List.zip_nil_left]
    refine CodeT.seqR ?_
    simp -implicitDefEqProofs (dsimp := false) only [go_sem, simprocAttr, hi, hw, openedV]
    refine CodeT.seqR ?_
    simp -implicitDefEqProofs (dsimp := false) only [go_sem, simprocAttr, hi, hw, openedV]
    refine PureT.eq (c61 _ _ ?_) rfl ?_
    assumption
    simp -implicitDefEqProofs (dsimp := false) only [go_sem, simprocAttr, hi, hw, openedV]
    refine CodeT.seq ?_
    refine CodeT.seqR ?_
    simp -implicitDefEqProofs (dsimp := false) only [go_sem, simprocAttr, hi, hw, openedV]
    refine CodeT.condT rfl ?_
    refine CodeT.seqR ?_
    simp -implicitDefEqProofs (dsimp := false) only [go_sem, simprocAttr, hi, hw, openedV]
    refine CodeT.ret ?_
    simp -implicitDefEqProofs (dsimp := false) only [go_sem, simprocAttr, hi, hw, openedV]
    refine pureEnd rfl ?_
    simp only [openV, hi, hw, er, Bool.true_and, Bool.false_and, Bool.and_true, Bool.and_false, Bool.true_or, Bool.false_or, Bool.or_true, Bool.or_false, Bool.not_true, Bool.not_false, Bool.false_eq_true, ↓reduceIte]
  refine CallT.intro Try.func20 (by decide) rfl ?_
  simp -implicitDefEqProofs (dsimp := false) only [go_sem, simprocAttr, hi, hw, openedV, kOf_eq, enterTm, Try.ntmps20, List.range'_succ, List.range'_zero, List.zip_cons_cons, List.zip_nil_left]
  refine CodeT.seqR ?_
  simp -implicitDefEqProofs (dsimp := false) only [go_sem, simprocAttr, hi, hw, openedV, kOf_eq]
  refine CodeT.seqR ?_
  simp -implicitDefEqProofs (dsimp := false) only [go_sem, simprocAttr, hi, hw, openedV, kOf_eq]
  refine PureT.eq (c61 _ _ ?_) rfl ?_
  assumption
  simp -implicitDefEqProofs (dsimp := false) only [go_sem, simprocAttr, hi, hw, openedV, kOf_eq]
  refine CodeT.seq ?_
  refine CodeT.seqR ?_
  simp -implicitDefEqProofs (dsimp := false) only [go_sem, simprocAttr, hi, hw, openedV, kOf_eq]
  refine CodeT.condF rfl ?_
  refine CodeT.skip ?_
  simp -implicitDefEqProofs (dsimp := false) only [go_sem, simprocAttr, hi, hw, openedV, kOf_eq]
  refine CodeT.seqR ?_
  simp -implicitDefEqProofs (dsimp := false) only [go_sem, simprocAttr, hi, hw, openedV, kOf_eq]
  refine PureT.eq (c62s _ hi) rfl ?_
  simp -implicitDefEqProofs (dsimp := false) only [go_sem, simprocAttr, hi, hw, openedV, kOf_eq]
  refine PureT.eq (c14s _ hi) rfl ?_
  simp -implicitDefEqProofs (dsimp := false) only [go_sem, simprocAttr, hi, hw, openedV, kOf_eq]
  refine CodeT.seq (CodeT.block ?_)
  refine CodeT.seqR ?_
  simp -implicitDefEqProofs (dsimp := false) only [go_sem, simprocAttr, hi, hw, openedV, kOf_eq]
  refine PureT.eq (c62s _ hi) rfl ?_
  simp -implicitDefEqProofs (dsimp := false) only [go_sem, simprocAttr, hi, hw, openedV, kOf_eq]
  refine And.intro (by exact uni_bs _) ?_
  refine And.intro (by omega) ?_
  refine And.intro (by omega) ?_
  refine And.intro (by omega) ?_
  refine PureT.eq (c63 _ ?_) rfl ?_
  (simp [openV, hi, hw, er, wr, fl, zs, opvs, List.map_cons, List.map_nil, otherB, turnB, *]; omega)
  simp -implicitDefEqProofs (dsimp := false) only [go_sem, simprocAttr, hi, hw, openedV, kOf_eq]
  refine CodeT.cond rfl (fun g6 => ?_) (fun g6 => ?_)
  refine CodeT.seqD [(0, .free), (1, .free), (2, .free), (3, .free), (5, .free), (7, .free), (8, .free), (9, .free), (10, .free), (4, .read), (6, .free), (11, .upd), (12, .upd), (13, .free), (14, .upd), (15, .free), (16, .free)] mixed (by kernel_rfl) ?_
  simp -implicitDefEqProofs (dsimp := false) only [go_sem, simprocAttr, hi, hw, openedV, kOf_eq, g6]
  refine CallF.go (c64) rfl ?_
  simp -implicitDefEqProofs (dsimp := false) only [go_sem, simprocAttr, hi, hw, openedV, kOf_eq, g6]
  refine CallF.go (c66s _ hi) rfl ?_
  simp -implicitDefEqProofs (dsimp := false) only [go_sem, simprocAttr, hi, hw, openedV, kOf_eq, g6]
  simp -implicitDefEqProofs (dsimp := false) (disch := omega) only [i64_in, bs_getD, opvs_getD, is64_getD, bss_getD]
  simp -implicitDefEqProofs (dsimp := false) only [go_sem, simprocAttr, hi, hw, openedV, kOf_eq, g6]
  refine And.intro (by omega) ?_
  refine And.intro (by omega) ?_
  refine And.intro (by omega) ?_
  refine And.intro (by exact Stable.append [_] [_]) ?_
  refine ⟨⟨_, Try.func65, by decide, rfl⟩, Or.inl ?_⟩
  simp -implicitDefEqProofs (dsimp := false) only [go_sem, simprocAttr, hi, hw, openedV, kOf_eq, g6]
  refine And.intro (by omega) ?_
  refine CallY.pure (c65 _ _) rfl ?_
  simp -implicitDefEqProofs (dsimp := false) only [go_sem, simprocAttr, hi, hw, openedV, kOf_eq, g6]
  refine And.intro (by exact Stable.same (Stable.row (Stable.refl _))) ?_
  refine CallF.go (c64) rfl ?_
  simp -implicitDefEqProofs (dsimp := false) only [go_sem, simprocAttr, hi, hw, openedV, kOf_eq, g6]
  refine And.intro (by trivial) ?_
  refine And.intro (by exact Stable.refl _) ?_
  refine CodeT.ret ?_
  simp -implicitDefEqProofs (dsimp := false) only [go_sem, simprocAttr, hi, hw, openedV, kOf_eq, g6]
  refine pureEnd rfl ?_
  simp only [openV, hi, hw, er, wr, fl, zs, opvs, List.map_cons, List.map_nil, otherB, turnB, g6, Bool.true_and, Bool.false_and, Bool.and_true, Bool.and_false, Bool.true_or, Bool.false_or, Bool.or_true, Bool.or_false, Bool.not_true, Bool.not_false, Bool.false_eq_true, ↓reduceIte]
  refine CodeT.seqR ?_
  simp -implicitDefEqProofs (dsimp := false) only [go_sem, simprocAttr, hi, hw, openedV, kOf_eq, g6]
  refine CodeT.cond rfl (fun g7 => ?_) (fun g7 => ?_)
  have d7 := ofDec g7
  refine CodeT.seqR ?_
  simp -implicitDefEqProofs (dsimp := false) only [go_sem, simprocAttr, hi, hw, openedV, kOf_eq, g6, g7]
  refine PureT.eq (c64) rfl ?_
  simp -implicitDefEqProofs (dsimp := false) only [go_sem, simprocAttr, hi, hw, openedV, kOf_eq, g6, g7]
  refine And.intro (by trivial) ?_
  refine CodeT.ret ?_
  simp -implicitDefEqProofs (dsimp := false) only [go_sem, simprocAttr, hi, hw, openedV, kOf_eq, g6, g7]
  refine pureEnd rfl ?_
  simp only [openV, hi, hw, er, wr, fl, zs, opvs, List.map_cons, List.map_nil, otherB, turnB, g6, g7, Bool.true_and, Bool.false_and, Bool.and_true, Bool.and_false, Bool.true_or, Bool.false_or, Bool.or_true, Bool.or_false, Bool.not_true, Bool.not_false, Bool.false_eq_true, ↓reduceIte]
  have d7 := ofDecF g7
  refine CodeT.skip ?_
  simp -implicitDefEqProofs (dsimp := false) only [go_sem, simprocAttr, hi, hw, openedV, kOf_eq, g6, g7]
  refine CodeT.seqR ?_
  simp -implicitDefEqProofs (dsimp := false) only [go_sem, simprocAttr, hi, hw, openedV, kOf_eq, g6, g7]
  refine CodeT.ret ?_
  simp -implicitDefEqProofs (dsimp := false) only [go_sem, simprocAttr, hi, hw, openedV, kOf_eq, g6, g7]
  refine pureEnd rfl ?_
  simp only [openV, hi, hw, er, wr, fl, zs, opvs, List.map_cons, List.map_nil, otherB, turnB, g6, g7, Bool.true_and, Bool.false_and, Bool.and_true, Bool.and_false, Bool.true_or, Bool.false_or, Bool.or_true, Bool.or_false, Bool.not_true, Bool.not_false, Bool.false_eq_true, ↓reduceIte]
def roomV (d : Dsk) : AV :=
  if (!isDiskB d) = true then .tup [er 0, er 281]
  else if (!wrB d) = true then .tup [er 0, er 280]
  else if (!clB d) = true then .tup [er 0, er 280]
  else if (((endB d : Nat) : Int) == (szB d : Nat)) = true then .tup [er 0, er 2]
  else .tup [.val (.int .i64 ((szB d - endB d - 1) / 2 : Nat)), er 0]
theorem c24 (d : Dsk) (hf : Few d) : PureT Try.prog 24 [dkv d] (· = roomV d) := by
  cases hi : isDiskB d
  · refine CallT.intro Try.func24 (by decide) rfl ?_
    simp -implicitDefEqProofs (dsimp := false) only [go_sem, simprocAttr, hi, appendingV, enterTm, Try.ntmps24, List.range'_succ, List.range'_zero, List.zip_cons_cons, List.zip_nil_left]
    refine CodeT.seqR ?_
    simp -implicitDefEqProofs (dsimp := false) only [go_sem, simprocAttr, hi, appendingV]
    refine CodeT.seqR ?_
    simp -implicitDefEqProofs (dsimp := false) only [go_sem, simprocAttr, hi, appendingV]
    refine PureT.eq (c69 _ ?_) rfl ?_
    assumption
    simp -implicitDefEqProofs (dsimp := false) only [go_sem, simprocAttr, hi, appendingV]
    refine CodeT.seq ?_
    refine CodeT.seqR ?_
    simp -implicitDefEqProofs (dsimp := false) only [go_sem, simprocAttr, hi, appendingV]
    refine CodeT.condT rfl ?_
    refine CodeT.seqR ?_
    simp -implicitDefEqProofs (dsimp := false) only [go_sem, simprocAttr, hi, appendingV]
    refine CodeT.ret ?_
    simp -implicitDefEqProofs (dsimp := false) only [go_sem, simprocAttr, hi, appendingV]
    refine pureEnd rfl ?_
    simp only [roomV, hi, er, Bool.true_and, Bool.false_and, Bool.and_true, Bool.and_false, Bool.true_or, Bool.false_or, Bool.or_true, Bool.or_false, Bool.not_true, Bool.not_false, Bool.false_eq_true, ↓reduceIte]
  have hd := disk_facts hi
  cases hw : wrB d
  · refine CallT.intro Try.func24 (by decide) rfl ?_
    simp -implicitDefEqProofs (dsimp := false) only [go_sem, simprocAttr, hi, hw, appendingV, enterTm, Try.ntmps24, List.range'_succ, List.range'_zero, List.zip_cons_cons, List.zip_nil_left]
    refine CodeT.seqR ?_
    simp -implicitDefEqProofs (dsimp := false) only [go_sem, simprocAttr, hi, hw, appendingV]
    refine CodeT.seqR ?_
    simp -implicitDefEqProofs (dsimp := false) only [go_sem, simprocAttr, hi, hw, appendingV]
    refine PureT.eq (c69 _ ?_) rfl ?_
    assumption
    simp -implicitDefEqProofs (dsimp := false) only [go_sem, simprocAttr, hi, hw, appendingV]
    refine CodeT.seq ?_
    refine CodeT.seqR ?_
    simp -implicitDefEqProofs (dsimp := false) only [go_sem, simprocAttr, hi, hw, appendingV]
    refine CodeT.condT rfl ?_
    refine CodeT.seqR ?_
    simp -implicitDefEqProofs (dsimp := false) only [go_sem, simprocAttr, hi, hw, appendingV]
    refine CodeT.ret ?_
    simp -implicitDefEqProofs (dsimp := false) only [go_sem, simprocAttr, hi, hw, appendingV]
    refine pureEnd rfl ?_
    simp only [roomV, hi, hw, er, Bool.true_and, Bool.false_and, Bool.and_true, Bool.and_false, Bool.true_or, Bool.false_or, Bool.or_true, Bool.or_false, Bool.not_true, Bool.not_false, Bool.false_eq_true, ↓reduceIte]
  cases hc : clB d
  · refine CallT.intro Try.func24 (by decide) rfl ?_
    simp -implicitDefEqProofs (dsimp := false) only [go_sem, simprocAttr, hi, hw, hc, appendingV, enterTm, Try.ntmps24, List.range'_succ, List.range'_zero, List.zip_cons_cons, List.zip_nil_left]
    refine CodeT.seqR ?_
    simp -implicitDefEqProofs (dsimp := false) only [go_sem, simprocAttr, hi, hw, hc, appendingV]
    refine CodeT.seqR ?_
    simp -implicitDefEqProofs (dsimp := false) only [go_sem, simprocAttr, hi, hw, hc, appendingV]
    refine PureT.eq (c69 _ ?_) rfl ?_
    assumption
    simp -implicitDefEqProofs (dsimp := false) only [go_sem, simprocAttr, hi, hw, hc, appendingV]
    refine CodeT.seq ?_
    refine CodeT.seqR ?_
    simp -implicitDefEqProofs (dsimp := false) only [go_sem, simprocAttr, hi, hw, hc, appendingV]
    refine CodeT.condT rfl ?_
    refine CodeT.seqR ?_
    simp -implicitDefEqProofs (dsimp := false) only [go_sem, simprocAttr, hi, hw, hc, appendingV]
    refine CodeT.ret ?_
    simp -implicitDefEqProofs (dsimp := false) only [go_sem, simprocAttr, hi, hw, hc, appendingV]
    refine pureEnd rfl ?_
    simp only [roomV, hi, hw, hc, er, Bool.true_and, Bool.false_and, Bool.and_true, Bool.and_false, Bool.true_or, Bool.false_or, Bool.or_true, Bool.or_false, Bool.not_true, Bool.not_false, Bool.false_eq_true, ↓reduceIte]
  refine CallT.intro Try.func24 (by decide) rfl ?_
  simp -implicitDefEqProofs (dsimp := false) only [go_sem, simprocAttr, hi, hw, hc, appendingV, kOf_eq, enterTm, Try.ntmps24, List.range'_succ, List.range'_zero, List.zip_cons_cons, List.zip_nil_left]
  refine CodeT.seqR ?_
  simp -implicitDefEqProofs (dsimp := false) only [go_sem, simprocAttr, hi, hw, hc, appendingV, kOf_eq]
  refine CodeT.seqR ?_
  simp -implicitDefEqProofs (dsimp := false) only [go_sem, simprocAttr, hi, hw, hc, appendingV, kOf_eq]
  refine PureT.eq (c69 _ ?_) rfl ?_
  assumption
  simp -implicitDefEqProofs (dsimp := false) only [go_sem, simprocAttr, hi, hw, hc, appendingV, kOf_eq]
  refine CodeT.seq ?_
  refine CodeT.seqR ?_
  simp -implicitDefEqProofs (dsimp := false) only [go_sem, simprocAttr, hi, hw, hc, appendingV, kOf_eq]
  refine CodeT.condF rfl ?_
  refine CodeT.skip ?_
  simp -implicitDefEqProofs (dsimp := false) only [go_sem, simprocAttr, hi, hw, hc, appendingV, kOf_eq]
  refine CodeT.seq ?_
  refine CodeT.seqR ?_
  simp -implicitDefEqProofs (dsimp := false) only [go_sem, simprocAttr, hi, hw, hc, appendingV, kOf_eq]
  refine PureT.eq (c66s _ hi) rfl ?_
  simp -implicitDefEqProofs (dsimp := false) only [go_sem, simprocAttr, hi, hw, hc, appendingV, kOf_eq]
  refine CodeT.cond rfl (fun g3 => ?_) (fun g3 => ?_)
  have d3 := ofBeq g3
  refine CodeT.seqR ?_
  simp -implicitDefEqProofs (dsimp := false) only [go_sem, simprocAttr, hi, hw, hc, appendingV, kOf_eq, g3]
  refine CodeT.ret ?_
  simp -implicitDefEqProofs (dsimp := false) only [go_sem, simprocAttr, hi, hw, hc, appendingV, kOf_eq, g3]
  refine pureEnd rfl ?_
  simp only [roomV, hi, hw, hc, er, g3, Bool.true_and, Bool.false_and, Bool.and_true, Bool.and_false, Bool.true_or, Bool.false_or, Bool.or_true, Bool.or_false, Bool.not_true, Bool.not_false, Bool.false_eq_true, ↓reduceIte]
  have d3 := ofBeqF g3
  refine CodeT.skip ?_
  simp -implicitDefEqProofs (dsimp := false) only [go_sem, simprocAttr, hi, hw, hc, appendingV, kOf_eq, g3]
  refine CodeT.seqR ?_
  simp -implicitDefEqProofs (dsimp := false) only [go_sem, simprocAttr, hi, hw, hc, appendingV, kOf_eq, g3]
  refine PureT.eq (c66s _ hi) rfl ?_
  simp -implicitDefEqProofs (dsimp := false) only [go_sem, simprocAttr, hi, hw, hc, appendingV, kOf_eq, g3]
  refine CodeT.ret ?_
  simp -implicitDefEqProofs (dsimp := false) only [go_sem, simprocAttr, hi, hw, hc, appendingV, kOf_eq, g3]
  refine pureEnd rfl ?_
  simp -implicitDefEqProofs (dsimp := false) (disch := omega) only [i64_in, bs_getD, opvs_getD, is64_getD, bss_getD]
  rotate_left
  · have h1 : (szB d : Int) - (endB d : Nat) - 1 = ((szB d - endB d - 1 : Nat) : Int) := by omega
    rw [h1, half_len (by omega)]
    simp only [roomV, hi, hw, hc, er, show (((endB d : Nat) : Int) == ((szB d : Nat) : Int)) = false by assumption, Bool.not_true, Bool.false_eq_true, ↓reduceIte]
def sizeI (n : Int) : Bool := (n.tmod 2 == 1) && decide (n.tdiv 2 ≥ 64) && decide (n.tdiv 2 ≤ 1048576)
theorem sizeI_eq (n : Int) : sizeI n = (decide (0 ≤ n) && sizeB n.toNat) := by
  unfold sizeI sizeB
  rcases Int.le_total 0 n with h | h
  · obtain ⟨m, rfl⟩ := Int.eq_ofNat_of_zero_le h
    have h1 : (m : Int).tmod 2 = ((m % 2 : Nat) : Int) := (Int.ofNat_tmod m 2).symm
    have h2 : (m : Int).tdiv 2 = ((m / 2 : Nat) : Int) := (Int.ofNat_tdiv m 2).symm
    rw [h1, h2, Int.toNat_natCast, Bool.eq_iff_iff]
    simp
    omega
  · by_cases h0 : n = 0
    · subst h0; rfl
    · have h1 : (0 : Int) ≤ (-n).tdiv 2 := Int.tdiv_nonneg (by omega) (by omega)
      rw [Int.neg_tdiv] at h1
      have h2 : decide (n.tdiv 2 ≥ 64) = false := by simp; omega
      have h3 : decide (0 ≤ n) = false := by simp; omega
      rw [h2, h3]; simp
theorem tdiv2_small {n : Int} (h1 : -9223372036854775808 ≤ n) (h2 : n ≤ 9223372036854775807) : IntKind.i64.wrap (n.tdiv 2) = n.tdiv 2 := by
  rcases Int.le_total 0 n with h | h
  · obtain ⟨m, rfl⟩ := Int.eq_ofNat_of_zero_le h
    have h3 : (m : Int).tdiv 2 = ((m / 2 : Nat) : Int) := (Int.ofNat_tdiv m 2).symm
    rw [h3, i64_in] <;> omega
  · obtain ⟨m, hm⟩ := Int.eq_ofNat_of_zero_le (show 0 ≤ -n by omega)
    have h3 : (m : Int).tdiv 2 = ((m / 2 : Nat) : Int) := (Int.ofNat_tdiv m 2).symm
    have h4 : n = -(m : Int) := by omega
    rw [h4, Int.neg_tdiv, h3, i64_in] <;> omega
theorem c80i (n : Int) (h1 : -9223372036854775808 ≤ n) (h2 : n ≤ 9223372036854775807) : PureT Try.prog 80 [.val (.int .i64 n)] (· = .val (.bool (sizeI n))) := by
  have hw := tdiv2_small h1 h2
  refine CallT.intro Try.func80 (by decide) rfl ?_
  simp -implicitDefEqProofs (dsimp := false) only [go_sem, simprocAttr, hw, enterTm, Try.ntmps80, List.range'_succ, List.range'_zero, List.zip_cons_cons, List.zip_nil_left]
  refine CodeT.seqR ?_
  simp -implicitDefEqProofs (dsimp := false) only [go_sem, simprocAttr, hw]
  refine CodeT.seqR ?_
  simp -implicitDefEqProofs (dsimp := false) only [go_sem, simprocAttr, hw]
  refine gif_i (fun g3 => ?_) (fun g3 => ?_)
  have d3 := ofBeq g3
  simp -implicitDefEqProofs (dsimp := false) only [go_sem, simprocAttr, hw, g3]
  refine gif_i (fun g4 => ?_) (fun g4 => ?_)
  have d4 := ofDec g4
  simp -implicitDefEqProofs (dsimp := false) only [go_sem, simprocAttr, hw, g3, g4]
  refine CodeT.ret ?_
  simp -implicitDefEqProofs (dsimp := false) only [go_sem, simprocAttr, hw, g3, g4]
  refine pureEnd rfl ?_
  simp only [sizeI, g3, g4, Bool.true_and, Bool.false_and, Bool.and_true, Bool.and_false, Bool.true_or, Bool.false_or, Bool.or_true, Bool.or_false, Bool.not_true, Bool.not_false, Bool.false_eq_true, ↓reduceIte]
  have d4 := ofDecF g4
  simp -implicitDefEqProofs (dsimp := false) only [go_sem, simprocAttr, hw, g3, g4]
  refine CodeT.ret ?_
  simp -implicitDefEqProofs (dsimp := false) only [go_sem, simprocAttr, hw, g3, g4]
  refine pureEnd rfl ?_
  simp only [sizeI, g3, g4, Bool.true_and, Bool.false_and, Bool.and_true, Bool.and_false, Bool.true_or, Bool.false_or, Bool.or_true, Bool.or_false, Bool.not_true, Bool.not_false, Bool.false_eq_true, ↓reduceIte]
  have d3 := ofBeqF g3
  simp -implicitDefEqProofs (dsimp := false) only [go_sem, simprocAttr, hw, g3]
  refine CodeT.ret ?_
  simp -implicitDefEqProofs (dsimp := false) only [go_sem, simprocAttr, hw, g3]
  refine pureEnd rfl ?_
  simp only [sizeI, g3, Bool.true_and, Bool.false_and, Bool.and_true, Bool.and_false, Bool.true_or, Bool.false_or, Bool.or_true, Bool.or_false, Bool.not_true, Bool.not_false, Bool.false_eq_true, ↓reduceIte]
def newV (n : Int) : AV := if (!sizeI n) = true then .tup [dkv ⟨[], []⟩, er 1] else .tup [dkv ⟨zs n.toNat, []⟩, er 0]
theorem c38 (n : Int) (h1 : -9223372036854775808 ≤ n) (h2 : n ≤ 9223372036854775807) : PureT Try.prog 38 [.val (.int .i64 n)] (· = newV n) := by
  refine CallT.res (CallT.laxR ?_)
  have hs := sizeI_eq n
  cases hz : sizeI n
  · refine CallT.intro Try.func38 (by decide) rfl ?_
    simp -implicitDefEqProofs (dsimp := false) only [go_sem, simprocAttr, hz, enterTm, Try.ntmps38, List.range'_succ, List.range'_zero, List.zip_cons_cons, List.zip_nil_left]
    refine CodeT.seqR ?_
    simp -implicitDefEqProofs (dsimp := false) only [go_sem, simprocAttr, hz]
    refine CodeT.seq ?_
    refine CodeT.seqR ?_
    simp -implicitDefEqProofs (dsimp := false) only [go_sem, simprocAttr, hz]
    refine PureT.eq (c80i _ h1 h2) rfl ?_
    simp -implicitDefEqProofs (dsimp := false) only [go_sem, simprocAttr, hz]
    refine CodeT.condT rfl ?_
    refine CodeT.seqR ?_
    simp -implicitDefEqProofs (dsimp := false) only [go_sem, simprocAttr, hz]
    refine CodeT.ret ?_
    simp -implicitDefEqProofs (dsimp := false) only [go_sem, simprocAttr, hz]
    refine pureEnd rfl ?_
    rotate_left
    simp only [newV, hz, Bool.not_false, ↓reduceIte]
    rfl
  rw [hz] at hs
  simp [sizeB] at hs
  refine CallT.intro Try.func38 (by decide) rfl ?_
  simp -implicitDefEqProofs (dsimp := false) only [go_sem, simprocAttr, hz, enterTm, Try.ntmps38, List.range'_succ, List.range'_zero, List.zip_cons_cons, List.zip_nil_left]
  refine CodeT.seqR ?_
  simp -implicitDefEqProofs (dsimp := false) only [go_sem, simprocAttr, hz]
  refine CodeT.seq ?_
  refine CodeT.seqR ?_
  simp -implicitDefEqProofs (dsimp := false) only [go_sem, simprocAttr, hz]
  refine PureT.eq (c80i _ h1 h2) rfl ?_
  simp -implicitDefEqProofs (dsimp := false) only [go_sem, simprocAttr, hz]
  refine CodeT.condF rfl ?_
  refine CodeT.skip ?_
  simp -implicitDefEqProofs (dsimp := false) only [go_sem, simprocAttr, hz]
  refine CodeT.seqR ?_
  simp -implicitDefEqProofs (dsimp := false) only [go_sem, simprocAttr, hz]
  refine And.intro (by omega) ?_
  refine And.intro (by omega) ?_
  refine And.intro (by omega) ?_
  refine CodeT.ret ?_
  simp -implicitDefEqProofs (dsimp := false) only [go_sem, simprocAttr, hz]
  refine And.intro (by omega) ?_
  refine pureEnd rfl ?_
  rotate_left
  simp only [newV, hz, Bool.not_true, Bool.false_eq_true, ↓reduceIte]
  rfl
end Go.Proofs.Try

namespace Go.Proofs.Try
set_option linter.unusedSimpArgs false
set_option linter.unusedVariables false
open Go.PM
set_option maxHeartbeats 4000000
theorem c55d (l : List UInt8) (hl : l.length ≤ 4000000) : CallT Try.prog 55 [.sl false (bs l)] [] (fun r h' => r = .ret (.hsl 0 1 0 l.length) ∧ h' = [.row true 1 1 (bs l)]) := by
  have hnil : (bs l ≠ [] → true = false) → l = [] := fun h => by
    cases l with
    | nil => rfl
    | cons x l => exact absurd (h (by simp [bs])) (by simp)
  refine CallT.intro Try.func55 (by decide) rfl ?_
  simp -implicitDefEqProofs (dsimp := false) only [go_sem, simprocAttr, enterTm, Try.ntmps55, List.range'_succ, List.range'_zero, List.zip_cons_cons, List.zip_nil_left]
  refine CodeT.seqR ?_
  simp -implicitDefEqProofs (dsimp := false) only [go_sem, simprocAttr]
  refine CodeT.seq ?_
  refine CodeT.seqR ?_
  simp -implicitDefEqProofs (dsimp := false) only [go_sem, simprocAttr]
  intro b1
  intro hb2
  refine CodeT.cond rfl (fun g3 => ?_) (fun g3 => ?_)
  refine CodeT.seqR ?_
  simp -implicitDefEqProofs (dsimp := false) only [go_sem, simprocAttr, g3]
  first | refine CodeT.promoteV 2 1 1 rfl ?_ | skip
  refine CodeT.ret ?_
  simp -implicitDefEqProofs (dsimp := false) only [go_sem, simprocAttr, g3]
  refine And.intro ?_ ?_
  rotate_left
  rotate_left
  refine CodeT.skip ?_
  simp -implicitDefEqProofs (dsimp := false) only [go_sem, simprocAttr, g3]
  refine CodeT.seqR ?_
  simp -implicitDefEqProofs (dsimp := false) only [go_sem, simprocAttr, g3]
  refine And.intro (by trivial) ?_
  refine And.intro (by exact uni_bs _) ?_
  refine And.intro (by omega) ?_
  first | refine CodeT.promoteV 2 1 1 rfl ?_ | skip
  refine CodeT.ret ?_
  simp -implicitDefEqProofs (dsimp := false) only [go_sem, simprocAttr, g3]
  · obtain rfl := hnil (by rw [← g3]; exact hb2)
    rfl
  · obtain rfl := hnil (by rw [← g3]; exact hb2)
    rfl
theorem c55p (l : List UInt8) (hl : l.length ≤ 4000000) : PureT Try.prog 55 [.sl false (bs l)] (· = .sl false (bs l)) := by
  refine CallT.res ?_
  refine (c55d l hl).mono ?_
  rintro r h' ⟨rfl, rfl⟩
  simp -implicitDefEqProofs only [go_sem]
  refine ⟨by simp [bs_length], rfl, _, rfl, ?_⟩
  simp [bs]
theorem opv_shift (n : Nat) (o : DOp) : (opv o).shift n = opv o := rfl
theorem dkv_shift (n : Nat) (o : Dsk) : (dkv o).shift n = dkv o := rfl
attribute [go_sem] opv_shift dkv_shift
end Go.Proofs.Try

namespace Go.Proofs.Try
set_option linter.unusedSimpArgs false
set_option linter.unusedVariables false
open Go.PM
set_option maxHeartbeats 4000000

theorem take_map_succ {α β : Type} (g : α → β) (q : List α) (i : Nat) (x : α) (h : i < q.length) : (q.take (i + 1)).map g = (q.take i).map g ++ [g (q.getD i x)] := by
  rw [List.take_add_one, List.map_append, List.getElem?_eq_getElem h]
  simp [List.getD_eq_getElem?_getD, h]
theorem c56d (q : List DOp) (f : FuncId) (g : DOp → DOp) (hf : ∀ o ∈ q, PureT Try.prog f [opv o] (· = opv (g o))) (hq : q.length ≤ 4000000) : CallT Try.prog 56 [.sl false (opvs q), .fn f []] [] (fun r h' => r = .ret (.hsl 0 q.length 0 q.length) ∧ h' = [.row true q.length 3 (opvs (q.map g))]) := by
  refine CallT.less ?_
  refine CallT.intro Try.func56 (by decide) rfl ?_
  simp -implicitDefEqProofs (dsimp := false) only [go_sem, simprocAttr, enterTm, Try.ntmps56, List.range'_succ, List.range'_zero, List.zip_cons_cons, List.zip_nil_left]
  refine CodeT.seqR ?_
  simp -implicitDefEqProofs (dsimp := false) only [go_sem, simprocAttr]
  refine CodeT.seqR ?_
  simp -implicitDefEqProofs (dsimp := false) only [go_sem, simprocAttr]
  refine CodeT.seq ?_
  refine CodeT.seqR ?_
  simp -implicitDefEqProofs (dsimp := false) only [go_sem, simprocAttr]
  refine CodeT.block ?_
  refine CodeT.promote 5 3 rfl ?_
  simp -implicitDefEqProofs (dsimp := false) only [go_sem, simprocAttr]
  refine CodeT.whileS (fun i : Nat => [(10, .val (.int .i64 (i : Nat))), (5, .hsl 0 i 0 i)]) [9, 8, 1] (fun i : Nat => [.row true i 3 (opvs ((q.take i).map g))]) (fun i : Nat => i ≤ q.length) (fun i : Nat => q.length - i) (0) ?_ rfl ?_ ?_
  omega
  refine ⟨rfl, ?_, ?_, rfl, ?_⟩
  simp -implicitDefEqProofs (dsimp := false) only [go_sem, simprocAttr, or_true, true_or, false_or, or_false, implies_true, Int.natCast_add, Int.cast_ofNat_Int, keepsD_nil]
  trivial
  simp -implicitDefEqProofs (dsimp := false) only [go_sem, simprocAttr, or_true, true_or, false_or, or_false, implies_true, Int.natCast_add, Int.cast_ofNat_Int, keepsD_nil]
  trivial
  simp -implicitDefEqProofs (dsimp := false) only [go_sem, simprocAttr, or_true, true_or, false_or, or_false, implies_true, Int.natCast_add, Int.cast_ofNat_Int, keepsD_nil]
  rintro i hi
  have f1 : i < q.length → q.getD i op0 ∈ q := fun h => by simp [List.getD_eq_getElem?_getD, h]
  simp -implicitDefEqProofs (dsimp := false) only [go_sem, simprocAttr]
  refine CodeT.seqR ?_
  simp -implicitDefEqProofs (dsimp := false) only [go_sem, simprocAttr]
  refine CodeT.seq (CodeT.cond rfl (fun g1 => ?_) (fun g1 => ?_))
  have d1 := ofDec g1
  refine CodeT.skip ?_
  simp -implicitDefEqProofs (dsimp := false) only [go_sem, simprocAttr, g1]
  refine CodeT.seq (CodeT.block ?_)
  refine CodeT.seqR ?_
  simp -implicitDefEqProofs (dsimp := false) only [go_sem, simprocAttr, g1]
  refine gate_i ?_ ?_
  omega
  simp -implicitDefEqProofs (dsimp := false) (disch := omega) only [Int.toNat_natCast, i64_in, bs_getD, opvs_getD, is64_getD, bss_getD]
  simp -implicitDefEqProofs (dsimp := false) only [go_sem, simprocAttr, g1]
  refine CodeT.region ?_
  simp -implicitDefEqProofs (dsimp := false) only [go_sem, simprocAttr, g1]
  refine PureT.eq (hf _ ?_) rfl ?_
  exact f1 (by omega)
  simp -implicitDefEqProofs (dsimp := false) only [go_sem, simprocAttr, g1]
  refine And.intro (by trivial) ?_
  refine And.intro (by exact uni_opvs [_]) ?_
  refine And.intro (by omega) ?_
  refine And.intro (by omega) ?_
  refine CodeT.region ?_
  simp -implicitDefEqProofs (dsimp := false) only [go_sem, simprocAttr, g1]
  simp -implicitDefEqProofs (dsimp := false) (disch := omega) only [i64_in, bs_getD, opvs_getD, is64_getD, bss_getD]
  refine ⟨i + 1, ?_⟩
  refine And.intro ?_ ?_
  omega
  refine And.intro ?_ ?_
  omega
  refine ⟨rfl, ?_, ?_, rfl, ?_⟩
  simp -implicitDefEqProofs (dsimp := false) only [go_sem, simprocAttr, g1, or_true, true_or, false_or, or_false, implies_true, Int.natCast_add, Int.cast_ofNat_Int, keepsD_nil]
  refine And.intro ?_ ?_
  (congr 1 <;> omega)
  trivial
  simp -implicitDefEqProofs (dsimp := false) only [go_sem, simprocAttr, g1, or_true, true_or, false_or, or_false, implies_true, Int.natCast_add, Int.cast_ofNat_Int, keepsD_nil]
  rotate_left
  simp -implicitDefEqProofs (dsimp := false) only [go_sem, simprocAttr, g1, or_true, true_or, false_or, or_false, implies_true, Int.natCast_add, Int.cast_ofNat_Int, keepsD_nil]
  have d1 := ofDecF g1
  refine CodeT.exit ?_
  simp -implicitDefEqProofs (dsimp := false) only [go_sem, simprocAttr, g1]
  refine CodeT.seqR ?_
  simp -implicitDefEqProofs (dsimp := false) only [go_sem, simprocAttr, g1]
  refine CodeT.ret ?_
  simp -implicitDefEqProofs (dsimp := false) only [go_sem, simprocAttr, g1]
  rotate_left
  · rw [take_map_succ g q i op0 (by omega)]
  · have hi' : i = q.length := by omega
    subst hi'
    refine ⟨_, ?_, Nat.zero_le _, ?_, rfl, rfl⟩
    · rw [List.take_length]; exact ⟨.inr ⟨rfl, rfl⟩, trivial⟩
    · rfl
/-- One of the things that are done with a disk. -/
def doStep (d : Dsk) (o : DOp) : Dsk := if o.flush = true then ⟨seenB d, []⟩ else ⟨d.bytes, d.queue ++ [o]⟩
def doB (d : Dsk) (ops : List DOp) : Dsk := ops.foldl doStep d
theorem doB_succ (d : Dsk) (ops : List DOp) (i : Nat) (h : i < ops.length) : doB d (ops.take (i + 1)) = doStep (doB d (ops.take i)) (ops.getD i op0) := by
  unfold doB
  rw [List.take_add_one, List.foldl_append, List.getElem?_eq_getElem h]
  simp [List.getD_eq_getElem?_getD, h]
theorem within_snoc {n : Nat} {q : List DOp} {o : DOp} (h : within n q) (h1 : 0 ≤ o.at_) (h2 : o.at_ + o.bytes.length ≤ n) : within n (q ++ [o]) := by
  intro i hi
  by_cases hlt : i < q.length
  · have := h i hlt
    rw [List.getD_eq_getElem?_getD, List.getElem?_append_left hlt, ← List.getD_eq_getElem?_getD]
    exact this
  · have hi' : i = q.length := by simp at hi; omega
    subst hi'
    rw [List.getD_eq_getElem?_getD, List.getElem?_append_right (Nat.le_refl _)]
    simpa using ⟨h1, h2⟩
theorem within_nil (n : Nat) : within n [] := fun i hi => absurd hi (Nat.not_lt_zero _)
theorem doB_ok {d : Dsk} (hi : isDiskB d = true) {ops : List DOp} (hf : ∀ o ∈ ops, fitsB o d.bytes.length = true) : ∀ i, i ≤ ops.length → (doB d (ops.take i)).bytes.length = d.bytes.length ∧ within d.bytes.length (doB d (ops.take i)).queue ∧ (doB d (ops.take i)).queue.length ≤ d.queue.length + i := by
  intro i
  induction i with
  | zero =>
    intro _
    exact ⟨rfl, (isDisk_ok hi).2, Nat.le_refl _⟩
  | succ i ih =>
    intro h
    obtain ⟨h1, h2, h3⟩ := ih (by omega)
    rw [doB_succ d ops i (by omega)]
    have hm : ops.getD i op0 ∈ ops := by
      have : i < ops.length := by omega
      simp [List.getD_eq_getElem?_getD, this]
    have hfo := hf _ hm
    generalize ops.getD i op0 = o at hfo
    unfold doStep
    split
    · refine ⟨?_, within_nil _, by simp⟩
      show (seenB _).length = _
      rw [seenB_length (by rw [h1]; exact h2), h1]
    · rename_i hfl
      have hfl' : o.flush = false := by simpa using hfl
      simp [fitsB, hfl'] at hfo
      refine ⟨h1, within_snoc h2 hfo.1.1.2 (by omega), by simp; omega⟩
def badArg (d : Dsk) (ops : List DOp) : Bool := ops.any fun o => !fitsB o d.bytes.length
def doV (d : Dsk) (ops : List DOp) : AV :=
  if (!isDiskB d) = true then .tup [dkv ⟨[], []⟩, er 281]
  else if badArg d ops = true then .tup [dkv ⟨[], []⟩, er 1]
  else .tup [dkv (doB d ops), er 0]
theorem c52s (d : Dsk) (ops : List DOp) (hd : d.bytes.length ≤ 4000000) (ho : ops.length ≤ 4000000) : PureT Try.prog 52 [.sl false (opvs ops), .fn 53 [dcp d]] (· = .val (.bool (badArg d ops))) :=
  c52 ops 53 [dcp d] rfl _ (fun o _ => c53 d o hd) ho
theorem c56i (q : List DOp) (hb : ∀ o ∈ q, o.bytes.length ≤ 4000000) (hq : q.length ≤ 4000000) : CallT Try.prog 56 [.sl false (opvs q), .fn 57 []] [] (fun r h' => r = .ret (.hsl 0 q.length 0 q.length) ∧ h' = [.row true q.length 3 (opvs q)]) := by
  have := c56d q 57 (fun o => o) (fun o ho => c57 o (hb o ho)) hq
  rwa [List.map_id'] at this
theorem c17 (d : Dsk) (ops : List DOp) (hf : Few d) (ho : ops.length ≤ 1000000) (hq : d.queue.length ≤ 1000000) (hb : ∀ o ∈ ops, o.bytes.length ≤ 4000000) (hb' : ∀ o ∈ d.queue, o.bytes.length ≤ 4000000) : PureT Try.prog 17 [dkv d, .sl false (opvs ops)] (· = doV d ops) := by
  refine CallT.res (CallT.laxR ?_)
  have h1 := hf.b
  cases hi : isDiskB d
  · refine CallT.intro Try.func17 (by decide) rfl ?_
    simp -implicitDefEqProofs (dsimp := false) only [go_sem, simprocAttr, hi, enterTm, Try.ntmps17, List.range'_succ, List.range'_zero, List.zip_cons_cons, List.zip_nil_left]
    refine CodeT.seqR ?_
    simp -implicitDefEqProofs (dsimp := false) only [go_sem, simprocAttr, hi]
    refine CodeT.seq ?_
    refine CodeT.seqR ?_
    simp -implicitDefEqProofs (dsimp := false) only [go_sem, simprocAttr, hi]
    refine PureT.eq (c51 _ ?_ ?_) rfl ?_
    assumption
    omega
    simp -implicitDefEqProofs (dsimp := false) only [go_sem, simprocAttr, hi]
    refine CodeT.condT rfl ?_
    refine CodeT.seqR ?_
    simp -implicitDefEqProofs (dsimp := false) only [go_sem, simprocAttr, hi]
    refine CodeT.ret ?_
    simp -implicitDefEqProofs (dsimp := false) only [go_sem, simprocAttr, hi]
    refine pureEnd rfl ?_
    rotate_left
    simp only [doV, hi, Bool.not_false, ↓reduceIte]; rfl
  cases hbad : badArg d ops
  case true =>
    refine CallT.intro Try.func17 (by decide) rfl ?_
    simp -implicitDefEqProofs (dsimp := false) only [go_sem, simprocAttr, hi, hbad, enterTm, Try.ntmps17, List.range'_succ, List.range'_zero, List.zip_cons_cons, List.zip_nil_left]
    refine CodeT.seqR ?_
    simp -implicitDefEqProofs (dsimp := false) only [go_sem, simprocAttr, hi, hbad]
    refine CodeT.seq ?_
    refine CodeT.freeze 2 ?_
    simp -implicitDefEqProofs (dsimp := false) only [go_sem, simprocAttr, hi, hbad]
    refine CodeT.seqR ?_
    simp -implicitDefEqProofs (dsimp := false) only [go_sem, simprocAttr, hi, hbad]
    refine PureT.eq (c51 _ ?_ ?_) rfl ?_
    assumption
    omega
    simp -implicitDefEqProofs (dsimp := false) only [go_sem, simprocAttr, hi, hbad]
    refine CodeT.condF rfl ?_
    refine CodeT.skip ?_
    simp -implicitDefEqProofs (dsimp := false) only [go_sem, simprocAttr, hi, hbad]
    refine CodeT.seq ?_
    refine CodeT.seqR ?_
    simp -implicitDefEqProofs (dsimp := false) only [go_sem, simprocAttr, hi, hbad]
    refine PureT.eq (c52s _ _ ?_ ?_) rfl ?_
    assumption
    omega
    simp -implicitDefEqProofs (dsimp := false) only [go_sem, simprocAttr, hi, hbad]
    refine CodeT.condT rfl ?_
    refine CodeT.seqR ?_
    simp -implicitDefEqProofs (dsimp := false) only [go_sem, simprocAttr, hi, hbad]
    refine CodeT.ret ?_
    simp -implicitDefEqProofs (dsimp := false) only [go_sem, simprocAttr, hi, hbad]
    refine pureEnd rfl ?_
    rotate_left
    simp only [doV, hi, hbad, Bool.not_true, Bool.false_eq_true, ↓reduceIte]; rfl
  have hfit : ∀ o ∈ ops, fitsB o d.bytes.length = true := fun o ho => by
    have := List.any_eq_false.1 hbad o ho
    simpa using this
  have hsm := isDisk_small hi
  have hz := (isDisk_ok hi).1.z
  refine CallT.intro Try.func17 (by decide) rfl ?_
  simp -implicitDefEqProofs (dsimp := false) only [go_sem, simprocAttr, hi, hbad, dcp, kpv, enterTm, Try.ntmps17, List.range'_succ, List.range'_zero, List.zip_cons_cons, List.zip_nil_left]
  refine CodeT.seqR ?_
  simp -implicitDefEqProofs (dsimp := false) only [go_sem, simprocAttr, hi, hbad, dcp, kpv]
  refine CodeT.seq ?_
  refine CodeT.freeze 2 ?_
  simp -implicitDefEqProofs (dsimp := false) only [go_sem, simprocAttr, hi, hbad, dcp, kpv]
  refine CodeT.seqR ?_
  simp -implicitDefEqProofs (dsimp := false) only [go_sem, simprocAttr, hi, hbad, dcp, kpv]
  refine PureT.eq (c51 _ ?_ ?_) rfl ?_
  assumption
  omega
  simp -implicitDefEqProofs (dsimp := false) only [go_sem, simprocAttr, hi, hbad, dcp, kpv]
  refine CodeT.condF rfl ?_
  refine CodeT.skip ?_
  simp -implicitDefEqProofs (dsimp := false) only [go_sem, simprocAttr, hi, hbad, dcp, kpv]
  refine CodeT.seq ?_
  refine CodeT.seqR ?_
  simp -implicitDefEqProofs (dsimp := false) only [go_sem, simprocAttr, hi, hbad, dcp, kpv]
  refine PureT.eq (c52s _ _ ?_ ?_) rfl ?_
  assumption
  omega
  simp -implicitDefEqProofs (dsimp := false) only [go_sem, simprocAttr, hi, hbad, dcp, kpv]
  refine CodeT.condF rfl ?_
  refine CodeT.skip ?_
  simp -implicitDefEqProofs (dsimp := false) only [go_sem, simprocAttr, hi, hbad, dcp, kpv]
  refine CodeT.seqL [7] [(0, .free), (3, .free), (1, .read), (2, .free), (4, .read), (5, .upd), (6, .free), (7, .upd), (8, .set)] mixed (by kernel_rfl) ?_
  simp -implicitDefEqProofs (dsimp := false) only [go_sem, simprocAttr, hi, hbad, dcp, kpv]
  refine CallF.go (c55p _ ?_) rfl ?_
  assumption
  simp -implicitDefEqProofs (dsimp := false) only [go_sem, simprocAttr, hi, hbad, dcp, kpv]
  refine ⟨⟨_, Try.func56, by decide, rfl⟩, Or.inl ?_⟩
  simp -implicitDefEqProofs (dsimp := false) only [go_sem, simprocAttr, hi, hbad, dcp, kpv]
  refine CallY.go (CallT.liftEq (c56i _ ?_ ?_) rfl) ?_
  assumption
  omega
  simp -implicitDefEqProofs (dsimp := false) only [go_sem, simprocAttr, hi, hbad, dcp, kpv]
  refine And.intro (by exact Stable.append [_, _] [_]) ?_
  refine And.intro (by exact Stable.same (Stable.same (Stable.same (Stable.nil _)))) ?_
  refine CodeT.seq ?_
  refine CodeT.seqR ?_
  simp -implicitDefEqProofs (dsimp := false) only [go_sem, simprocAttr, hi, hbad, dcp, kpv]
  refine CodeT.block ?_
  refine CodeT.whileS (fun x : Nat × Nat => [(26, .val (.int .i64 (x.1 : Nat)))]) [25, 24, 6, 4] (fun x : Nat × Nat => [.dead, .cells [.sl true [], .sl true []], .row true x.2 3 (opvs (doB d (ops.take x.1)).queue), .cells [.sl false (bs (doB d (ops.take x.1)).bytes), .hsl 2 x.2 0 (doB d (ops.take x.1)).queue.length]]) (fun x : Nat × Nat => x.1 ≤ ops.length) (fun x : Nat × Nat => ops.length - x.1) ((0, d.queue.length)) ?_ rfl ?_ ?_
  omega
  refine ⟨rfl, ?_, ?_, rfl, ?_⟩
  simp -implicitDefEqProofs (dsimp := false) only [go_sem, simprocAttr, hi, hbad, dcp, kpv, or_true, true_or, false_or, or_false, implies_true, Int.natCast_add, Int.cast_ofNat_Int, keepsD_nil]
  refine And.intro ?_ ?_
  trivial
  trivial
  simp -implicitDefEqProofs (dsimp := false) only [go_sem, simprocAttr, hi, hbad, dcp, kpv, or_true, true_or, false_or, or_false, implies_true, Int.natCast_add, Int.cast_ofNat_Int, keepsD_nil]
  refine And.intro ?_ ?_
  trivial
  refine And.intro ?_ ?_
  trivial
  trivial
  simp -implicitDefEqProofs (dsimp := false) only [go_sem, simprocAttr, hi, hbad, dcp, kpv, or_true, true_or, false_or, or_false, implies_true, Int.natCast_add, Int.cast_ofNat_Int, keepsD_nil]
  rintro ⟨i, v⟩ hx
  obtain ⟨f3, f4, f5⟩ := doB_ok hi hfit i hx
  rw [← f3] at f4
  have f6 := doB_succ d ops i
  have f1 : i < ops.length → (ops.getD i op0).bytes.length ≤ 4000000 := fun h => hb _ (by simp [List.getD_eq_getElem?_getD, h])
  have f7 : i = ops.length → doB d (ops.take i) = doB d ops := fun h => by rw [h, List.take_length]
  generalize doB d (ops.take i) = D at *
  simp -implicitDefEqProofs (dsimp := false) only [go_sem, simprocAttr, hi, hbad, dcp, kpv]
  refine CodeT.seqR ?_
  simp -implicitDefEqProofs (dsimp := false) only [go_sem, simprocAttr, hi, hbad, dcp, kpv]
  refine CodeT.seq (CodeT.cond rfl (fun g4 => ?_) (fun g4 => ?_))
  have d4 := ofDec g4
  refine CodeT.skip ?_
  simp -implicitDefEqProofs (dsimp := false) only [go_sem, simprocAttr, hi, hbad, dcp, kpv, g4]
  refine CodeT.seq (CodeT.block ?_)
  refine CodeT.seqR ?_
  simp -implicitDefEqProofs (dsimp := false) only [go_sem, simprocAttr, hi, hbad, dcp, kpv, g4]
  refine gate_i ?_ ?_
  omega
  simp -implicitDefEqProofs (dsimp := false) (disch := omega) only [Int.toNat_natCast, i64_in, bs_getD, opvs_getD, is64_getD, bss_getD]
  simp -implicitDefEqProofs (dsimp := false) only [go_sem, simprocAttr, hi, hbad, dcp, kpv, g4]
  refine CodeT.seqR ?_
  simp -implicitDefEqProofs (dsimp := false) only [go_sem, simprocAttr, hi, hbad, dcp, kpv, g4]
  refine CodeT.cond rfl (fun g5 => ?_) (fun g5 => ?_)
  refine CodeT.region ?_
  simp -implicitDefEqProofs (dsimp := false) only [go_sem, simprocAttr, hi, hbad, dcp, kpv, g4, g5]
  refine CallT.args ⟨_, Try.func58, by decide, rfl⟩ ?_
  simp -implicitDefEqProofs (dsimp := false) only [go_sem, simprocAttr, hi, hbad, dcp, kpv, g4, g5]
  refine And.intro (by omega) ?_
  refine PureT.eq (c58 _ ?_ ?_ ?_ ?_) rfl ?_
  assumption
  omega
  omega
  omega
  simp -implicitDefEqProofs (dsimp := false) only [go_sem, simprocAttr, hi, hbad, dcp, kpv, g4, g5]
  first | refine CodeT.renilBox 3 1 2 rfl rfl rfl ?_ | skip
  simp -implicitDefEqProofs (dsimp := false) only [go_sem, simprocAttr, hi, hbad, dcp, kpv, g4, g5]
  refine CodeT.region ?_
  simp -implicitDefEqProofs (dsimp := false) only [go_sem, simprocAttr, hi, hbad, dcp, kpv, g4, g5]
  simp -implicitDefEqProofs (dsimp := false) (disch := omega) only [i64_in, bs_getD, opvs_getD, is64_getD, bss_getD]
  refine ⟨(i + 1, v + 1), ?_⟩
  refine And.intro ?_ ?_
  omega
  refine And.intro ?_ ?_
  omega
  refine ⟨rfl, ?_, ?_, rfl, ?_⟩
  simp -implicitDefEqProofs (dsimp := false) only [go_sem, simprocAttr, hi, hbad, dcp, kpv, g4, g5, or_true, true_or, false_or, or_false, implies_true, Int.natCast_add, Int.cast_ofNat_Int, keepsD_nil]
  refine And.intro ?_ ?_
  trivial
  trivial
  simp -implicitDefEqProofs (dsimp := false) only [go_sem, simprocAttr, hi, hbad, dcp, kpv, g4, g5, or_true, true_or, false_or, or_false, implies_true, Int.natCast_add, Int.cast_ofNat_Int, keepsD_nil]
  refine And.intro ?_ ?_
  rotate_left
  refine And.intro ?_ ?_
  rotate_left
  trivial
  simp -implicitDefEqProofs (dsimp := false) only [go_sem, simprocAttr, hi, hbad, dcp, kpv, g4, g5, or_true, true_or, false_or, or_false, implies_true, Int.natCast_add, Int.cast_ofNat_Int, keepsD_nil]
  refine CodeT.drawnL [(0, .free), (1, .read), (2, .read), (3, .free), (4, .upd), (5, .upd), (6, .free), (7, .set)] mixed (by kernel_rfl) ?_
  simp -implicitDefEqProofs (dsimp := false) only [go_sem, simprocAttr, hi, hbad, dcp, kpv, g4, g5]
  refine CallF.go (c57 _ ?_) rfl ?_
  exact f1 (by omega)
  simp -implicitDefEqProofs (dsimp := false) only [go_sem, simprocAttr, hi, hbad, dcp, kpv, g4, g5]
  refine And.intro (by trivial) ?_
  refine And.intro (by exact Stable.refl _) ?_
  refine And.intro (by exact uni_opvs [_]) ?_
  refine And.intro (by omega) ?_
  refine And.intro (by exact Stable.same (Stable.same (Stable.row (Stable.refl _)))) ?_
  first | refine CodeT.renilBox 3 1 2 rfl rfl rfl ?_ | skip
  refine CodeT.region ?_
  simp -implicitDefEqProofs (dsimp := false) only [go_sem, simprocAttr, hi, hbad, dcp, kpv, g4, g5]
  simp -implicitDefEqProofs (dsimp := false) (disch := omega) only [i64_in, bs_getD, opvs_getD, is64_getD, bss_getD]
  refine ⟨(i + 1, v + 1), ?_⟩
  refine And.intro ?_ ?_
  omega
  refine And.intro ?_ ?_
  omega
  refine ⟨rfl, ?_, ?_, rfl, ?_⟩
  simp -implicitDefEqProofs (dsimp := false) only [go_sem, simprocAttr, hi, hbad, dcp, kpv, g4, g5, or_true, true_or, false_or, or_false, implies_true, Int.natCast_add, Int.cast_ofNat_Int, keepsD_nil]
  refine And.intro ?_ ?_
  trivial
  trivial
  simp -implicitDefEqProofs (dsimp := false) only [go_sem, simprocAttr, hi, hbad, dcp, kpv, g4, g5, or_true, true_or, false_or, or_false, implies_true, Int.natCast_add, Int.cast_ofNat_Int, keepsD_nil]
  refine And.intro ?_ ?_
  rotate_left
  refine And.intro ?_ ?_
  rotate_left
  trivial
  simp -implicitDefEqProofs (dsimp := false) only [go_sem, simprocAttr, hi, hbad, dcp, kpv, g4, g5, or_true, true_or, false_or, or_false, implies_true, Int.natCast_add, Int.cast_ofNat_Int, keepsD_nil]
  have d4 := ofDecF g4
  refine CodeT.exit ?_
  simp -implicitDefEqProofs (dsimp := false) only [go_sem, simprocAttr, hi, hbad, dcp, kpv, g4]
  refine CodeT.seqR ?_
  simp -implicitDefEqProofs (dsimp := false) only [go_sem, simprocAttr, hi, hbad, dcp, kpv, g4]
  refine CodeT.ret ?_
  simp -implicitDefEqProofs (dsimp := false) only [go_sem, simprocAttr, hi, hbad, dcp, kpv, g4]
  refine And.intro (by omega) ?_
  refine pureEnd rfl ?_
  rotate_left
  · rw [f6 (by omega), doStep, if_pos (by assumption)]
    rfl
  · rw [f6 (by omega), doStep, if_pos (by assumption)]
    rfl
  · have e : (⟨false, (ops.getD i op0).at_, (ops.getD i op0).bytes⟩ : DOp) = ops.getD i op0 := by rw [show false = (ops.getD i op0).flush by symm; assumption]
    rw [f6 (by omega), doStep, if_neg (by rw [show (ops.getD i op0).flush = false by assumption]; decide), e]
  · rw [f6 (by omega), doStep, if_neg (by rw [show (ops.getD i op0).flush = false by assumption]; decide)]
    simp
  · rw [f7 (by simp only at hx; omega)]
    simp only [doV, hi, hbad, Bool.not_true, Bool.false_eq_true, ↓reduceIte, er]

theorem farC_le (cuts : List Int) (d : Dsk) (i : Nat) : farC cuts d i ≤ (d.queue.getD i op0).bytes.length := by
  unfold farC
  split
  · exact Nat.zero_le _
  · exact Nat.min_le_right _ _
def crashB (d : Dsk) (cuts : List Int) : List UInt8 := doneTo d.bytes d.queue (farC cuts d) d.queue.length
theorem c59c (d : Dsk) (cuts : List Int) (hw : within d.bytes.length d.queue) (hb : d.bytes.length ≤ 4000000) (hq : d.queue.length ≤ 4000000) : PureT Try.prog 59 [.sl false (bs d.bytes), .sl false (opvs d.queue), .fn 60 [.cptr [.sl false (is64 cuts)], dcp d]] (· = .sl false (bs (crashB d cuts))) :=
  c59 _ _ _ _ rfl (farC cuts d) (fun i hi => c60 d cuts i hi) (fun i _ => farC_le cuts d i) hw hb hq
def crashV (d : Dsk) (cuts : List Int) : AV := if (!isDiskB d) = true then .tup [dkv ⟨[], []⟩, er 281] else .tup [dkv ⟨crashB d cuts, []⟩, er 0]
theorem c18 (d : Dsk) (cuts : List Int) (hf : Few d) (hc : cuts.length ≤ 1000000) : PureT Try.prog 18 [dkv d, .sl false (is64 cuts)] (· = crashV d cuts) := by
  refine CallT.res (CallT.laxR ?_)
  have h1 := hf.b; have h2 := hf.q
  cases hi : isDiskB d
  · refine CallT.intro Try.func18 (by decide) rfl ?_
    simp -implicitDefEqProofs (dsimp := false) only [go_sem, simprocAttr, hi, enterTm, Try.ntmps18, List.range'_succ, List.range'_zero, List.zip_cons_cons, List.zip_nil_left]
    refine CodeT.seqR ?_
    simp -implicitDefEqProofs (dsimp := false) only [go_sem, simprocAttr, hi]
    refine CodeT.seq ?_
    refine CodeT.seqR ?_
    simp -implicitDefEqProofs (dsimp := false) only [go_sem, simprocAttr, hi]
    refine PureT.eq (c51 _ ?_ ?_) rfl ?_
    assumption
    assumption
    simp -implicitDefEqProofs (dsimp := false) only [go_sem, simprocAttr, hi]
    refine CodeT.condT rfl ?_
    refine CodeT.seqR ?_
    simp -implicitDefEqProofs (dsimp := false) only [go_sem, simprocAttr, hi]
    refine CodeT.ret ?_
    simp -implicitDefEqProofs (dsimp := false) only [go_sem, simprocAttr, hi]
    refine pureEnd rfl ?_
    rotate_left
    simp only [crashV, hi, Bool.not_false, ↓reduceIte]; rfl
  obtain ⟨k, hw⟩ := isDisk_ok hi
  refine CallT.intro Try.func18 (by decide) rfl ?_
  simp -implicitDefEqProofs (dsimp := false) only [go_sem, simprocAttr, hi, enterTm, Try.ntmps18, List.range'_succ, List.range'_zero, List.zip_cons_cons, List.zip_nil_left]
  refine CodeT.seqR ?_
  simp -implicitDefEqProofs (dsimp := false) only [go_sem, simprocAttr, hi]
  refine CodeT.seq ?_
  refine CodeT.seqR ?_
  simp -implicitDefEqProofs (dsimp := false) only [go_sem, simprocAttr, hi]
  refine PureT.eq (c51 _ ?_ ?_) rfl ?_
  assumption
  assumption
  simp -implicitDefEqProofs (dsimp := false) only [go_sem, simprocAttr, hi]
  refine CodeT.condF rfl ?_
  refine CodeT.skip ?_
  simp -implicitDefEqProofs (dsimp := false) only [go_sem, simprocAttr, hi]
  refine CodeT.freeze 2 ?_
  simp -implicitDefEqProofs (dsimp := false) only [go_sem, simprocAttr, hi]
  refine CodeT.freeze 3 ?_
  simp -implicitDefEqProofs (dsimp := false) only [go_sem, simprocAttr, hi]
  refine CodeT.seqR ?_
  simp -implicitDefEqProofs (dsimp := false) only [go_sem, simprocAttr, hi]
  refine PureT.eq (c59c _ _ hw ?_ ?_) rfl ?_
  assumption
  assumption
  simp -implicitDefEqProofs (dsimp := false) only [go_sem, simprocAttr, hi]
  refine CodeT.ret ?_
  simp -implicitDefEqProofs (dsimp := false) only [go_sem, simprocAttr, hi]
  refine pureEnd rfl ?_
  rotate_left
  simp only [crashV, hi, Bool.not_true, Bool.false_eq_true, ↓reduceIte]; rfl
end Go.Proofs.Try

namespace Go.Proofs.Try
set_option linter.unusedSimpArgs false
set_option linter.unusedVariables false
open Go.PM
set_option maxHeartbeats 4000000
set_option maxRecDepth 100000

def fmtOps (n : Nat) (base : List UInt8) : List DOp := [wr 0 (zs n), fl, wr 1 (frame base), fl]
def fmtB (n : Nat) (base : List UInt8) : Dsk := doB ⟨zs n, []⟩ (fmtOps n base)
def formattedV (n : Int) (base : List UInt8) : AV :=
  if (!sizeI n) = true then .tup [dkv ⟨[], []⟩, .val (.bool false)]
  else if decide (((frame base).length : Int) > (n.toNat / 2 : Nat)) = true then .tup [dkv ⟨[], []⟩, .val (.bool false)]
  else .tup [dkv (fmtB n.toNat base), .val (.bool true)]
theorem zs_length (n : Nat) : (zs n).length = n := by simp [zs]
theorem isDisk_zs {n : Int} (h : sizeI n = true) : isDiskB ⟨zs n.toNat, []⟩ = true := by
  rw [sizeI_eq] at h
  simp only [Bool.and_eq_true] at h
  simp [isDiskB, zs_length, h.2]
theorem fmt_fits {n : Int} (h : sizeI n = true) {base : List UInt8} (hl : (frame base).length ≤ n.toNat / 2) : badArg ⟨zs n.toNat, []⟩ (fmtOps n.toNat base) = false := by
  rw [sizeI_eq] at h
  simp only [Bool.and_eq_true, sizeB, decide_eq_true_eq] at h
  have h2 : 0 < (frame base).length := by rw [frame_length]; omega
  simp [badArg, fmtOps, fitsB, wr, fl, zs_length]
  omega
theorem c27 (n : Int) (h1 : -9223372036854775808 ≤ n) (h2 : n ≤ 9223372036854775807) (base : List UInt8) (hb : base.length ≤ 1000000) : PureT Try.prog 27 [.val (.int .i64 n), .sl false (bs base)] (· = formattedV n base) := by
  refine CallT.res (CallT.laxR ?_)
  have hs := sizeI_eq n
  cases hz : sizeI n
  · refine CallT.intro Try.func27 (by decide) rfl ?_
    simp -implicitDefEqProofs (dsimp := false) only [go_sem, simprocAttr, hz, newV, enterTm, Try.ntmps27, List.range'_succ, List.range'_zero, List.zip_cons_cons, List.zip_nil_left]
    refine CodeT.seqR ?_
    simp -implicitDefEqProofs (dsimp := false) only [go_sem, simprocAttr, hz, newV]
    refine CodeT.seqR ?_
    simp -implicitDefEqProofs (dsimp := false) only [go_sem, simprocAttr, hz, newV]
    refine PureT.eq (c38 _ h1 h2) rfl ?_
    simp -implicitDefEqProofs (dsimp := false) only [go_sem, simprocAttr, hz, newV]
    refine CodeT.seq ?_
    refine CodeT.seqR ?_
    simp -implicitDefEqProofs (dsimp := false) only [go_sem, simprocAttr, hz, newV]
    refine CodeT.condT rfl ?_
    refine CodeT.seqR ?_
    simp -implicitDefEqProofs (dsimp := false) only [go_sem, simprocAttr, hz, newV]
    refine CodeT.ret ?_
    simp -implicitDefEqProofs (dsimp := false) only [go_sem, simprocAttr, hz, newV]
    refine pureEnd rfl ?_
    rotate_left
    simp only [formattedV, hz, Bool.not_false, ↓reduceIte]; rfl
  have hi := isDisk_zs hz
  have hsz := hz
  rw [sizeI_eq] at hsz
  simp only [Bool.and_eq_true, sizeB, decide_eq_true_eq] at hsz
  have few0 : Few ⟨zs n.toNat, []⟩ := ⟨by simp only [zs_length]; omega, by simp⟩
  cases hl : decide (((frame base).length : Int) > ((n.toNat / 2 : Nat) : Int))
  case true =>
    have e29 : formatV ⟨zs n.toNat, []⟩ base = .tup [.sl false [], er 2] := by
      simp only [formatV, hi, szB, zs_length, hl, Bool.not_true, Bool.false_eq_true, ↓reduceIte]
    refine CallT.intro Try.func27 (by decide) rfl ?_
    simp -implicitDefEqProofs (dsimp := false) only [go_sem, simprocAttr, hz, newV, e29, enterTm, Try.ntmps27, List.range'_succ, List.range'_zero, List.zip_cons_cons, List.zip_nil_left]
    refine CodeT.seqR ?_
    simp -implicitDefEqProofs (dsimp := false) only [go_sem, simprocAttr, hz, newV, e29]
    refine CodeT.seqR ?_
    simp -implicitDefEqProofs (dsimp := false) only [go_sem, simprocAttr, hz, newV, e29]
    refine PureT.eq (c38 _ h1 h2) rfl ?_
    simp -implicitDefEqProofs (dsimp := false) only [go_sem, simprocAttr, hz, newV, e29]
    refine CodeT.seq ?_
    refine CodeT.seqR ?_
    simp -implicitDefEqProofs (dsimp := false) only [go_sem, simprocAttr, hz, newV, e29]
    refine CodeT.condF rfl ?_
    refine CodeT.skip ?_
    simp -implicitDefEqProofs (dsimp := false) only [go_sem, simprocAttr, hz, newV, e29]
    refine CodeT.seqR ?_
    simp -implicitDefEqProofs (dsimp := false) only [go_sem, simprocAttr, hz, newV, e29]
    refine PureT.eq (c29 _ few0 _ hb) rfl ?_
    simp -implicitDefEqProofs (dsimp := false) only [go_sem, simprocAttr, hz, newV, e29]
    refine CodeT.seq ?_
    refine CodeT.seqR ?_
    simp -implicitDefEqProofs (dsimp := false) only [go_sem, simprocAttr, hz, newV, e29]
    refine CodeT.condT rfl ?_
    refine CodeT.seqR ?_
    simp -implicitDefEqProofs (dsimp := false) only [go_sem, simprocAttr, hz, newV, e29]
    refine CodeT.ret ?_
    simp -implicitDefEqProofs (dsimp := false) only [go_sem, simprocAttr, hz, newV, e29]
    refine pureEnd rfl ?_
    rotate_left
    simp only [formattedV, hz, hl, Bool.not_true, Bool.false_eq_true, ↓reduceIte]; rfl
  have hl' : (frame base).length ≤ n.toNat / 2 := by simp only [decide_eq_false_iff_not] at hl; omega
  have hbad := fmt_fits hz hl'
  have e29 : formatV ⟨zs n.toNat, []⟩ base = .tup [.sl false (opvs (fmtOps n.toNat base)), er 0] := by
    simp only [formatV, hi, szB, zs_length, hl, Bool.not_true, Bool.false_eq_true, ↓reduceIte, fmtOps]
  have e17 : doV ⟨zs n.toNat, []⟩ (fmtOps n.toNat base) = .tup [dkv (fmtB n.toNat base), er 0] := by
    simp only [doV, hi, hbad, Bool.not_true, Bool.false_eq_true, ↓reduceIte, fmtB]
  have hob : ∀ o ∈ fmtOps n.toNat base, o.bytes.length ≤ 4000000 := by
    intro o ho
    simp only [fmtOps, List.mem_cons, List.not_mem_nil, or_false] at ho
    rcases ho with rfl | rfl | rfl | rfl <;> simp [wr, fl, zs_length] <;> omega
  refine CallT.intro Try.func27 (by decide) rfl ?_
  simp -implicitDefEqProofs (dsimp := false) only [go_sem, simprocAttr, hz, newV, e29, e17, enterTm, Try.ntmps27, List.range'_succ, List.range'_zero, List.zip_cons_cons, List.zip_nil_left]
  refine CodeT.seqR ?_
  simp -implicitDefEqProofs (dsimp := false) only [go_sem, simprocAttr, hz, newV, e29, e17]
  refine CodeT.seqR ?_
  simp -implicitDefEqProofs (dsimp := false) only [go_sem, simprocAttr, hz, newV, e29, e17]
  refine PureT.eq (c38 _ h1 h2) rfl ?_
  simp -implicitDefEqProofs (dsimp := false) only [go_sem, simprocAttr, hz, newV, e29, e17]
  refine CodeT.seq ?_
  refine CodeT.seqR ?_
  simp -implicitDefEqProofs (dsimp := false) only [go_sem, simprocAttr, hz, newV, e29, e17]
  refine CodeT.condF rfl ?_
  refine CodeT.skip ?_
  simp -implicitDefEqProofs (dsimp := false) only [go_sem, simprocAttr, hz, newV, e29, e17]
  refine CodeT.seqR ?_
  simp -implicitDefEqProofs (dsimp := false) only [go_sem, simprocAttr, hz, newV, e29, e17]
  refine PureT.eq (c29 _ few0 _ hb) rfl ?_
  simp -implicitDefEqProofs (dsimp := false) only [go_sem, simprocAttr, hz, newV, e29, e17]
  refine CodeT.seq ?_
  refine CodeT.seqR ?_
  simp -implicitDefEqProofs (dsimp := false) only [go_sem, simprocAttr, hz, newV, e29, e17]
  refine CodeT.condF rfl ?_
  refine CodeT.skip ?_
  simp -implicitDefEqProofs (dsimp := false) only [go_sem, simprocAttr, hz, newV, e29, e17]
  refine CodeT.seqR ?_
  simp -implicitDefEqProofs (dsimp := false) only [go_sem, simprocAttr, hz, newV, e29, e17]
  refine PureT.eq (c17 _ _ few0 (by simp [fmtOps]) (by simp) hob (by simp)) rfl ?_
  simp -implicitDefEqProofs (dsimp := false) only [go_sem, simprocAttr, hz, newV, e29, e17]
  refine CodeT.seqR ?_
  simp -implicitDefEqProofs (dsimp := false) only [go_sem, simprocAttr, hz, newV, e29, e17]
  refine CodeT.ret ?_
  simp -implicitDefEqProofs (dsimp := false) only [go_sem, simprocAttr, hz, newV, e29, e17]
  refine pureEnd rfl ?_
  simp only [formattedV, hz, hl, Bool.true_and, Bool.false_and, Bool.and_true, Bool.and_false, Bool.true_or, Bool.false_or, Bool.or_true, Bool.or_false, Bool.not_true, Bool.not_false, Bool.false_eq_true, ↓reduceIte]
theorem bs2 (a b : UInt8) : AV.sl false [AV.val (.int .u8 a.toNat), AV.val (.int .u8 b.toNat)] = .sl false (bs [a, b]) := rfl
def A0 : Dsk := fmtB 129 []
def one : List DOp := [wr ((halfB A0 : Nat) + (endB A0 : Nat)) (frame [7])]
def A1 : Dsk := doB A0 one
def A2 : Dsk := ⟨crashB A1 [], []⟩
def A3 : Dsk := doB A1 [fl]
def two : List DOp := [wr ((halfB A3 : Nat) + (endB A3 : Nat)) (frame [8])]
def A4 : Dsk := doB A3 two
def A5 : Dsk := ⟨crashB A4 [1], []⟩
def opn : List DOp := [fl, wr ((halfB A5 : Nat) + (endB A5 : Nat)) (zs (szB A5 - endB A5)), fl]
theorem w0 : formattedV 129 [] = .tup [dkv A0, .val (.bool true)] := by kernel_rfl
theorem w1 : appendV A0 [7] = .tup [.sl false (opvs one), er 0] := by kernel_rfl
theorem w2 : doV A0 one = .tup [dkv A1, er 0] := by kernel_rfl
theorem w3 : crashV A1 [] = .tup [dkv A2, er 0] := by kernel_rfl
theorem w4 : readV A2 = .tup [.sl false (bs []), .sl false (bss []), er 0] := by kernel_rfl
theorem w5 : doV A1 [fl] = .tup [dkv A3, er 0] := by kernel_rfl
theorem w6 : appendV A3 [8] = .tup [.sl false (opvs two), er 0] := by kernel_rfl
theorem w7 : doV A3 two = .tup [dkv A4, er 0] := by kernel_rfl
theorem w8 : crashV A4 [1] = .tup [dkv A5, er 0] := by kernel_rfl
theorem w9 : openV A5 = .tup [.sl false (opvs opn), er 0] := by kernel_rfl
theorem w10 : readV A5 = .tup [.sl false (bs []), .sl false (bss [[7]]), er 0] := by kernel_rfl
theorem fld1 : AV.sl false [.val (.int .u8 1), .val (.int .u8 255)] = .sl false (bs [1, 255]) := rfl
theorem fld2 : AV.sl false [.val (.int .u8 16), .val (.int .u8 17), .val (.int .u8 31), .val (.int .u8 31), .val (.int .u8 255), .val (.int .u8 0), .val (.int .u8 9)] = .sl false (bs [16, 17, 31, 31, 255, 0, 9]) := rfl
theorem fld3 : AV.sl false [.val (.int .u8 7)] = .sl false (bs [7]) := rfl
theorem fld4 : AV.sl false [.val (.int .u8 8)] = .sl false (bs [8]) := rfl
theorem fld5 : AV.sl false [.val (.int .i64 1)] = .sl false (is64 [1]) := rfl
theorem fld6 : AV.sl false [opv ⟨true, 0, []⟩] = .sl false (opvs [fl]) := rfl
theorem pe1 : parseR [16, 17, 31, 31, 255, 0, 9] = [[1, 255]] := by kernel_rfl
theorem pe2 : parseE [16, 17, 31, 31, 255, 0, 9] = 5 := by kernel_rfl
theorem pe3 : (strB (frame [1, 255]) == ⟨#[16, 17, 31, 31, 255]⟩) = true := by kernel_rfl
theorem c27n : PureT Try.prog 27 [.val (.int .i64 129), .sl false []] (· = .tup [dkv A0, .val (.bool true)]) := by
  have := c27 129 (by omega) (by omega) [] (by simp)
  rwa [w0] at this
theorem c18n (d : Dsk) (hf : Few d) : PureT Try.prog 18 [dkv d, .sl false []] (· = crashV d []) := c18 d [] hf (by simp)
theorem few_of {d : Dsk} (h : (decide (d.bytes.length ≤ 4000000) && decide (d.queue.length ≤ 1000000) && d.queue.all fun o => decide (o.bytes.length ≤ 4000000)) = true) : Few d ∧ d.queue.length ≤ 1000000 ∧ ∀ o ∈ d.queue, o.bytes.length ≤ 4000000 := by
  simp only [Bool.and_eq_true, decide_eq_true_eq, List.all_eq_true] at h
  exact ⟨⟨h.1.1, by omega⟩, h.1.2, h.2⟩
theorem c17w (d : Dsk) (ops : List DOp) (h : (decide (d.bytes.length ≤ 4000000) && decide (d.queue.length ≤ 1000000) && d.queue.all fun o => decide (o.bytes.length ≤ 4000000)) = true) (h' : (decide (ops.length ≤ 1000000) && ops.all fun o => decide (o.bytes.length ≤ 4000000)) = true) : PureT Try.prog 17 [dkv d, .sl false (opvs ops)] (· = doV d ops) := by
  simp only [Bool.and_eq_true, decide_eq_true_eq, List.all_eq_true] at h'
  exact c17 d ops (few_of h).1 h'.1 (few_of h).2.1 h'.2 (few_of h).2.2
theorem few0 : (decide (A0.bytes.length ≤ 4000000) && decide (A0.queue.length ≤ 1000000) && A0.queue.all fun o => decide (o.bytes.length ≤ 4000000)) = true := by kernel_rfl
theorem few1 : (decide (A1.bytes.length ≤ 4000000) && decide (A1.queue.length ≤ 1000000) && A1.queue.all fun o => decide (o.bytes.length ≤ 4000000)) = true := by kernel_rfl
theorem few2 : (decide (A2.bytes.length ≤ 4000000) && decide (A2.queue.length ≤ 1000000) && A2.queue.all fun o => decide (o.bytes.length ≤ 4000000)) = true := by kernel_rfl
theorem few3 : (decide (A3.bytes.length ≤ 4000000) && decide (A3.queue.length ≤ 1000000) && A3.queue.all fun o => decide (o.bytes.length ≤ 4000000)) = true := by kernel_rfl
theorem few4 : (decide (A4.bytes.length ≤ 4000000) && decide (A4.queue.length ≤ 1000000) && A4.queue.all fun o => decide (o.bytes.length ≤ 4000000)) = true := by kernel_rfl
theorem few5 : (decide (A5.bytes.length ≤ 4000000) && decide (A5.queue.length ≤ 1000000) && A5.queue.all fun o => decide (o.bytes.length ≤ 4000000)) = true := by kernel_rfl
theorem ops1 : (decide (one.length ≤ 1000000) && one.all fun o => decide (o.bytes.length ≤ 4000000)) = true := by kernel_rfl
theorem ops2 : (decide (two.length ≤ 1000000) && two.all fun o => decide (o.bytes.length ≤ 4000000)) = true := by kernel_rfl
theorem ops3 : (decide ([fl].length ≤ 1000000) && [fl].all fun o => decide (o.bytes.length ≤ 4000000)) = true := by kernel_rfl
theorem a0b : (A0.bytes.length = 129 ∧ A0.bytes.getD 1 0 = 255) := by exact ⟨by kernel_rfl, by kernel_rfl⟩
theorem opn3 : opn.length = 3 := by kernel_rfl
theorem g7 : (bss [[7]]).getD 0 .dead = .sl false (bs [7]) := rfl
theorem g77 : (bs [7]).getD 0 .dead = .val (.int .u8 7) := rfl
attribute [irreducible] A0 A1 A2 A3 A4 A5 one two opn
theorem c12 : PureT Try.prog 12 [] (· = .val (.bool true)) := by
  have hA := a0b.1
  have hb1 : (bs A0.bytes).getD 1 .dead = b8 255 := by rw [bs_getD (by omega), a0b.2]
  refine CallT.intro Try.func12 (by decide) rfl ?_
  simp -implicitDefEqProofs (dsimp := false) only [go_sem, simprocAttr, hb1, a0b.2, fld1, fld2, fld3, fld4, fld5, fld6, pe1, pe2, pe3, w1, w2, w3, w4, w5, w6, w7, w8, w9, w10, strOf_bs, opn3, g7, g77, enterTm, Try.ntmps12, List.range'_succ, List.range'_zero, List.zip_cons_cons, List.zip_nil_left]
  refine CodeT.seqR ?_
  simp -implicitDefEqProofs (dsimp := false) only [go_sem, simprocAttr, hb1, a0b.2, fld1, fld2, fld3, fld4, fld5, fld6, pe1, pe2, pe3, w1, w2, w3, w4, w5, w6, w7, w8, w9, w10, strOf_bs, opn3, g7, g77]
  refine CodeT.seq ?_
  refine CodeT.seqR ?_
  simp -implicitDefEqProofs (dsimp := false) only [go_sem, simprocAttr, hb1, a0b.2, fld1, fld2, fld3, fld4, fld5, fld6, pe1, pe2, pe3, w1, w2, w3, w4, w5, w6, w7, w8, w9, w10, strOf_bs, opn3, g7, g77]
  refine And.intro (by trivial) ?_
  refine CallT.laxA ?_
  simp -implicitDefEqProofs (dsimp := false) only [go_sem, simprocAttr, hb1, a0b.2, fld1, fld2, fld3, fld4, fld5, fld6, pe1, pe2, pe3, w1, w2, w3, w4, w5, w6, w7, w8, w9, w10, strOf_bs, opn3, g7, g77]
  refine PureT.eq (c13 _ ?_) rfl ?_
  trivial
  simp -implicitDefEqProofs (dsimp := false) only [go_sem, simprocAttr, hb1, a0b.2, fld1, fld2, fld3, fld4, fld5, fld6, pe1, pe2, pe3, w1, w2, w3, w4, w5, w6, w7, w8, w9, w10, strOf_bs, opn3, g7, g77]
  refine And.intro (by trivial) ?_
  refine CodeT.condF rfl ?_
  refine CodeT.skip ?_
  simp -implicitDefEqProofs (dsimp := false) only [go_sem, simprocAttr, hb1, a0b.2, fld1, fld2, fld3, fld4, fld5, fld6, pe1, pe2, pe3, w1, w2, w3, w4, w5, w6, w7, w8, w9, w10, strOf_bs, opn3, g7, g77]
  refine CodeT.seqR ?_
  simp -implicitDefEqProofs (dsimp := false) only [go_sem, simprocAttr, hb1, a0b.2, fld1, fld2, fld3, fld4, fld5, fld6, pe1, pe2, pe3, w1, w2, w3, w4, w5, w6, w7, w8, w9, w10, strOf_bs, opn3, g7, g77]
  refine And.intro (by trivial) ?_
  refine CallT.laxA ?_
  simp -implicitDefEqProofs (dsimp := false) only [go_sem, simprocAttr, hb1, a0b.2, fld1, fld2, fld3, fld4, fld5, fld6, pe1, pe2, pe3, w1, w2, w3, w4, w5, w6, w7, w8, w9, w10, strOf_bs, opn3, g7, g77]
  refine PureT.eq (c14 _ ?_) rfl ?_
  trivial
  simp -implicitDefEqProofs (dsimp := false) only [go_sem, simprocAttr, hb1, a0b.2, fld1, fld2, fld3, fld4, fld5, fld6, pe1, pe2, pe3, w1, w2, w3, w4, w5, w6, w7, w8, w9, w10, strOf_bs, opn3, g7, g77]
  refine CodeT.seqR ?_
  simp -implicitDefEqProofs (dsimp := false) only [go_sem, simprocAttr, hb1, a0b.2, fld1, fld2, fld3, fld4, fld5, fld6, pe1, pe2, pe3, w1, w2, w3, w4, w5, w6, w7, w8, w9, w10, strOf_bs, opn3, g7, g77]
  refine CallT.laxA ?_
  simp -implicitDefEqProofs (dsimp := false) only [go_sem, simprocAttr, hb1, a0b.2, fld1, fld2, fld3, fld4, fld5, fld6, pe1, pe2, pe3, w1, w2, w3, w4, w5, w6, w7, w8, w9, w10, strOf_bs, opn3, g7, g77]
  refine PureT.eq (c27n) rfl ?_
  simp -implicitDefEqProofs (dsimp := false) only [go_sem, simprocAttr, hb1, a0b.2, fld1, fld2, fld3, fld4, fld5, fld6, pe1, pe2, pe3, w1, w2, w3, w4, w5, w6, w7, w8, w9, w10, strOf_bs, opn3, g7, g77]
  refine CodeT.seq ?_
  refine CodeT.seqR ?_
  simp -implicitDefEqProofs (dsimp := false) only [go_sem, simprocAttr, hb1, a0b.2, fld1, fld2, fld3, fld4, fld5, fld6, pe1, pe2, pe3, w1, w2, w3, w4, w5, w6, w7, w8, w9, w10, strOf_bs, opn3, g7, g77]
  refine gate_i ?_ ?_
  omega
  simp -implicitDefEqProofs (dsimp := false) (disch := omega) only [Int.toNat_natCast, i64_in, bs_getD, opvs_getD, is64_getD, bss_getD]
  simp -implicitDefEqProofs (dsimp := false) only [go_sem, simprocAttr, hb1, a0b.2, fld1, fld2, fld3, fld4, fld5, fld6, pe1, pe2, pe3, w1, w2, w3, w4, w5, w6, w7, w8, w9, w10, strOf_bs, opn3, g7, g77]
  refine CodeT.condF rfl ?_
  refine CodeT.skip ?_
  simp -implicitDefEqProofs (dsimp := false) only [go_sem, simprocAttr, hb1, a0b.2, fld1, fld2, fld3, fld4, fld5, fld6, pe1, pe2, pe3, w1, w2, w3, w4, w5, w6, w7, w8, w9, w10, strOf_bs, opn3, g7, g77]
  refine CodeT.seqR ?_
  simp -implicitDefEqProofs (dsimp := false) only [go_sem, simprocAttr, hb1, a0b.2, fld1, fld2, fld3, fld4, fld5, fld6, pe1, pe2, pe3, w1, w2, w3, w4, w5, w6, w7, w8, w9, w10, strOf_bs, opn3, g7, g77]
  refine And.intro (by trivial) ?_
  refine CallT.laxA ?_
  simp -implicitDefEqProofs (dsimp := false) only [go_sem, simprocAttr, hb1, a0b.2, fld1, fld2, fld3, fld4, fld5, fld6, pe1, pe2, pe3, w1, w2, w3, w4, w5, w6, w7, w8, w9, w10, strOf_bs, opn3, g7, g77]
  refine PureT.eq (c25 A0 (few_of few0).1 _ ?_) rfl ?_
  trivial
  simp -implicitDefEqProofs (dsimp := false) only [go_sem, simprocAttr, hb1, a0b.2, fld1, fld2, fld3, fld4, fld5, fld6, pe1, pe2, pe3, w1, w2, w3, w4, w5, w6, w7, w8, w9, w10, strOf_bs, opn3, g7, g77]
  refine CodeT.seqR ?_
  simp -implicitDefEqProofs (dsimp := false) only [go_sem, simprocAttr, hb1, a0b.2, fld1, fld2, fld3, fld4, fld5, fld6, pe1, pe2, pe3, w1, w2, w3, w4, w5, w6, w7, w8, w9, w10, strOf_bs, opn3, g7, g77]
  refine PureT.eq (c17w _ _ few0 ops1) rfl ?_
  simp -implicitDefEqProofs (dsimp := false) only [go_sem, simprocAttr, hb1, a0b.2, fld1, fld2, fld3, fld4, fld5, fld6, pe1, pe2, pe3, w1, w2, w3, w4, w5, w6, w7, w8, w9, w10, strOf_bs, opn3, g7, g77]
  refine CodeT.seqR ?_
  simp -implicitDefEqProofs (dsimp := false) only [go_sem, simprocAttr, hb1, a0b.2, fld1, fld2, fld3, fld4, fld5, fld6, pe1, pe2, pe3, w1, w2, w3, w4, w5, w6, w7, w8, w9, w10, strOf_bs, opn3, g7, g77]
  refine CallT.laxA ?_
  simp -implicitDefEqProofs (dsimp := false) only [go_sem, simprocAttr, hb1, a0b.2, fld1, fld2, fld3, fld4, fld5, fld6, pe1, pe2, pe3, w1, w2, w3, w4, w5, w6, w7, w8, w9, w10, strOf_bs, opn3, g7, g77]
  refine PureT.eq (c18n _ (few_of few1).1) rfl ?_
  simp -implicitDefEqProofs (dsimp := false) only [go_sem, simprocAttr, hb1, a0b.2, fld1, fld2, fld3, fld4, fld5, fld6, pe1, pe2, pe3, w1, w2, w3, w4, w5, w6, w7, w8, w9, w10, strOf_bs, opn3, g7, g77]
  refine CodeT.seqR ?_
  simp -implicitDefEqProofs (dsimp := false) only [go_sem, simprocAttr, hb1, a0b.2, fld1, fld2, fld3, fld4, fld5, fld6, pe1, pe2, pe3, w1, w2, w3, w4, w5, w6, w7, w8, w9, w10, strOf_bs, opn3, g7, g77]
  refine PureT.eq (c21 _ (few_of few2).1) rfl ?_
  simp -implicitDefEqProofs (dsimp := false) only [go_sem, simprocAttr, hb1, a0b.2, fld1, fld2, fld3, fld4, fld5, fld6, pe1, pe2, pe3, w1, w2, w3, w4, w5, w6, w7, w8, w9, w10, strOf_bs, opn3, g7, g77]
  refine CodeT.seqR ?_
  simp -implicitDefEqProofs (dsimp := false) only [go_sem, simprocAttr, hb1, a0b.2, fld1, fld2, fld3, fld4, fld5, fld6, pe1, pe2, pe3, w1, w2, w3, w4, w5, w6, w7, w8, w9, w10, strOf_bs, opn3, g7, g77]
  refine And.intro (by trivial) ?_
  refine CallT.laxA ?_
  simp -implicitDefEqProofs (dsimp := false) only [go_sem, simprocAttr, hb1, a0b.2, fld1, fld2, fld3, fld4, fld5, fld6, pe1, pe2, pe3, w1, w2, w3, w4, w5, w6, w7, w8, w9, w10, strOf_bs, opn3, g7, g77]
  refine PureT.eq (c17w _ _ few1 ops3) rfl ?_
  simp -implicitDefEqProofs (dsimp := false) only [go_sem, simprocAttr, hb1, a0b.2, fld1, fld2, fld3, fld4, fld5, fld6, pe1, pe2, pe3, w1, w2, w3, w4, w5, w6, w7, w8, w9, w10, strOf_bs, opn3, g7, g77]
  refine CodeT.seqR ?_
  simp -implicitDefEqProofs (dsimp := false) only [go_sem, simprocAttr, hb1, a0b.2, fld1, fld2, fld3, fld4, fld5, fld6, pe1, pe2, pe3, w1, w2, w3, w4, w5, w6, w7, w8, w9, w10, strOf_bs, opn3, g7, g77]
  refine And.intro (by trivial) ?_
  refine CallT.laxA ?_
  simp -implicitDefEqProofs (dsimp := false) only [go_sem, simprocAttr, hb1, a0b.2, fld1, fld2, fld3, fld4, fld5, fld6, pe1, pe2, pe3, w1, w2, w3, w4, w5, w6, w7, w8, w9, w10, strOf_bs, opn3, g7, g77]
  refine PureT.eq (c25 A3 (few_of few3).1 _ ?_) rfl ?_
  trivial
  simp -implicitDefEqProofs (dsimp := false) only [go_sem, simprocAttr, hb1, a0b.2, fld1, fld2, fld3, fld4, fld5, fld6, pe1, pe2, pe3, w1, w2, w3, w4, w5, w6, w7, w8, w9, w10, strOf_bs, opn3, g7, g77]
  refine CodeT.seqR ?_
  simp -implicitDefEqProofs (dsimp := false) only [go_sem, simprocAttr, hb1, a0b.2, fld1, fld2, fld3, fld4, fld5, fld6, pe1, pe2, pe3, w1, w2, w3, w4, w5, w6, w7, w8, w9, w10, strOf_bs, opn3, g7, g77]
  refine PureT.eq (c17w _ _ few3 ops2) rfl ?_
  simp -implicitDefEqProofs (dsimp := false) only [go_sem, simprocAttr, hb1, a0b.2, fld1, fld2, fld3, fld4, fld5, fld6, pe1, pe2, pe3, w1, w2, w3, w4, w5, w6, w7, w8, w9, w10, strOf_bs, opn3, g7, g77]
  refine CodeT.seqR ?_
  simp -implicitDefEqProofs (dsimp := false) only [go_sem, simprocAttr, hb1, a0b.2, fld1, fld2, fld3, fld4, fld5, fld6, pe1, pe2, pe3, w1, w2, w3, w4, w5, w6, w7, w8, w9, w10, strOf_bs, opn3, g7, g77]
  refine And.intro (by trivial) ?_
  refine CallT.laxA ?_
  simp -implicitDefEqProofs (dsimp := false) only [go_sem, simprocAttr, hb1, a0b.2, fld1, fld2, fld3, fld4, fld5, fld6, pe1, pe2, pe3, w1, w2, w3, w4, w5, w6, w7, w8, w9, w10, strOf_bs, opn3, g7, g77]
  refine PureT.eq (c18 _ _ (few_of few4).1 ?_) rfl ?_
  trivial
  simp -implicitDefEqProofs (dsimp := false) only [go_sem, simprocAttr, hb1, a0b.2, fld1, fld2, fld3, fld4, fld5, fld6, pe1, pe2, pe3, w1, w2, w3, w4, w5, w6, w7, w8, w9, w10, strOf_bs, opn3, g7, g77]
  refine CodeT.seqR ?_
  simp -implicitDefEqProofs (dsimp := false) only [go_sem, simprocAttr, hb1, a0b.2, fld1, fld2, fld3, fld4, fld5, fld6, pe1, pe2, pe3, w1, w2, w3, w4, w5, w6, w7, w8, w9, w10, strOf_bs, opn3, g7, g77]
  refine PureT.eq (c20 _ (few_of few5).1) rfl ?_
  simp -implicitDefEqProofs (dsimp := false) only [go_sem, simprocAttr, hb1, a0b.2, fld1, fld2, fld3, fld4, fld5, fld6, pe1, pe2, pe3, w1, w2, w3, w4, w5, w6, w7, w8, w9, w10, strOf_bs, opn3, g7, g77]
  refine CodeT.seqR ?_
  simp -implicitDefEqProofs (dsimp := false) only [go_sem, simprocAttr, hb1, a0b.2, fld1, fld2, fld3, fld4, fld5, fld6, pe1, pe2, pe3, w1, w2, w3, w4, w5, w6, w7, w8, w9, w10, strOf_bs, opn3, g7, g77]
  refine PureT.eq (c21 _ (few_of few5).1) rfl ?_
  simp -implicitDefEqProofs (dsimp := false) only [go_sem, simprocAttr, hb1, a0b.2, fld1, fld2, fld3, fld4, fld5, fld6, pe1, pe2, pe3, w1, w2, w3, w4, w5, w6, w7, w8, w9, w10, strOf_bs, opn3, g7, g77]
  refine CodeT.seq ?_
  refine CodeT.seqR ?_
  simp -implicitDefEqProofs (dsimp := false) only [go_sem, simprocAttr, hb1, a0b.2, fld1, fld2, fld3, fld4, fld5, fld6, pe1, pe2, pe3, w1, w2, w3, w4, w5, w6, w7, w8, w9, w10, strOf_bs, opn3, g7, g77]
  refine CodeT.condF rfl ?_
  refine CodeT.skip ?_
  simp -implicitDefEqProofs (dsimp := false) only [go_sem, simprocAttr, hb1, a0b.2, fld1, fld2, fld3, fld4, fld5, fld6, pe1, pe2, pe3, w1, w2, w3, w4, w5, w6, w7, w8, w9, w10, strOf_bs, opn3, g7, g77]
  refine CodeT.seqR ?_
  simp -implicitDefEqProofs (dsimp := false) only [go_sem, simprocAttr, hb1, a0b.2, fld1, fld2, fld3, fld4, fld5, fld6, pe1, pe2, pe3, w1, w2, w3, w4, w5, w6, w7, w8, w9, w10, strOf_bs, opn3, g7, g77]
  refine CodeT.ret ?_
  simp -implicitDefEqProofs (dsimp := false) only [go_sem, simprocAttr, hb1, a0b.2, fld1, fld2, fld3, fld4, fld5, fld6, pe1, pe2, pe3, w1, w2, w3, w4, w5, w6, w7, w8, w9, w10, strOf_bs, opn3, g7, g77]
  refine pureEnd rfl ?_
  simp -implicitDefEqProofs (dsimp := false) only [go_sem, simprocAttr, hb1, a0b.2, fld1, fld2, fld3, fld4, fld5, fld6, pe1, pe2, pe3, w1, w2, w3, w4, w5, w6, w7, w8, w9, w10, strOf_bs, opn3, g7, g77]
end Go.Proofs.Try

namespace Go.Proofs.Try
set_option linter.unusedSimpArgs false
set_option linter.unusedVariables false
open Go.PM

theorem frame_nil : frame [] = [255] := rfl
theorem frame_cons (x : UInt8) (l : List UInt8) : frame (x :: l) = (16 + x / 16) :: (16 + x % 16) :: frame l := by simp [frame, nib]
theorem frame_len (l : List UInt8) : (frame l).length = 2 * l.length + 1 := by
  induction l with
  | nil => rfl
  | cons x l ih => rw [frame_cons]; simp [ih]; omega

theorem hi_ne (x : UInt8) : 16 + x / 16 ≠ 255 := by
  intro h
  have := congrArg UInt8.toNat h
  have := x.toNat_lt
  simp [UInt8.toNat_add, UInt8.toNat_div] at *
  omega
theorem hi_digit (x : UInt8) : digit (16 + x / 16) = true := by
  have := x.toNat_lt
  simp [digit, UInt8.le_iff_toNat_le, UInt8.lt_iff_toNat_lt, UInt8.toNat_add, UInt8.toNat_div]
  omega
theorem lo_digit (x : UInt8) : digit (16 + x % 16) = true := by
  have := x.toNat_lt
  simp [digit, UInt8.le_iff_toNat_le, UInt8.lt_iff_toNat_lt, UInt8.toNat_add, UInt8.toNat_mod]
  omega
theorem digit_lt {x : UInt8} (h : digit x = true) : 16 ≤ x.toNat ∧ x.toNat < 32 := by
  simp [digit, UInt8.le_iff_toNat_le, UInt8.lt_iff_toNat_lt] at h
  exact h
theorem join_nib (x : UInt8) : joinb (16 + x / 16) (16 + x % 16) = x := by
  have := x.toNat_lt
  apply UInt8.toNat_inj.1
  simp [joinb, UInt8.toNat_add, UInt8.toNat_sub, UInt8.toNat_mul, UInt8.toNat_div, UInt8.toNat_mod]
  omega
theorem nib_join {x y : UInt8} (hx : digit x = true) (hy : digit y = true) : 16 + joinb x y / 16 = x ∧ 16 + joinb x y % 16 = y := by
  have h1 := digit_lt hx
  have h2 := digit_lt hy
  constructor <;>
  · apply UInt8.toNat_inj.1
    simp [joinb, UInt8.toNat_add, UInt8.toNat_sub, UInt8.toNat_mul, UInt8.toNat_div, UInt8.toNat_mod]
    omega

/-- A record is read back. -/
theorem scan_frame (p : List UInt8) (r : List UInt8) : scan1 (frame p ++ r) = some (p, 2 * p.length + 1) := by
  induction p with
  | nil => rw [frame_nil]; show scan1 (255 :: r) = _; unfold scan1; simp
  | cons x p ih =>
    rw [frame_cons]
    simp only [List.cons_append, scan1, if_neg (hi_ne x), hi_digit, lo_digit, Bool.and_self, if_true, ih, join_nib, Option.map_some]
    simp; omega
/-- What is read is a record. -/
theorem scan_take : ∀ (l : List UInt8) {p : List UInt8} {m : Nat}, scan1 l = some (p, m) → l.take m = frame p ∧ m ≤ l.length
  | [], p, m, h => by simp [scan1] at h
  | [x], p, m, h => by
    simp only [scan1] at h
    split at h
    · rename_i hx
      simp at h; obtain ⟨rfl, rfl⟩ := h
      simp [frame_nil, hx]
    · simp at h
  | x :: y :: r, p, m, h => by
    simp only [scan1] at h
    split at h
    · rename_i hx
      simp at h; obtain ⟨rfl, rfl⟩ := h
      simp [frame_nil, hx]
    · split at h
      · rename_i hd
        simp only [Bool.and_eq_true] at hd
        rw [Option.map_eq_some_iff] at h
        obtain ⟨⟨p', m'⟩, h1, h2⟩ := h
        obtain ⟨k1, k2⟩ := scan_take r h1
        simp at h2
        obtain ⟨rfl, rfl⟩ := h2
        obtain ⟨n1, n2⟩ := nib_join hd.1 hd.2
        refine ⟨?_, by simp; omega⟩
        rw [frame_cons, n1, n2, ← k1]
        rfl
      · simp at h
/-- No proper beginning of a record, with zeros behind it, is one. -/
theorem scan_torn : ∀ (p : List UInt8) (a n : Nat), a < (frame p).length → scan1 ((frame p).take a ++ List.replicate n 0) = none := by
  have z : ∀ n, scan1 (List.replicate n (0 : UInt8)) = none := by
    intro n
    cases n with
    | zero => rfl
    | succ n => cases n with
      | zero => rfl
      | succ n =>
        simp only [List.replicate_succ, scan1]
        rfl
  intro p
  induction p with
  | nil =>
    intro a n h
    rw [frame_nil] at h
    have : a = 0 := by simpa using h
    subst this
    simpa using z n
  | cons x p ih =>
    intro a n h
    rw [frame_cons] at h ⊢
    cases a with
    | zero => simpa using z n
    | succ a => cases a with
      | zero =>
        cases n with
        | zero => simp [scan1, hi_ne]
        | succ n =>
          simp only [List.replicate_succ, List.take_succ_cons, List.take_zero, List.cons_append, List.nil_append, scan1, if_neg (hi_ne x)]
          rw [if_neg]
          simp [digit]
      | succ a =>
        have := ih a n (by simp at h; omega)
        simp only [List.take_succ_cons, List.cons_append, scan1, if_neg (hi_ne x), hi_digit, lo_digit, Bool.and_self, if_true, this, Option.map_none]

theorem recs_none {f : Nat} {l : List UInt8} {a : Nat} (h : scan1 l = none) : recs f l a = [] := by
  cases f with
  | zero => rfl
  | succ f => simp only [recs, h]
theorem parse_none {l : List UInt8} (h : scan1 l = none) : parseR l = [] ∧ parseE l = 0 := by
  simp [parseR, parseE, parseAll, recs_none h, endAt]

theorem frame_prefix {p q : List UInt8} (h : (frame q).take (frame p).length = frame p) : p = q := by
  have h1 := scan_frame q []
  rw [List.append_nil] at h1
  have h2 : frame q = frame p ++ (frame q).drop (frame p).length := by
    have := List.take_append_drop (frame p).length (frame q)
    rw [h] at this
    exact this.symm
  rw [h2, scan_frame] at h1
  simp at h1
  exact h1.1

def frames (l : List (List UInt8)) : List UInt8 := l.flatMap frame
theorem endAt_cons (p : List UInt8) (m : Nat) (l : List (List UInt8 × Nat)) : endAt ((p, m) :: l) = if l = [] then m else endAt l := by
  unfold endAt
  cases l with
  | nil => rfl
  | cons q l => simp [List.getLast?_cons_cons]
/-- The records at the beginning of bytes, written, are these bytes. -/
theorem recs_frames : ∀ (f : Nat) (l : List UInt8) (a : Nat), frames ((recs f l a).map (·.1)) = l.take (endAt (recs f l a) - a) ∧ (recs f l a ≠ [] → a ≤ endAt (recs f l a)) ∧ endAt (recs f l a) ≤ a + l.length := by
  intro f
  induction f with
  | zero => intro l a; simp [recs, frames, endAt]
  | succ f ih =>
    intro l a
    simp only [recs]
    cases hs : scan1 l with
    | none => simp [frames, endAt]
    | some q =>
      obtain ⟨p, m⟩ := q
      obtain ⟨h1, h2⟩ := scan_take l hs
      obtain ⟨h3, h4, h5⟩ := ih (l.drop m) (a + m)
      simp only
      rw [endAt_cons]
      simp only [List.map_cons, frames, List.flatMap_cons] at h3 ⊢
      rw [h3]
      by_cases hn : recs f (l.drop m) (a + m) = []
      · rw [if_pos hn, hn]
        simp [endAt, h1]
        omega
      · rw [if_neg hn]
        have h6 := h4 hn
        rw [List.length_drop] at h5
        refine ⟨?_, fun _ => by omega, by omega⟩
        rw [← h1]
        have : endAt (recs f (l.drop m) (a + m)) - a = m + (endAt (recs f (l.drop m) (a + m)) - (a + m)) := by omega
        rw [this, List.take_add]
theorem parse_frames (b : List UInt8) : frames (parseR b) = b.take (parseE b) := by
  have := (recs_frames (b.length + 1) b 0).1
  rw [Nat.sub_zero] at this
  exact this
theorem strB_ne (l l' : List UInt8) : (!(strB l == strB l')) = !(l == l') := by rw [strB_beq]
end Go.Proofs.Try

namespace Go.Proofs.Try
set_option linter.unusedSimpArgs false
set_option linter.unusedVariables false
open Go.PM
set_option maxHeartbeats 4000000
set_option maxRecDepth 100000

theorem torn_eq (f : List UInt8) (a : Int) (h0 : 0 ≤ a) (h1 : a < (f.length : Int)) : List.take ((f.length : Int) + 2).toNat (List.take a.toNat f ++ List.drop (min a.toNat f.length) (List.replicate ((f.length : Int) + 2).toNat 0)) = f.take a.toNat ++ List.replicate (f.length + 2 - a.toNat) 0 := by
  have h2 : ((f.length : Int) + 2).toNat = f.length + 2 := by omega
  rw [h2, Nat.min_eq_left (by omega), List.drop_replicate, List.take_of_length_le]
  simp; omega
theorem torn_none (r : List UInt8) (a : Int) (h0 : 0 ≤ a) (h1 : a < ((frame r).length : Int)) : scan1 (List.take (((frame r).length : Int) + 2).toNat (List.take a.toNat (frame r) ++ List.drop (min a.toNat (frame r).length) (List.replicate (((frame r).length : Int) + 2).toNat 0))) = none := by
  rw [torn_eq _ _ h0 h1]
  exact scan_torn r _ _ (by omega)
theorem frames_succ (R : List (List UInt8)) (i : Nat) (h : i < R.length) : frames (R.take (i + 1)) = frames (R.take i) ++ frame (R.getD i []) := by
  unfold frames
  rw [List.take_add_one, List.flatMap_append, List.getElem?_eq_getElem h]
  simp [List.getD_eq_getElem?_getD, h]
theorem frames_le (R : List (List UInt8)) : ∀ i, (frames (R.take i)).length ≤ (frames R).length := by
  intro i
  have : frames R = frames (R.take i) ++ frames (R.drop i) := by
    unfold frames
    rw [← List.flatMap_append, List.take_append_drop]
  rw [this, List.length_append]; omega
theorem c3 (rec other : List UInt8) (at_ : Int) (b : List UInt8) : PureT Try.prog 3 [.sl false (bs rec), .sl false (bs other), .val (.int .i64 at_), .sl false (bs b)] (· = .val (.bool true)) := by
  have l1 := frame_len rec
  have l2 := frame_len other
  have l3 := parseE_le b
  have key : (!rec == other) = true → (List.take (↑(frame rec).length : Int).toNat (frame other) == frame rec) = false := by
    intro h
    rw [Int.toNat_natCast]
    cases hc : ((frame other).take (frame rec).length == frame rec) with
    | false => rfl
    | true => rw [frame_prefix (eq_of_beq hc)] at h; simp at h
  have t1 : 0 ≤ at_ → at_ < ((frame rec).length : Int) → _ := fun h0 h1 => parse_none (torn_none rec at_ h0 h1)
  have t3 : (List.take (((frame rec).length : Int) + 2).toNat (List.take at_.toNat (frame rec) ++ List.drop (min at_.toNat (frame rec).length) (List.replicate (((frame rec).length : Int) + 2).toNat 0))).length ≤ rec.length + rec.length + 3 := by
    rw [List.length_take]; omega
  have f0 : (frames (parseR b)).length ≤ b.length := by rw [parse_frames, List.length_take]; omega
  have f9 := parse_frames b
  have f10 : (parseR b).length ≤ b.length + 1 := by rw [parseR_len]; exact parse_len b
  generalize hT : List.take (((frame rec).length : Int) + 2).toNat (List.take at_.toNat (frame rec) ++ List.drop (min at_.toNat (frame rec).length) (List.replicate (((frame rec).length : Int) + 2).toNat 0)) = T at *
  refine CallT.intro Try.func3 (by decide) rfl ?_
  simp -implicitDefEqProofs (dsimp := false) only [go_sem, simprocAttr, strOf_bs, strB_ne, hT, enterTm, Try.ntmps3, List.range'_succ, List.range'_zero, List.zip_cons_cons, List.zip_nil_left]
  refine CodeT.seqR ?_
  simp -implicitDefEqProofs (dsimp := false) only [go_sem, simprocAttr, strOf_bs, strB_ne, hT]
  refine CodeT.seqR ?_
  simp -implicitDefEqProofs (dsimp := false) only [go_sem, simprocAttr, strOf_bs, strB_ne, hT]
  refine PureT.eq (c12) rfl ?_
  simp -implicitDefEqProofs (dsimp := false) only [go_sem, simprocAttr, strOf_bs, strB_ne, hT]
  refine CodeT.seq ?_
  refine CodeT.seqR ?_
  simp -implicitDefEqProofs (dsimp := false) only [go_sem, simprocAttr, strOf_bs, strB_ne, hT]
  refine gif_i (fun g2 => ?_) (fun g2 => ?_)
  have d2 := ofDec g2
  simp -implicitDefEqProofs (dsimp := false) only [go_sem, simprocAttr, strOf_bs, strB_ne, hT, g2]
  refine CodeT.condT rfl ?_
  refine CodeT.seqR ?_
  simp -implicitDefEqProofs (dsimp := false) only [go_sem, simprocAttr, strOf_bs, strB_ne, hT, g2]
  refine CodeT.ret ?_
  simp -implicitDefEqProofs (dsimp := false) only [go_sem, simprocAttr, strOf_bs, strB_ne, hT, g2]
  refine pureEnd rfl ?_
  simp -implicitDefEqProofs (dsimp := false) only [go_sem, simprocAttr, strOf_bs, strB_ne, hT, g2]
  have d2 := ofDecF g2
  simp -implicitDefEqProofs (dsimp := false) only [go_sem, simprocAttr, strOf_bs, strB_ne, hT, g2]
  refine gif_i (fun g3 => ?_) (fun g3 => ?_)
  have d3 := ofDec g3
  simp -implicitDefEqProofs (dsimp := false) only [go_sem, simprocAttr, strOf_bs, strB_ne, hT, g2, g3]
  refine CodeT.condT rfl ?_
  refine CodeT.seqR ?_
  simp -implicitDefEqProofs (dsimp := false) only [go_sem, simprocAttr, strOf_bs, strB_ne, hT, g2, g3]
  refine CodeT.ret ?_
  simp -implicitDefEqProofs (dsimp := false) only [go_sem, simprocAttr, strOf_bs, strB_ne, hT, g2, g3]
  refine pureEnd rfl ?_
  simp -implicitDefEqProofs (dsimp := false) only [go_sem, simprocAttr, strOf_bs, strB_ne, hT, g2, g3]
  have d3 := ofDecF g3
  simp -implicitDefEqProofs (dsimp := false) only [go_sem, simprocAttr, strOf_bs, strB_ne, hT, g2, g3]
  refine CodeT.cond rfl (fun g4 => ?_) (fun g4 => ?_)
  have d4 := ofDec g4
  refine CodeT.seqR ?_
  simp -implicitDefEqProofs (dsimp := false) only [go_sem, simprocAttr, strOf_bs, strB_ne, hT, g2, g3, g4]
  refine CodeT.ret ?_
  simp -implicitDefEqProofs (dsimp := false) only [go_sem, simprocAttr, strOf_bs, strB_ne, hT, g2, g3, g4]
  refine pureEnd rfl ?_
  simp -implicitDefEqProofs (dsimp := false) only [go_sem, simprocAttr, strOf_bs, strB_ne, hT, g2, g3, g4]
  have d4 := ofDecF g4
  refine CodeT.skip ?_
  simp -implicitDefEqProofs (dsimp := false) only [go_sem, simprocAttr, strOf_bs, strB_ne, hT, g2, g3, g4]
  refine CodeT.seqR ?_
  simp -implicitDefEqProofs (dsimp := false) only [go_sem, simprocAttr, strOf_bs, strB_ne, hT, g2, g3, g4]
  refine PureT.eq (c13 _ ?_) rfl ?_
  omega
  simp -implicitDefEqProofs (dsimp := false) only [go_sem, simprocAttr, strOf_bs, strB_ne, hT, g2, g3, g4]
  refine CodeT.seqR ?_
  simp -implicitDefEqProofs (dsimp := false) only [go_sem, simprocAttr, strOf_bs, strB_ne, hT, g2, g3, g4]
  refine PureT.eq (c13 _ ?_) rfl ?_
  omega
  simp -implicitDefEqProofs (dsimp := false) only [go_sem, simprocAttr, strOf_bs, strB_ne, hT, g2, g3, g4]
  refine CodeT.joinAs [11, 10, 9, 0, 1, 3] ?_ ?_
  refine CodeT.seqR ?_
  simp -implicitDefEqProofs (dsimp := false) only [go_sem, simprocAttr, strOf_bs, strB_ne, hT, g2, g3, g4]
  refine gif_i (fun g7 => ?_) (fun g7 => ?_)
  have d7 := ofDec g7
  simp -implicitDefEqProofs (dsimp := false) only [go_sem, simprocAttr, strOf_bs, strB_ne, hT, g2, g3, g4, g7]
  refine CodeT.cond rfl (fun g8 => ?_) (fun g8 => ?_)
  have d8 := ofDec g8
  refine CodeT.seqR ?_
  simp -implicitDefEqProofs (dsimp := false) only [go_sem, simprocAttr, strOf_bs, strB_ne, hT, g2, g3, g4, g7, g8]
  simp -implicitDefEqProofs (dsimp := false) (disch := omega) only [i64_in, bs_getD, opvs_getD, is64_getD, bss_getD]
  refine And.intro (by omega) ?_
  refine And.intro (by omega) ?_
  refine And.intro (by omega) ?_
  refine CodeT.seqR ?_
  simp -implicitDefEqProofs (dsimp := false) only [go_sem, simprocAttr, strOf_bs, strB_ne, hT, g2, g3, g4, g7, g8]
  refine And.intro (by exact uni_bs _) ?_
  refine And.intro (by assumption) ?_
  refine And.intro (by omega) ?_
  refine And.intro (by omega) ?_
  refine And.intro (by exact uni_bs _) ?_
  refine And.intro (by omega) ?_
  refine CodeT.seqR ?_
  simp -implicitDefEqProofs (dsimp := false) only [go_sem, simprocAttr, strOf_bs, strB_ne, hT, g2, g3, g4, g7, g8]
  refine CallT.args ⟨_, Try.func14, by decide, rfl⟩ ?_
  simp -implicitDefEqProofs (dsimp := false) only [go_sem, simprocAttr, strOf_bs, strB_ne, hT, g2, g3, g4, g7, g8]
  refine And.intro (by omega) ?_
  refine PureT.eq (c14 _ ?_) rfl ?_
  omega
  simp -implicitDefEqProofs (dsimp := false) only [go_sem, simprocAttr, strOf_bs, strB_ne, hT, g2, g3, g4, g7, g8]
  refine CodeT.seqR ?_
  simp -implicitDefEqProofs (dsimp := false) only [go_sem, simprocAttr, strOf_bs, strB_ne, hT, g2, g3, g4, g7, g8]
  refine gif_i (fun g11 => ?_) (fun g11 => ?_)
  have d11 := ofBne g11
  simp -implicitDefEqProofs (dsimp := false) only [go_sem, simprocAttr, strOf_bs, strB_ne, hT, g2, g3, g4, g7, g8, g11]
  refine CodeT.condT rfl ?_
  refine CodeT.seqR ?_
  simp -implicitDefEqProofs (dsimp := false) only [go_sem, simprocAttr, strOf_bs, strB_ne, hT, g2, g3, g4, g7, g8, g11]
  refine CodeT.ret ?_
  simp -implicitDefEqProofs (dsimp := false) only [go_sem, simprocAttr, strOf_bs, strB_ne, hT, g2, g3, g4, g7, g8, g11]
  refine pureEnd rfl ?_
  rotate_left
  have d11 := ofBneF g11
  simp -implicitDefEqProofs (dsimp := false) only [go_sem, simprocAttr, strOf_bs, strB_ne, hT, g2, g3, g4, g7, g8, g11]
  refine CodeT.cond rfl (fun g12 => ?_) (fun g12 => ?_)
  have d12 := ofBne g12
  (exfalso; omega)
  have d12 := ofBneF g12
  refine CodeT.skip ?_
  simp -implicitDefEqProofs (dsimp := false) only [go_sem, simprocAttr, strOf_bs, strB_ne, hT, g2, g3, g4, g7, g8, g11, g12]
  refine ⟨rfl, ?_, ?_, rfl, ?_⟩
  simp -implicitDefEqProofs (dsimp := false) only [go_sem, simprocAttr, strOf_bs, strB_ne, hT, g2, g3, g4, g7, g8, g11, g12, or_true, true_or, false_or, or_false, implies_true, Int.natCast_add, Int.cast_ofNat_Int, keepsD_nil]
  simp -implicitDefEqProofs (dsimp := false) only [go_sem, simprocAttr, strOf_bs, strB_ne, hT, g2, g3, g4, g7, g8, g11, g12, or_true, true_or, false_or, or_false, implies_true, Int.natCast_add, Int.cast_ofNat_Int, keepsD_nil]
  simp -implicitDefEqProofs (dsimp := false) only [go_sem, simprocAttr, strOf_bs, strB_ne, hT, g2, g3, g4, g7, g8, g11, g12, or_true, true_or, false_or, or_false, implies_true, Int.natCast_add, Int.cast_ofNat_Int, keepsD_nil]
  have d8 := ofDecF g8
  refine CodeT.skip ?_
  simp -implicitDefEqProofs (dsimp := false) only [go_sem, simprocAttr, strOf_bs, strB_ne, hT, g2, g3, g4, g7, g8]
  refine ⟨rfl, ?_, ?_, rfl, ?_⟩
  simp -implicitDefEqProofs (dsimp := false) only [go_sem, simprocAttr, strOf_bs, strB_ne, hT, g2, g3, g4, g7, g8, or_true, true_or, false_or, or_false, implies_true, Int.natCast_add, Int.cast_ofNat_Int, keepsD_nil]
  simp -implicitDefEqProofs (dsimp := false) only [go_sem, simprocAttr, strOf_bs, strB_ne, hT, g2, g3, g4, g7, g8, or_true, true_or, false_or, or_false, implies_true, Int.natCast_add, Int.cast_ofNat_Int, keepsD_nil]
  simp -implicitDefEqProofs (dsimp := false) only [go_sem, simprocAttr, strOf_bs, strB_ne, hT, g2, g3, g4, g7, g8, or_true, true_or, false_or, or_false, implies_true, Int.natCast_add, Int.cast_ofNat_Int, keepsD_nil]
  have d7 := ofDecF g7
  simp -implicitDefEqProofs (dsimp := false) only [go_sem, simprocAttr, strOf_bs, strB_ne, hT, g2, g3, g4, g7]
  refine CodeT.condF rfl ?_
  refine CodeT.skip ?_
  simp -implicitDefEqProofs (dsimp := false) only [go_sem, simprocAttr, strOf_bs, strB_ne, hT, g2, g3, g4, g7]
  refine ⟨rfl, ?_, ?_, rfl, ?_⟩
  simp -implicitDefEqProofs (dsimp := false) only [go_sem, simprocAttr, strOf_bs, strB_ne, hT, g2, g3, g4, g7, or_true, true_or, false_or, or_false, implies_true, Int.natCast_add, Int.cast_ofNat_Int, keepsD_nil]
  simp -implicitDefEqProofs (dsimp := false) only [go_sem, simprocAttr, strOf_bs, strB_ne, hT, g2, g3, g4, g7, or_true, true_or, false_or, or_false, implies_true, Int.natCast_add, Int.cast_ofNat_Int, keepsD_nil]
  simp -implicitDefEqProofs (dsimp := false) only [go_sem, simprocAttr, strOf_bs, strB_ne, hT, g2, g3, g4, g7, or_true, true_or, false_or, or_false, implies_true, Int.natCast_add, Int.cast_ofNat_Int, keepsD_nil]
  simp -implicitDefEqProofs (dsimp := false) only [go_sem, simprocAttr, strOf_bs, strB_ne, hT, g2, g3, g4]
  refine CodeT.joinAs [9, 3] ?_ ?_
  refine CodeT.seqD [(0, .free), (1, .free), (2, .free), (3, .free), (4, .free), (5, .free), (6, .free), (8, .free), (7, .read), (9, .read), (10, .free), (11, .free), (12, .free), (13, .free), (14, .free), (18, .free), (19, .free), (15, .read), (16, .read), (17, .free), (20, .free), (21, .free)] mixed (by kernel_rfl) ?_
  simp -implicitDefEqProofs (dsimp := false) only [go_sem, simprocAttr, strOf_bs, strB_ne, hT, g2, g3, g4]
  refine And.intro (by exact bs_byte _) ?_
  refine And.intro (by exact bs_byte _) ?_
  refine gif_i (fun g13 => ?_) (fun g13 => ?_)
  simp -implicitDefEqProofs (dsimp := false) only [go_sem, simprocAttr, strOf_bs, strB_ne, hT, g2, g3, g4, g13]
  refine And.intro (by trivial) ?_
  refine And.intro (by trivial) ?_
  refine gif_i (fun g14 => ?_) (fun g14 => ?_)
  have d14 := ofDec g14
  simp -implicitDefEqProofs (dsimp := false) only [go_sem, simprocAttr, strOf_bs, strB_ne, hT, g2, g3, g4, g13, g14]
  refine And.intro (by exact bs_byte _) ?_
  refine And.intro (by trivial) ?_
  refine And.intro (by trivial) ?_
  refine And.intro (by exact uni_bs _) ?_
  refine And.intro (by omega) ?_
  refine And.intro (by assumption) ?_
  refine And.intro (by exact bs_byte _) ?_
  refine CodeT.cond rfl (fun g15 => ?_) (fun g15 => ?_)
  refine CodeT.seqR ?_
  simp -implicitDefEqProofs (dsimp := false) only [go_sem, simprocAttr, strOf_bs, strB_ne, hT, g2, g3, g4, g13, g14, g15]
  refine CodeT.ret ?_
  simp -implicitDefEqProofs (dsimp := false) only [go_sem, simprocAttr, strOf_bs, strB_ne, hT, g2, g3, g4, g13, g14, g15]
  refine pureEnd rfl ?_
  rotate_left
  refine CodeT.skip ?_
  simp -implicitDefEqProofs (dsimp := false) only [go_sem, simprocAttr, strOf_bs, strB_ne, hT, g2, g3, g4, g13, g14, g15]
  refine ⟨rfl, ?_, ?_, rfl, ?_⟩
  simp -implicitDefEqProofs (dsimp := false) only [go_sem, simprocAttr, strOf_bs, strB_ne, hT, g2, g3, g4, g13, g14, g15, or_true, true_or, false_or, or_false, implies_true, Int.natCast_add, Int.cast_ofNat_Int, keepsD_nil]
  simp -implicitDefEqProofs (dsimp := false) only [go_sem, simprocAttr, strOf_bs, strB_ne, hT, g2, g3, g4, g13, g14, g15, or_true, true_or, false_or, or_false, implies_true, Int.natCast_add, Int.cast_ofNat_Int, keepsD_nil]
  simp -implicitDefEqProofs (dsimp := false) only [go_sem, simprocAttr, strOf_bs, strB_ne, hT, g2, g3, g4, g13, g14, g15, or_true, true_or, false_or, or_false, implies_true, Int.natCast_add, Int.cast_ofNat_Int, keepsD_nil]
  have d14 := ofDecF g14
  simp -implicitDefEqProofs (dsimp := false) only [go_sem, simprocAttr, strOf_bs, strB_ne, hT, g2, g3, g4, g13, g14]
  refine CodeT.condF rfl ?_
  refine CodeT.skip ?_
  simp -implicitDefEqProofs (dsimp := false) only [go_sem, simprocAttr, strOf_bs, strB_ne, hT, g2, g3, g4, g13, g14]
  refine ⟨rfl, ?_, ?_, rfl, ?_⟩
  simp -implicitDefEqProofs (dsimp := false) only [go_sem, simprocAttr, strOf_bs, strB_ne, hT, g2, g3, g4, g13, g14, or_true, true_or, false_or, or_false, implies_true, Int.natCast_add, Int.cast_ofNat_Int, keepsD_nil]
  simp -implicitDefEqProofs (dsimp := false) only [go_sem, simprocAttr, strOf_bs, strB_ne, hT, g2, g3, g4, g13, g14, or_true, true_or, false_or, or_false, implies_true, Int.natCast_add, Int.cast_ofNat_Int, keepsD_nil]
  simp -implicitDefEqProofs (dsimp := false) only [go_sem, simprocAttr, strOf_bs, strB_ne, hT, g2, g3, g4, g13, g14, or_true, true_or, false_or, or_false, implies_true, Int.natCast_add, Int.cast_ofNat_Int, keepsD_nil]
  simp -implicitDefEqProofs (dsimp := false) only [go_sem, simprocAttr, strOf_bs, strB_ne, hT, g2, g3, g4, g13]
  refine CodeT.condF rfl ?_
  refine CodeT.skip ?_
  simp -implicitDefEqProofs (dsimp := false) only [go_sem, simprocAttr, strOf_bs, strB_ne, hT, g2, g3, g4, g13]
  refine ⟨rfl, ?_, ?_, rfl, ?_⟩
  simp -implicitDefEqProofs (dsimp := false) only [go_sem, simprocAttr, strOf_bs, strB_ne, hT, g2, g3, g4, g13, or_true, true_or, false_or, or_false, implies_true, Int.natCast_add, Int.cast_ofNat_Int, keepsD_nil]
  simp -implicitDefEqProofs (dsimp := false) only [go_sem, simprocAttr, strOf_bs, strB_ne, hT, g2, g3, g4, g13, or_true, true_or, false_or, or_false, implies_true, Int.natCast_add, Int.cast_ofNat_Int, keepsD_nil]
  simp -implicitDefEqProofs (dsimp := false) only [go_sem, simprocAttr, strOf_bs, strB_ne, hT, g2, g3, g4, g13, or_true, true_or, false_or, or_false, implies_true, Int.natCast_add, Int.cast_ofNat_Int, keepsD_nil]
  simp -implicitDefEqProofs (dsimp := false) only [go_sem, simprocAttr, strOf_bs, strB_ne, hT, g2, g3, g4]
  refine CodeT.seqR ?_
  simp -implicitDefEqProofs (dsimp := false) only [go_sem, simprocAttr, strOf_bs, strB_ne, hT, g2, g3, g4]
  refine PureT.eq (c14 _ ?_) rfl ?_
  omega
  simp -implicitDefEqProofs (dsimp := false) only [go_sem, simprocAttr, strOf_bs, strB_ne, hT, g2, g3, g4]
  refine CodeT.seqR ?_
  simp -implicitDefEqProofs (dsimp := false) only [go_sem, simprocAttr, strOf_bs, strB_ne, hT, g2, g3, g4]
  refine CodeT.seq ?_
  refine CodeT.seqR ?_
  simp -implicitDefEqProofs (dsimp := false) only [go_sem, simprocAttr, strOf_bs, strB_ne, hT, g2, g3, g4]
  refine CodeT.block ?_
  refine CodeT.promote 17 1 rfl ?_
  simp -implicitDefEqProofs (dsimp := false) only [go_sem, simprocAttr, strOf_bs, strB_ne, hT, g2, g3, g4]
  refine CodeT.whileS (fun i : Nat => [(18, .val (.int .i64 (i : Nat))), (17, .hsl 0 i 0 (frames ((parseR b).take i)).length)]) [16, 15, 9, 3] (fun i : Nat => [.row true i 1 (bs (frames ((parseR b).take i)))]) (fun i : Nat => i ≤ (parseR b).length) (fun i : Nat => (parseR b).length - i) (0) ?_ rfl ?_ ?_
  omega
  refine ⟨rfl, ?_, ?_, rfl, ?_⟩
  simp -implicitDefEqProofs (dsimp := false) only [go_sem, simprocAttr, strOf_bs, strB_ne, hT, g2, g3, g4, or_true, true_or, false_or, or_false, implies_true, Int.natCast_add, Int.cast_ofNat_Int, keepsD_nil]
  refine And.intro ?_ ?_
  trivial
  trivial
  simp -implicitDefEqProofs (dsimp := false) only [go_sem, simprocAttr, strOf_bs, strB_ne, hT, g2, g3, g4, or_true, true_or, false_or, or_false, implies_true, Int.natCast_add, Int.cast_ofNat_Int, keepsD_nil]
  trivial
  simp -implicitDefEqProofs (dsimp := false) only [go_sem, simprocAttr, strOf_bs, strB_ne, hT, g2, g3, g4, or_true, true_or, false_or, or_false, implies_true, Int.natCast_add, Int.cast_ofNat_Int, keepsD_nil]
  rintro i hi
  have f1 := frames_le (parseR b) i
  have f2 := frames_succ (parseR b) i
  have f3 := frames_le (parseR b) (i + 1)
  have f4 := frame_len ((parseR b).getD i [])
  have f5 : i < (parseR b).length → (frames ((parseR b).take (i + 1))).length = (frames ((parseR b).take i)).length + (frame ((parseR b).getD i [])).length := fun h => by rw [f2 h, List.length_append]
  simp -implicitDefEqProofs (dsimp := false) only [go_sem, simprocAttr, strOf_bs, strB_ne, hT, g2, g3, g4]
  refine CodeT.seq ?_
  refine CodeT.seqR ?_
  simp -implicitDefEqProofs (dsimp := false) only [go_sem, simprocAttr, strOf_bs, strB_ne, hT, g2, g3, g4]
  refine CodeT.cond rfl (fun g17 => ?_) (fun g17 => ?_)
  have d17 := ofDec g17
  refine CodeT.skip ?_
  simp -implicitDefEqProofs (dsimp := false) only [go_sem, simprocAttr, strOf_bs, strB_ne, hT, g2, g3, g4, g17]
  refine CodeT.seq (CodeT.block ?_)
  refine CodeT.region ?_
  simp -implicitDefEqProofs (dsimp := false) only [go_sem, simprocAttr, strOf_bs, strB_ne, hT, g2, g3, g4, g17]
  refine gate_i ?_ ?_
  omega
  simp -implicitDefEqProofs (dsimp := false) (disch := omega) only [Int.toNat_natCast, i64_in, bs_getD, opvs_getD, is64_getD, bss_getD]
  simp -implicitDefEqProofs (dsimp := false) only [go_sem, simprocAttr, strOf_bs, strB_ne, hT, g2, g3, g4, g17]
  refine PureT.eq (c13 _ ?_) rfl ?_
  omega
  simp -implicitDefEqProofs (dsimp := false) only [go_sem, simprocAttr, strOf_bs, strB_ne, hT, g2, g3, g4, g17]
  refine And.intro (by exact uni_bs _) ?_
  refine And.intro (by omega) ?_
  refine CodeT.region ?_
  simp -implicitDefEqProofs (dsimp := false) only [go_sem, simprocAttr, strOf_bs, strB_ne, hT, g2, g3, g4, g17]
  simp -implicitDefEqProofs (dsimp := false) (disch := omega) only [i64_in, bs_getD, opvs_getD, is64_getD, bss_getD]
  refine ⟨i + 1, ?_⟩
  refine And.intro ?_ ?_
  omega
  refine And.intro ?_ ?_
  omega
  refine ⟨rfl, ?_, ?_, rfl, ?_⟩
  simp -implicitDefEqProofs (dsimp := false) only [go_sem, simprocAttr, strOf_bs, strB_ne, hT, g2, g3, g4, g17, or_true, true_or, false_or, or_false, implies_true, Int.natCast_add, Int.cast_ofNat_Int, keepsD_nil]
  refine And.intro ?_ ?_
  (congr 1 <;> omega)
  trivial
  simp -implicitDefEqProofs (dsimp := false) only [go_sem, simprocAttr, strOf_bs, strB_ne, hT, g2, g3, g4, g17, or_true, true_or, false_or, or_false, implies_true, Int.natCast_add, Int.cast_ofNat_Int, keepsD_nil]
  rotate_left
  simp -implicitDefEqProofs (dsimp := false) only [go_sem, simprocAttr, strOf_bs, strB_ne, hT, g2, g3, g4, g17, or_true, true_or, false_or, or_false, implies_true, Int.natCast_add, Int.cast_ofNat_Int, keepsD_nil]
  have d17 := ofDecF g17
  refine CodeT.exit ?_
  simp -implicitDefEqProofs (dsimp := false) only [go_sem, simprocAttr, strOf_bs, strB_ne, hT, g2, g3, g4, g17]
  refine CodeT.freeze 17 ?_
  simp -implicitDefEqProofs (dsimp := false) only [go_sem, simprocAttr, strOf_bs, strB_ne, hT, g2, g3, g4, g17]
  refine And.intro ?_ ?_
  omega
  refine CodeT.seqD [(0, .free), (1, .free), (2, .free), (3, .free), (4, .free), (5, .free), (6, .free), (7, .free), (8, .read), (9, .free), (10, .free), (11, .free), (12, .free), (13, .free), (14, .free), (15, .free), (16, .read), (17, .free), (18, .free), (19, .free), (20, .free)] mixed (by kernel_rfl) ?_
  simp -implicitDefEqProofs (dsimp := false) only [go_sem, simprocAttr, strOf_bs, strB_ne, hT, g2, g3, g4, g17]
  refine gif_i (fun g19 => ?_) (fun g19 => ?_)
  have d19 := ofDec g19
  simp -implicitDefEqProofs (dsimp := false) only [go_sem, simprocAttr, strOf_bs, strB_ne, hT, g2, g3, g4, g17, g19]
  refine And.intro (by assumption) ?_
  refine gif_i (fun g20 => ?_) (fun g20 => ?_)
  have d20 := ofDec g20
  simp -implicitDefEqProofs (dsimp := false) only [go_sem, simprocAttr, strOf_bs, strB_ne, hT, g2, g3, g4, g17, g19, g20]
  refine And.intro (by exact bs_byte _) ?_
  refine And.intro (by assumption) ?_
  refine And.intro (by exact uni_bs _) ?_
  refine And.intro (by assumption) ?_
  refine And.intro (by assumption) ?_
  refine And.intro (by exact bs_byte _) ?_
  refine CodeT.ret ?_
  simp -implicitDefEqProofs (dsimp := false) only [go_sem, simprocAttr, strOf_bs, strB_ne, hT, g2, g3, g4, g17, g19, g20]
  refine pureEnd rfl ?_
  rotate_left
  have d20 := ofDecF g20
  (exfalso; omega)
  have d19 := ofDecF g19
  (exfalso; omega)
  · obtain ⟨h1, h2⟩ := t1 d7 d8
    rw [h1] at d11
    exact absurd rfl d11
  · have h1 := key g13
    rw [Int.toNat_natCast] at h1
    rw [strB_beq, h1] at g15
    cases g15
  · rw [f2 (by omega)]
  have hi' : i = (parseR b).length := by omega
  subst hi'
  rw [List.take_length, f9, strB_beq]
  simp
end Go.Proofs.Try
