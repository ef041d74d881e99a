/-
  THE SPECIFICATION: WHAT IS TO BE DONE, WHAT IS READ.
-/
import Derived.Test.YtnmghpieidlpbaaD3
import Derived.ChangeSame
import Derived.Test.YtnmghpieidlpbaaRows
import Derived.WalkKit
set_option linter.unusedVariables false
set_option linter.unusedSimpArgs false
set_option linter.unusedSectionVars false
namespace Go.Proofs.Try
set_option linter.unusedSimpArgs false
set_option linter.unusedVariables false
open Go.PM
set_option maxHeartbeats 4000000
set_option maxRecDepth 100000

theorem nibs_len (l : List UInt8) (i : Nat) (h : i ≤ l.length) : ((l.take i).flatMap nib).length = 2 * i := by
  induction i with
  | zero => simp
  | succ i ih =>
    rw [List.take_add_one, List.getElem?_eq_getElem (by omega), List.flatMap_append, List.length_append, ih (by omega)]
    simp [nib]; omega
theorem nibs_succ (l : List UInt8) (i : Nat) (h : i < l.length) : (l.take (i + 1)).flatMap nib = (l.take i).flatMap nib ++ nib (l.getD i 0) := by
  rw [List.take_add_one, List.getElem?_eq_getElem h, List.flatMap_append]
  simp [List.getD_eq_getElem?_getD, h]
theorem nib_av (x : UInt8) : [AV.val (.int .u8 (IntKind.u8.wrap (16 + IntKind.u8.wrap ((x.toNat : Int).tdiv 16)))), .val (.int .u8 (IntKind.u8.wrap (16 + (x.toNat : Int).tmod 16)))] = bs (nib x) := by
  rw [u8_16, u8_quo, u8_rem, u8_add, u8_add]
  rfl
theorem c47 (l : List UInt8) (hl : l.length ≤ 1000000) : PureT Try.prog 47 [.sl false (bs l)] (· = .sl false (bs (frame l))) := by
  refine CallT.res ?_
  refine CallT.intro Try.func47 (by decide) rfl ?_
  simp -implicitDefEqProofs (dsimp := false) only [go_sem, simprocAttr, bs_snoc2, enterTm, Try.ntmps47, List.range'_succ, List.range'_zero, List.zip_cons_cons, List.zip_nil_left]
  refine CodeT.seqR ?_
  simp -implicitDefEqProofs (dsimp := false) only [go_sem, simprocAttr, bs_snoc2]
  refine CodeT.seqR ?_
  simp -implicitDefEqProofs (dsimp := false) only [go_sem, simprocAttr, bs_snoc2]
  refine CodeT.seq ?_
  refine CodeT.seqR ?_
  simp -implicitDefEqProofs (dsimp := false) only [go_sem, simprocAttr, bs_snoc2]
  refine CodeT.block ?_
  refine CodeT.promote 3 1 rfl ?_
  simp -implicitDefEqProofs (dsimp := false) only [go_sem, simprocAttr, bs_snoc2]
  refine CodeT.whileS (fun i : Nat => [(4, .val (.int .i64 (i : Nat))), (3, .hsl 0 i 0 (2 * i))]) [0] (fun i : Nat => [.row true i 1 (bs ((l.take i).flatMap nib))]) (fun i : Nat => i ≤ l.length) (fun i : Nat => l.length - i) (0) ?_ rfl ?_ ?_
  omega
  refine ⟨rfl, ?_, ?_, rfl, ?_⟩
  simp -implicitDefEqProofs (dsimp := false) only [go_sem, simprocAttr, bs_snoc2, or_true, true_or, false_or, or_false, implies_true, Int.natCast_add, Int.cast_ofNat_Int, keepsD_nil]
  trivial
  simp -implicitDefEqProofs (dsimp := false) only [go_sem, simprocAttr, bs_snoc2, or_true, true_or, false_or, or_false, implies_true, Int.natCast_add, Int.cast_ofNat_Int, keepsD_nil]
  trivial
  simp -implicitDefEqProofs (dsimp := false) only [go_sem, simprocAttr, bs_snoc2, or_true, true_or, false_or, or_false, implies_true, Int.natCast_add, Int.cast_ofNat_Int, keepsD_nil]
  rintro i hi
  have f1 := nibs_len l i hi
  have f2 := nibs_succ l i
  simp -implicitDefEqProofs (dsimp := false) only [go_sem, simprocAttr, bs_snoc2]
  refine CodeT.seq ?_
  refine CodeT.seqR ?_
  simp -implicitDefEqProofs (dsimp := false) only [go_sem, simprocAttr, bs_snoc2]
  refine CodeT.cond rfl (fun g1 => ?_) (fun g1 => ?_)
  have d1 := ofDec g1
  refine CodeT.skip ?_
  simp -implicitDefEqProofs (dsimp := false) only [go_sem, simprocAttr, bs_snoc2, g1]
  refine CodeT.seq (CodeT.block ?_)
  refine CodeT.drawnL [(0, .free), (1, .free), (2, .free), (7, .free), (8, .free), (3, .read), (4, .read), (5, .free), (6, .free), (9, .read), (10, .read), (11, .free), (12, .free), (13, .upd), (14, .upd), (15, .free)] mixed (by kernel_rfl) ?_
  simp -implicitDefEqProofs (dsimp := false) only [go_sem, simprocAttr, bs_snoc2, g1]
  refine gate_i ?_ ?_
  omega
  simp -implicitDefEqProofs (dsimp := false) (disch := omega) only [Int.toNat_natCast, i64_in, bs_getD, opvs_getD, is64_getD, bss_getD]
  simp -implicitDefEqProofs (dsimp := false) only [go_sem, simprocAttr, bs_snoc2, g1]
  refine gate_i ?_ ?_
  omega
  simp -implicitDefEqProofs (dsimp := false) (disch := omega) only [Int.toNat_natCast, i64_in, bs_getD, opvs_getD, is64_getD, bss_getD]
  simp -implicitDefEqProofs (dsimp := false) only [go_sem, simprocAttr, bs_snoc2, g1]
  refine And.intro (by trivial) ?_
  refine And.intro (by exact Stable.refl _) ?_
  refine And.intro ?_ ?_
  rotate_left
  refine And.intro (by omega) ?_
  refine And.intro (by omega) ?_
  refine And.intro (by exact Stable.row (Stable.refl _)) ?_
  refine CodeT.region ?_
  simp -implicitDefEqProofs (dsimp := false) only [go_sem, simprocAttr, bs_snoc2, g1]
  simp -implicitDefEqProofs (dsimp := false) (disch := omega) only [i64_in, bs_getD, opvs_getD, is64_getD, bss_getD]
  refine ⟨i + 1, ?_⟩
  refine And.intro ?_ ?_
  omega
  refine And.intro ?_ ?_
  omega
  refine ⟨rfl, ?_, ?_, rfl, ?_⟩
  simp -implicitDefEqProofs (dsimp := false) only [go_sem, simprocAttr, bs_snoc2, g1, or_true, true_or, false_or, or_false, implies_true, Int.natCast_add, Int.cast_ofNat_Int, keepsD_nil]
  refine And.intro ?_ ?_
  (congr 1 <;> omega)
  trivial
  simp -implicitDefEqProofs (dsimp := false) only [go_sem, simprocAttr, bs_snoc2, g1, or_true, true_or, false_or, or_false, implies_true, Int.natCast_add, Int.cast_ofNat_Int, keepsD_nil]
  rotate_left
  simp -implicitDefEqProofs (dsimp := false) only [go_sem, simprocAttr, bs_snoc2, g1, or_true, true_or, false_or, or_false, implies_true, Int.natCast_add, Int.cast_ofNat_Int, keepsD_nil]
  have d1 := ofDecF g1
  refine CodeT.exit ?_
  simp -implicitDefEqProofs (dsimp := false) only [go_sem, simprocAttr, bs_snoc2, g1]
  refine CodeT.seqR ?_
  simp -implicitDefEqProofs (dsimp := false) only [go_sem, simprocAttr, bs_snoc2, g1]
  refine And.intro (by trivial) ?_
  refine And.intro ?_ ?_
  rotate_left
  refine And.intro (by omega) ?_
  refine And.intro (by omega) ?_
  refine CodeT.ret ?_
  simp -implicitDefEqProofs (dsimp := false) only [go_sem, simprocAttr, bs_snoc2, g1]
  refine And.intro (by omega) ?_
  refine pureEnd rfl ?_
  rotate_left
  · rw [nib_av]; exact uni_bs _
  · rw [nib_av, f2 (by omega), ← bs_append]
  · exact uni_bs [255]
  · have : i = l.length := by omega
    subst this
    rw [List.take_length, show [AV.val (.int .u8 255)] = bs [255] from rfl, bs_append, List.take_of_length_le (by rw [bs_length, List.length_append]; simp)]
    rfl
/-- What is told of what is seen of a disk. -/
theorem halfOf_seen (d : Dsk) (hi : isDiskB d = true) : halfOf (seenB d) = useB d := by
  have := seenB_length (isDisk_ok hi).2
  unfold halfOf; rw [this]; rfl
theorem c76s (d : Dsk) (hi : isDiskB d = true) : PureT Try.prog 76 [.sl false (bs (seenB d))] (· = .tup [.sl false (bss (parseR (useB d))), .val (.int .i64 (halfB d + endB d : Nat)), .val (.int .i64 (halfB d + szB d : Nat))]) := by
  have h1 := seenB_length (isDisk_ok hi).2
  have h2 := disk_facts hi
  have := c76 (seenB d) (by omega) (by omega)
  rw [halfOf_seen d hi, h1] at this
  exact this
theorem c77s (d : Dsk) (hi : isDiskB d = true) (hf : Few d) : PureT Try.prog 77 [dkv d] (· = .sl false (bs (seenB d))) := c77 d (isDisk_ok hi).2 hf
theorem c87 (d : Dsk) (hi : isDiskB d = true) (hf : Few d) : PureT Try.prog 87 [dkv d] (· = .val (.bool (clB d))) := by
  have h1 := seenB_length (isDisk_ok hi).2
  have h2 := disk_facts hi
  have h3 := c76 d.bytes (by omega) (by omega)
  obtain ⟨k1, k2⟩ := halfAt_le d.bytes (by omega)
  have h4 := parseE_le (halfOf d.bytes)
  have h5 : (halfOf d.bytes).length = d.bytes.length / 2 := by simp [halfOf]; omega
  have e1 : (List.take (halfB d + szB d) (seenB d)).drop (halfB d + endB d) = (useB d).drop (endB d) := by
    show _ = (List.take (szB d) (List.drop (halfB d) (seenB d))).drop (endB d)
    rw [List.take_drop, List.drop_drop]
  have e2 : halfAt d.bytes = halfB d → (List.take (halfB d + szB d) d.bytes).drop (halfAt d.bytes + parseE (halfOf d.bytes)) = (oldB d (halfB d)).drop (parseE (oldB d (halfB d))) := by
    intro h
    rw [h]
    have : halfOf d.bytes = oldB d (halfB d) := by unfold halfOf oldB; rw [h]
    rw [this]
    show _ = (List.take (szB d) (List.drop (halfB d) d.bytes)).drop _
    rw [List.take_drop, List.drop_drop]
  have e3 : ∀ b, clB d = b → (if (!zerosB ((useB d).drop (endB d))) = true then false else if (((halfAt d.bytes : Nat) : Int) != ((halfB d : Nat) : Int)) = true then false else zerosB ((oldB d (halfB d)).drop (parseE (oldB d (halfB d))))) = b := fun b h => h
  refine CallT.intro Try.func87 (by decide) rfl ?_
  simp -implicitDefEqProofs (dsimp := false) only [go_sem, simprocAttr, e1, enterTm, Try.ntmps87, List.range'_succ, List.range'_zero, List.zip_cons_cons, List.zip_nil_left]
  refine CodeT.seqR ?_
  simp -implicitDefEqProofs (dsimp := false) only [go_sem, simprocAttr, e1]
  refine CodeT.freeze 1 ?_
  simp -implicitDefEqProofs (dsimp := false) only [go_sem, simprocAttr, e1]
  refine CodeT.seqR ?_
  simp -implicitDefEqProofs (dsimp := false) only [go_sem, simprocAttr, e1]
  refine PureT.eq (c77s d hi hf) rfl ?_
  simp -implicitDefEqProofs (dsimp := false) only [go_sem, simprocAttr, e1]
  refine CodeT.seqR ?_
  simp -implicitDefEqProofs (dsimp := false) only [go_sem, simprocAttr, e1]
  refine PureT.eq (c76s d hi) rfl ?_
  simp -implicitDefEqProofs (dsimp := false) only [go_sem, simprocAttr, e1]
  refine CodeT.seqR ?_
  simp -implicitDefEqProofs (dsimp := false) only [go_sem, simprocAttr, e1]
  refine PureT.eq (h3) rfl ?_
  simp -implicitDefEqProofs (dsimp := false) only [go_sem, simprocAttr, e1]
  refine CodeT.seqR ?_
  simp -implicitDefEqProofs (dsimp := false) only [go_sem, simprocAttr, e1]
  refine gif_i (fun g9 => ?_) (fun g9 => ?_)
  have d9 := ofBeq g9
  simp -implicitDefEqProofs (dsimp := false) only [go_sem, simprocAttr, e1, g9]
  refine And.intro (by exact uni_bs _) ?_
  refine And.intro (by omega) ?_
  refine And.intro (by omega) ?_
  refine And.intro (by omega) ?_
  refine PureT.eq (c79 _ ?_) rfl ?_
  rotate_left
  simp -implicitDefEqProofs (dsimp := false) only [go_sem, simprocAttr, e1, g9]
  refine gif_i (fun g11 => ?_) (fun g11 => ?_)
  simp -implicitDefEqProofs (dsimp := false) only [go_sem, simprocAttr, e1, g9, g11]
  refine And.intro (by exact uni_bs _) ?_
  refine And.intro (by omega) ?_
  refine And.intro (by omega) ?_
  refine And.intro (by omega) ?_
  refine PureT.eq (c79 _ ?_) rfl ?_
  rotate_left
  simp -implicitDefEqProofs (dsimp := false) only [go_sem, simprocAttr, e1, g9, g11]
  refine CodeT.ret ?_
  simp -implicitDefEqProofs (dsimp := false) only [go_sem, simprocAttr, e1, g9, g11]
  refine pureEnd rfl ?_
  rotate_left
  simp -implicitDefEqProofs (dsimp := false) only [go_sem, simprocAttr, e1, g9, g11]
  refine CodeT.ret ?_
  simp -implicitDefEqProofs (dsimp := false) only [go_sem, simprocAttr, e1, g9, g11]
  refine pureEnd rfl ?_
  rotate_left
  have d9 := ofBeqF g9
  simp -implicitDefEqProofs (dsimp := false) only [go_sem, simprocAttr, e1, g9]
  refine CodeT.ret ?_
  simp -implicitDefEqProofs (dsimp := false) only [go_sem, simprocAttr, e1, g9]
  refine pureEnd rfl ?_
  rotate_left
  · rw [List.length_drop]; omega
  · rw [List.length_drop, List.length_take]; omega
  · have hh : halfAt d.bytes = halfB d := by
      have := d9; unfold szB at this; omega
    rw [← e3 _ rfl, g11, e2 hh, hh]
    simp
  · rw [← e3 _ rfl, g11]
    simp
  · have hh : halfAt d.bytes ≠ halfB d := fun h => by
      rw [h] at g9
      simp [szB] at g9
    rw [← e3 _ rfl]
    have : (((halfAt d.bytes : Nat) : Int) != ((halfB d : Nat) : Int)) = true := by simpa using (by omega : ((halfAt d.bytes : Nat) : Int) ≠ ((halfB d : Nat) : Int))
    rw [this]
    simp
theorem half_bool (d : Dsk) : (((halfB d + szB d : Nat) : Int) - ((halfB d + endB d : Nat) : Int)) = ((szB d : Nat) : Int) - (endB d : Nat) := by omega
theorem c43 (d : Dsk) (hf : Few d) : PureT Try.prog 43 [dkv d] (· = checkV d) := by
  cases hi : isDiskB d
  · refine CallT.intro Try.func43 (by decide) rfl ?_
    simp -implicitDefEqProofs (dsimp := false) only [go_sem, simprocAttr, hi, enterTm, Try.ntmps43, List.range'_succ, List.range'_zero, List.zip_cons_cons, List.zip_nil_left]
    refine CodeT.seqR ?_
    simp -implicitDefEqProofs (dsimp := false) only [go_sem, simprocAttr, hi]
    refine CodeT.seq ?_
    refine CodeT.freeze 1 ?_
    simp -implicitDefEqProofs (dsimp := false) only [go_sem, simprocAttr, hi]
    refine CodeT.seqR ?_
    simp -implicitDefEqProofs (dsimp := false) only [go_sem, simprocAttr, hi]
    refine PureT.eq (c73 _ ?_) rfl ?_
    assumption
    simp -implicitDefEqProofs (dsimp := false) only [go_sem, simprocAttr, hi]
    refine CodeT.condT rfl ?_
    refine CodeT.seqR ?_
    simp -implicitDefEqProofs (dsimp := false) only [go_sem, simprocAttr, hi]
    refine CodeT.ret ?_
    simp -implicitDefEqProofs (dsimp := false) only [go_sem, simprocAttr, hi]
    refine pureEnd rfl ?_
    simp only [checkV, hi, er, Bool.true_and, Bool.false_and, Bool.and_true, Bool.and_false, Bool.true_or, Bool.false_or, Bool.or_true, Bool.or_false, Bool.not_true, Bool.not_false, Bool.false_eq_true, ↓reduceIte]
  refine CallT.intro Try.func43 (by decide) rfl ?_
  simp -implicitDefEqProofs (dsimp := false) only [go_sem, simprocAttr, hi, enterTm, Try.ntmps43, List.range'_succ, List.range'_zero, List.zip_cons_cons, List.zip_nil_left]
  refine CodeT.seqR ?_
  simp -implicitDefEqProofs (dsimp := false) only [go_sem, simprocAttr, hi]
  refine CodeT.seq ?_
  refine CodeT.freeze 1 ?_
  simp -implicitDefEqProofs (dsimp := false) only [go_sem, simprocAttr, hi]
  refine CodeT.seqR ?_
  simp -implicitDefEqProofs (dsimp := false) only [go_sem, simprocAttr, hi]
  refine PureT.eq (c73 _ ?_) rfl ?_
  assumption
  simp -implicitDefEqProofs (dsimp := false) only [go_sem, simprocAttr, hi]
  refine CodeT.condF rfl ?_
  refine CodeT.skip ?_
  simp -implicitDefEqProofs (dsimp := false) only [go_sem, simprocAttr, hi]
  refine CodeT.seqR ?_
  simp -implicitDefEqProofs (dsimp := false) only [go_sem, simprocAttr, hi]
  refine PureT.eq (c77s d hi hf) rfl ?_
  simp -implicitDefEqProofs (dsimp := false) only [go_sem, simprocAttr, hi]
  refine PureT.eq (c76s d hi) rfl ?_
  simp -implicitDefEqProofs (dsimp := false) only [go_sem, simprocAttr, hi]
  refine CodeT.seqR ?_
  simp -implicitDefEqProofs (dsimp := false) only [go_sem, simprocAttr, hi]
  refine gif_i (fun g4 => ?_) (fun g4 => ?_)
  have d4 := ofDec g4
  simp -implicitDefEqProofs (dsimp := false) only [go_sem, simprocAttr, hi, g4]
  refine PureT.eq (c87 d hi hf) rfl ?_
  simp -implicitDefEqProofs (dsimp := false) only [go_sem, simprocAttr, hi, g4]
  refine CodeT.ret ?_
  simp -implicitDefEqProofs (dsimp := false) only [go_sem, simprocAttr, hi, g4]
  refine pureEnd rfl ?_
  simp only [checkV, hi, er, wrB_eq, g4, Bool.true_and, Bool.false_and, Bool.and_true, Bool.and_false, Bool.true_or, Bool.false_or, Bool.or_true, Bool.or_false, Bool.not_true, Bool.not_false, Bool.false_eq_true, ↓reduceIte]
  have d4 := ofDecF g4
  simp -implicitDefEqProofs (dsimp := false) only [go_sem, simprocAttr, hi, g4]
  refine CodeT.ret ?_
  simp -implicitDefEqProofs (dsimp := false) only [go_sem, simprocAttr, hi, g4]
  refine pureEnd rfl ?_
  simp only [checkV, hi, er, wrB_eq, g4, Bool.true_and, Bool.false_and, Bool.and_true, Bool.and_false, Bool.true_or, Bool.false_or, Bool.or_true, Bool.or_false, Bool.not_true, Bool.not_false, Bool.false_eq_true, ↓reduceIte]
theorem c30 (d : Dsk) (hf : Few d) (base : List UInt8) (hb : base.length ≤ 1000000) : PureT Try.prog 30 [dkv d, .sl false (bs base)] (· = formatV d base) := by
  refine CallT.laxR ?_
  have hl := frame_length base
  cases hi : isDiskB d
  · refine CallT.intro Try.func30 (by decide) rfl ?_
    simp -implicitDefEqProofs (dsimp := false) only [go_sem, simprocAttr, hi, enterTm, Try.ntmps30, List.range'_succ, List.range'_zero, List.zip_cons_cons, List.zip_nil_left]
    refine CodeT.seqR ?_
    simp -implicitDefEqProofs (dsimp := false) only [go_sem, simprocAttr, hi]
    refine CodeT.seq ?_
    refine CodeT.freeze 2 ?_
    simp -implicitDefEqProofs (dsimp := false) only [go_sem, simprocAttr, hi]
    refine CodeT.seqR ?_
    simp -implicitDefEqProofs (dsimp := false) only [go_sem, simprocAttr, hi]
    refine PureT.eq (c73 _ ?_) rfl ?_
    assumption
    simp -implicitDefEqProofs (dsimp := false) only [go_sem, simprocAttr, hi]
    refine CodeT.condT rfl ?_
    refine CodeT.seqR ?_
    simp -implicitDefEqProofs (dsimp := false) only [go_sem, simprocAttr, hi]
    refine CodeT.ret ?_
    simp -implicitDefEqProofs (dsimp := false) only [go_sem, simprocAttr, hi]
    refine pureEnd rfl ?_
    simp only [formatV, hi, er, Bool.true_and, Bool.false_and, Bool.and_true, Bool.and_false, Bool.true_or, Bool.false_or, Bool.or_true, Bool.or_false, Bool.not_true, Bool.not_false, Bool.false_eq_true, ↓reduceIte]
  have hd := disk_facts hi
  have hh := half_len (n := d.bytes.length) (by omega)
  refine CallT.intro Try.func30 (by decide) rfl ?_
  simp -implicitDefEqProofs (dsimp := false) only [go_sem, simprocAttr, hi, hh, enterTm, Try.ntmps30, List.range'_succ, List.range'_zero, List.zip_cons_cons, List.zip_nil_left]
  refine CodeT.seqR ?_
  simp -implicitDefEqProofs (dsimp := false) only [go_sem, simprocAttr, hi, hh]
  refine CodeT.seq ?_
  refine CodeT.freeze 2 ?_
  simp -implicitDefEqProofs (dsimp := false) only [go_sem, simprocAttr, hi, hh]
  refine CodeT.seqR ?_
  simp -implicitDefEqProofs (dsimp := false) only [go_sem, simprocAttr, hi, hh]
  refine PureT.eq (c73 _ ?_) rfl ?_
  assumption
  simp -implicitDefEqProofs (dsimp := false) only [go_sem, simprocAttr, hi, hh]
  refine CodeT.condF rfl ?_
  refine CodeT.skip ?_
  simp -implicitDefEqProofs (dsimp := false) only [go_sem, simprocAttr, hi, hh]
  refine CodeT.seqR ?_
  simp -implicitDefEqProofs (dsimp := false) only [go_sem, simprocAttr, hi, hh]
  refine PureT.eq (c47 _ ?_) rfl ?_
  assumption
  simp -implicitDefEqProofs (dsimp := false) only [go_sem, simprocAttr, hi, hh]
  refine CodeT.seq ?_
  refine CodeT.seqR ?_
  simp -implicitDefEqProofs (dsimp := false) only [go_sem, simprocAttr, hi, hh]
  refine CodeT.cond rfl (fun g3 => ?_) (fun g3 => ?_)
  have d3 := ofDec g3
  refine CodeT.seqR ?_
  simp -implicitDefEqProofs (dsimp := false) only [go_sem, simprocAttr, hi, hh, g3]
  refine CodeT.ret ?_
  simp -implicitDefEqProofs (dsimp := false) only [go_sem, simprocAttr, hi, hh, g3]
  refine pureEnd rfl ?_
  rotate_left
  have d3 := ofDecF g3
  refine CodeT.skip ?_
  simp -implicitDefEqProofs (dsimp := false) only [go_sem, simprocAttr, hi, hh, g3]
  refine CodeT.seqR ?_
  simp -implicitDefEqProofs (dsimp := false) only [go_sem, simprocAttr, hi, hh, g3]
  refine And.intro (by omega) ?_
  refine And.intro (by omega) ?_
  refine And.intro (by omega) ?_
  refine CallT.args ⟨_, Try.func74, by decide, rfl⟩ ?_
  simp -implicitDefEqProofs (dsimp := false) only [go_sem, simprocAttr, hi, hh, g3]
  refine And.intro (by omega) ?_
  refine PureT.eq (c74 _ _) rfl ?_
  simp -implicitDefEqProofs (dsimp := false) only [go_sem, simprocAttr, hi, hh, g3]
  refine PureT.eq (c75) rfl ?_
  simp -implicitDefEqProofs (dsimp := false) only [go_sem, simprocAttr, hi, hh, g3]
  refine PureT.eq (c74 _ _) rfl ?_
  simp -implicitDefEqProofs (dsimp := false) only [go_sem, simprocAttr, hi, hh, g3]
  refine PureT.eq (c75) rfl ?_
  simp -implicitDefEqProofs (dsimp := false) only [go_sem, simprocAttr, hi, hh, g3]
  refine And.intro (by trivial) ?_
  refine CodeT.ret ?_
  simp -implicitDefEqProofs (dsimp := false) only [go_sem, simprocAttr, hi, hh, g3]
  refine pureEnd rfl ?_
  rotate_left
  · unfold formatV szB; rw [hi, g3]; rfl
  · unfold formatV szB; rw [hi, g3]; rfl
theorem c32 (d : Dsk) (hf : Few d) (r : List UInt8) (hb : r.length ≤ 1000000) : PureT Try.prog 32 [dkv d, .sl false (bs r)] (· = appendV d r) := by
  refine CallT.laxR ?_
  have hl := frame_length r
  cases hi : isDiskB d
  · refine CallT.intro Try.func32 (by decide) rfl ?_
    simp -implicitDefEqProofs (dsimp := false) only [go_sem, simprocAttr, hi, checkV, enterTm, Try.ntmps32, List.range'_succ, List.range'_zero, List.zip_cons_cons, List.zip_nil_left]
    refine CodeT.seqR ?_
    simp -implicitDefEqProofs (dsimp := false) only [go_sem, simprocAttr, hi, checkV]
    refine CodeT.freeze 2 ?_
    simp -implicitDefEqProofs (dsimp := false) only [go_sem, simprocAttr, hi, checkV]
    refine CodeT.seqR ?_
    simp -implicitDefEqProofs (dsimp := false) only [go_sem, simprocAttr, hi, checkV]
    refine PureT.eq (c43 _ ?_) rfl ?_
    assumption
    simp -implicitDefEqProofs (dsimp := false) only [go_sem, simprocAttr, hi, checkV]
    refine CodeT.seq ?_
    refine CodeT.seqR ?_
    simp -implicitDefEqProofs (dsimp := false) only [go_sem, simprocAttr, hi, checkV]
    refine CodeT.condT rfl ?_
    refine CodeT.seqR ?_
    simp -implicitDefEqProofs (dsimp := false) only [go_sem, simprocAttr, hi, checkV]
    refine CodeT.ret ?_
    simp -implicitDefEqProofs (dsimp := false) only [go_sem, simprocAttr, hi, checkV]
    refine pureEnd rfl ?_
    simp only [appendV, hi, er, Bool.true_and, Bool.false_and, Bool.and_true, Bool.and_false, Bool.true_or, Bool.false_or, Bool.or_true, Bool.or_false, Bool.not_true, Bool.not_false, Bool.false_eq_true, ↓reduceIte]
  have hd := disk_facts hi
  cases hw : wrB d
  · refine CallT.intro Try.func32 (by decide) rfl ?_
    simp -implicitDefEqProofs (dsimp := false) only [go_sem, simprocAttr, hi, hw, checkV, enterTm, Try.ntmps32, List.range'_succ, List.range'_zero, List.zip_cons_cons, List.zip_nil_left]
    refine CodeT.seqR ?_
    simp -implicitDefEqProofs (dsimp := false) only [go_sem, simprocAttr, hi, hw, checkV]
    refine CodeT.freeze 2 ?_
    simp -implicitDefEqProofs (dsimp := false) only [go_sem, simprocAttr, hi, hw, checkV]
    refine CodeT.seqR ?_
    simp -implicitDefEqProofs (dsimp := false) only [go_sem, simprocAttr, hi, hw, checkV]
    refine PureT.eq (c43 _ ?_) rfl ?_
    assumption
    simp -implicitDefEqProofs (dsimp := false) only [go_sem, simprocAttr, hi, hw, checkV]
    refine CodeT.seq ?_
    refine CodeT.seqR ?_
    simp -implicitDefEqProofs (dsimp := false) only [go_sem, simprocAttr, hi, hw, checkV]
    refine CodeT.condF rfl ?_
    refine CodeT.skip ?_
    simp -implicitDefEqProofs (dsimp := false) only [go_sem, simprocAttr, hi, hw, checkV]
    refine CodeT.seq ?_
    refine CodeT.seqR ?_
    simp -implicitDefEqProofs (dsimp := false) only [go_sem, simprocAttr, hi, hw, checkV]
    refine CodeT.condT rfl ?_
    refine CodeT.seqR ?_
    simp -implicitDefEqProofs (dsimp := false) only [go_sem, simprocAttr, hi, hw, checkV]
    refine CodeT.ret ?_
    simp -implicitDefEqProofs (dsimp := false) only [go_sem, simprocAttr, hi, hw, checkV]
    refine pureEnd rfl ?_
    simp only [appendV, hi, er, hw, Bool.true_and, Bool.false_and, Bool.and_true, Bool.and_false, Bool.true_or, Bool.false_or, Bool.or_true, Bool.or_false, Bool.not_true, Bool.not_false, Bool.false_eq_true, ↓reduceIte]
  cases hc : clB d
  · refine CallT.intro Try.func32 (by decide) rfl ?_
    simp -implicitDefEqProofs (dsimp := false) only [go_sem, simprocAttr, hi, hw, hc, checkV, enterTm, Try.ntmps32, List.range'_succ, List.range'_zero, List.zip_cons_cons, List.zip_nil_left]
    refine CodeT.seqR ?_
    simp -implicitDefEqProofs (dsimp := false) only [go_sem, simprocAttr, hi, hw, hc, checkV]
    refine CodeT.freeze 2 ?_
    simp -implicitDefEqProofs (dsimp := false) only [go_sem, simprocAttr, hi, hw, hc, checkV]
    refine CodeT.seqR ?_
    simp -implicitDefEqProofs (dsimp := false) only [go_sem, simprocAttr, hi, hw, hc, checkV]
    refine PureT.eq (c43 _ ?_) rfl ?_
    assumption
    simp -implicitDefEqProofs (dsimp := false) only [go_sem, simprocAttr, hi, hw, hc, checkV]
    refine CodeT.seq ?_
    refine CodeT.seqR ?_
    simp -implicitDefEqProofs (dsimp := false) only [go_sem, simprocAttr, hi, hw, hc, checkV]
    refine CodeT.condF rfl ?_
    refine CodeT.skip ?_
    simp -implicitDefEqProofs (dsimp := false) only [go_sem, simprocAttr, hi, hw, hc, checkV]
    refine CodeT.seq ?_
    refine CodeT.seqR ?_
    simp -implicitDefEqProofs (dsimp := false) only [go_sem, simprocAttr, hi, hw, hc, checkV]
    refine CodeT.condT rfl ?_
    refine CodeT.seqR ?_
    simp -implicitDefEqProofs (dsimp := false) only [go_sem, simprocAttr, hi, hw, hc, checkV]
    refine CodeT.ret ?_
    simp -implicitDefEqProofs (dsimp := false) only [go_sem, simprocAttr, hi, hw, hc, checkV]
    refine pureEnd rfl ?_
    simp only [appendV, hi, er, hw, hc, Bool.true_and, Bool.false_and, Bool.and_true, Bool.and_false, Bool.true_or, Bool.false_or, Bool.or_true, Bool.or_false, Bool.not_true, Bool.not_false, Bool.false_eq_true, ↓reduceIte]
  refine CallT.intro Try.func32 (by decide) rfl ?_
  simp -implicitDefEqProofs (dsimp := false) only [go_sem, simprocAttr, hi, hw, hc, checkV, enterTm, Try.ntmps32, List.range'_succ, List.range'_zero, List.zip_cons_cons, List.zip_nil_left]
  refine CodeT.seqR ?_
  simp -implicitDefEqProofs (dsimp := false) only [go_sem, simprocAttr, hi, hw, hc, checkV]
  refine CodeT.freeze 2 ?_
  simp -implicitDefEqProofs (dsimp := false) only [go_sem, simprocAttr, hi, hw, hc, checkV]
  refine CodeT.seqR ?_
  simp -implicitDefEqProofs (dsimp := false) only [go_sem, simprocAttr, hi, hw, hc, checkV]
  refine PureT.eq (c43 _ ?_) rfl ?_
  assumption
  simp -implicitDefEqProofs (dsimp := false) only [go_sem, simprocAttr, hi, hw, hc, checkV]
  refine CodeT.seq ?_
  refine CodeT.seqR ?_
  simp -implicitDefEqProofs (dsimp := false) only [go_sem, simprocAttr, hi, hw, hc, checkV]
  refine CodeT.condF rfl ?_
  refine CodeT.skip ?_
  simp -implicitDefEqProofs (dsimp := false) only [go_sem, simprocAttr, hi, hw, hc, checkV]
  refine CodeT.seq ?_
  refine CodeT.seqR ?_
  simp -implicitDefEqProofs (dsimp := false) only [go_sem, simprocAttr, hi, hw, hc, checkV]
  refine CodeT.condF rfl ?_
  refine CodeT.skip ?_
  simp -implicitDefEqProofs (dsimp := false) only [go_sem, simprocAttr, hi, hw, hc, checkV]
  refine CodeT.seqR ?_
  simp -implicitDefEqProofs (dsimp := false) only [go_sem, simprocAttr, hi, hw, hc, checkV]
  refine PureT.eq (c77s d hi hf) rfl ?_
  simp -implicitDefEqProofs (dsimp := false) only [go_sem, simprocAttr, hi, hw, hc, checkV]
  refine PureT.eq (c76s d hi) rfl ?_
  simp -implicitDefEqProofs (dsimp := false) only [go_sem, simprocAttr, hi, hw, hc, checkV]
  refine CodeT.seqR ?_
  simp -implicitDefEqProofs (dsimp := false) only [go_sem, simprocAttr, hi, hw, hc, checkV]
  refine PureT.eq (c47 _ ?_) rfl ?_
  assumption
  simp -implicitDefEqProofs (dsimp := false) only [go_sem, simprocAttr, hi, hw, hc, checkV]
  refine CodeT.seq ?_
  refine CodeT.seqR ?_
  simp -implicitDefEqProofs (dsimp := false) only [go_sem, simprocAttr, hi, hw, hc, checkV]
  simp -implicitDefEqProofs (dsimp := false) (disch := omega) only [i64_in, bs_getD, opvs_getD, is64_getD, bss_getD]
  refine CodeT.cond rfl (fun g5 => ?_) (fun g5 => ?_)
  have d5 := ofDec g5
  refine CodeT.seqR ?_
  simp -implicitDefEqProofs (dsimp := false) only [go_sem, simprocAttr, hi, hw, hc, checkV, g5]
  refine CodeT.ret ?_
  simp -implicitDefEqProofs (dsimp := false) only [go_sem, simprocAttr, hi, hw, hc, checkV, g5]
  refine pureEnd rfl ?_
  (simp [appendV, hi, hw, hc, er, wr, fl, zs, opvs, List.map_cons, List.map_nil, half_bool, Int.natCast_add, *]; omega)
  have d5 := ofDecF g5
  refine CodeT.skip ?_
  simp -implicitDefEqProofs (dsimp := false) only [go_sem, simprocAttr, hi, hw, hc, checkV, g5]
  refine CodeT.seqR ?_
  simp -implicitDefEqProofs (dsimp := false) only [go_sem, simprocAttr, hi, hw, hc, checkV, g5]
  refine PureT.eq (c74 _ _) rfl ?_
  simp -implicitDefEqProofs (dsimp := false) only [go_sem, simprocAttr, hi, hw, hc, checkV, g5]
  refine And.intro (by trivial) ?_
  refine CodeT.ret ?_
  simp -implicitDefEqProofs (dsimp := false) only [go_sem, simprocAttr, hi, hw, hc, checkV, g5]
  refine pureEnd rfl ?_
  (simp [appendV, hi, hw, hc, er, wr, fl, zs, opvs, List.map_cons, List.map_nil, half_bool, Int.natCast_add, *]; omega)
theorem c34 (d : Dsk) (hf : Few d) (r : List UInt8) (hb : r.length ≤ 1000000) : PureT Try.prog 34 [dkv d, .sl false (bs r)] (· = checkinV d r) := by
  refine CallT.laxR ?_
  have hl := frame_length r
  cases hi : isDiskB d
  · refine CallT.intro Try.func34 (by decide) rfl ?_
    simp -implicitDefEqProofs (dsimp := false) only [go_sem, simprocAttr, hi, checkV, enterTm, Try.ntmps34, List.range'_succ, List.range'_zero, List.zip_cons_cons, List.zip_nil_left]
    refine CodeT.seqR ?_
    simp -implicitDefEqProofs (dsimp := false) only [go_sem, simprocAttr, hi, checkV]
    refine CodeT.freeze 2 ?_
    simp -implicitDefEqProofs (dsimp := false) only [go_sem, simprocAttr, hi, checkV]
    refine CodeT.seqR ?_
    simp -implicitDefEqProofs (dsimp := false) only [go_sem, simprocAttr, hi, checkV]
    refine PureT.eq (c43 _ ?_) rfl ?_
    assumption
    simp -implicitDefEqProofs (dsimp := false) only [go_sem, simprocAttr, hi, checkV]
    refine CodeT.seq ?_
    refine CodeT.seqR ?_
    simp -implicitDefEqProofs (dsimp := false) only [go_sem, simprocAttr, hi, checkV]
    refine CodeT.condT rfl ?_
    refine CodeT.seqR ?_
    simp -implicitDefEqProofs (dsimp := false) only [go_sem, simprocAttr, hi, checkV]
    refine CodeT.ret ?_
    simp -implicitDefEqProofs (dsimp := false) only [go_sem, simprocAttr, hi, checkV]
    refine pureEnd rfl ?_
    simp only [checkinV, hi, er, Bool.true_and, Bool.false_and, Bool.and_true, Bool.and_false, Bool.true_or, Bool.false_or, Bool.or_true, Bool.or_false, Bool.not_true, Bool.not_false, Bool.false_eq_true, ↓reduceIte]
  have hd := disk_facts hi
  have hh := half_len (n := d.bytes.length) (by omega)
  have hs := seenB_length (isDisk_ok hi).2
  cases hw : wrB d
  · refine CallT.intro Try.func34 (by decide) rfl ?_
    simp -implicitDefEqProofs (dsimp := false) only [go_sem, simprocAttr, hi, hw, checkV, enterTm, Try.ntmps34, List.range'_succ, List.range'_zero, List.zip_cons_cons, List.zip_nil_left]
    refine CodeT.seqR ?_
    simp -implicitDefEqProofs (dsimp := false) only [go_sem, simprocAttr, hi, hw, checkV]
    refine CodeT.freeze 2 ?_
    simp -implicitDefEqProofs (dsimp := false) only [go_sem, simprocAttr, hi, hw, checkV]
    refine CodeT.seqR ?_
    simp -implicitDefEqProofs (dsimp := false) only [go_sem, simprocAttr, hi, hw, checkV]
    refine PureT.eq (c43 _ ?_) rfl ?_
    assumption
    simp -implicitDefEqProofs (dsimp := false) only [go_sem, simprocAttr, hi, hw, checkV]
    refine CodeT.seq ?_
    refine CodeT.seqR ?_
    simp -implicitDefEqProofs (dsimp := false) only [go_sem, simprocAttr, hi, hw, checkV]
    refine CodeT.condF rfl ?_
    refine CodeT.skip ?_
    simp -implicitDefEqProofs (dsimp := false) only [go_sem, simprocAttr, hi, hw, checkV]
    refine CodeT.seq ?_
    refine CodeT.seqR ?_
    simp -implicitDefEqProofs (dsimp := false) only [go_sem, simprocAttr, hi, hw, checkV]
    refine CodeT.condT rfl ?_
    refine CodeT.seqR ?_
    simp -implicitDefEqProofs (dsimp := false) only [go_sem, simprocAttr, hi, hw, checkV]
    refine CodeT.ret ?_
    simp -implicitDefEqProofs (dsimp := false) only [go_sem, simprocAttr, hi, hw, checkV]
    refine pureEnd rfl ?_
    simp only [checkinV, hi, er, hw, Bool.true_and, Bool.false_and, Bool.and_true, Bool.and_false, Bool.true_or, Bool.false_or, Bool.or_true, Bool.or_false, Bool.not_true, Bool.not_false, Bool.false_eq_true, ↓reduceIte]
  refine CallT.intro Try.func34 (by decide) rfl ?_
  simp -implicitDefEqProofs (dsimp := false) only [go_sem, simprocAttr, hi, hw, checkV, hh, one_u8, zero_u8, enterTm, Try.ntmps34, List.range'_succ, List.range'_zero, List.zip_cons_cons, List.zip_nil_left]
  refine CodeT.seqR ?_
  simp -implicitDefEqProofs (dsimp := false) only [go_sem, simprocAttr, hi, hw, checkV, hh, one_u8, zero_u8]
  refine CodeT.freeze 2 ?_
  simp -implicitDefEqProofs (dsimp := false) only [go_sem, simprocAttr, hi, hw, checkV, hh, one_u8, zero_u8]
  refine CodeT.seqR ?_
  simp -implicitDefEqProofs (dsimp := false) only [go_sem, simprocAttr, hi, hw, checkV, hh, one_u8, zero_u8]
  refine PureT.eq (c43 _ ?_) rfl ?_
  assumption
  simp -implicitDefEqProofs (dsimp := false) only [go_sem, simprocAttr, hi, hw, checkV, hh, one_u8, zero_u8]
  refine CodeT.seq ?_
  refine CodeT.seqR ?_
  simp -implicitDefEqProofs (dsimp := false) only [go_sem, simprocAttr, hi, hw, checkV, hh, one_u8, zero_u8]
  refine CodeT.condF rfl ?_
  refine CodeT.skip ?_
  simp -implicitDefEqProofs (dsimp := false) only [go_sem, simprocAttr, hi, hw, checkV, hh, one_u8, zero_u8]
  refine CodeT.seq ?_
  refine CodeT.seqR ?_
  simp -implicitDefEqProofs (dsimp := false) only [go_sem, simprocAttr, hi, hw, checkV, hh, one_u8, zero_u8]
  refine CodeT.condF rfl ?_
  refine CodeT.skip ?_
  simp -implicitDefEqProofs (dsimp := false) only [go_sem, simprocAttr, hi, hw, checkV, hh, one_u8, zero_u8]
  refine CodeT.seqR ?_
  simp -implicitDefEqProofs (dsimp := false) only [go_sem, simprocAttr, hi, hw, checkV, hh, one_u8, zero_u8]
  refine CodeT.seqR ?_
  simp -implicitDefEqProofs (dsimp := false) only [go_sem, simprocAttr, hi, hw, checkV, hh, one_u8, zero_u8]
  refine PureT.eq (c47 _ ?_) rfl ?_
  assumption
  simp -implicitDefEqProofs (dsimp := false) only [go_sem, simprocAttr, hi, hw, checkV, hh, one_u8, zero_u8]
  refine CodeT.seq ?_
  refine CodeT.seqR ?_
  simp -implicitDefEqProofs (dsimp := false) only [go_sem, simprocAttr, hi, hw, checkV, hh, one_u8, zero_u8]
  refine CodeT.cond rfl (fun g3 => ?_) (fun g3 => ?_)
  have d3 := ofDec g3
  refine CodeT.seqR ?_
  simp -implicitDefEqProofs (dsimp := false) only [go_sem, simprocAttr, hi, hw, checkV, hh, one_u8, zero_u8, g3]
  refine CodeT.ret ?_
  simp -implicitDefEqProofs (dsimp := false) only [go_sem, simprocAttr, hi, hw, checkV, hh, one_u8, zero_u8, g3]
  refine pureEnd rfl ?_
  (simp [checkinV, hi, hw, er, wr, fl, zs, opvs, List.map_cons, List.map_nil, *]; omega)
  have d3 := ofDecF g3
  refine CodeT.skip ?_
  simp -implicitDefEqProofs (dsimp := false) only [go_sem, simprocAttr, hi, hw, checkV, hh, one_u8, zero_u8, g3]
  refine CodeT.seqR ?_
  simp -implicitDefEqProofs (dsimp := false) only [go_sem, simprocAttr, hi, hw, checkV, hh, one_u8, zero_u8, g3]
  refine CodeT.seqR ?_
  simp -implicitDefEqProofs (dsimp := false) only [go_sem, simprocAttr, hi, hw, checkV, hh, one_u8, zero_u8, g3]
  refine And.intro (by trivial) ?_
  refine CodeT.seq ?_
  refine CodeT.seqR ?_
  simp -implicitDefEqProofs (dsimp := false) only [go_sem, simprocAttr, hi, hw, checkV, hh, one_u8, zero_u8, g3]
  refine PureT.eq (c77s d hi hf) rfl ?_
  simp -implicitDefEqProofs (dsimp := false) only [go_sem, simprocAttr, hi, hw, checkV, hh, one_u8, zero_u8, g3]
  refine gate_i ?_ ?_
  omega
  simp -implicitDefEqProofs (dsimp := false) (disch := omega) only [Int.toNat_natCast, i64_in, bs_getD, opvs_getD, is64_getD, bss_getD]
  simp -implicitDefEqProofs (dsimp := false) only [go_sem, simprocAttr, hi, hw, checkV, hh, one_u8, zero_u8, g3]
  refine CodeT.cond rfl (fun g5 => ?_) (fun g5 => ?_)
  have d5 := ofBeq g5
  refine CodeT.seqR ?_
  simp -implicitDefEqProofs (dsimp := false) only [go_sem, simprocAttr, hi, hw, checkV, hh, one_u8, zero_u8, g3, g5]
  refine CodeT.region ?_
  simp -implicitDefEqProofs (dsimp := false) only [go_sem, simprocAttr, hi, hw, checkV, hh, one_u8, zero_u8, g3, g5]
  refine And.intro (by trivial) ?_
  refine CodeT.seqR ?_
  simp -implicitDefEqProofs (dsimp := false) only [go_sem, simprocAttr, hi, hw, checkV, hh, one_u8, zero_u8, g3, g5]
  refine And.intro (by omega) ?_
  refine And.intro (by omega) ?_
  refine And.intro (by omega) ?_
  refine CallT.args ⟨_, Try.func74, by decide, rfl⟩ ?_
  simp -implicitDefEqProofs (dsimp := false) only [go_sem, simprocAttr, hi, hw, checkV, hh, one_u8, zero_u8, g3, g5]
  refine And.intro (by omega) ?_
  refine PureT.eq (c74 _ _) rfl ?_
  simp -implicitDefEqProofs (dsimp := false) only [go_sem, simprocAttr, hi, hw, checkV, hh, one_u8, zero_u8, g3, g5]
  refine PureT.eq (c75) rfl ?_
  simp -implicitDefEqProofs (dsimp := false) only [go_sem, simprocAttr, hi, hw, checkV, hh, one_u8, zero_u8, g3, g5]
  refine PureT.eq (c74 _ _) rfl ?_
  simp -implicitDefEqProofs (dsimp := false) only [go_sem, simprocAttr, hi, hw, checkV, hh, one_u8, zero_u8, g3, g5]
  refine PureT.eq (c75) rfl ?_
  simp -implicitDefEqProofs (dsimp := false) only [go_sem, simprocAttr, hi, hw, checkV, hh, one_u8, zero_u8, g3, g5]
  refine CallT.laxA ?_
  simp -implicitDefEqProofs (dsimp := false) only [go_sem, simprocAttr, hi, hw, checkV, hh, one_u8, zero_u8, g3, g5]
  refine PureT.eq (c74 _ _) rfl ?_
  simp -implicitDefEqProofs (dsimp := false) only [go_sem, simprocAttr, hi, hw, checkV, hh, one_u8, zero_u8, g3, g5]
  refine PureT.eq (c75) rfl ?_
  simp -implicitDefEqProofs (dsimp := false) only [go_sem, simprocAttr, hi, hw, checkV, hh, one_u8, zero_u8, g3, g5]
  refine And.intro (by trivial) ?_
  refine CodeT.ret ?_
  simp -implicitDefEqProofs (dsimp := false) only [go_sem, simprocAttr, hi, hw, checkV, hh, one_u8, zero_u8, g3, g5]
  refine pureEnd rfl ?_
  simp -implicitDefEqProofs (dsimp := false) (disch := omega) only [i64_in, bs_getD, opvs_getD, is64_getD, bss_getD]
  rotate_left
  have d5 := ofBeqF g5
  refine CodeT.skip ?_
  simp -implicitDefEqProofs (dsimp := false) only [go_sem, simprocAttr, hi, hw, checkV, hh, one_u8, zero_u8, g3, g5]
  refine CodeT.seqR ?_
  simp -implicitDefEqProofs (dsimp := false) only [go_sem, simprocAttr, hi, hw, checkV, hh, one_u8, zero_u8, g3, g5]
  refine And.intro (by omega) ?_
  refine And.intro (by omega) ?_
  refine And.intro (by omega) ?_
  refine CallT.args ⟨_, Try.func74, by decide, rfl⟩ ?_
  simp -implicitDefEqProofs (dsimp := false) only [go_sem, simprocAttr, hi, hw, checkV, hh, one_u8, zero_u8, g3, g5]
  refine And.intro (by omega) ?_
  refine PureT.eq (c74 _ _) rfl ?_
  simp -implicitDefEqProofs (dsimp := false) only [go_sem, simprocAttr, hi, hw, checkV, hh, one_u8, zero_u8, g3, g5]
  refine PureT.eq (c75) rfl ?_
  simp -implicitDefEqProofs (dsimp := false) only [go_sem, simprocAttr, hi, hw, checkV, hh, one_u8, zero_u8, g3, g5]
  refine PureT.eq (c74 _ _) rfl ?_
  simp -implicitDefEqProofs (dsimp := false) only [go_sem, simprocAttr, hi, hw, checkV, hh, one_u8, zero_u8, g3, g5]
  refine PureT.eq (c75) rfl ?_
  simp -implicitDefEqProofs (dsimp := false) only [go_sem, simprocAttr, hi, hw, checkV, hh, one_u8, zero_u8, g3, g5]
  refine CallT.laxA ?_
  simp -implicitDefEqProofs (dsimp := false) only [go_sem, simprocAttr, hi, hw, checkV, hh, one_u8, zero_u8, g3, g5]
  refine PureT.eq (c74 _ _) rfl ?_
  simp -implicitDefEqProofs (dsimp := false) only [go_sem, simprocAttr, hi, hw, checkV, hh, one_u8, zero_u8, g3, g5]
  refine PureT.eq (c75) rfl ?_
  simp -implicitDefEqProofs (dsimp := false) only [go_sem, simprocAttr, hi, hw, checkV, hh, one_u8, zero_u8, g3, g5]
  refine And.intro (by trivial) ?_
  refine CodeT.ret ?_
  simp -implicitDefEqProofs (dsimp := false) only [go_sem, simprocAttr, hi, hw, checkV, hh, one_u8, zero_u8, g3, g5]
  refine pureEnd rfl ?_
  rotate_left
  · have h0 : (seenB d).getD 0 0 = 0 := UInt8.toNat_inj.1 (by have := d5; rw [show (0 : UInt8).toNat = 0 from rfl]; omega)
    have hB : halfB d = 1 := by unfold halfB halfAt; rw [if_pos h0]
    unfold checkinV otherB turnB szB
    rw [hi, hw, hB, g3, show (2 + ((d.bytes.length / 2 : Nat) : Int) - ((1 : Nat) : Int)) = 1 + ((d.bytes.length / 2 : Nat) : Int) by omega]
    rfl
  · have h0 : (seenB d).getD 0 0 ≠ 0 := fun h => d5 (by rw [h]; rfl)
    have hB : halfB d = 1 + szB d := by unfold halfB halfAt; rw [if_neg h0, hs]; rfl
    have hn : (((1 + d.bytes.length / 2 : Nat) : Int) == 1) = false := by
      have := hd.2.2.1
      unfold szB at this
      simp; omega
    unfold checkinV otherB turnB szB
    unfold szB at hB
    rw [hi, hw, hB, g3, hn, show (2 + ((d.bytes.length / 2 : Nat) : Int) - ((1 + d.bytes.length / 2 : Nat) : Int)) = 1 by omega]
    rfl
theorem c35 (d : Dsk) (hf : Few d) : PureT Try.prog 35 [dkv d] (· = openV d) := by
  refine CallT.laxR ?_
  have hq := hf.q
  cases hi : isDiskB d
  · refine CallT.intro Try.func35 (by decide) rfl ?_
    simp -implicitDefEqProofs (dsimp := false) only [go_sem, simprocAttr, hi, checkV, enterTm, Try.ntmps35, List.range'_succ, List.range'_zero, List.zip_cons_cons, List.zip_nil_left]
    refine CodeT.seqR ?_
    simp -implicitDefEqProofs (dsimp := false) only [go_sem, simprocAttr, hi, checkV]
    refine CodeT.freeze 1 ?_
    simp -implicitDefEqProofs (dsimp := false) only [go_sem, simprocAttr, hi, checkV]
    refine CodeT.seqR ?_
    simp -implicitDefEqProofs (dsimp := false) only [go_sem, simprocAttr, hi, checkV]
    refine PureT.eq (c43 _ ?_) rfl ?_
    assumption
    simp -implicitDefEqProofs (dsimp := false) only [go_sem, simprocAttr, hi, checkV]
    refine CodeT.seq ?_
    refine CodeT.seqR ?_
    simp -implicitDefEqProofs (dsimp := false) only [go_sem, simprocAttr, hi, checkV]
    refine CodeT.condT rfl ?_
    refine CodeT.seqR ?_
    simp -implicitDefEqProofs (dsimp := false) only [go_sem, simprocAttr, hi, checkV]
    refine CodeT.ret ?_
    simp -implicitDefEqProofs (dsimp := false) only [go_sem, simprocAttr, hi, checkV]
    refine pureEnd rfl ?_
    simp only [openV, hi, er, Bool.true_and, Bool.false_and, Bool.and_true, Bool.and_false, Bool.true_or, Bool.false_or, Bool.or_true, Bool.or_false, Bool.not_true, Bool.not_false, Bool.false_eq_true, ↓reduceIte]
  have hd := disk_facts hi
  have hs := seenB_length (isDisk_ok hi).2
  cases hw : wrB d
  · refine CallT.intro Try.func35 (by decide) rfl ?_
    simp -implicitDefEqProofs (dsimp := false) only [go_sem, simprocAttr, hi, hw, checkV, enterTm, Try.ntmps35, List.range'_succ, List.range'_zero, List.zip_cons_cons, List.zip_nil_left]
    refine CodeT.seqR ?_
    simp -implicitDefEqProofs (dsimp := false) only [go_sem, simprocAttr, hi, hw, checkV]
    refine CodeT.freeze 1 ?_
    simp -implicitDefEqProofs (dsimp := false) only [go_sem, simprocAttr, hi, hw, checkV]
    refine CodeT.seqR ?_
    simp -implicitDefEqProofs (dsimp := false) only [go_sem, simprocAttr, hi, hw, checkV]
    refine PureT.eq (c43 _ ?_) rfl ?_
    assumption
    simp -implicitDefEqProofs (dsimp := false) only [go_sem, simprocAttr, hi, hw, checkV]
    refine CodeT.seq ?_
    refine CodeT.seqR ?_
    simp -implicitDefEqProofs (dsimp := false) only [go_sem, simprocAttr, hi, hw, checkV]
    refine CodeT.condF rfl ?_
    refine CodeT.skip ?_
    simp -implicitDefEqProofs (dsimp := false) only [go_sem, simprocAttr, hi, hw, checkV]
    refine CodeT.seq ?_
    refine CodeT.seqR ?_
    simp -implicitDefEqProofs (dsimp := false) only [go_sem, simprocAttr, hi, hw, checkV]
    refine CodeT.condT rfl ?_
    refine CodeT.seqR ?_
    simp -implicitDefEqProofs (dsimp := false) only [go_sem, simprocAttr, hi, hw, checkV]
    refine CodeT.ret ?_
    simp -implicitDefEqProofs (dsimp := false) only [go_sem, simprocAttr, hi, hw, checkV]
    refine pureEnd rfl ?_
    simp only [openV, hi, er, hw, Bool.true_and, Bool.false_and, Bool.and_true, Bool.and_false, Bool.true_or, Bool.false_or, Bool.or_true, Bool.or_false, Bool.not_true, Bool.not_false, Bool.false_eq_true, ↓reduceIte]
  have e1 : (List.take (halfB d + szB d) (seenB d)).drop (halfB d + endB d) = (useB d).drop (endB d) := by
    show _ = (List.take (szB d) (List.drop (halfB d) (seenB d))).drop (endB d)
    rw [List.take_drop, List.drop_drop]
  have e2 : (((halfB d + szB d : Nat) : Int) - ((halfB d + endB d : Nat) : Int)).toNat = szB d - endB d := by omega
  have e3 : halfB d + szB d - (halfB d + endB d) = szB d - endB d := by omega
  refine CallT.intro Try.func35 (by decide) rfl ?_
  simp -implicitDefEqProofs (dsimp := false) only [go_sem, simprocAttr, hi, hw, checkV, e1, e3, enterTm, Try.ntmps35, List.range'_succ, List.range'_zero, List.zip_cons_cons, List.zip_nil_left]
  refine CodeT.seqR ?_
  simp -implicitDefEqProofs (dsimp := false) only [go_sem, simprocAttr, hi, hw, checkV, e1, e3]
  refine CodeT.freeze 1 ?_
  simp -implicitDefEqProofs (dsimp := false) only [go_sem, simprocAttr, hi, hw, checkV, e1, e3]
  refine CodeT.seqR ?_
  simp -implicitDefEqProofs (dsimp := false) only [go_sem, simprocAttr, hi, hw, checkV, e1, e3]
  refine PureT.eq (c43 _ ?_) rfl ?_
  assumption
  simp -implicitDefEqProofs (dsimp := false) only [go_sem, simprocAttr, hi, hw, checkV, e1, e3]
  refine CodeT.seq ?_
  refine CodeT.seqR ?_
  simp -implicitDefEqProofs (dsimp := false) only [go_sem, simprocAttr, hi, hw, checkV, e1, e3]
  refine CodeT.condF rfl ?_
  refine CodeT.skip ?_
  simp -implicitDefEqProofs (dsimp := false) only [go_sem, simprocAttr, hi, hw, checkV, e1, e3]
  refine CodeT.seq ?_
  refine CodeT.seqR ?_
  simp -implicitDefEqProofs (dsimp := false) only [go_sem, simprocAttr, hi, hw, checkV, e1, e3]
  refine CodeT.condF rfl ?_
  refine CodeT.skip ?_
  simp -implicitDefEqProofs (dsimp := false) only [go_sem, simprocAttr, hi, hw, checkV, e1, e3]
  refine CodeT.seqR ?_
  simp -implicitDefEqProofs (dsimp := false) only [go_sem, simprocAttr, hi, hw, checkV, e1, e3]
  refine PureT.eq (c77s d hi hf) rfl ?_
  simp -implicitDefEqProofs (dsimp := false) only [go_sem, simprocAttr, hi, hw, checkV, e1, e3]
  refine CodeT.seqR ?_
  simp -implicitDefEqProofs (dsimp := false) only [go_sem, simprocAttr, hi, hw, checkV, e1, e3]
  refine PureT.eq (c76s d hi) rfl ?_
  simp -implicitDefEqProofs (dsimp := false) only [go_sem, simprocAttr, hi, hw, checkV, e1, e3]
  refine CodeT.seq ?_
  refine CodeT.seqR ?_
  simp -implicitDefEqProofs (dsimp := false) only [go_sem, simprocAttr, hi, hw, checkV, e1, e3]
  refine And.intro (by exact uni_bs _) ?_
  refine And.intro (by omega) ?_
  refine And.intro (by omega) ?_
  refine And.intro (by omega) ?_
  refine PureT.eq (c79 _ ?_) rfl ?_
  (simp [openV, hi, hw, er, wr, fl, zs, opvs, List.map_cons, List.map_nil, *]; omega)
  simp -implicitDefEqProofs (dsimp := false) only [go_sem, simprocAttr, hi, hw, checkV, e1, e3]
  refine CodeT.cond rfl (fun g5 => ?_) (fun g5 => ?_)
  refine CodeT.seqD [(0, .free), (1, .free), (2, .free), (3, .free), (4, .free), (5, .upd), (6, .upd), (7, .free), (8, .upd), (9, .free), (10, .free)] mixed (by kernel_rfl) ?_
  simp -implicitDefEqProofs (dsimp := false) only [go_sem, simprocAttr, hi, hw, checkV, e1, e3, g5]
  refine CallF.go (c75) rfl ?_
  simp -implicitDefEqProofs (dsimp := false) only [go_sem, simprocAttr, hi, hw, checkV, e1, e3, g5]
  simp -implicitDefEqProofs (dsimp := false) (disch := omega) only [i64_in, bs_getD, opvs_getD, is64_getD, bss_getD]
  simp -implicitDefEqProofs (dsimp := false) only [go_sem, simprocAttr, hi, hw, checkV, e1, e3, g5]
  refine And.intro (by omega) ?_
  refine And.intro (by omega) ?_
  refine And.intro (by omega) ?_
  refine And.intro (by exact Stable.append [_] [_]) ?_
  refine ⟨⟨_, Try.func74, by decide, rfl⟩, Or.inl ?_⟩
  simp -implicitDefEqProofs (dsimp := false) only [go_sem, simprocAttr, hi, hw, checkV, e1, e3, g5]
  refine And.intro (by omega) ?_
  refine CallY.pure (c74 _ _) rfl ?_
  simp -implicitDefEqProofs (dsimp := false) only [go_sem, simprocAttr, hi, hw, checkV, e1, e3, g5]
  refine And.intro (by exact Stable.same (Stable.row (Stable.refl _))) ?_
  refine CallF.go (c75) rfl ?_
  simp -implicitDefEqProofs (dsimp := false) only [go_sem, simprocAttr, hi, hw, checkV, e1, e3, g5]
  refine And.intro (by trivial) ?_
  refine And.intro (by exact Stable.refl _) ?_
  refine CodeT.ret ?_
  simp -implicitDefEqProofs (dsimp := false) only [go_sem, simprocAttr, hi, hw, checkV, e1, e3, g5]
  refine pureEnd rfl ?_
  simp [openV, hi, hw, er, wr, fl, zs, opvs, List.map_cons, List.map_nil, g5]
  refine CodeT.skip ?_
  simp -implicitDefEqProofs (dsimp := false) only [go_sem, simprocAttr, hi, hw, checkV, e1, e3, g5]
  refine CodeT.seq ?_
  refine CodeT.seqR ?_
  simp -implicitDefEqProofs (dsimp := false) only [go_sem, simprocAttr, hi, hw, checkV, e1, e3, g5]
  refine CodeT.cond rfl (fun g6 => ?_) (fun g6 => ?_)
  have d6 := ofDec g6
  refine CodeT.seqR ?_
  simp -implicitDefEqProofs (dsimp := false) only [go_sem, simprocAttr, hi, hw, checkV, e1, e3, g5, g6]
  refine PureT.eq (c75) rfl ?_
  simp -implicitDefEqProofs (dsimp := false) only [go_sem, simprocAttr, hi, hw, checkV, e1, e3, g5, g6]
  refine And.intro (by trivial) ?_
  refine CodeT.ret ?_
  simp -implicitDefEqProofs (dsimp := false) only [go_sem, simprocAttr, hi, hw, checkV, e1, e3, g5, g6]
  refine pureEnd rfl ?_
  simp only [openV, hi, hw, er, wr, fl, zs, opvs, List.map_cons, List.map_nil, g5, g6, Bool.true_and, Bool.false_and, Bool.and_true, Bool.and_false, Bool.true_or, Bool.false_or, Bool.or_true, Bool.or_false, Bool.not_true, Bool.not_false, Bool.false_eq_true, ↓reduceIte]
  have d6 := ofDecF g6
  refine CodeT.skip ?_
  simp -implicitDefEqProofs (dsimp := false) only [go_sem, simprocAttr, hi, hw, checkV, e1, e3, g5, g6]
  refine CodeT.seqR ?_
  simp -implicitDefEqProofs (dsimp := false) only [go_sem, simprocAttr, hi, hw, checkV, e1, e3, g5, g6]
  refine CodeT.ret ?_
  simp -implicitDefEqProofs (dsimp := false) only [go_sem, simprocAttr, hi, hw, checkV, e1, e3, g5, g6]
  refine pureEnd rfl ?_
  simp only [openV, hi, hw, er, wr, fl, zs, opvs, List.map_cons, List.map_nil, g5, g6, Bool.true_and, Bool.false_and, Bool.and_true, Bool.and_false, Bool.true_or, Bool.false_or, Bool.or_true, Bool.or_false, Bool.not_true, Bool.not_false, Bool.false_eq_true, ↓reduceIte]
theorem c36 (d : Dsk) (hf : Few d) : PureT Try.prog 36 [dkv d] (· = readV d) := by
  refine CallT.laxR ?_
  cases hi : isDiskB d
  · refine CallT.intro Try.func36 (by decide) rfl ?_
    simp -implicitDefEqProofs (dsimp := false) only [go_sem, simprocAttr, hi, checkV, enterTm, Try.ntmps36, List.range'_succ, List.range'_zero, List.zip_cons_cons, List.zip_nil_left]
    refine CodeT.seqR ?_
    simp -implicitDefEqProofs (dsimp := false) only [go_sem, simprocAttr, hi, checkV]
    refine CodeT.freeze 1 ?_
    simp -implicitDefEqProofs (dsimp := false) only [go_sem, simprocAttr, hi, checkV]
    refine CodeT.seqR ?_
    simp -implicitDefEqProofs (dsimp := false) only [go_sem, simprocAttr, hi, checkV]
    refine PureT.eq (c43 _ ?_) rfl ?_
    assumption
    simp -implicitDefEqProofs (dsimp := false) only [go_sem, simprocAttr, hi, checkV]
    refine CodeT.seq ?_
    refine CodeT.seqR ?_
    simp -implicitDefEqProofs (dsimp := false) only [go_sem, simprocAttr, hi, checkV]
    refine CodeT.condT rfl ?_
    refine CodeT.seqR ?_
    simp -implicitDefEqProofs (dsimp := false) only [go_sem, simprocAttr, hi, checkV]
    refine CodeT.ret ?_
    simp -implicitDefEqProofs (dsimp := false) only [go_sem, simprocAttr, hi, checkV]
    refine pureEnd rfl ?_
    simp only [readV, hi, er, Bool.true_and, Bool.false_and, Bool.and_true, Bool.and_false, Bool.true_or, Bool.false_or, Bool.or_true, Bool.or_false, Bool.not_true, Bool.not_false, Bool.false_eq_true, ↓reduceIte]
  cases hw : wrB d
  · refine CallT.intro Try.func36 (by decide) rfl ?_
    simp -implicitDefEqProofs (dsimp := false) only [go_sem, simprocAttr, hi, hw, checkV, enterTm, Try.ntmps36, List.range'_succ, List.range'_zero, List.zip_cons_cons, List.zip_nil_left]
    refine CodeT.seqR ?_
    simp -implicitDefEqProofs (dsimp := false) only [go_sem, simprocAttr, hi, hw, checkV]
    refine CodeT.freeze 1 ?_
    simp -implicitDefEqProofs (dsimp := false) only [go_sem, simprocAttr, hi, hw, checkV]
    refine CodeT.seqR ?_
    simp -implicitDefEqProofs (dsimp := false) only [go_sem, simprocAttr, hi, hw, checkV]
    refine PureT.eq (c43 _ ?_) rfl ?_
    assumption
    simp -implicitDefEqProofs (dsimp := false) only [go_sem, simprocAttr, hi, hw, checkV]
    refine CodeT.seq ?_
    refine CodeT.seqR ?_
    simp -implicitDefEqProofs (dsimp := false) only [go_sem, simprocAttr, hi, hw, checkV]
    refine CodeT.condF rfl ?_
    refine CodeT.skip ?_
    simp -implicitDefEqProofs (dsimp := false) only [go_sem, simprocAttr, hi, hw, checkV]
    refine CodeT.seq ?_
    refine CodeT.seqR ?_
    simp -implicitDefEqProofs (dsimp := false) only [go_sem, simprocAttr, hi, hw, checkV]
    refine CodeT.condT rfl ?_
    refine CodeT.seqR ?_
    simp -implicitDefEqProofs (dsimp := false) only [go_sem, simprocAttr, hi, hw, checkV]
    refine CodeT.ret ?_
    simp -implicitDefEqProofs (dsimp := false) only [go_sem, simprocAttr, hi, hw, checkV]
    refine pureEnd rfl ?_
    simp only [readV, hi, er, hw, Bool.true_and, Bool.false_and, Bool.and_true, Bool.and_false, Bool.true_or, Bool.false_or, Bool.or_true, Bool.or_false, Bool.not_true, Bool.not_false, Bool.false_eq_true, ↓reduceIte]
  have hp := hw
  rw [wrB_eq, decide_eq_true_eq] at hp
  refine CallT.intro Try.func36 (by decide) rfl ?_
  simp -implicitDefEqProofs (dsimp := false) only [go_sem, simprocAttr, hi, hw, checkV, enterTm, Try.ntmps36, List.range'_succ, List.range'_zero, List.zip_cons_cons, List.zip_nil_left]
  refine CodeT.seqR ?_
  simp -implicitDefEqProofs (dsimp := false) only [go_sem, simprocAttr, hi, hw, checkV]
  refine CodeT.freeze 1 ?_
  simp -implicitDefEqProofs (dsimp := false) only [go_sem, simprocAttr, hi, hw, checkV]
  refine CodeT.seqR ?_
  simp -implicitDefEqProofs (dsimp := false) only [go_sem, simprocAttr, hi, hw, checkV]
  refine PureT.eq (c43 _ ?_) rfl ?_
  assumption
  simp -implicitDefEqProofs (dsimp := false) only [go_sem, simprocAttr, hi, hw, checkV]
  refine CodeT.seq ?_
  refine CodeT.seqR ?_
  simp -implicitDefEqProofs (dsimp := false) only [go_sem, simprocAttr, hi, hw, checkV]
  refine CodeT.condF rfl ?_
  refine CodeT.skip ?_
  simp -implicitDefEqProofs (dsimp := false) only [go_sem, simprocAttr, hi, hw, checkV]
  refine CodeT.seq ?_
  refine CodeT.seqR ?_
  simp -implicitDefEqProofs (dsimp := false) only [go_sem, simprocAttr, hi, hw, checkV]
  refine CodeT.condF rfl ?_
  refine CodeT.skip ?_
  simp -implicitDefEqProofs (dsimp := false) only [go_sem, simprocAttr, hi, hw, checkV]
  refine CodeT.seqR ?_
  simp -implicitDefEqProofs (dsimp := false) only [go_sem, simprocAttr, hi, hw, checkV]
  refine PureT.eq (c77s d hi hf) rfl ?_
  simp -implicitDefEqProofs (dsimp := false) only [go_sem, simprocAttr, hi, hw, checkV]
  refine PureT.eq (c76s d hi) rfl ?_
  simp -implicitDefEqProofs (dsimp := false) only [go_sem, simprocAttr, hi, hw, checkV]
  refine CodeT.seqD [(0, .free), (3, .free), (1, .read), (2, .read), (5, .free), (4, .read), (6, .free), (7, .free)] mixed (by kernel_rfl) ?_
  simp -implicitDefEqProofs (dsimp := false) only [go_sem, simprocAttr, hi, hw, checkV]
  refine gate_i ?_ ?_
  assumption
  simp -implicitDefEqProofs (dsimp := false) (disch := omega) only [Int.toNat_natCast, i64_in, bs_getD, opvs_getD, is64_getD, bss_getD]
  simp -implicitDefEqProofs (dsimp := false) only [go_sem, simprocAttr, hi, hw, checkV]
  refine And.intro (by trivial) ?_
  refine And.intro (by exact uni_bss _) ?_
  refine And.intro (by assumption) ?_
  refine And.intro (by omega) ?_
  refine CodeT.ret ?_
  simp -implicitDefEqProofs (dsimp := false) only [go_sem, simprocAttr, hi, hw, checkV]
  refine pureEnd rfl ?_
  simp only [readV, hi, hw, er, Bool.true_and, Bool.false_and, Bool.and_true, Bool.and_false, Bool.true_or, Bool.false_or, Bool.or_true, Bool.or_false, Bool.not_true, Bool.not_false, Bool.false_eq_true, ↓reduceIte]
theorem c37 (d : Dsk) (hf : Few d) : PureT Try.prog 37 [dkv d] (· = roomV d) := by
  cases hi : isDiskB d
  · refine CallT.intro Try.func37 (by decide) rfl ?_
    simp -implicitDefEqProofs (dsimp := false) only [go_sem, simprocAttr, hi, checkV, enterTm, Try.ntmps37, List.range'_succ, List.range'_zero, List.zip_cons_cons, List.zip_nil_left]
    refine CodeT.seqR ?_
    simp -implicitDefEqProofs (dsimp := false) only [go_sem, simprocAttr, hi, checkV]
    refine CodeT.freeze 1 ?_
    simp -implicitDefEqProofs (dsimp := false) only [go_sem, simprocAttr, hi, checkV]
    refine CodeT.seqR ?_
    simp -implicitDefEqProofs (dsimp := false) only [go_sem, simprocAttr, hi, checkV]
    refine PureT.eq (c43 _ ?_) rfl ?_
    assumption
    simp -implicitDefEqProofs (dsimp := false) only [go_sem, simprocAttr, hi, checkV]
    refine CodeT.seq ?_
    refine CodeT.seqR ?_
    simp -implicitDefEqProofs (dsimp := false) only [go_sem, simprocAttr, hi, checkV]
    refine CodeT.condT rfl ?_
    refine CodeT.seqR ?_
    simp -implicitDefEqProofs (dsimp := false) only [go_sem, simprocAttr, hi, checkV]
    refine CodeT.ret ?_
    simp -implicitDefEqProofs (dsimp := false) only [go_sem, simprocAttr, hi, checkV]
    refine pureEnd rfl ?_
    simp only [roomV, hi, er, Bool.true_and, Bool.false_and, Bool.and_true, Bool.and_false, Bool.true_or, Bool.false_or, Bool.or_true, Bool.or_false, Bool.not_true, Bool.not_false, Bool.false_eq_true, ↓reduceIte]
  have hd := disk_facts hi
  cases hw : wrB d
  · refine CallT.intro Try.func37 (by decide) rfl ?_
    simp -implicitDefEqProofs (dsimp := false) only [go_sem, simprocAttr, hi, hw, checkV, enterTm, Try.ntmps37, List.range'_succ, List.range'_zero, List.zip_cons_cons, List.zip_nil_left]
    refine CodeT.seqR ?_
    simp -implicitDefEqProofs (dsimp := false) only [go_sem, simprocAttr, hi, hw, checkV]
    refine CodeT.freeze 1 ?_
    simp -implicitDefEqProofs (dsimp := false) only [go_sem, simprocAttr, hi, hw, checkV]
    refine CodeT.seqR ?_
    simp -implicitDefEqProofs (dsimp := false) only [go_sem, simprocAttr, hi, hw, checkV]
    refine PureT.eq (c43 _ ?_) rfl ?_
    assumption
    simp -implicitDefEqProofs (dsimp := false) only [go_sem, simprocAttr, hi, hw, checkV]
    refine CodeT.seq ?_
    refine CodeT.seqR ?_
    simp -implicitDefEqProofs (dsimp := false) only [go_sem, simprocAttr, hi, hw, checkV]
    refine CodeT.condF rfl ?_
    refine CodeT.skip ?_
    simp -implicitDefEqProofs (dsimp := false) only [go_sem, simprocAttr, hi, hw, checkV]
    refine CodeT.seq ?_
    refine CodeT.seqR ?_
    simp -implicitDefEqProofs (dsimp := false) only [go_sem, simprocAttr, hi, hw, checkV]
    refine CodeT.condT rfl ?_
    refine CodeT.seqR ?_
    simp -implicitDefEqProofs (dsimp := false) only [go_sem, simprocAttr, hi, hw, checkV]
    refine CodeT.ret ?_
    simp -implicitDefEqProofs (dsimp := false) only [go_sem, simprocAttr, hi, hw, checkV]
    refine pureEnd rfl ?_
    simp only [roomV, hi, er, hw, Bool.true_and, Bool.false_and, Bool.and_true, Bool.and_false, Bool.true_or, Bool.false_or, Bool.or_true, Bool.or_false, Bool.not_true, Bool.not_false, Bool.false_eq_true, ↓reduceIte]
  cases hc : clB d
  · refine CallT.intro Try.func37 (by decide) rfl ?_
    simp -implicitDefEqProofs (dsimp := false) only [go_sem, simprocAttr, hi, hw, hc, checkV, enterTm, Try.ntmps37, List.range'_succ, List.range'_zero, List.zip_cons_cons, List.zip_nil_left]
    refine CodeT.seqR ?_
    simp -implicitDefEqProofs (dsimp := false) only [go_sem, simprocAttr, hi, hw, hc, checkV]
    refine CodeT.freeze 1 ?_
    simp -implicitDefEqProofs (dsimp := false) only [go_sem, simprocAttr, hi, hw, hc, checkV]
    refine CodeT.seqR ?_
    simp -implicitDefEqProofs (dsimp := false) only [go_sem, simprocAttr, hi, hw, hc, checkV]
    refine PureT.eq (c43 _ ?_) rfl ?_
    assumption
    simp -implicitDefEqProofs (dsimp := false) only [go_sem, simprocAttr, hi, hw, hc, checkV]
    refine CodeT.seq ?_
    refine CodeT.seqR ?_
    simp -implicitDefEqProofs (dsimp := false) only [go_sem, simprocAttr, hi, hw, hc, checkV]
    refine CodeT.condF rfl ?_
    refine CodeT.skip ?_
    simp -implicitDefEqProofs (dsimp := false) only [go_sem, simprocAttr, hi, hw, hc, checkV]
    refine CodeT.seq ?_
    refine CodeT.seqR ?_
    simp -implicitDefEqProofs (dsimp := false) only [go_sem, simprocAttr, hi, hw, hc, checkV]
    refine CodeT.condT rfl ?_
    refine CodeT.seqR ?_
    simp -implicitDefEqProofs (dsimp := false) only [go_sem, simprocAttr, hi, hw, hc, checkV]
    refine CodeT.ret ?_
    simp -implicitDefEqProofs (dsimp := false) only [go_sem, simprocAttr, hi, hw, hc, checkV]
    refine pureEnd rfl ?_
    simp only [roomV, hi, er, hw, hc, Bool.true_and, Bool.false_and, Bool.and_true, Bool.and_false, Bool.true_or, Bool.false_or, Bool.or_true, Bool.or_false, Bool.not_true, Bool.not_false, Bool.false_eq_true, ↓reduceIte]
  refine CallT.intro Try.func37 (by decide) rfl ?_
  simp -implicitDefEqProofs (dsimp := false) only [go_sem, simprocAttr, hi, hw, hc, checkV, enterTm, Try.ntmps37, List.range'_succ, List.range'_zero, List.zip_cons_cons, List.zip_nil_left]
  refine CodeT.seqR ?_
  simp -implicitDefEqProofs (dsimp := false) only [go_sem, simprocAttr, hi, hw, hc, checkV]
  refine CodeT.freeze 1 ?_
  simp -implicitDefEqProofs (dsimp := false) only [go_sem, simprocAttr, hi, hw, hc, checkV]
  refine CodeT.seqR ?_
  simp -implicitDefEqProofs (dsimp := false) only [go_sem, simprocAttr, hi, hw, hc, checkV]
  refine PureT.eq (c43 _ ?_) rfl ?_
  assumption
  simp -implicitDefEqProofs (dsimp := false) only [go_sem, simprocAttr, hi, hw, hc, checkV]
  refine CodeT.seq ?_
  refine CodeT.seqR ?_
  simp -implicitDefEqProofs (dsimp := false) only [go_sem, simprocAttr, hi, hw, hc, checkV]
  refine CodeT.condF rfl ?_
  refine CodeT.skip ?_
  simp -implicitDefEqProofs (dsimp := false) only [go_sem, simprocAttr, hi, hw, hc, checkV]
  refine CodeT.seq ?_
  refine CodeT.seqR ?_
  simp -implicitDefEqProofs (dsimp := false) only [go_sem, simprocAttr, hi, hw, hc, checkV]
  refine CodeT.condF rfl ?_
  refine CodeT.skip ?_
  simp -implicitDefEqProofs (dsimp := false) only [go_sem, simprocAttr, hi, hw, hc, checkV]
  refine CodeT.seqR ?_
  simp -implicitDefEqProofs (dsimp := false) only [go_sem, simprocAttr, hi, hw, hc, checkV]
  refine PureT.eq (c77s d hi hf) rfl ?_
  simp -implicitDefEqProofs (dsimp := false) only [go_sem, simprocAttr, hi, hw, hc, checkV]
  refine PureT.eq (c76s d hi) rfl ?_
  simp -implicitDefEqProofs (dsimp := false) only [go_sem, simprocAttr, hi, hw, hc, checkV]
  refine CodeT.seq ?_
  refine CodeT.seqR ?_
  simp -implicitDefEqProofs (dsimp := false) only [go_sem, simprocAttr, hi, hw, hc, checkV]
  refine CodeT.cond rfl (fun g4 => ?_) (fun g4 => ?_)
  have d4 := ofBeq g4
  refine CodeT.seqR ?_
  simp -implicitDefEqProofs (dsimp := false) only [go_sem, simprocAttr, hi, hw, hc, checkV, g4]
  refine CodeT.ret ?_
  simp -implicitDefEqProofs (dsimp := false) only [go_sem, simprocAttr, hi, hw, hc, checkV, g4]
  refine pureEnd rfl ?_
  (simp [roomV, hi, hw, hc, er, *]; omega)
  have d4 := ofBeqF g4
  refine CodeT.skip ?_
  simp -implicitDefEqProofs (dsimp := false) only [go_sem, simprocAttr, hi, hw, hc, checkV, g4]
  refine CodeT.seqR ?_
  simp -implicitDefEqProofs (dsimp := false) only [go_sem, simprocAttr, hi, hw, hc, checkV, g4]
  refine CodeT.ret ?_
  simp -implicitDefEqProofs (dsimp := false) only [go_sem, simprocAttr, hi, hw, hc, checkV, g4]
  refine pureEnd rfl ?_
  simp -implicitDefEqProofs (dsimp := false) (disch := omega) only [i64_in, bs_getD, opvs_getD, is64_getD, bss_getD]
  rotate_left
  · have h1 : (((halfB d + szB d : Nat) : Int) - ((halfB d + endB d : Nat) : Int) - 1) = ((szB d - endB d - 1 : Nat) : Int) := by omega
    have h2 : (((endB d : Nat) : Int) == ((szB d : Nat) : Int)) = false := by simp; omega
    rw [h1, half_len (by omega)]
    simp only [roomV, hi, hw, hc, h2, er, Bool.not_true, Bool.false_eq_true, ↓reduceIte]
theorem c39 (n : Int) (h1 : -9223372036854775808 ≤ n) (h2 : n ≤ 9223372036854775807) : PureT Try.prog 39 [.val (.int .i64 n)] (· = newV n) := by
  refine CallT.res (CallT.laxR ?_)
  have hs := sizeI_eq n
  cases hz : sizeI n
  · refine CallT.intro Try.func39 (by decide) rfl ?_
    simp -implicitDefEqProofs (dsimp := false) only [go_sem, simprocAttr, hz, enterTm, Try.ntmps39, List.range'_succ, List.range'_zero, List.zip_cons_cons, List.zip_nil_left]
    refine CodeT.seqR ?_
    simp -implicitDefEqProofs (dsimp := false) only [go_sem, simprocAttr, hz]
    refine CodeT.seq ?_
    refine CodeT.seqR ?_
    simp -implicitDefEqProofs (dsimp := false) only [go_sem, simprocAttr, hz]
    refine gif_i (fun g3 => ?_) (fun g3 => ?_)
    have d3 := ofDec g3
    simp -implicitDefEqProofs (dsimp := false) only [go_sem, simprocAttr, hz, g3]
    refine CodeT.condT rfl ?_
    refine CodeT.seqR ?_
    simp -implicitDefEqProofs (dsimp := false) only [go_sem, simprocAttr, hz, g3]
    refine CodeT.ret ?_
    simp -implicitDefEqProofs (dsimp := false) only [go_sem, simprocAttr, hz, g3]
    refine pureEnd rfl ?_
    rotate_left
    have d3 := ofDecF g3
    simp -implicitDefEqProofs (dsimp := false) only [go_sem, simprocAttr, hz, g3]
    refine PureT.eq (c81 _ ?_ ?_) rfl ?_
    assumption
    assumption
    simp -implicitDefEqProofs (dsimp := false) only [go_sem, simprocAttr, hz, g3]
    refine CodeT.condT rfl ?_
    refine CodeT.seqR ?_
    simp -implicitDefEqProofs (dsimp := false) only [go_sem, simprocAttr, hz, g3]
    refine CodeT.ret ?_
    simp -implicitDefEqProofs (dsimp := false) only [go_sem, simprocAttr, hz, g3]
    refine pureEnd rfl ?_
    rotate_left
    all_goals
      simp only [newV, hz, Bool.not_false, ↓reduceIte]
      rfl
  rw [hz] at hs
  simp [sizeB] at hs
  refine CallT.intro Try.func39 (by decide) rfl ?_
  simp -implicitDefEqProofs (dsimp := false) only [go_sem, simprocAttr, hz, enterTm, Try.ntmps39, List.range'_succ, List.range'_zero, List.zip_cons_cons, List.zip_nil_left]
  refine CodeT.seqR ?_
  simp -implicitDefEqProofs (dsimp := false) only [go_sem, simprocAttr, hz]
  refine CodeT.seq ?_
  refine CodeT.seqR ?_
  simp -implicitDefEqProofs (dsimp := false) only [go_sem, simprocAttr, hz]
  refine gif_i (fun g3 => ?_) (fun g3 => ?_)
  have d3 := ofDec g3
  (exfalso; omega)
  have d3 := ofDecF g3
  simp -implicitDefEqProofs (dsimp := false) only [go_sem, simprocAttr, hz, g3]
  refine PureT.eq (c81 _ ?_ ?_) rfl ?_
  assumption
  assumption
  simp -implicitDefEqProofs (dsimp := false) only [go_sem, simprocAttr, hz, g3]
  refine CodeT.condF rfl ?_
  refine CodeT.skip ?_
  simp -implicitDefEqProofs (dsimp := false) only [go_sem, simprocAttr, hz, g3]
  refine CodeT.seqR ?_
  simp -implicitDefEqProofs (dsimp := false) only [go_sem, simprocAttr, hz, g3]
  refine And.intro (by omega) ?_
  refine And.intro (by omega) ?_
  refine And.intro (by omega) ?_
  refine CodeT.ret ?_
  simp -implicitDefEqProofs (dsimp := false) only [go_sem, simprocAttr, hz, g3]
  refine And.intro (by omega) ?_
  refine pureEnd rfl ?_
  rotate_left
  simp only [newV, hz, Bool.not_true, Bool.false_eq_true, ↓reduceIte]
  rfl
end Go.Proofs.Try

namespace Go.Proofs.Try
set_option linter.unusedSimpArgs false
set_option linter.unusedVariables false
open Go.PM
set_option maxHeartbeats 4000000
set_option maxRecDepth 100000

/-- The outcomes are lists of operations, or none, with an error. -/
def OpsV (v : AV) : Prop := ∃ (ops : List DOp) (e : Int), v = .tup [.sl false (opvs ops), er e] ∧ ops.length ≤ 10
theorem formatV_ops (d : Dsk) (b : List UInt8) : OpsV (formatV d b) := by
  unfold formatV
  split
  · exact ⟨[], _, rfl, by simp⟩
  split
  · exact ⟨[], _, rfl, by simp⟩
  · exact ⟨_, _, rfl, by simp⟩
theorem appendV_ops (d : Dsk) (b : List UInt8) : OpsV (appendV d b) := by
  unfold appendV
  split
  · exact ⟨[], _, rfl, by simp⟩
  split
  · exact ⟨[], _, rfl, by simp⟩
  split
  · exact ⟨[], _, rfl, by simp⟩
  split
  · exact ⟨[], _, rfl, by simp⟩
  · exact ⟨_, _, rfl, by simp⟩
theorem checkinV_ops (d : Dsk) (b : List UInt8) : OpsV (checkinV d b) := by
  unfold checkinV
  split
  · exact ⟨[], _, rfl, by simp⟩
  split
  · exact ⟨[], _, rfl, by simp⟩
  split
  · exact ⟨[], _, rfl, by simp⟩
  · exact ⟨_, _, rfl, by simp⟩
theorem openV_ops (d : Dsk) : OpsV (openV d) := by
  unfold openV
  split
  · exact ⟨[], _, rfl, by simp⟩
  split
  · exact ⟨[], _, rfl, by simp⟩
  split
  · exact ⟨_, _, rfl, by simp⟩
  split
  · exact ⟨_, _, rfl, by simp⟩
  · exact ⟨[], _, rfl, by simp⟩
theorem readV_eq (d : Dsk) (hf : Few d) : ∃ (b : List UInt8) (l : List (List UInt8)) (e : Int), readV d = .tup [.sl false (bs b), .sl false (bss l), er e] ∧ l.length ≤ 4000000 := by
  unfold readV
  cases hi : isDiskB d
  · exact ⟨[], [], _, rfl, by simp⟩
  have h2 := disk_facts hi
  have h1 := parse_len (useB d)
  cases hw : wrB d
  · exact ⟨[], [], _, rfl, by simp⟩
  · exact ⟨_, _, _, rfl, by rw [List.length_drop, parseR_len]; omega⟩
theorem roomV_eq (d : Dsk) : ∃ (n e : Int), roomV d = .tup [er n, er e] := by
  unfold roomV
  split
  · exact ⟨_, _, rfl⟩
  split
  · exact ⟨_, _, rfl⟩
  split
  · exact ⟨_, _, rfl⟩
  split
  · exact ⟨_, _, rfl⟩
  · exact ⟨_, _, rfl⟩
theorem c8 (d : Dsk) (r : List UInt8) : PureT Try.prog 8 [dkv d, .sl false (bs r)] (· = .val (.bool true)) := by
  cases hfb : fewB d
  · refine CallT.intro Try.func8 (by decide) rfl ?_
    simp -implicitDefEqProofs (dsimp := false) only [go_sem, simprocAttr, hfb, enterTm, Try.ntmps8, List.range'_succ, List.range'_zero, List.zip_cons_cons, List.zip_nil_left]
    refine CodeT.seqR ?_
    simp -implicitDefEqProofs (dsimp := false) only [go_sem, simprocAttr, hfb]
    refine CodeT.freeze 2 ?_
    simp -implicitDefEqProofs (dsimp := false) only [go_sem, simprocAttr, hfb]
    refine CodeT.seqR ?_
    simp -implicitDefEqProofs (dsimp := false) only [go_sem, simprocAttr, hfb]
    refine PureT.eq (c12) rfl ?_
    simp -implicitDefEqProofs (dsimp := false) only [go_sem, simprocAttr, hfb]
    refine CodeT.seq ?_
    refine CodeT.seqR ?_
    simp -implicitDefEqProofs (dsimp := false) only [go_sem, simprocAttr, hfb]
    refine PureT.eq (c15 _) rfl ?_
    simp -implicitDefEqProofs (dsimp := false) only [go_sem, simprocAttr, hfb]
    refine CodeT.condT rfl ?_
    refine CodeT.seqR ?_
    simp -implicitDefEqProofs (dsimp := false) only [go_sem, simprocAttr, hfb]
    refine CodeT.ret ?_
    simp -implicitDefEqProofs (dsimp := false) only [go_sem, simprocAttr, hfb]
    refine pureEnd rfl ?_
    simp -implicitDefEqProofs (dsimp := false) only [go_sem, simprocAttr, hfb]
  cases hr : decide ((r.length : Int) > 30000)
  case true => refine CallT.intro Try.func8 (by decide) rfl ?_
               simp -implicitDefEqProofs (dsimp := false) only [go_sem, simprocAttr, hfb, hr, enterTm, Try.ntmps8, List.range'_succ, List.range'_zero, List.zip_cons_cons, List.zip_nil_left]
               refine CodeT.seqR ?_
               simp -implicitDefEqProofs (dsimp := false) only [go_sem, simprocAttr, hfb, hr]
               refine CodeT.freeze 2 ?_
               simp -implicitDefEqProofs (dsimp := false) only [go_sem, simprocAttr, hfb, hr]
               refine CodeT.seqR ?_
               simp -implicitDefEqProofs (dsimp := false) only [go_sem, simprocAttr, hfb, hr]
               refine PureT.eq (c12) rfl ?_
               simp -implicitDefEqProofs (dsimp := false) only [go_sem, simprocAttr, hfb, hr]
               refine CodeT.seq ?_
               refine CodeT.seqR ?_
               simp -implicitDefEqProofs (dsimp := false) only [go_sem, simprocAttr, hfb, hr]
               refine PureT.eq (c15 _) rfl ?_
               simp -implicitDefEqProofs (dsimp := false) only [go_sem, simprocAttr, hfb, hr]
               refine CodeT.condT rfl ?_
               refine CodeT.seqR ?_
               simp -implicitDefEqProofs (dsimp := false) only [go_sem, simprocAttr, hfb, hr]
               refine CodeT.ret ?_
               simp -implicitDefEqProofs (dsimp := false) only [go_sem, simprocAttr, hfb, hr]
               refine pureEnd rfl ?_
               simp -implicitDefEqProofs (dsimp := false) only [go_sem, simprocAttr, hfb, hr]
  have hr' : r.length ≤ 1000000 := by have := of_decide_eq_false hr; omega
  obtain ⟨hf, -, hq⟩ := fewB_few hfb
  obtain ⟨o1, e1, v1, l1⟩ := formatV_ops d r
  obtain ⟨o2, e2, v2, l2⟩ := appendV_ops d r
  obtain ⟨o3, e3, v3, l3⟩ := checkinV_ops d r
  obtain ⟨o4, e4, v4, l4⟩ := openV_ops d
  obtain ⟨b5, l5, e5, v5, h5⟩ := readV_eq d hf
  obtain ⟨n6, e6, v6⟩ := roomV_eq d
  have r1 : ∀ x : List UInt8, (strB x == strB x) = true := fun x => by rw [strB_beq]; simp
  have r2 : ∀ x : List (List UInt8), (x == x) = true := fun x => by simp
  have r3 : ∀ x : List DOp, (x == x) = true := fun x => by simp
  have r4 : ∀ x : Int, (x == x) = true := fun x => by simp
  have r5 : ∀ x : Int, (x != x) = false := fun x => by simp
  refine CallT.intro Try.func8 (by decide) rfl ?_
  simp -implicitDefEqProofs (dsimp := false) only [go_sem, simprocAttr, hfb, hr, r1, r2, r3, r4, r5, v1, v2, v3, v4, v5, v6, strOf_bs, enterTm, Try.ntmps8, List.range'_succ, List.range'_zero, List.zip_cons_cons, List.zip_nil_left]
  refine CodeT.seqR ?_
  simp -implicitDefEqProofs (dsimp := false) only [go_sem, simprocAttr, hfb, hr, r1, r2, r3, r4, r5, v1, v2, v3, v4, v5, v6, strOf_bs]
  refine CodeT.freeze 2 ?_
  simp -implicitDefEqProofs (dsimp := false) only [go_sem, simprocAttr, hfb, hr, r1, r2, r3, r4, r5, v1, v2, v3, v4, v5, v6, strOf_bs]
  refine CodeT.seqR ?_
  simp -implicitDefEqProofs (dsimp := false) only [go_sem, simprocAttr, hfb, hr, r1, r2, r3, r4, r5, v1, v2, v3, v4, v5, v6, strOf_bs]
  refine PureT.eq (c12) rfl ?_
  simp -implicitDefEqProofs (dsimp := false) only [go_sem, simprocAttr, hfb, hr, r1, r2, r3, r4, r5, v1, v2, v3, v4, v5, v6, strOf_bs]
  refine CodeT.seq ?_
  refine CodeT.seqR ?_
  simp -implicitDefEqProofs (dsimp := false) only [go_sem, simprocAttr, hfb, hr, r1, r2, r3, r4, r5, v1, v2, v3, v4, v5, v6, strOf_bs]
  refine PureT.eq (c15 _) rfl ?_
  simp -implicitDefEqProofs (dsimp := false) only [go_sem, simprocAttr, hfb, hr, r1, r2, r3, r4, r5, v1, v2, v3, v4, v5, v6, strOf_bs]
  refine CodeT.condF rfl ?_
  refine CodeT.skip ?_
  simp -implicitDefEqProofs (dsimp := false) only [go_sem, simprocAttr, hfb, hr, r1, r2, r3, r4, r5, v1, v2, v3, v4, v5, v6, strOf_bs]
  refine CodeT.seqR ?_
  simp -implicitDefEqProofs (dsimp := false) only [go_sem, simprocAttr, hfb, hr, r1, r2, r3, r4, r5, v1, v2, v3, v4, v5, v6, strOf_bs]
  refine PureT.eq (c29 _ ?_ _ ?_) rfl ?_
  assumption
  assumption
  simp -implicitDefEqProofs (dsimp := false) only [go_sem, simprocAttr, hfb, hr, r1, r2, r3, r4, r5, v1, v2, v3, v4, v5, v6, strOf_bs]
  refine CodeT.seqR ?_
  simp -implicitDefEqProofs (dsimp := false) only [go_sem, simprocAttr, hfb, hr, r1, r2, r3, r4, r5, v1, v2, v3, v4, v5, v6, strOf_bs]
  refine PureT.eq (c30 _ ?_ _ ?_) rfl ?_
  assumption
  assumption
  simp -implicitDefEqProofs (dsimp := false) only [go_sem, simprocAttr, hfb, hr, r1, r2, r3, r4, r5, v1, v2, v3, v4, v5, v6, strOf_bs]
  refine CodeT.seq ?_
  refine CodeT.seqR ?_
  simp -implicitDefEqProofs (dsimp := false) only [go_sem, simprocAttr, hfb, hr, r1, r2, r3, r4, r5, v1, v2, v3, v4, v5, v6, strOf_bs]
  refine PureT.eq (c31 _ _ ?_) rfl ?_
  omega
  simp -implicitDefEqProofs (dsimp := false) only [go_sem, simprocAttr, hfb, hr, r1, r2, r3, r4, r5, v1, v2, v3, v4, v5, v6, strOf_bs]
  refine CodeT.condF rfl ?_
  refine CodeT.skip ?_
  simp -implicitDefEqProofs (dsimp := false) only [go_sem, simprocAttr, hfb, hr, r1, r2, r3, r4, r5, v1, v2, v3, v4, v5, v6, strOf_bs]
  refine CodeT.seqR ?_
  simp -implicitDefEqProofs (dsimp := false) only [go_sem, simprocAttr, hfb, hr, r1, r2, r3, r4, r5, v1, v2, v3, v4, v5, v6, strOf_bs]
  refine PureT.eq (c25 _ ?_ _ ?_) rfl ?_
  assumption
  assumption
  simp -implicitDefEqProofs (dsimp := false) only [go_sem, simprocAttr, hfb, hr, r1, r2, r3, r4, r5, v1, v2, v3, v4, v5, v6, strOf_bs]
  refine CodeT.seqR ?_
  simp -implicitDefEqProofs (dsimp := false) only [go_sem, simprocAttr, hfb, hr, r1, r2, r3, r4, r5, v1, v2, v3, v4, v5, v6, strOf_bs]
  refine PureT.eq (c32 _ ?_ _ ?_) rfl ?_
  assumption
  assumption
  simp -implicitDefEqProofs (dsimp := false) only [go_sem, simprocAttr, hfb, hr, r1, r2, r3, r4, r5, v1, v2, v3, v4, v5, v6, strOf_bs]
  refine CodeT.seq ?_
  refine CodeT.seqR ?_
  simp -implicitDefEqProofs (dsimp := false) only [go_sem, simprocAttr, hfb, hr, r1, r2, r3, r4, r5, v1, v2, v3, v4, v5, v6, strOf_bs]
  refine PureT.eq (c31 _ _ ?_) rfl ?_
  omega
  simp -implicitDefEqProofs (dsimp := false) only [go_sem, simprocAttr, hfb, hr, r1, r2, r3, r4, r5, v1, v2, v3, v4, v5, v6, strOf_bs]
  refine CodeT.condF rfl ?_
  refine CodeT.skip ?_
  simp -implicitDefEqProofs (dsimp := false) only [go_sem, simprocAttr, hfb, hr, r1, r2, r3, r4, r5, v1, v2, v3, v4, v5, v6, strOf_bs]
  refine CodeT.seqR ?_
  simp -implicitDefEqProofs (dsimp := false) only [go_sem, simprocAttr, hfb, hr, r1, r2, r3, r4, r5, v1, v2, v3, v4, v5, v6, strOf_bs]
  refine PureT.eq (c33 _ ?_ _ ?_) rfl ?_
  assumption
  assumption
  simp -implicitDefEqProofs (dsimp := false) only [go_sem, simprocAttr, hfb, hr, r1, r2, r3, r4, r5, v1, v2, v3, v4, v5, v6, strOf_bs]
  refine CodeT.seqR ?_
  simp -implicitDefEqProofs (dsimp := false) only [go_sem, simprocAttr, hfb, hr, r1, r2, r3, r4, r5, v1, v2, v3, v4, v5, v6, strOf_bs]
  refine PureT.eq (c34 _ ?_ _ ?_) rfl ?_
  assumption
  assumption
  simp -implicitDefEqProofs (dsimp := false) only [go_sem, simprocAttr, hfb, hr, r1, r2, r3, r4, r5, v1, v2, v3, v4, v5, v6, strOf_bs]
  refine CodeT.seq ?_
  refine CodeT.seqR ?_
  simp -implicitDefEqProofs (dsimp := false) only [go_sem, simprocAttr, hfb, hr, r1, r2, r3, r4, r5, v1, v2, v3, v4, v5, v6, strOf_bs]
  refine PureT.eq (c31 _ _ ?_) rfl ?_
  omega
  simp -implicitDefEqProofs (dsimp := false) only [go_sem, simprocAttr, hfb, hr, r1, r2, r3, r4, r5, v1, v2, v3, v4, v5, v6, strOf_bs]
  refine CodeT.condF rfl ?_
  refine CodeT.skip ?_
  simp -implicitDefEqProofs (dsimp := false) only [go_sem, simprocAttr, hfb, hr, r1, r2, r3, r4, r5, v1, v2, v3, v4, v5, v6, strOf_bs]
  refine CodeT.seqR ?_
  simp -implicitDefEqProofs (dsimp := false) only [go_sem, simprocAttr, hfb, hr, r1, r2, r3, r4, r5, v1, v2, v3, v4, v5, v6, strOf_bs]
  refine PureT.eq (c20 _ ?_) rfl ?_
  assumption
  simp -implicitDefEqProofs (dsimp := false) only [go_sem, simprocAttr, hfb, hr, r1, r2, r3, r4, r5, v1, v2, v3, v4, v5, v6, strOf_bs]
  refine CodeT.seqR ?_
  simp -implicitDefEqProofs (dsimp := false) only [go_sem, simprocAttr, hfb, hr, r1, r2, r3, r4, r5, v1, v2, v3, v4, v5, v6, strOf_bs]
  refine PureT.eq (c35 _ ?_) rfl ?_
  assumption
  simp -implicitDefEqProofs (dsimp := false) only [go_sem, simprocAttr, hfb, hr, r1, r2, r3, r4, r5, v1, v2, v3, v4, v5, v6, strOf_bs]
  refine CodeT.seq ?_
  refine CodeT.seqR ?_
  simp -implicitDefEqProofs (dsimp := false) only [go_sem, simprocAttr, hfb, hr, r1, r2, r3, r4, r5, v1, v2, v3, v4, v5, v6, strOf_bs]
  refine PureT.eq (c31 _ _ ?_) rfl ?_
  omega
  simp -implicitDefEqProofs (dsimp := false) only [go_sem, simprocAttr, hfb, hr, r1, r2, r3, r4, r5, v1, v2, v3, v4, v5, v6, strOf_bs]
  refine CodeT.condF rfl ?_
  refine CodeT.skip ?_
  simp -implicitDefEqProofs (dsimp := false) only [go_sem, simprocAttr, hfb, hr, r1, r2, r3, r4, r5, v1, v2, v3, v4, v5, v6, strOf_bs]
  refine CodeT.seqR ?_
  simp -implicitDefEqProofs (dsimp := false) only [go_sem, simprocAttr, hfb, hr, r1, r2, r3, r4, r5, v1, v2, v3, v4, v5, v6, strOf_bs]
  refine PureT.eq (c21 _ ?_) rfl ?_
  assumption
  simp -implicitDefEqProofs (dsimp := false) only [go_sem, simprocAttr, hfb, hr, r1, r2, r3, r4, r5, v1, v2, v3, v4, v5, v6, strOf_bs]
  refine CodeT.seqR ?_
  simp -implicitDefEqProofs (dsimp := false) only [go_sem, simprocAttr, hfb, hr, r1, r2, r3, r4, r5, v1, v2, v3, v4, v5, v6, strOf_bs]
  refine PureT.eq (c36 _ ?_) rfl ?_
  assumption
  simp -implicitDefEqProofs (dsimp := false) only [go_sem, simprocAttr, hfb, hr, r1, r2, r3, r4, r5, v1, v2, v3, v4, v5, v6, strOf_bs]
  refine CodeT.seqR ?_
  simp -implicitDefEqProofs (dsimp := false) only [go_sem, simprocAttr, hfb, hr, r1, r2, r3, r4, r5, v1, v2, v3, v4, v5, v6, strOf_bs]
  refine PureT.eq (c24 _ ?_) rfl ?_
  assumption
  simp -implicitDefEqProofs (dsimp := false) only [go_sem, simprocAttr, hfb, hr, r1, r2, r3, r4, r5, v1, v2, v3, v4, v5, v6, strOf_bs]
  refine CodeT.seqR ?_
  simp -implicitDefEqProofs (dsimp := false) only [go_sem, simprocAttr, hfb, hr, r1, r2, r3, r4, r5, v1, v2, v3, v4, v5, v6, strOf_bs]
  refine PureT.eq (c37 _ ?_) rfl ?_
  assumption
  simp -implicitDefEqProofs (dsimp := false) only [go_sem, simprocAttr, hfb, hr, r1, r2, r3, r4, r5, v1, v2, v3, v4, v5, v6, strOf_bs]
  refine CodeT.seqR ?_
  simp -implicitDefEqProofs (dsimp := false) only [go_sem, simprocAttr, hfb, hr, r1, r2, r3, r4, r5, v1, v2, v3, v4, v5, v6, strOf_bs]
  refine And.intro (by exact bs_byte _) ?_
  refine And.intro (by exact bs_byte _) ?_
  refine PureT.eq (c23 _ _ ?_) rfl ?_
  assumption
  simp -implicitDefEqProofs (dsimp := false) only [go_sem, simprocAttr, hfb, hr, r1, r2, r3, r4, r5, v1, v2, v3, v4, v5, v6, strOf_bs]
  refine CodeT.ret ?_
  simp -implicitDefEqProofs (dsimp := false) only [go_sem, simprocAttr, hfb, hr, r1, r2, r3, r4, r5, v1, v2, v3, v4, v5, v6, strOf_bs]
  refine pureEnd rfl ?_
  simp -implicitDefEqProofs (dsimp := false) only [go_sem, simprocAttr, hfb, hr, r1, r2, r3, r4, r5, v1, v2, v3, v4, v5, v6, strOf_bs]
end Go.Proofs.Try

namespace Go.Proofs.Try
set_option linter.unusedSimpArgs false
set_option linter.unusedVariables false
open Go.PM
set_option maxHeartbeats 4000000
set_option maxRecDepth 100000

theorem kt74 : Try.prog.keyTypeAt 20 74 = true := by kernel_rfl
theorem eg74 : Try.prog.eqGuardType Try.prog.depth 74 = false := by kernel_rfl
theorem is74 : isStructB Try.prog 74 = true := by kernel_rfl
theorem co72 : Try.prog.cellsOf 72 = 5 := by kernel_rfl
theorem co70 : Try.prog.cellsOf 70 = 3 := by kernel_rfl
theorem co74 : Try.prog.cellsOf 74 = 8 := by kernel_rfl
theorem co3 : Try.prog.cellsOf 3 = 1 := by kernel_rfl
theorem co9 : Try.prog.cellsOf 9 = 1 := by kernel_rfl
theorem lits74 (c : Chg) (h : ChgW c) : litsA Try.prog 74 [.val (.int .i64 c.kind), .val (.int .i64 c.oid), .val (.string (strB c.name)), .val (.string (strB c.sname)), .val (.int .i64 c.skind), .val (.int .i64 c.vk), .val (.int .i64 c.vn), .val (.string (strB c.vt))] = some (litL c) := by
  have w : ∀ n : Int, (-9223372036854775808 ≤ n ∧ n ≤ 9223372036854775807) → (Lit.int .i64 n).wf = true := by
    intro n hn
    simp [Lit.wf, IntKind.min, IntKind.max, IntKind.signed, IntKind.bits]
    omega
  have u3 : ∀ (d : Nat) (n : Int), (-9223372036854775808 ≤ n ∧ n ≤ 9223372036854775807) → Try.prog.keyLits (d + 1) 3 [.int .i64 n] = some [.int .i64 n] := by
    intro d n hn
    simp only [Program.keyLits, Try.underlying3, w n hn, and_self, if_true]
  have u9 : ∀ (d : Nat) (l : List UInt8), l.length ≤ maxLen → Try.prog.keyLits (d + 1) 9 [.string (strB l)] = some [.string l] := by
    intro d l hl
    have : (strB l).size ≤ maxLen := hl
    simp only [Program.keyLits, Try.underlying9, this, if_true]
    rfl
  have u70 : Try.prog.keyLits 18 70 [.int .i64 c.vk, .int .i64 c.vn, .string (strB c.vt)] = some [.int .i64 c.vk, .int .i64 c.vn, .string c.vt] := by
    unfold Program.keyLits
    simp [Try.underlying70, co70, co3, co9, u3 16 _ h.vk, u3 16 _ h.vn, u9 16 _ h.vt]
  have u72 : Try.prog.keyLits 19 72 [.string (strB c.sname), .int .i64 c.skind, .int .i64 c.vk, .int .i64 c.vn, .string (strB c.vt)] = some [.string c.sname, .int .i64 c.skind, .int .i64 c.vk, .int .i64 c.vn, .string c.vt] := by
    unfold Program.keyLits
    simp [Try.underlying72, co72, co70, co3, co9, u3 17 _ h.sk, u9 17 _ h.sn, u70]
  unfold litsA
  simp only [List.mapM_cons, List.mapM_nil, Go.PM.valOf, bind, Option.bind_some, pure]
  unfold Program.keyLits
  simp [Try.underlying74, co74, co72, co3, co9, u3 18 _ h.k, u3 18 _ h.o, u9 18 _ h.n, u72, litL]
theorem litEq_self (l : List Lit) : litEq l l = true := litEq_iff.2 rfl
attribute [go_sem] kt74 eg74 is74 litEq_self
attribute [go_sem ↓] aggEqA
theorem c10 (a b : List UInt8) (c : Chg) (hb : b.length ≤ maxLen) (hc : ChgW c) (z1 : c.name.length ≤ 140737488351232) (z2 : c.sname.length ≤ 140737488351232) (z3 : c.vt.length ≤ 140737488351232) : PureT Try.prog 10 [.sl false (bs a), .sl false (bs b), chv c] (· = .val (.bool true)) := by
  have hl := lits74 _ (unpackD_W (b := b) hb)
  have r1 : ∀ x : List UInt8, (strB x == strB x) = true := fun x => by rw [strB_beq]; simp
  have r2 : ∀ x : List (List UInt8), (x == x) = true := fun x => by simp
  have r4 : ∀ x : Int, (x == x) = true := fun x => by simp
  have hp : (parseR b).length ≤ b.length + 1 := by rw [parseR_len]; exact parse_len b
  refine CallT.intro Try.func10 (by decide) rfl ?_
  simp -implicitDefEqProofs (dsimp := false) only [go_sem, simprocAttr, hl, r1, r2, r4, outC, chv, chc, str, i64v, str_size, strOf_bs, enterTm, Try.ntmps10, List.range'_succ, List.range'_zero, List.zip_cons_cons, List.zip_nil_left]
  refine CodeT.seqR ?_
  simp -implicitDefEqProofs (dsimp := false) only [go_sem, simprocAttr, hl, r1, r2, r4, outC, chv, chc, str, i64v, str_size, strOf_bs]
  refine CodeT.seqR ?_
  simp -implicitDefEqProofs (dsimp := false) only [go_sem, simprocAttr, hl, r1, r2, r4, outC, chv, chc, str, i64v, str_size, strOf_bs]
  refine PureT.eq (c12) rfl ?_
  simp -implicitDefEqProofs (dsimp := false) only [go_sem, simprocAttr, hl, r1, r2, r4, outC, chv, chc, str, i64v, str_size, strOf_bs]
  refine CodeT.seq ?_
  refine CodeT.seqR ?_
  simp -implicitDefEqProofs (dsimp := false) only [go_sem, simprocAttr, hl, r1, r2, r4, outC, chv, chc, str, i64v, str_size, strOf_bs]
  refine gif_i (fun g6 => ?_) (fun g6 => ?_)
  have d6 := ofDec g6
  simp -implicitDefEqProofs (dsimp := false) only [go_sem, simprocAttr, hl, r1, r2, r4, outC, chv, chc, str, i64v, str_size, strOf_bs, g6]
  refine CodeT.condT rfl ?_
  refine CodeT.seqR ?_
  simp -implicitDefEqProofs (dsimp := false) only [go_sem, simprocAttr, hl, r1, r2, r4, outC, chv, chc, str, i64v, str_size, strOf_bs, g6]
  refine CodeT.ret ?_
  simp -implicitDefEqProofs (dsimp := false) only [go_sem, simprocAttr, hl, r1, r2, r4, outC, chv, chc, str, i64v, str_size, strOf_bs, g6]
  refine pureEnd rfl ?_
  simp -implicitDefEqProofs (dsimp := false) only [go_sem, simprocAttr, hl, r1, r2, r4, outC, chv, chc, str, i64v, str_size, strOf_bs, g6]
  have d6 := ofDecF g6
  simp -implicitDefEqProofs (dsimp := false) only [go_sem, simprocAttr, hl, r1, r2, r4, outC, chv, chc, str, i64v, str_size, strOf_bs, g6]
  refine gif_i (fun g7 => ?_) (fun g7 => ?_)
  have d7 := ofDec g7
  simp -implicitDefEqProofs (dsimp := false) only [go_sem, simprocAttr, hl, r1, r2, r4, outC, chv, chc, str, i64v, str_size, strOf_bs, g6, g7]
  refine CodeT.condT rfl ?_
  refine CodeT.seqR ?_
  simp -implicitDefEqProofs (dsimp := false) only [go_sem, simprocAttr, hl, r1, r2, r4, outC, chv, chc, str, i64v, str_size, strOf_bs, g6, g7]
  refine CodeT.ret ?_
  simp -implicitDefEqProofs (dsimp := false) only [go_sem, simprocAttr, hl, r1, r2, r4, outC, chv, chc, str, i64v, str_size, strOf_bs, g6, g7]
  refine pureEnd rfl ?_
  simp -implicitDefEqProofs (dsimp := false) only [go_sem, simprocAttr, hl, r1, r2, r4, outC, chv, chc, str, i64v, str_size, strOf_bs, g6, g7]
  have d7 := ofDecF g7
  simp -implicitDefEqProofs (dsimp := false) only [go_sem, simprocAttr, hl, r1, r2, r4, outC, chv, chc, str, i64v, str_size, strOf_bs, g6, g7]
  simp -implicitDefEqProofs (dsimp := false) (disch := omega) only [i64_in, bs_getD, opvs_getD, is64_getD, bss_getD]
  refine CodeT.cond rfl (fun g8 => ?_) (fun g8 => ?_)
  have d8 := ofDec g8
  refine CodeT.seqR ?_
  simp -implicitDefEqProofs (dsimp := false) only [go_sem, simprocAttr, hl, r1, r2, r4, outC, chv, chc, str, i64v, str_size, strOf_bs, g6, g7, g8]
  refine CodeT.ret ?_
  simp -implicitDefEqProofs (dsimp := false) only [go_sem, simprocAttr, hl, r1, r2, r4, outC, chv, chc, str, i64v, str_size, strOf_bs, g6, g7, g8]
  refine pureEnd rfl ?_
  simp -implicitDefEqProofs (dsimp := false) only [go_sem, simprocAttr, hl, r1, r2, r4, outC, chv, chc, str, i64v, str_size, strOf_bs, g6, g7, g8]
  have d8 := ofDecF g8
  refine CodeT.skip ?_
  simp -implicitDefEqProofs (dsimp := false) only [go_sem, simprocAttr, hl, r1, r2, r4, outC, chv, chc, str, i64v, str_size, strOf_bs, g6, g7, g8]
  refine CodeT.seqR ?_
  simp -implicitDefEqProofs (dsimp := false) only [go_sem, simprocAttr, hl, r1, r2, r4, outC, chv, chc, str, i64v, str_size, strOf_bs, g6, g7, g8]
  refine PureT.eq (c14 _ ?_) rfl ?_
  omega
  simp -implicitDefEqProofs (dsimp := false) only [go_sem, simprocAttr, hl, r1, r2, r4, outC, chv, chc, str, i64v, str_size, strOf_bs, g6, g7, g8]
  refine CodeT.seqR ?_
  simp -implicitDefEqProofs (dsimp := false) only [go_sem, simprocAttr, hl, r1, r2, r4, outC, chv, chc, str, i64v, str_size, strOf_bs, g6, g7, g8]
  refine PureT.eq (c44 _ ?_) rfl ?_
  omega
  simp -implicitDefEqProofs (dsimp := false) only [go_sem, simprocAttr, hl, r1, r2, r4, outC, chv, chc, str, i64v, str_size, strOf_bs, g6, g7, g8]
  refine CodeT.seqR ?_
  simp -implicitDefEqProofs (dsimp := false) only [go_sem, simprocAttr, hl, r1, r2, r4, outC, chv, chc, str, i64v, str_size, strOf_bs, g6, g7, g8]
  refine PureT.eq (c45 _ ?_) rfl ?_
  omega
  simp -implicitDefEqProofs (dsimp := false) only [go_sem, simprocAttr, hl, r1, r2, r4, outC, chv, chc, str, i64v, str_size, strOf_bs, g6, g7, g8]
  refine CodeT.seqR ?_
  simp -implicitDefEqProofs (dsimp := false) only [go_sem, simprocAttr, hl, r1, r2, r4, outC, chv, chc, str, i64v, str_size, strOf_bs, g6, g7, g8]
  refine PureT.eq (c46 _ ?_) rfl ?_
  omega
  simp -implicitDefEqProofs (dsimp := false) only [go_sem, simprocAttr, hl, r1, r2, r4, outC, chv, chc, str, i64v, str_size, strOf_bs, g6, g7, g8]
  refine CodeT.seqD [(0, .free), (1, .free), (2, .free), (3, .free), (4, .free), (5, .free), (6, .free), (7, .free), (8, .free), (9, .free), (10, .free), (11, .free), (12, .free), (13, .free), (14, .free), (15, .free), (16, .free), (17, .free), (18, .free), (19, .free), (20, .free), (21, .read), (22, .free), (23, .free), (24, .read), (25, .free), (26, .free), (27, .free), (28, .free), (29, .free), (30, .read), (31, .read), (32, .free), (33, .free), (34, .free), (35, .free), (36, .free), (37, .free), (38, .free), (39, .free)] mixed (by kernel_rfl) ?_
  simp -implicitDefEqProofs (dsimp := false) only [go_sem, simprocAttr, hl, r1, r2, r4, outC, chv, chc, str, i64v, str_size, strOf_bs, g6, g7, g8]
  refine CallF.go (c13 _ ?_) rfl ?_
  omega
  simp -implicitDefEqProofs (dsimp := false) only [go_sem, simprocAttr, hl, r1, r2, r4, outC, chv, chc, str, i64v, str_size, strOf_bs, g6, g7, g8]
  refine And.intro (by exact bs_byte _) ?_
  refine CallF.go (c47 _ ?_) rfl ?_
  omega
  simp -implicitDefEqProofs (dsimp := false) only [go_sem, simprocAttr, hl, r1, r2, r4, outC, chv, chc, str, i64v, str_size, strOf_bs, g6, g7, g8]
  refine And.intro (by exact bs_byte _) ?_
  refine CallF.go (c23 _ _ ?_) rfl ?_
  omega
  simp -implicitDefEqProofs (dsimp := false) only [go_sem, simprocAttr, hl, r1, r2, r4, outC, chv, chc, str, i64v, str_size, strOf_bs, g6, g7, g8]
  refine CallF.go (c48 _ ?_ ?_ ?_) rfl ?_
  omega
  omega
  omega
  simp -implicitDefEqProofs (dsimp := false) only [go_sem, simprocAttr, hl, r1, r2, r4, outC, chv, chc, str, i64v, str_size, strOf_bs, g6, g7, g8]
  refine And.intro (by exact bs_byte _) ?_
  refine CallF.go (c49 _ ?_ ?_ ?_) rfl ?_
  omega
  omega
  omega
  simp -implicitDefEqProofs (dsimp := false) only [go_sem, simprocAttr, hl, r1, r2, r4, outC, chv, chc, str, i64v, str_size, strOf_bs, g6, g7, g8]
  refine And.intro (by exact bs_byte _) ?_
  refine CodeT.ret ?_
  simp -implicitDefEqProofs (dsimp := false) only [go_sem, simprocAttr, hl, r1, r2, r4, outC, chv, chc, str, i64v, str_size, strOf_bs, g6, g7, g8]
  refine pureEnd rfl ?_
  simp -implicitDefEqProofs (dsimp := false) only [go_sem, simprocAttr, hl, r1, r2, r4, outC, chv, chc, str, i64v, str_size, strOf_bs, g6, g7, g8]
end Go.Proofs.Try

namespace Go.Proofs.Try
set_option linter.unusedSimpArgs false
set_option linter.unusedVariables false
open Go.PM

/-- A record that was cut off, whatever stands behind it. -/
theorem scan_cut : ∀ (p : List UInt8) (a : Nat) (r : List UInt8), a < (frame p).length → scan1 ((frame p).take a ++ 0 :: r) = none := by
  intro p
  induction p with
  | nil =>
    intro a r h
    rw [frame_nil] at h
    have : a = 0 := by simpa using h
    subst this
    cases r with
    | nil => rfl
    | cons y r => rfl
  | cons x p ih =>
    intro a r h
    rw [frame_cons] at h ⊢
    cases a with
    | zero =>
      cases r with
      | nil => rfl
      | cons y r => rfl
    | succ a => cases a with
      | zero =>
        simp only [List.take_succ_cons, List.take_zero, List.cons_append, List.nil_append, scan1, if_neg (hi_ne x)]
        rw [if_neg]
        simp [digit]
      | succ a =>
        have := ih a r (by simp at h; omega)
        simp only [List.take_succ_cons, List.cons_append, scan1, if_neg (hi_ne x), hi_digit, lo_digit, Bool.and_self, if_true, this, Option.map_none]
/-- What begins with 0 is no record. -/
theorem scan_0 (r : List UInt8) : scan1 (0 :: r) = none := scan_cut [] 0 r (by simp [frame_nil])
theorem scan_zs' (n : Nat) (r : List UInt8) (h : 0 < n) : scan1 (zs n ++ r) = none := by
  obtain ⟨m, rfl⟩ : ∃ m, n = m + 1 := ⟨n - 1, by omega⟩
  show scan1 (0 :: (List.replicate m 0 ++ r)) = none
  exact scan_0 _

/-- The writes that append records, from e on. -/
def apps : Nat → List (List UInt8) → List DOp
  | _, [] => []
  | e, r :: l => wr (e : Nat) (frame r) :: apps (e + (frame r).length) l
theorem apps_len : ∀ (e : Nat) (l : List (List UInt8)), (apps e l).length = l.length
  | _, [] => rfl
  | e, r :: l => by rw [apps, List.length_cons, apps_len, List.length_cons]
theorem apps_append : ∀ (e : Nat) (l l' : List (List UInt8)), apps e (l ++ l') = apps e l ++ apps (e + (frames l).length) l'
  | e, [], l' => by simp [apps, frames]
  | e, r :: l, l' => by
    rw [List.cons_append, apps, apps_append, frames_cons, List.length_append, apps, Nat.add_assoc]
    rfl
/-- Writes, each as far as is told. -/
def puts (b : List UInt8) : List DOp → (Nat → Nat) → List UInt8
  | [], _ => b
  | o :: q, far => puts (putB b o.at_.toNat (o.bytes.take (far 0))) q (fun i => far (i + 1))
theorem doneTo_cons (b : List UInt8) (o : DOp) (q : List DOp) (far : Nat → Nat) : ∀ n, doneTo b (o :: q) far (n + 1) = doneTo (putB b o.at_.toNat (o.bytes.take (far 0))) q (fun i => far (i + 1)) n := by
  intro n
  induction n with
  | zero => rw [doneTo_succ]; rfl
  | succ n ih => rw [doneTo_succ, ih, doneTo_succ]; rfl
theorem doneTo_puts : ∀ (q : List DOp) (b : List UInt8) (far : Nat → Nat), doneTo b q far q.length = puts b q far
  | [], b, far => rfl
  | o :: q, b, far => by rw [List.length_cons, doneTo_cons, doneTo_puts q, puts]
theorem puts_append : ∀ (q q' : List DOp) (b : List UInt8) (far : Nat → Nat), puts b (q ++ q') far = puts (puts b q far) q' (fun i => far (q.length + i))
  | [], q', b, far => by simp [puts]
  | o :: q, q', b, far => by
    rw [List.cons_append, puts, puts_append, puts]
    congr 1
    funext i
    rw [List.length_cons, show q.length + 1 + i = q.length + i + 1 by omega]
/-- A write changes nothing ahead of it. -/
theorem putB_take {b x : List UInt8} {a n : Nat} (hn : n ≤ a) (ha : a ≤ b.length) : (putB b a x).take n = b.take n := by
  rw [putB, List.append_assoc, List.take_append_of_le_length (by rw [List.length_take]; omega), List.take_take, Nat.min_eq_left hn]
theorem putB_drop {b x : List UInt8} {a n : Nat} (hn : a + x.length ≤ n) (ha : a ≤ b.length) : (putB b a x).drop n = b.drop n := by
  unfold putB
  rw [List.drop_append, List.drop_of_length_le (by rw [List.length_append, List.length_take]; omega), List.nil_append, List.drop_drop, List.length_append, List.length_take]
  congr 1
  omega
theorem puts_apps : ∀ (l : List (List UInt8)) (e : Nat) (b : List UInt8) (far : Nat → Nat), e + (frames l).length ≤ b.length →
    (puts b (apps e l) far).length = b.length ∧ (puts b (apps e l) far).take e = b.take e ∧ (puts b (apps e l) far).drop (e + (frames l).length) = b.drop (e + (frames l).length)
  | [], e, b, far, h => ⟨rfl, rfl, rfl⟩
  | r :: l, e, b, far, h => by
    rw [frames_cons, List.length_append] at h ⊢
    have hx : ((frame r).take (far 0)).length ≤ (frame r).length := by rw [List.length_take]; omega
    have hl : (putB b e ((frame r).take (far 0))).length = b.length := putB_length (by omega)
    obtain ⟨h1, h2, h3⟩ := puts_apps l (e + (frame r).length) (putB b e ((frame r).take (far 0))) (fun i => far (i + 1)) (by omega)
    have e1 : puts b (apps e (r :: l)) far = puts (putB b e ((frame r).take (far 0))) (apps (e + (frame r).length) l) (fun i => far (i + 1)) := by
      show puts (putB b ((e : Nat) : Int).toNat ((frame r).take (far 0))) _ _ = _
      rw [Int.toNat_natCast]
    rw [e1]
    refine ⟨h1.trans hl, ?_, ?_⟩
    · have := congrArg (List.take e) h2
      rw [List.take_take, List.take_take, Nat.min_eq_left (by omega)] at this
      rw [this, putB_take (Nat.le_refl _) (by omega)]
    · rw [← Nat.add_assoc, h3, putB_drop (by omega) (by omega)]
/-- What a crash leaves of records that were appended behind zeros. -/
theorem crash_apps : ∀ (l : List (List UInt8)) (e n : Nat) (b : List UInt8) (far : Nat → Nat), e + n ≤ b.length → (frames l).length ≤ n → (b.drop e).take n = zs n →
    ∃ m t, m ≤ l.length ∧ ((puts b (apps e l) far).drop e).take n = frames (l.take m) ++ t ∧ scan1 t = none
  | [], e, n, b, far, h, hl, hz => ⟨0, zs n, Nat.le_refl _, by rw [apps, puts, hz]; rfl, scan_zs n⟩
  | r :: l, e, n, b, far, h, hl, hz => by
    rw [frames_cons, List.length_append] at hl
    have e1 : puts b (apps e (r :: l)) far = puts (putB b e ((frame r).take (far 0))) (apps (e + (frame r).length) l) (fun i => far (i + 1)) := by
      show puts (putB b ((e : Nat) : Int).toNat ((frame r).take (far 0))) _ _ = _
      rw [Int.toNat_natCast]
    rw [e1]
    have hx : ((frame r).take (far 0)).length = min (far 0) (frame r).length := List.length_take
    have hlen : (putB b e ((frame r).take (far 0))).length = b.length := putB_length (by omega)
    have key : ∀ k, ((frame r).take (far 0)).length ≤ k → k ≤ n → ((putB b e ((frame r).take (far 0))).drop e).take k = (frame r).take (far 0) ++ zs (k - ((frame r).take (far 0)).length) := by
      intro k h1 h2
      have e2 : (putB b e ((frame r).take (far 0))).drop e = (frame r).take (far 0) ++ b.drop (e + ((frame r).take (far 0)).length) := by
        unfold putB
        rw [List.append_assoc, List.drop_append, List.drop_of_length_le (by rw [List.length_take]; omega), List.nil_append, List.length_take, Nat.min_eq_left (by omega), Nat.sub_self, List.drop_zero]
      have hz' := congrArg (fun x => (List.drop ((frame r).take (far 0)).length x).take (k - ((frame r).take (far 0)).length)) hz
      rw [List.drop_take, List.drop_drop, List.take_take, Nat.min_eq_left (by omega)] at hz'
      rw [e2, List.take_append, List.take_of_length_le h1, hz']
      congr 1
      unfold zs
      rw [List.drop_replicate, List.take_replicate, Nat.min_eq_left (by omega)]
    rcases Nat.lt_or_ge (far 0) (frame r).length with hf | hf
    · refine ⟨0, ((puts (putB b e ((frame r).take (far 0))) (apps (e + (frame r).length) l) (fun i => far (i + 1))).drop e).take n, Nat.zero_le _, rfl, ?_⟩
      obtain ⟨h1, h2, h3⟩ := puts_apps l (e + (frame r).length) (putB b e ((frame r).take (far 0))) (fun i => far (i + 1)) (by omega)
      generalize puts (putB b e ((frame r).take (far 0))) (apps (e + (frame r).length) l) (fun i => far (i + 1)) = B at *
      have h4 := congrArg (List.drop e) h2
      rw [List.drop_take, List.drop_take, Nat.add_sub_cancel_left, key _ (by omega) (by omega), hx, Nat.min_eq_left (by omega)] at h4
      have h5 : (B.drop e).take n = (B.drop e).take (frame r).length ++ ((B.drop e).take n).drop (frame r).length := by
        have := List.take_append_drop (frame r).length ((B.drop e).take n)
        rw [List.take_take, Nat.min_eq_left (by omega)] at this
        exact this.symm
      rw [h5, h4, List.append_assoc]
      obtain ⟨k, hk⟩ : ∃ k, (frame r).length - far 0 = k + 1 := ⟨(frame r).length - far 0 - 1, by omega⟩
      rw [hk]
      exact scan_cut r (far 0) _ hf
    · have hfull : (frame r).take (far 0) = frame r := List.take_of_length_le hf
      rw [hfull] at key hlen ⊢
      have h6 := key n (by omega) (Nat.le_refl _)
      have h7 : ((putB b e (frame r)).drop (e + (frame r).length)).take (n - (frame r).length) = zs (n - (frame r).length) := by
        have := congrArg (List.drop (frame r).length) h6
        rw [List.drop_take, List.drop_drop, List.drop_left] at this
        exact this
      obtain ⟨m, t, k1, k2, k3⟩ := crash_apps l (e + (frame r).length) (n - (frame r).length) (putB b e (frame r)) (fun i => far (i + 1)) (by omega) (by omega) h7
      obtain ⟨h1, h2, h3⟩ := puts_apps l (e + (frame r).length) (putB b e (frame r)) (fun i => far (i + 1)) (by omega)
      generalize puts (putB b e (frame r)) (apps (e + (frame r).length) l) (fun i => far (i + 1)) = B at *
      refine ⟨m + 1, t, by simpa using k1, ?_, k3⟩
      have h8 := congrArg (List.drop e) h2
      rw [List.drop_take, List.drop_take, Nat.add_sub_cancel_left, key _ (Nat.le_refl _) (by omega), Nat.sub_self] at h8
      have h9 : (B.drop e).take n = (B.drop e).take (frame r).length ++ ((B.drop e).take n).drop (frame r).length := by
        have := List.take_append_drop (frame r).length ((B.drop e).take n)
        rw [List.take_take, Nat.min_eq_left (by omega)] at this
        exact this.symm
      rw [h9, h8, List.drop_take, List.drop_drop, k2, List.take_succ_cons, frames_cons]
      simp [zs]
/-- All of them are there, if all of each was kept. -/
theorem full_apps : ∀ (l : List (List UInt8)) (e n : Nat) (b : List UInt8) (far : Nat → Nat), e + n ≤ b.length → (frames l).length ≤ n → (b.drop e).take n = zs n → (∀ i, i < l.length → (frame (l.getD i [])).length ≤ far i) →
    ((puts b (apps e l) far).drop e).take n = frames l ++ zs (n - (frames l).length)
  | [], e, n, b, far, h, hl, hz, hf => by rw [apps, puts, hz]; rfl
  | r :: l, e, n, b, far, h, hl, hz, hf => by
    rw [frames_cons, List.length_append] at hl
    have e1 : puts b (apps e (r :: l)) far = puts (putB b e (frame r)) (apps (e + (frame r).length) l) (fun i => far (i + 1)) := by
      show puts (putB b ((e : Nat) : Int).toNat ((frame r).take (far 0))) _ _ = _
      rw [Int.toNat_natCast, show List.take (far 0) (frame r) = frame r from List.take_of_length_le (hf 0 (by simp))]
    rw [e1]
    have hlen : (putB b e (frame r)).length = b.length := putB_length (by omega)
    have e2 : (putB b e (frame r)).drop e = frame r ++ b.drop (e + (frame r).length) := by
      unfold putB
      rw [List.append_assoc, List.drop_append, List.drop_of_length_le (by rw [List.length_take]; omega), List.nil_append, List.length_take, Nat.min_eq_left (by omega), Nat.sub_self, List.drop_zero]
    have h7 : ((putB b e (frame r)).drop (e + (frame r).length)).take (n - (frame r).length) = zs (n - (frame r).length) := by
      have hz' := congrArg (List.drop (frame r).length) hz
      rw [List.drop_take, List.drop_drop] at hz'
      rw [← List.drop_drop, e2, List.drop_left, hz']
      simp [zs]
    have ih := full_apps l (e + (frame r).length) (n - (frame r).length) (putB b e (frame r)) (fun i => far (i + 1)) (by omega) (by omega) h7 (fun i hi => hf (i + 1) (by simpa using hi))
    obtain ⟨h1, h2, h3⟩ := puts_apps l (e + (frame r).length) (putB b e (frame r)) (fun i => far (i + 1)) (by omega)
    generalize puts (putB b e (frame r)) (apps (e + (frame r).length) l) (fun i => far (i + 1)) = B at *
    have h8 := congrArg (List.drop e) h2
    rw [List.drop_take, List.drop_take, Nat.add_sub_cancel_left, e2, List.take_left] at h8
    have h9 : (B.drop e).take n = (B.drop e).take (frame r).length ++ ((B.drop e).take n).drop (frame r).length := by
      have := List.take_append_drop (frame r).length ((B.drop e).take n)
      rw [List.take_take, Nat.min_eq_left (by omega)] at this
      exact this.symm
    rw [h9, h8, List.drop_take, List.drop_drop, ih, frames_cons, List.append_assoc, List.length_append, Nat.sub_sub]
end Go.Proofs.Try

namespace Go.Proofs.Try
set_option linter.unusedSimpArgs false
set_option linter.unusedVariables false
open Go.PM

/-- The half from h on of bytes begins with records, behind which there is t. -/
structure Half (b : List UInt8) (h sz : Nat) (R : List (List UInt8)) (t : List UInt8) : Prop where
  u : (b.drop h).take sz = frames R ++ t
/-- A disk whose half in use, in its bytes, has R with zeros behind, and to which l was appended since. -/
structure Rest (d : Dsk) (R l : List (List UInt8)) : Prop where
  i : isDiskB d = true
  q : d.queue = apps (halfAt d.bytes + (frames R).length) l
  u : (d.bytes.drop (halfAt d.bytes)).take (szB d) = frames R ++ zs (szB d - (frames R).length)
  fit : (frames (R ++ l)).length ≤ szB d
  n : d.bytes.length ≤ 4097
/-- A disk without writes that wait, whose half in use has R and something that is no record behind. -/
structure Weak (d : Dsk) (R : List (List UInt8)) : Prop where
  i : isDiskB d = true
  q : d.queue = []
  t : ∃ t, (d.bytes.drop (halfAt d.bytes)).take (szB d) = frames R ++ t ∧ scan1 t = none
  n : d.bytes.length ≤ 4097

theorem half_bounds {d : Dsk} (hi : isDiskB d = true) : d.bytes.length = 2 * szB d + 1 ∧ 64 ≤ szB d ∧ d.bytes.length ≤ 2097153 ∧ 1 ≤ halfAt d.bytes ∧ halfAt d.bytes + szB d ≤ d.bytes.length ∧ (halfAt d.bytes = 1 ∨ halfAt d.bytes = 1 + szB d) := by
  obtain ⟨f1, f2, f3, f4, f5, f6⟩ := disk_facts hi
  have : halfAt d.bytes = 1 ∨ halfAt d.bytes = 1 + szB d := by
    unfold halfAt szB; split
    · exact .inl rfl
    · exact .inr rfl
  refine ⟨f2, f3, f1, ?_, ?_, this⟩ <;> omega
theorem half_same {b b' : List UInt8} (hl : b'.length = b.length) (h1 : b'.take 1 = b.take 1) : halfAt b' = halfAt b := by
  unfold halfAt
  have : b'.getD 0 0 = b.getD 0 0 := by
    cases b <;> cases b' <;> simp_all
  rw [this, hl]
theorem seen_puts (d : Dsk) : seenB d = puts d.bytes d.queue (fun i => (d.queue.getD i op0).bytes.length) := doneTo_puts _ _ _
theorem crash_puts (d : Dsk) (cuts : List Int) : crashB d cuts = puts d.bytes d.queue (farC cuts d) := doneTo_puts _ _ _
theorem apps_get : ∀ (l : List (List UInt8)) (e i : Nat), i < l.length → ((apps e l).getD i op0).bytes = frame (l.getD i [])
  | [], e, i, h => by simp at h
  | r :: l, e, 0, h => rfl
  | r :: l, e, i + 1, h => by
    show ((apps _ l).getD i op0).bytes = _
    rw [apps_get l _ i (by simpa using h)]
    rfl
theorem drop_take_at {b : List UInt8} {h sz k : Nat} {x y : List UInt8} (hu : (b.drop h).take sz = x ++ y) (hx : x.length = k) : (b.drop (h + k)).take (sz - k) = y := by
  have := congrArg (List.drop k) hu
  rw [List.drop_take, List.drop_drop, ← hx, List.drop_left] at this
  rw [← hx]; exact this
theorem take_join {b : List UInt8} {h sz k : Nat} (hk : k ≤ sz) {x y : List UInt8} (h1 : (b.drop h).take k = x) (h2 : (b.drop (h + k)).take (sz - k) = y) : (b.drop h).take sz = x ++ y := by
  have := List.take_append_drop k ((b.drop h).take sz)
  rw [List.take_take, Nat.min_eq_left hk, List.drop_take, List.drop_drop, h1, h2] at this
  exact this.symm
theorem rest_zero {d : Dsk} {R l : List (List UInt8)} (r : Rest d R l) : (d.bytes.drop (halfAt d.bytes + (frames R).length)).take (szB d - (frames R).length) = zs (szB d - (frames R).length) := drop_take_at r.u rfl
/-- What is seen. -/
theorem rest_seen {d : Dsk} {R l : List (List UInt8)} (r : Rest d R l) : (seenB d).length = d.bytes.length ∧ halfAt (seenB d) = halfAt d.bytes ∧ ((seenB d).drop (halfAt d.bytes)).take (szB d) = frames (R ++ l) ++ zs (szB d - (frames (R ++ l)).length) := by
  obtain ⟨b1, b2, b3, b4, b5, b6⟩ := half_bounds r.i
  have hfit := r.fit
  rw [frames_append, List.length_append] at hfit
  rw [seen_puts, r.q]
  obtain ⟨h1, h2, h3⟩ := puts_apps l (halfAt d.bytes + (frames R).length) d.bytes (fun i => ((apps (halfAt d.bytes + (frames R).length) l).getD i op0).bytes.length) (by omega)
  have h4 := full_apps l (halfAt d.bytes + (frames R).length) (szB d - (frames R).length) d.bytes (fun i => ((apps (halfAt d.bytes + (frames R).length) l).getD i op0).bytes.length) (by omega) (by omega) (rest_zero r) (fun i hi => by rw [apps_get l _ i hi]; exact Nat.le_refl _)
  generalize puts d.bytes (apps (halfAt d.bytes + (frames R).length) l) (fun i => ((apps (halfAt d.bytes + (frames R).length) l).getD i op0).bytes.length) = B at *
  refine ⟨h1, half_same h1 ?_, ?_⟩
  · have := congrArg (List.take 1) h2
    rw [List.take_take, List.take_take, Nat.min_eq_left (by omega)] at this
    exact this
  · have h5 := congrArg (List.drop (halfAt d.bytes)) h2
    rw [List.drop_take, List.drop_take, Nat.add_sub_cancel_left] at h5
    have h6 : (d.bytes.drop (halfAt d.bytes)).take (frames R).length = frames R := by
      have := congrArg (List.take (frames R).length) r.u
      rw [List.take_take, Nat.min_eq_left (by omega), List.take_left] at this
      exact this
    rw [take_join (k := (frames R).length) (by omega) (h5.trans h6) h4, frames_append, List.append_assoc, List.length_append, Nat.sub_sub]
theorem rest_use {d : Dsk} {R l : List (List UInt8)} (r : Rest d R l) : halfB d = halfAt d.bytes ∧ useB d = frames (R ++ l) ++ zs (szB d - (frames (R ++ l)).length) ∧ parseR (useB d) = R ++ l ∧ endB d = (frames (R ++ l)).length := by
  obtain ⟨h1, h2, h3⟩ := rest_seen r
  have hu : useB d = frames (R ++ l) ++ zs (szB d - (frames (R ++ l)).length) := by
    rw [← h3, ← h2]; rfl
  obtain ⟨p1, p2⟩ := parse_of (R ++ l) _ (scan_zs (szB d - (frames (R ++ l)).length))
  exact ⟨h2, hu, by rw [hu]; exact p1, by show parseE (useB d) = _; rw [hu]; exact p2⟩
theorem rest_wr {d : Dsk} {R l : List (List UInt8)} (r : Rest d R l) (hR : R ≠ []) : wrB d = true := by
  rw [wrB_eq, (rest_use r).2.2.1]
  cases R with
  | nil => exact absurd rfl hR
  | cons x R => simp; omega
theorem rest_cl {d : Dsk} {R l : List (List UInt8)} (r : Rest d R l) : clB d = true := by
  obtain ⟨h1, h2, h3, h4⟩ := rest_use r
  have hfit := r.fit
  have hfit2 : (frames R).length ≤ szB d := by rw [frames_append, List.length_append] at hfit; omega
  have z1 : zerosB ((useB d).drop (endB d)) = true := by rw [h4, h2, List.drop_left]; exact zeros_zs _
  have ho : oldB d (halfB d) = frames R ++ zs (szB d - (frames R).length) := by rw [h1]; exact r.u
  have hp := (parse_of R _ (scan_zs (szB d - (frames R).length))).2
  have z2 : zerosB ((oldB d (halfB d)).drop (parseE (oldB d (halfB d)))) = true := by rw [ho, hp, List.drop_left]; exact zeros_zs _
  have e3 : (if (!zerosB ((useB d).drop (endB d))) = true then false else if (((halfAt d.bytes : Nat) : Int) != ((halfB d : Nat) : Int)) = true then false else zerosB ((oldB d (halfB d)).drop (parseE (oldB d (halfB d))))) = clB d := rfl
  rw [← e3, z1, h1]
  rw [h1] at z2
  simp [z2]
theorem rest_read {d : Dsk} {x : List UInt8} {R l : List (List UInt8)} (r : Rest d (x :: R) l) : readV d = .tup [.sl false (bs x), .sl false (bss (R ++ l)), er 0] := by
  unfold readV
  rw [r.i, rest_wr r (by simp), (rest_use r).2.2.1]
  rfl
theorem weak_use {d : Dsk} {R : List (List UInt8)} (w : Weak d R) : seenB d = d.bytes ∧ halfB d = halfAt d.bytes ∧ parseR (useB d) = R ∧ endB d = (frames R).length := by
  have hs : seenB d = d.bytes := by
    have := w.q
    obtain ⟨b, q⟩ := d
    simp only at this
    subst this
    rfl
  obtain ⟨t, h1, h2⟩ := w.t
  have hu : useB d = frames R ++ t := by
    show ((seenB d).drop (halfAt (seenB d))).take (szB d) = _
    rw [hs, h1]
  obtain ⟨p1, p2⟩ := parse_of R t h2
  exact ⟨hs, by show halfAt (seenB d) = _; rw [hs], by rw [hu]; exact p1, by show parseE (useB d) = _; rw [hu]; exact p2⟩
theorem weak_wr {d : Dsk} {R : List (List UInt8)} (w : Weak d R) (hR : R ≠ []) : wrB d = true := by
  rw [wrB_eq, (weak_use w).2.2.1]
  cases R with
  | nil => exact absurd rfl hR
  | cons x R => simp
theorem weak_read {d : Dsk} {x : List UInt8} {R : List (List UInt8)} (w : Weak d (x :: R)) : readV d = .tup [.sl false (bs x), .sl false (bss R), er 0] := by
  unfold readV
  rw [w.i, weak_wr w (by simp), (weak_use w).2.2.1]
  rfl
/-- What a crash leaves, with one write more that lies elsewhere. -/
theorem rest_crash {d : Dsk} {R l : List (List UInt8)} (r : Rest d R l) (far : Nat → Nat) : ∃ m, m ≤ l.length ∧ (puts d.bytes d.queue far).length = d.bytes.length ∧ halfAt (puts d.bytes d.queue far) = halfAt d.bytes ∧ ∃ t, ((puts d.bytes d.queue far).drop (halfAt d.bytes)).take (szB d) = frames (R ++ l.take m) ++ t ∧ scan1 t = none := by
  obtain ⟨b1, b2, b3, b4, b5, b6⟩ := half_bounds r.i
  have hfit := r.fit
  rw [frames_append, List.length_append] at hfit
  rw [r.q]
  obtain ⟨h1, h2, h3⟩ := puts_apps l (halfAt d.bytes + (frames R).length) d.bytes far (by omega)
  obtain ⟨m, t, k1, k2, k3⟩ := crash_apps l (halfAt d.bytes + (frames R).length) (szB d - (frames R).length) d.bytes far (by omega) (by omega) (rest_zero r)
  generalize puts d.bytes (apps (halfAt d.bytes + (frames R).length) l) far = B at *
  refine ⟨m, k1, h1, half_same h1 ?_, t, ?_, k3⟩
  · have := congrArg (List.take 1) h2
    rw [List.take_take, List.take_take, Nat.min_eq_left (by omega)] at this
    exact this
  · have h5 := congrArg (List.drop (halfAt d.bytes)) h2
    rw [List.drop_take, List.drop_take, Nat.add_sub_cancel_left] at h5
    have h6 : (d.bytes.drop (halfAt d.bytes)).take (frames R).length = frames R := by
      have := congrArg (List.take (frames R).length) r.u
      rw [List.take_take, Nat.min_eq_left (by omega), List.take_left] at this
      exact this
    rw [take_join (k := (frames R).length) (by omega) (h5.trans h6) k2, frames_append, List.append_assoc]
end Go.Proofs.Try

namespace Go.Proofs.Try
set_option linter.unusedSimpArgs false
set_option linter.unusedVariables false
open Go.PM

theorem fits_wr {n : Nat} {a : Int} {x : List UInt8} (h : 0 < x.length) (h0 : 0 ≤ a) (hl : a + x.length ≤ n) : fitsB (wr a x) n = true := by
  have h1 : (wr a x).flush = false := rfl
  unfold fitsB
  rw [h1]
  simp only [Bool.false_eq_true, if_false, Bool.and_eq_true, decide_eq_true_eq]
  show ((0 < x.length ∧ a ≥ 0) ∧ a ≤ n) ∧ (x.length : Int) ≤ n - a
  omega
theorem szB_nil {d : Dsk} {b : List UInt8} (hb : b.length = d.bytes.length) : szB ⟨b, []⟩ = szB d := by unfold szB; rw [hb]
/-- Bytes that are as those of a disk, but elsewhere, are those of a weak disk. -/
theorem weak_mk {d : Dsk} (hi : isDiskB d = true) (hn : d.bytes.length ≤ 4097) {b : List UInt8} (hb : b.length = d.bytes.length) {h : Nat} (hh : halfAt b = h) {R : List (List UInt8)} {t : List UInt8} (hu : (b.drop h).take (szB d) = frames R ++ t) (ht : scan1 t = none) : Weak ⟨b, []⟩ R :=
  ⟨isDisk_nil hi hb, rfl, ⟨t, by rw [szB_nil hb]; show (b.drop (halfAt b)).take (szB d) = _; rw [hh]; exact hu, ht⟩, by show b.length ≤ 4097; omega⟩
theorem rest_mk {d : Dsk} (hi : isDiskB d = true) (hn : d.bytes.length ≤ 4097) {b : List UInt8} (hb : b.length = d.bytes.length) {h : Nat} (hh : halfAt b = h) {R : List (List UInt8)} (hu : (b.drop h).take (szB d) = frames R ++ zs (szB d - (frames R).length)) (hf : (frames R).length ≤ szB d) : Rest ⟨b, []⟩ R [] :=
  ⟨isDisk_nil hi hb, rfl, by rw [szB_nil hb]; show (b.drop (halfAt b)).take (szB d) = _; rw [hh]; exact hu, by rw [szB_nil hb, List.append_nil]; exact hf, by show b.length ≤ 4097; omega⟩
theorem rest_weak {d : Dsk} {R : List (List UInt8)} (r : Rest d R []) : Weak d R := ⟨r.i, r.q, ⟨_, r.u, scan_zs _⟩, r.n⟩
/-- A crash. -/
theorem crash_weak {d : Dsk} {R l : List (List UInt8)} (r : Rest d R l) (cuts : List Int) : ∃ m, m ≤ l.length ∧ crashV d cuts = .tup [dkv ⟨crashB d cuts, []⟩, er 0] ∧ Weak ⟨crashB d cuts, []⟩ (R ++ l.take m) := by
  obtain ⟨m, h1, h2, h3, t, h4, h5⟩ := rest_crash r (farC cuts d)
  refine ⟨m, h1, by unfold crashV; rw [r.i]; rfl, ?_⟩
  rw [crash_puts]
  exact weak_mk r.i r.n h2 h3 h4 h5
/-- A flush. -/
theorem flush_rest {d : Dsk} {R l : List (List UInt8)} (r : Rest d R l) : doV d [fl] = .tup [dkv ⟨seenB d, []⟩, er 0] ∧ Rest ⟨seenB d, []⟩ (R ++ l) [] := by
  obtain ⟨h1, h2, h3⟩ := rest_seen r
  have hb : badArg d [fl] = false := by simp [badArg, fitsB, fl]
  refine ⟨by unfold doV; rw [r.i, hb]; rfl, rest_mk r.i r.n h1 h2 h3 r.fit⟩
/-- A record is appended. -/
theorem append_rest {d : Dsk} {R l : List (List UInt8)} (hR : R ≠ []) (r : Rest d R l) (x : List UInt8) :
    appendV d x = .tup [.sl false [], er 2] ∨ ∃ ops d', appendV d x = .tup [.sl false (opvs ops), er 0] ∧ ops.length = 1 ∧ doV d ops = .tup [dkv d', er 0] ∧ Rest d' R (l ++ [x]) := by
  obtain ⟨h1, h2, h3, h4⟩ := rest_use r
  obtain ⟨b1, b2, b3, b4, b5, b6⟩ := half_bounds r.i
  have hfit := r.fit
  cases hc : decide (((frame x).length : Int) > (szB d : Nat) - (endB d : Nat))
  case true =>
    left
    unfold appendV
    rw [r.i, rest_wr r hR, rest_cl r, hc]
    rfl
  case false =>
    right
    have hfx : (frames (R ++ l)).length + (frame x).length ≤ szB d := by
      have := of_decide_eq_false hc
      rw [h4] at this
      omega
    refine ⟨[wr ((halfB d : Nat) + (endB d : Nat)) (frame x)], ⟨d.bytes, d.queue ++ [wr ((halfB d : Nat) + (endB d : Nat)) (frame x)]⟩, ?_, rfl, ?_, ?_⟩
    · unfold appendV
      rw [r.i, rest_wr r hR, rest_cl r, hc]
      rfl
    · have hb : badArg d [wr ((halfB d : Nat) + (endB d : Nat)) (frame x)] = false := by
        have := frame_len x
        rw [h1, h4]
        simp [badArg, fitsB, wr]
        omega
      unfold doV
      rw [r.i, hb]
      rfl
    · have hi : isDiskB ⟨d.bytes, d.queue ++ [wr ((halfB d : Nat) + (endB d : Nat)) (frame x)]⟩ = true := by
        have := (doStep_disk r.i (o := wr ((halfB d : Nat) + (endB d : Nat)) (frame x)) (by
          have hl := frame_len x
          exact fits_wr (by omega) (by omega) (by omega))).1
        exact this
      refine ⟨hi, ?_, r.u, ?_, r.n⟩
      · show d.queue ++ _ = _
        rw [r.q, apps_append, h1, h4, frames_append, List.length_append]
        have e : ((halfAt d.bytes : Nat) : Int) + (((frames R).length + (frames l).length : Nat) : Int) = ((halfAt d.bytes + (frames R).length + (frames l).length : Nat) : Int) := by omega
        rw [e]
        rfl
      · rw [← List.append_assoc, frames_append, List.length_append]
        show _ ≤ szB d
        have : (frames [x]).length = (frame x).length := by simp [frames]
        omega
/-- A weak disk is opened. -/
theorem open_rest {d : Dsk} {R : List (List UInt8)} (hR : R ≠ []) (w : Weak d R) : ∃ ops b, openV d = .tup [.sl false (opvs ops), er 0] ∧ doV d ops = .tup [dkv ⟨b, []⟩, er 0] ∧ ops.length ≤ 3 ∧ Rest ⟨b, []⟩ R [] := by
  obtain ⟨ops, b, h1, h2, h3, s⟩ := open_settles w.i (weak_wr w hR)
  obtain ⟨k1, k2, k3, k4⟩ := weak_use w
  refine ⟨ops, b, h1, h2, h3, rest_mk w.i w.n s.l s.h ?_ ?_⟩
  · rw [s.u, show (useB d).take (endB d) = frames (parseR (useB d)) from (parse_frames _).symm, k3, k4]
  · have := (disk_facts w.i).2.2.2.2.1
    rw [k4] at this
    exact this
theorem farC_none (d : Dsk) (cuts : List Int) (hq : d.queue = []) : crashB d cuts = d.bytes := by
  rw [crash_puts, hq]; rfl
/-- A weak disk that crashes while it is opened. -/
theorem open_cut {d : Dsk} {R : List (List UInt8)} (hR : R ≠ []) (w : Weak d R) (cuts : List Int) (ops : List DOp) (ho : openV d = .tup [.sl false (opvs ops), er 0]) (m : Nat) (hm : m < ops.length) :
    ∃ d1 d2, doV d (ops.take m) = .tup [dkv d1, er 0] ∧ d1.queue.length ≤ 1 ∧ d1.bytes.length = d.bytes.length ∧ crashV d1 cuts = .tup [dkv d2, er 0] ∧ Weak d2 R := by
  obtain ⟨k1, k2, k3, k4⟩ := weak_use w
  obtain ⟨b1, b2, b3, b4, b5, b6⟩ := half_bounds w.i
  obtain ⟨f1, f2, f3, f4, f5, f6⟩ := disk_facts w.i
  obtain ⟨t, u1, u2⟩ := w.t
  have hd : (⟨d.bytes, []⟩ : Dsk) = d := by
    have := w.q
    obtain ⟨b, q⟩ := d
    simp only at this
    subst this
    rfl
  have base : ∃ d1 d2, doV d [] = .tup [dkv d1, er 0] ∧ d1.queue.length ≤ 1 ∧ d1.bytes.length = d.bytes.length ∧ crashV d1 cuts = .tup [dkv d2, er 0] ∧ Weak d2 R := by
    refine ⟨d, ⟨crashB d cuts, []⟩, by unfold doV; rw [w.i]; rfl, by rw [w.q]; simp, rfl, by unfold crashV; rw [w.i]; rfl, ?_⟩
    rw [farC_none d cuts w.q, hd]
    exact w
  have inj : ∀ l l' : List DOp, AV.tup [.sl false (opvs l), er 0] = .tup [.sl false (opvs l'), er 0] → l = l' := by
    intro l l' h
    have h1 : opvs l = opvs l' := by
      injection h with h; injection h with h; injection h
    have hinj : ∀ x y : DOp, opv x = opv y → x = y := by
      intro x y hxy
      obtain ⟨a, b, c⟩ := x
      obtain ⟨a', b', c'⟩ := y
      unfold opv at hxy
      injection hxy with hxy
      injection hxy with e1 hxy
      injection hxy with e2 hxy
      injection hxy with e3 hxy
      injection e1 with e1; injection e1 with e1
      injection e2 with e2; injection e2 with e2' e2
      injection e3 with e3' e3
      have : c = c' := by
        have := congrArg strOf e3
        rw [strOf_bs, strOf_bs] at this
        have h2 := strB_beq c c'
        rw [this, strB_beq c' c'] at h2
        simpa using h2.symm
      simp only at e1 e2
      rw [e1, e2, this]
    exact (List.map_inj_right (fun x y => hinj x y)).1 h1
  have h0 := ho
  unfold openV at h0
  rw [w.i, weak_wr w hR] at h0
  simp only [Bool.not_true, Bool.false_eq_true, ↓reduceIte] at h0
  cases hz : zerosB ((useB d).drop (endB d))
  case false =>
    rw [hz] at h0
    simp only [Bool.not_false, ↓reduceIte] at h0
    have := inj _ _ h0
    subst this
    match m, hm with
    | 0, _ => exact base
    | 1, _ =>
      have hb : badArg d [fl] = false := by simp [badArg, fitsB, fl]
      refine ⟨⟨seenB d, []⟩, ⟨crashB d cuts, []⟩, by show doV d [fl] = _; unfold doV; rw [w.i, hb]; rfl, by simp, by rw [k1], ?_, ?_⟩
      · rw [k1, hd]; unfold crashV; rw [w.i]; rfl
      · rw [farC_none d cuts w.q, hd]; exact w
    | 2, _ =>
      have he : endB d + (szB d - endB d) = szB d := by omega
      have hlz : (zs (szB d - endB d)).length = szB d - endB d := zs_length _
      have hpos : 0 < szB d - endB d := by
        rcases Nat.eq_zero_or_pos (szB d - endB d) with h | h
        · rw [List.drop_of_length_le (by omega)] at hz; cases hz
        · exact h
      have hb : badArg d [fl, wr ((halfB d : Nat) + (endB d : Nat)) (zs (szB d - endB d))] = false := by
        simp [badArg, fitsB, fl, wr, zs_length]
        omega
      have hid : isDiskB ⟨d.bytes, [wr ((halfB d : Nat) + (endB d : Nat)) (zs (szB d - endB d))]⟩ = true := by
        have := (doStep_disk (d := ⟨d.bytes, []⟩) (by rw [hd]; exact w.i) (o := wr ((halfB d : Nat) + (endB d : Nat)) (zs (szB d - endB d))) (fits_wr (by omega) (by omega) (by show _ ≤ ((d.bytes.length : Nat) : Int); omega))).1
        exact this
      refine ⟨⟨d.bytes, [wr ((halfB d : Nat) + (endB d : Nat)) (zs (szB d - endB d))]⟩, ⟨crashB ⟨d.bytes, [wr ((halfB d : Nat) + (endB d : Nat)) (zs (szB d - endB d))]⟩ cuts, []⟩, ?_, by simp, rfl, by unfold crashV; rw [hid]; rfl, ?_⟩
      · show doV d [fl, wr ((halfB d : Nat) + (endB d : Nat)) (zs (szB d - endB d))] = _
        unfold doV
        rw [w.i, hb]
        show AV.tup [dkv ⟨seenB d, [] ++ [_]⟩, er 0] = _
        rw [k1]
        rfl
      · rw [crash_puts]
        show Weak ⟨putB d.bytes ((halfB d : Nat) + (endB d : Nat) : Int).toNat ((zs (szB d - endB d)).take (farC cuts _ 0)), []⟩ R
        generalize farC cuts _ 0 = f
        rw [show ((halfB d : Nat) + (endB d : Nat) : Int).toNat = halfB d + endB d by omega, k2]
        have hx : ((zs (szB d - endB d)).take f) = zs (min f (szB d - endB d)) := by unfold zs; rw [List.take_replicate]
        rw [hx]
        have hlx : (zs (min f (szB d - endB d))).length = min f (szB d - endB d) := zs_length _
        have hlen : (putB d.bytes (halfAt d.bytes + endB d) (zs (min f (szB d - endB d)))).length = d.bytes.length := putB_length (by rw [hlx]; omega)
        have hdrop : ((putB d.bytes (halfAt d.bytes + endB d) (zs (min f (szB d - endB d)))).drop (halfAt d.bytes)).take (szB d) = frames R ++ (zs (min f (szB d - endB d)) ++ t.drop (min f (szB d - endB d))) := by
          have e1 : (putB d.bytes (halfAt d.bytes + endB d) (zs (min f (szB d - endB d)))).drop (halfAt d.bytes) = (d.bytes.drop (halfAt d.bytes)).take (endB d) ++ (zs (min f (szB d - endB d)) ++ d.bytes.drop (halfAt d.bytes + endB d + min f (szB d - endB d))) := by
            unfold putB
            rw [List.append_assoc, List.drop_append_of_le_length (by rw [List.length_take]; omega), List.drop_take, Nat.add_sub_cancel_left, hlx]
          have e2 : (d.bytes.drop (halfAt d.bytes)).take (endB d) = frames R := by
            have := congrArg (List.take (endB d)) u1
            rw [List.take_take, Nat.min_eq_left (by omega), k4, List.take_left] at this
            rw [k4]; exact this
          have e3 : (d.bytes.drop (halfAt d.bytes + endB d)).take (szB d - endB d) = t := drop_take_at u1 k4.symm
          have e4 : (d.bytes.drop (halfAt d.bytes + endB d + min f (szB d - endB d))).take (szB d - endB d - min f (szB d - endB d)) = t.drop (min f (szB d - endB d)) := by
            rw [← e3, List.drop_take, List.drop_drop]
          rw [e1, e2, List.take_append, List.take_of_length_le (by rw [← k4]; omega), ← k4, List.take_append, List.take_of_length_le (by rw [hlx]; omega), hlx, e4]
        refine weak_mk w.i w.n hlen (half_same hlen (putB_take (by omega) (by omega))) hdrop ?_
        rcases Nat.eq_zero_or_pos (min f (szB d - endB d)) with h | h
        · rw [h]; exact u2
        · exact scan_zs' _ _ h
    | m + 3, hm => exact absurd (show m + 3 < 3 from hm) (by omega)
  case true =>
    rw [hz, w.q] at h0
    simp only [Bool.not_true, Bool.false_eq_true, ↓reduceIte, List.length_nil] at h0
    rw [if_neg (by simp)] at h0
    have := inj [] ops h0
    subst this
    simp at hm
end Go.Proofs.Try

namespace Go.Proofs.Try
set_option linter.unusedSimpArgs false
set_option linter.unusedVariables false
open Go.PM

theorem seen_snoc (b : List UInt8) (q : List DOp) (o : DOp) : seenB ⟨b, q ++ [o]⟩ = putB (seenB ⟨b, q⟩) o.at_.toNat o.bytes := by
  have hg : ∀ i, i < q.length → (q ++ [o]).getD i op0 = q.getD i op0 := fun i hi => by
    rw [List.getD_eq_getElem?_getD, List.getElem?_append_left hi, ← List.getD_eq_getElem?_getD]
  have hl : (q ++ [o]).getD q.length op0 = o := by simp [List.getD_eq_getElem?_getD]
  have key : ∀ i, i ≤ q.length → doneTo b (q ++ [o]) (fun i => ((q ++ [o]).getD i op0).bytes.length) i = doneTo b q (fun i => (q.getD i op0).bytes.length) i := by
    intro i
    induction i with
    | zero => intro _; rfl
    | succ i ih =>
      intro hi
      rw [doneTo_succ, doneTo_succ, ih (by omega), hg i (by omega)]
  unfold seenB
  show doneTo b (q ++ [o]) (fun i => ((q ++ [o]).getD i op0).bytes.length) (q ++ [o]).length = _
  rw [List.length_append, List.length_cons, List.length_nil, doneTo_succ, key _ (Nat.le_refl _), hl, List.take_length]
theorem clean_tail {d : Dsk} (hc : clB d = true) : useB d = frames (parseR (useB d)) ++ zs ((useB d).length - endB d) := by
  have hz : zerosB ((useB d).drop (endB d)) = true := by
    unfold clB cleanB at hc
    split at hc
    · cases hc
    · rename_i h
      have h' : ¬ (!zerosB ((useB d).drop (endB d))) = true := h
      simpa using h'
  have h2 := (zeros_iff _).1 hz
  rw [List.length_drop] at h2
  rw [← h2, parse_frames]
  exact (List.take_append_drop _ _).symm
theorem append_read {d : Dsk} (hi : isDiskB d = true) (hw : wrB d = true) (hc : clB d = true) (r : List UInt8) (hf : (frame r).length ≤ szB d - endB d) :
    doV d [wr ((halfB d : Nat) + (endB d : Nat)) (frame r)] = .tup [dkv ⟨d.bytes, d.queue ++ [wr ((halfB d : Nat) + (endB d : Nat)) (frame r)]⟩, er 0] ∧
    readV ⟨d.bytes, d.queue ++ [wr ((halfB d : Nat) + (endB d : Nat)) (frame r)]⟩ = .tup [.sl false (bs ((parseR (useB d)).getD 0 [])), .sl false (bss ((parseR (useB d)).drop 1 ++ [r])), er 0] := by
  obtain ⟨f1, f2, f3, f4, f5, f6⟩ := disk_facts hi
  have sl := seenB_length (isDisk_ok hi).2
  have hfl := frame_len r
  have hu : useB d = ((seenB d).drop (halfB d)).take (szB d) := rfl
  have hul : (useB d).length = szB d := by rw [hu, List.length_take, List.length_drop, sl]; omega
  have he : endB d + (frame r).length ≤ szB d := by omega
  have hfits : fitsB (wr ((halfB d : Nat) + (endB d : Nat)) (frame r)) d.bytes.length = true := fits_wr (by omega) (by omega) (by omega)
  have hbad : badArg d [wr ((halfB d : Nat) + (endB d : Nat)) (frame r)] = false := by simp [badArg, hfits]
  refine ⟨by unfold doV; rw [hi, hbad]; rfl, ?_⟩
  have hi' : isDiskB ⟨d.bytes, d.queue ++ [wr ((halfB d : Nat) + (endB d : Nat)) (frame r)]⟩ = true := (doStep_disk hi (o := wr ((halfB d : Nat) + (endB d : Nat)) (frame r)) hfits).1
  have hs : seenB ⟨d.bytes, d.queue ++ [wr ((halfB d : Nat) + (endB d : Nat)) (frame r)]⟩ = putB (seenB d) (halfB d + endB d) (frame r) := by
    rw [seen_snoc]
    show putB (seenB d) (((halfB d : Nat) : Int) + ((endB d : Nat) : Int)).toNat (frame r) = _
    congr 1
  have hh : halfB ⟨d.bytes, d.queue ++ [wr ((halfB d : Nat) + (endB d : Nat)) (frame r)]⟩ = halfB d := by
    have e : halfB ⟨d.bytes, d.queue ++ [wr ((halfB d : Nat) + (endB d : Nat)) (frame r)]⟩ = halfAt (seenB ⟨d.bytes, d.queue ++ [wr ((halfB d : Nat) + (endB d : Nat)) (frame r)]⟩) := rfl
    rw [e, hs]
    exact half_put (by omega) (by rw [sl]; omega)
  have hu' : useB ⟨d.bytes, d.queue ++ [wr ((halfB d : Nat) + (endB d : Nat)) (frame r)]⟩ = frames (parseR (useB d) ++ [r]) ++ zs (szB d - (endB d + (frame r).length)) := by
    have e : useB ⟨d.bytes, d.queue ++ [wr ((halfB d : Nat) + (endB d : Nat)) (frame r)]⟩ = ((putB (seenB d) (halfB d + endB d) (frame r)).drop (halfB d)).take (szB d) := by
      rw [← hs]
      show ((seenB _).drop (halfB _)).take (szB _) = _
      rw [hh]
      rfl
    rw [e]
    have hct := clean_tail hc
    rw [hul] at hct
    have hfr : (frames (parseR (useB d))).length = endB d := by
      rw [parse_frames]
      show ((useB d).take (endB d)).length = _
      rw [List.length_take, hul]; omega
    refine take_join (k := endB d + (frame r).length) (by omega) ?_ ?_
    · rw [drop_put (by rw [sl]; omega), frames_append]
      have h1 : ((seenB d).drop (halfB d)).take (endB d) = frames (parseR (useB d)) := by
        rw [parse_frames]
        show _ = (useB d).take (endB d)
        rw [hu, List.take_take, Nat.min_eq_left (by omega)]
      rw [h1]
      simp [frames]
    · rw [← Nat.add_assoc, putB_drop (by omega) (by rw [sl]; omega)]
      have h2 : ((seenB d).drop (halfB d + endB d)).take (szB d - endB d) = zs (szB d - endB d) := drop_take_at (x := frames (parseR (useB d))) (by rw [← hu]; exact hct) hfr
      have h3 := congrArg (List.drop (frame r).length) h2
      rw [List.drop_take, List.drop_drop] at h3
      rw [show szB d - (endB d + (frame r).length) = szB d - endB d - (frame r).length by omega, h3]
      simp [zs]
  obtain ⟨p1, p2⟩ := parse_of (parseR (useB d) ++ [r]) (zs (szB d - (endB d + (frame r).length))) (scan_zs _)
  have hR : parseR (useB d) ≠ [] := by
    intro h
    rw [wrB_eq, h] at hw
    simp at hw
  have hw' : wrB ⟨d.bytes, d.queue ++ [wr ((halfB d : Nat) + (endB d : Nat)) (frame r)]⟩ = true := by
    rw [wrB_eq, hu', p1]
    simp
  unfold readV
  rw [hi', hw', hu', p1]
  obtain ⟨x, R, hx⟩ := List.exists_cons_of_ne_nil hR
  rw [hx]
  rfl
end Go.Proofs.Try

namespace Go.Proofs.Try
set_option linter.unusedSimpArgs false
set_option linter.unusedVariables false
open Go.PM
set_option maxHeartbeats 4000000
set_option maxRecDepth 100000

theorem app_cases (d : Dsk) (r : List UInt8) : (∃ e : Int, e ≠ 0 ∧ appendV d r = .tup [.sl false [], .val (.int .i64 e)]) ∨
    (isDiskB d = true ∧ wrB d = true ∧ clB d = true ∧ (frame r).length ≤ szB d - endB d ∧ appendV d r = .tup [.sl false (opvs [wr ((halfB d : Nat) + (endB d : Nat)) (frame r)]), er 0]) := by
  unfold appendV
  cases hi : isDiskB d
  · exact .inl ⟨281, by decide, rfl⟩
  cases hw : wrB d
  · exact .inl ⟨280, by decide, rfl⟩
  cases hc : clB d
  · exact .inl ⟨280, by decide, rfl⟩
  cases hf : decide (((frame r).length : Int) > (szB d : Nat) - (endB d : Nat))
  · have := of_decide_eq_false hf
    exact .inr ⟨rfl, rfl, rfl, by omega, rfl⟩
  · exact .inl ⟨2, by decide, rfl⟩
theorem c11e (d : Dsk) (r : List UInt8) (recs : List (List UInt8)) (c : Chg) (hb : recs.length ≤ maxLen) (hc : ChgW c) (z1 : c.name.length ≤ 140737488351232) (z2 : c.sname.length ≤ 140737488351232) (z3 : c.vt.length ≤ 140737488351232) (e : Int) (he : (e != 0) = true) (ha : appendV d r = .tup [.sl false [], .val (.int .i64 e)]) (hfb : fewB d = true) (hf : Few d) : PureT Try.prog 11 [dkv d, .sl false (bs r), .sl false (bss recs), chv c] (· = .val (.bool true)) := by
  have hl := lits74 _ hc
  have r1 : ∀ x : List UInt8, (strB x == strB x) = true := fun x => by rw [strB_beq]; simp
  have r2 : ∀ x : List (List UInt8), (x == x) = true := fun x => by simp
  have r4 : ∀ x : Int, (x == x) = true := fun x => by simp
  have up := unpack_pack c hc
  have hp := parse_of recs [0, 0, 0] rfl
  have zz : ∀ l : List UInt8, bs l ++ [AV.val (.int .u8 0), AV.val (.int .u8 0), AV.val (.int .u8 0)] = bs (l ++ [0, 0, 0]) := fun l => by rw [← bs_append]; rfl
  have zu : Uni 1 [AV.val (.int .u8 0), AV.val (.int .u8 0), AV.val (.int .u8 0)] := uni_bs [0, 0, 0]
  have tk : List.take ((frames recs).length + 3) (frames recs ++ [0, 0, 0]) = frames recs ++ [0, 0, 0] := List.take_of_length_le (by rw [List.length_append]; exact Nat.le_refl _)
  have ze : frames [] = [] := rfl
  obtain ⟨p1, p2⟩ := hp
  have pl : (packB c).length = 64 + c.name.length + c.sname.length + c.vt.length := by simp [packB, num8_length]; omega
  have z0 : (frames ([] : List (List UInt8))).length = 0 := rfl
  have zl : (frames recs ++ [0, 0, 0]).length = (frames recs).length + 3 := by simp
  refine CallT.intro Try.func11 (by decide) rfl ?_
  simp -implicitDefEqProofs (dsimp := false) only [go_sem, simprocAttr, hl, r1, r2, r4, hfb, ha, he, up, p1, p2, zz, zu, tk, outC, errV, chv, chc, str, i64v, str_size, strOf_bs, enterTm, Try.ntmps11, List.range'_succ, List.range'_zero, List.zip_cons_cons, List.zip_nil_left]
  refine CodeT.seqR ?_
  simp -implicitDefEqProofs (dsimp := false) only [go_sem, simprocAttr, hl, r1, r2, r4, hfb, ha, he, up, p1, p2, zz, zu, tk, outC, errV, chv, chc, str, i64v, str_size, strOf_bs]
  refine CodeT.seqR ?_
  simp -implicitDefEqProofs (dsimp := false) only [go_sem, simprocAttr, hl, r1, r2, r4, hfb, ha, he, up, p1, p2, zz, zu, tk, outC, errV, chv, chc, str, i64v, str_size, strOf_bs]
  refine PureT.eq (c12) rfl ?_
  simp -implicitDefEqProofs (dsimp := false) only [go_sem, simprocAttr, hl, r1, r2, r4, hfb, ha, he, up, p1, p2, zz, zu, tk, outC, errV, chv, chc, str, i64v, str_size, strOf_bs]
  refine CodeT.seq ?_
  refine CodeT.seqR ?_
  simp -implicitDefEqProofs (dsimp := false) only [go_sem, simprocAttr, hl, r1, r2, r4, hfb, ha, he, up, p1, p2, zz, zu, tk, outC, errV, chv, chc, str, i64v, str_size, strOf_bs]
  refine PureT.eq (c15 _) rfl ?_
  simp -implicitDefEqProofs (dsimp := false) only [go_sem, simprocAttr, hl, r1, r2, r4, hfb, ha, he, up, p1, p2, zz, zu, tk, outC, errV, chv, chc, str, i64v, str_size, strOf_bs]
  refine gif_i (fun g7 => ?_) (fun g7 => ?_)
  have d7 := ofDec g7
  simp -implicitDefEqProofs (dsimp := false) only [go_sem, simprocAttr, hl, r1, r2, r4, hfb, ha, he, up, p1, p2, zz, zu, tk, outC, errV, chv, chc, str, i64v, str_size, strOf_bs, g7]
  refine CodeT.condT rfl ?_
  refine CodeT.seqR ?_
  simp -implicitDefEqProofs (dsimp := false) only [go_sem, simprocAttr, hl, r1, r2, r4, hfb, ha, he, up, p1, p2, zz, zu, tk, outC, errV, chv, chc, str, i64v, str_size, strOf_bs, g7]
  refine CodeT.ret ?_
  simp -implicitDefEqProofs (dsimp := false) only [go_sem, simprocAttr, hl, r1, r2, r4, hfb, ha, he, up, p1, p2, zz, zu, tk, outC, errV, chv, chc, str, i64v, str_size, strOf_bs, g7]
  refine pureEnd rfl ?_
  simp -implicitDefEqProofs (dsimp := false) only [go_sem, simprocAttr, hl, r1, r2, r4, hfb, ha, he, up, p1, p2, zz, zu, tk, outC, errV, chv, chc, str, i64v, str_size, strOf_bs, g7]
  have d7 := ofDecF g7
  simp -implicitDefEqProofs (dsimp := false) only [go_sem, simprocAttr, hl, r1, r2, r4, hfb, ha, he, up, p1, p2, zz, zu, tk, outC, errV, chv, chc, str, i64v, str_size, strOf_bs, g7]
  refine gif_i (fun g8 => ?_) (fun g8 => ?_)
  have d8 := ofDec g8
  simp -implicitDefEqProofs (dsimp := false) only [go_sem, simprocAttr, hl, r1, r2, r4, hfb, ha, he, up, p1, p2, zz, zu, tk, outC, errV, chv, chc, str, i64v, str_size, strOf_bs, g7, g8]
  refine CodeT.condT rfl ?_
  refine CodeT.seqR ?_
  simp -implicitDefEqProofs (dsimp := false) only [go_sem, simprocAttr, hl, r1, r2, r4, hfb, ha, he, up, p1, p2, zz, zu, tk, outC, errV, chv, chc, str, i64v, str_size, strOf_bs, g7, g8]
  refine CodeT.ret ?_
  simp -implicitDefEqProofs (dsimp := false) only [go_sem, simprocAttr, hl, r1, r2, r4, hfb, ha, he, up, p1, p2, zz, zu, tk, outC, errV, chv, chc, str, i64v, str_size, strOf_bs, g7, g8]
  refine pureEnd rfl ?_
  simp -implicitDefEqProofs (dsimp := false) only [go_sem, simprocAttr, hl, r1, r2, r4, hfb, ha, he, up, p1, p2, zz, zu, tk, outC, errV, chv, chc, str, i64v, str_size, strOf_bs, g7, g8]
  have d8 := ofDecF g8
  simp -implicitDefEqProofs (dsimp := false) only [go_sem, simprocAttr, hl, r1, r2, r4, hfb, ha, he, up, p1, p2, zz, zu, tk, outC, errV, chv, chc, str, i64v, str_size, strOf_bs, g7, g8]
  simp -implicitDefEqProofs (dsimp := false) (disch := omega) only [i64_in, bs_getD, opvs_getD, is64_getD, bss_getD]
  refine CodeT.cond rfl (fun g9 => ?_) (fun g9 => ?_)
  have d9 := ofDec g9
  refine CodeT.seqR ?_
  simp -implicitDefEqProofs (dsimp := false) only [go_sem, simprocAttr, hl, r1, r2, r4, hfb, ha, he, up, p1, p2, zz, zu, tk, outC, errV, chv, chc, str, i64v, str_size, strOf_bs, g7, g8, g9]
  refine CodeT.ret ?_
  simp -implicitDefEqProofs (dsimp := false) only [go_sem, simprocAttr, hl, r1, r2, r4, hfb, ha, he, up, p1, p2, zz, zu, tk, outC, errV, chv, chc, str, i64v, str_size, strOf_bs, g7, g8, g9]
  refine pureEnd rfl ?_
  simp -implicitDefEqProofs (dsimp := false) only [go_sem, simprocAttr, hl, r1, r2, r4, hfb, ha, he, up, p1, p2, zz, zu, tk, outC, errV, chv, chc, str, i64v, str_size, strOf_bs, g7, g8, g9]
  have d9 := ofDecF g9
  refine CodeT.skip ?_
  simp -implicitDefEqProofs (dsimp := false) only [go_sem, simprocAttr, hl, r1, r2, r4, hfb, ha, he, up, p1, p2, zz, zu, tk, outC, errV, chv, chc, str, i64v, str_size, strOf_bs, g7, g8, g9]
  refine CodeT.seqR ?_
  simp -implicitDefEqProofs (dsimp := false) only [go_sem, simprocAttr, hl, r1, r2, r4, hfb, ha, he, up, p1, p2, zz, zu, tk, outC, errV, chv, chc, str, i64v, str_size, strOf_bs, g7, g8, g9]
  refine CodeT.seq ?_
  refine CodeT.seqR ?_
  simp -implicitDefEqProofs (dsimp := false) only [go_sem, simprocAttr, hl, r1, r2, r4, hfb, ha, he, up, p1, p2, zz, zu, tk, outC, errV, chv, chc, str, i64v, str_size, strOf_bs, g7, g8, g9]
  refine CodeT.block ?_
  refine CodeT.promote 10 1 rfl ?_
  simp -implicitDefEqProofs (dsimp := false) only [go_sem, simprocAttr, hl, r1, r2, r4, hfb, ha, he, up, p1, p2, zz, zu, tk, outC, errV, chv, chc, str, i64v, str_size, strOf_bs, g7, g8, g9]
  refine CodeT.whileS (fun i : Nat => [(11, .val (.int .i64 (i : Nat))), (10, .hsl 2 i 0 (frames (recs.take i)).length)]) [9, 7, 4, 1, 2] (fun i : Nat => [.cells [.sl false (bs d.bytes), .sl false (opvs d.queue)], .cells [.val (.int .i64 c.kind), .val (.int .i64 c.oid), .val (.string (strB c.name)), .val (.string (strB c.sname)), .val (.int .i64 c.skind), .val (.int .i64 c.vk), .val (.int .i64 c.vn), .val (.string (strB c.vt))], .row true i 1 (bs (frames (recs.take i)))]) (fun i : Nat => i ≤ recs.length ∧ (frames (recs.take i)).length ≤ 66001) (fun i : Nat => recs.length - i) (0) ?_ rfl ?_ ?_
  simp -implicitDefEqProofs (dsimp := false) only [go_sem, simprocAttr, hl, r1, r2, r4, hfb, ha, he, up, p1, p2, zz, zu, tk, outC, errV, chv, chc, str, i64v, str_size, strOf_bs, g7, g8, g9]
  omega
  refine ⟨rfl, ?_, ?_, rfl, ?_⟩
  simp -implicitDefEqProofs (dsimp := false) only [go_sem, simprocAttr, hl, r1, r2, r4, hfb, ha, he, up, p1, p2, zz, zu, tk, outC, errV, chv, chc, str, i64v, str_size, strOf_bs, g7, g8, g9, or_true, true_or, false_or, or_false, implies_true, Int.natCast_add, Int.cast_ofNat_Int, keepsD_nil]
  refine And.intro ?_ ?_
  trivial
  refine And.intro ?_ ?_
  trivial
  refine And.intro ?_ ?_
  trivial
  trivial
  simp -implicitDefEqProofs (dsimp := false) only [go_sem, simprocAttr, hl, r1, r2, r4, hfb, ha, he, up, p1, p2, zz, zu, tk, outC, errV, chv, chc, str, i64v, str_size, strOf_bs, g7, g8, g9, or_true, true_or, false_or, or_false, implies_true, Int.natCast_add, Int.cast_ofNat_Int, keepsD_nil]
  trivial
  simp -implicitDefEqProofs (dsimp := false) only [go_sem, simprocAttr, hl, r1, r2, r4, hfb, ha, he, up, p1, p2, zz, zu, tk, outC, errV, chv, chc, str, i64v, str_size, strOf_bs, g7, g8, g9, or_true, true_or, false_or, or_false, implies_true, Int.natCast_add, Int.cast_ofNat_Int, keepsD_nil]
  rintro i hj
  obtain ⟨hi, f0⟩ := hj
  have f2 := frames_succ recs i
  have f4 := frame_len (recs.getD i [])
  have f5 : i < recs.length → (frames (recs.take (i + 1))).length = (frames (recs.take i)).length + (frame (recs.getD i [])).length := fun h => by rw [f2 h, List.length_append]
  simp -implicitDefEqProofs (dsimp := false) only [go_sem, simprocAttr, hl, r1, r2, r4, hfb, ha, he, up, p1, p2, zz, zu, tk, outC, errV, chv, chc, str, i64v, str_size, strOf_bs, g7, g8, g9]
  refine CodeT.seq ?_
  refine CodeT.seqR ?_
  simp -implicitDefEqProofs (dsimp := false) only [go_sem, simprocAttr, hl, r1, r2, r4, hfb, ha, he, up, p1, p2, zz, zu, tk, outC, errV, chv, chc, str, i64v, str_size, strOf_bs, g7, g8, g9]
  refine CodeT.cond rfl (fun g10 => ?_) (fun g10 => ?_)
  have d10 := ofDec g10
  refine CodeT.skip ?_
  simp -implicitDefEqProofs (dsimp := false) only [go_sem, simprocAttr, hl, r1, r2, r4, hfb, ha, he, up, p1, p2, zz, zu, tk, outC, errV, chv, chc, str, i64v, str_size, strOf_bs, g7, g8, g9, g10]
  refine CodeT.seq (CodeT.block ?_)
  refine CodeT.seq ?_
  refine CodeT.seqR ?_
  simp -implicitDefEqProofs (dsimp := false) only [go_sem, simprocAttr, hl, r1, r2, r4, hfb, ha, he, up, p1, p2, zz, zu, tk, outC, errV, chv, chc, str, i64v, str_size, strOf_bs, g7, g8, g9, g10]
  refine gif_i (fun g11 => ?_) (fun g11 => ?_)
  have d11 := ofDec g11
  simp -implicitDefEqProofs (dsimp := false) only [go_sem, simprocAttr, hl, r1, r2, r4, hfb, ha, he, up, p1, p2, zz, zu, tk, outC, errV, chv, chc, str, i64v, str_size, strOf_bs, g7, g8, g9, g10, g11]
  refine CodeT.condT rfl ?_
  refine CodeT.seqR ?_
  simp -implicitDefEqProofs (dsimp := false) only [go_sem, simprocAttr, hl, r1, r2, r4, hfb, ha, he, up, p1, p2, zz, zu, tk, outC, errV, chv, chc, str, i64v, str_size, strOf_bs, g7, g8, g9, g10, g11]
  refine CodeT.ret ?_
  simp -implicitDefEqProofs (dsimp := false) only [go_sem, simprocAttr, hl, r1, r2, r4, hfb, ha, he, up, p1, p2, zz, zu, tk, outC, errV, chv, chc, str, i64v, str_size, strOf_bs, g7, g8, g9, g10, g11]
  refine pureEnd rfl ?_
  simp -implicitDefEqProofs (dsimp := false) only [go_sem, simprocAttr, hl, r1, r2, r4, hfb, ha, he, up, p1, p2, zz, zu, tk, outC, errV, chv, chc, str, i64v, str_size, strOf_bs, g7, g8, g9, g10, g11]
  have d11 := ofDecF g11
  simp -implicitDefEqProofs (dsimp := false) only [go_sem, simprocAttr, hl, r1, r2, r4, hfb, ha, he, up, p1, p2, zz, zu, tk, outC, errV, chv, chc, str, i64v, str_size, strOf_bs, g7, g8, g9, g10, g11]
  refine gate_i ?_ ?_
  omega
  simp -implicitDefEqProofs (dsimp := false) (disch := omega) only [Int.toNat_natCast, i64_in, bs_getD, opvs_getD, is64_getD, bss_getD]
  simp -implicitDefEqProofs (dsimp := false) only [go_sem, simprocAttr, hl, r1, r2, r4, hfb, ha, he, up, p1, p2, zz, zu, tk, outC, errV, chv, chc, str, i64v, str_size, strOf_bs, g7, g8, g9, g10, g11]
  refine CodeT.cond rfl (fun g12 => ?_) (fun g12 => ?_)
  have d12 := ofDec g12
  refine CodeT.seqR ?_
  simp -implicitDefEqProofs (dsimp := false) only [go_sem, simprocAttr, hl, r1, r2, r4, hfb, ha, he, up, p1, p2, zz, zu, tk, outC, errV, chv, chc, str, i64v, str_size, strOf_bs, g7, g8, g9, g10, g11, g12]
  refine CodeT.ret ?_
  simp -implicitDefEqProofs (dsimp := false) only [go_sem, simprocAttr, hl, r1, r2, r4, hfb, ha, he, up, p1, p2, zz, zu, tk, outC, errV, chv, chc, str, i64v, str_size, strOf_bs, g7, g8, g9, g10, g11, g12]
  refine pureEnd rfl ?_
  simp -implicitDefEqProofs (dsimp := false) only [go_sem, simprocAttr, hl, r1, r2, r4, hfb, ha, he, up, p1, p2, zz, zu, tk, outC, errV, chv, chc, str, i64v, str_size, strOf_bs, g7, g8, g9, g10, g11, g12]
  have d12 := ofDecF g12
  refine CodeT.skip ?_
  simp -implicitDefEqProofs (dsimp := false) only [go_sem, simprocAttr, hl, r1, r2, r4, hfb, ha, he, up, p1, p2, zz, zu, tk, outC, errV, chv, chc, str, i64v, str_size, strOf_bs, g7, g8, g9, g10, g11, g12]
  refine CodeT.region ?_
  simp -implicitDefEqProofs (dsimp := false) only [go_sem, simprocAttr, hl, r1, r2, r4, hfb, ha, he, up, p1, p2, zz, zu, tk, outC, errV, chv, chc, str, i64v, str_size, strOf_bs, g7, g8, g9, g10, g11, g12]
  refine gate_i ?_ ?_
  omega
  simp -implicitDefEqProofs (dsimp := false) (disch := omega) only [Int.toNat_natCast, i64_in, bs_getD, opvs_getD, is64_getD, bss_getD]
  simp -implicitDefEqProofs (dsimp := false) only [go_sem, simprocAttr, hl, r1, r2, r4, hfb, ha, he, up, p1, p2, zz, zu, tk, outC, errV, chv, chc, str, i64v, str_size, strOf_bs, g7, g8, g9, g10, g11, g12]
  refine PureT.eq (c13 _ ?_) rfl ?_
  omega
  simp -implicitDefEqProofs (dsimp := false) only [go_sem, simprocAttr, hl, r1, r2, r4, hfb, ha, he, up, p1, p2, zz, zu, tk, outC, errV, chv, chc, str, i64v, str_size, strOf_bs, g7, g8, g9, g10, g11, g12]
  refine And.intro (by exact uni_bs _) ?_
  refine And.intro (by omega) ?_
  refine CodeT.region ?_
  simp -implicitDefEqProofs (dsimp := false) only [go_sem, simprocAttr, hl, r1, r2, r4, hfb, ha, he, up, p1, p2, zz, zu, tk, outC, errV, chv, chc, str, i64v, str_size, strOf_bs, g7, g8, g9, g10, g11, g12]
  simp -implicitDefEqProofs (dsimp := false) (disch := omega) only [i64_in, bs_getD, opvs_getD, is64_getD, bss_getD]
  refine ⟨i + 1, ?_⟩
  refine And.intro ?_ ?_
  omega
  refine And.intro ?_ ?_
  omega
  refine ⟨rfl, ?_, ?_, rfl, ?_⟩
  simp -implicitDefEqProofs (dsimp := false) only [go_sem, simprocAttr, hl, r1, r2, r4, hfb, ha, he, up, p1, p2, zz, zu, tk, outC, errV, chv, chc, str, i64v, str_size, strOf_bs, g7, g8, g9, g10, g11, g12, or_true, true_or, false_or, or_false, implies_true, Int.natCast_add, Int.cast_ofNat_Int, keepsD_nil]
  refine And.intro ?_ ?_
  (congr 1 <;> omega)
  refine And.intro ?_ ?_
  trivial
  refine And.intro ?_ ?_
  trivial
  trivial
  simp -implicitDefEqProofs (dsimp := false) only [go_sem, simprocAttr, hl, r1, r2, r4, hfb, ha, he, up, p1, p2, zz, zu, tk, outC, errV, chv, chc, str, i64v, str_size, strOf_bs, g7, g8, g9, g10, g11, g12, or_true, true_or, false_or, or_false, implies_true, Int.natCast_add, Int.cast_ofNat_Int, keepsD_nil]
  rotate_left
  simp -implicitDefEqProofs (dsimp := false) only [go_sem, simprocAttr, hl, r1, r2, r4, hfb, ha, he, up, p1, p2, zz, zu, tk, outC, errV, chv, chc, str, i64v, str_size, strOf_bs, g7, g8, g9, g10, g11, g12, or_true, true_or, false_or, or_false, implies_true, Int.natCast_add, Int.cast_ofNat_Int, keepsD_nil]
  have d10 := ofDecF g10
  refine CodeT.exit ?_
  simp -implicitDefEqProofs (dsimp := false) only [go_sem, simprocAttr, hl, r1, r2, r4, hfb, ha, he, up, p1, p2, zz, zu, tk, outC, errV, chv, chc, str, i64v, str_size, strOf_bs, g7, g8, g9, g10]
  obtain rfl : i = recs.length := by omega
  simp -implicitDefEqProofs (dsimp := false) only [go_sem, simprocAttr, hl, r1, r2, r4, hfb, ha, he, up, p1, p2, zz, zu, tk, outC, errV, chv, chc, str, i64v, str_size, strOf_bs, g7, g8, g9, g10]
  rw [List.take_length] at f0
  refine CodeT.freeze 10 ?_
  simp -implicitDefEqProofs (dsimp := false) only [go_sem, simprocAttr, hl, r1, r2, r4, hfb, ha, he, up, p1, p2, zz, zu, tk, outC, errV, chv, chc, str, i64v, str_size, strOf_bs, g7, g8, g9, g10]
  refine And.intro ?_ ?_
  omega
  refine CodeT.seqR ?_
  simp -implicitDefEqProofs (dsimp := false) only [go_sem, simprocAttr, hl, r1, r2, r4, hfb, ha, he, up, p1, p2, zz, zu, tk, outC, errV, chv, chc, str, i64v, str_size, strOf_bs, g7, g8, g9, g10]
  refine And.intro (by trivial) ?_
  refine And.intro (by exact uni_bs _) ?_
  refine And.intro (by omega) ?_
  refine And.intro (by trivial) ?_
  refine And.intro (by omega) ?_
  refine CallT.args ⟨_, Try.func14, by decide, rfl⟩ ?_
  simp -implicitDefEqProofs (dsimp := false) only [go_sem, simprocAttr, hl, r1, r2, r4, hfb, ha, he, up, p1, p2, zz, zu, tk, outC, errV, chv, chc, str, i64v, str_size, strOf_bs, g7, g8, g9, g10]
  refine And.intro (by omega) ?_
  refine PureT.eq (c14 _ ?_) rfl ?_
  omega
  simp -implicitDefEqProofs (dsimp := false) only [go_sem, simprocAttr, hl, r1, r2, r4, hfb, ha, he, up, p1, p2, zz, zu, tk, outC, errV, chv, chc, str, i64v, str_size, strOf_bs, g7, g8, g9, g10]
  refine CodeT.seqR ?_
  simp -implicitDefEqProofs (dsimp := false) only [go_sem, simprocAttr, hl, r1, r2, r4, hfb, ha, he, up, p1, p2, zz, zu, tk, outC, errV, chv, chc, str, i64v, str_size, strOf_bs, g7, g8, g9, g10]
  refine PureT.eq (c48 _ ?_ ?_ ?_) rfl ?_
  omega
  omega
  omega
  simp -implicitDefEqProofs (dsimp := false) only [go_sem, simprocAttr, hl, r1, r2, r4, hfb, ha, he, up, p1, p2, zz, zu, tk, outC, errV, chv, chc, str, i64v, str_size, strOf_bs, g7, g8, g9, g10]
  refine PureT.eq (c45 _ ?_) rfl ?_
  omega
  simp -implicitDefEqProofs (dsimp := false) only [go_sem, simprocAttr, hl, r1, r2, r4, hfb, ha, he, up, p1, p2, zz, zu, tk, outC, errV, chv, chc, str, i64v, str_size, strOf_bs, g7, g8, g9, g10]
  refine CodeT.seq ?_
  refine CodeT.seqR ?_
  simp -implicitDefEqProofs (dsimp := false) only [go_sem, simprocAttr, hl, r1, r2, r4, hfb, ha, he, up, p1, p2, zz, zu, tk, outC, errV, chv, chc, str, i64v, str_size, strOf_bs, g7, g8, g9, g10]
  refine PureT.eq (c23 _ _ ?_) rfl ?_
  omega
  simp -implicitDefEqProofs (dsimp := false) only [go_sem, simprocAttr, hl, r1, r2, r4, hfb, ha, he, up, p1, p2, zz, zu, tk, outC, errV, chv, chc, str, i64v, str_size, strOf_bs, g7, g8, g9, g10]
  refine gif_i (fun g19 => ?_) (fun g19 => ?_)
  have d19 := ofBne g19
  (exfalso; omega)
  have d19 := ofBneF g19
  simp -implicitDefEqProofs (dsimp := false) only [go_sem, simprocAttr, hl, r1, r2, r4, hfb, ha, he, up, p1, p2, zz, zu, tk, outC, errV, chv, chc, str, i64v, str_size, strOf_bs, g7, g8, g9, g10, g19]
  refine CodeT.condF rfl ?_
  refine CodeT.skip ?_
  simp -implicitDefEqProofs (dsimp := false) only [go_sem, simprocAttr, hl, r1, r2, r4, hfb, ha, he, up, p1, p2, zz, zu, tk, outC, errV, chv, chc, str, i64v, str_size, strOf_bs, g7, g8, g9, g10, g19]
  refine CodeT.seqR ?_
  simp -implicitDefEqProofs (dsimp := false) only [go_sem, simprocAttr, hl, r1, r2, r4, hfb, ha, he, up, p1, p2, zz, zu, tk, outC, errV, chv, chc, str, i64v, str_size, strOf_bs, g7, g8, g9, g10, g19]
  refine PureT.eq (c25 d hf r ?_) rfl ?_
  omega
  simp -implicitDefEqProofs (dsimp := false) only [go_sem, simprocAttr, hl, r1, r2, r4, hfb, ha, he, up, p1, p2, zz, zu, tk, outC, errV, chv, chc, str, i64v, str_size, strOf_bs, g7, g8, g9, g10, g19]
  refine CodeT.seq ?_
  refine CodeT.seqR ?_
  simp -implicitDefEqProofs (dsimp := false) only [go_sem, simprocAttr, hl, r1, r2, r4, hfb, ha, he, up, p1, p2, zz, zu, tk, outC, errV, chv, chc, str, i64v, str_size, strOf_bs, g7, g8, g9, g10, g19]
  refine CodeT.condT rfl ?_
  refine CodeT.seqR ?_
  simp -implicitDefEqProofs (dsimp := false) only [go_sem, simprocAttr, hl, r1, r2, r4, hfb, ha, he, up, p1, p2, zz, zu, tk, outC, errV, chv, chc, str, i64v, str_size, strOf_bs, g7, g8, g9, g10, g19]
  refine CodeT.ret ?_
  simp -implicitDefEqProofs (dsimp := false) only [go_sem, simprocAttr, hl, r1, r2, r4, hfb, ha, he, up, p1, p2, zz, zu, tk, outC, errV, chv, chc, str, i64v, str_size, strOf_bs, g7, g8, g9, g10, g19]
  refine pureEnd rfl ?_
  simp -implicitDefEqProofs (dsimp := false) only [go_sem, simprocAttr, hl, r1, r2, r4, hfb, ha, he, up, p1, p2, zz, zu, tk, outC, errV, chv, chc, str, i64v, str_size, strOf_bs, g7, g8, g9, g10, g19]
  · rw [f2 (by omega)]
end Go.Proofs.Try

namespace Go.Proofs.Try
set_option linter.unusedSimpArgs false
set_option linter.unusedVariables false
open Go.PM
set_option maxHeartbeats 4000000
set_option maxRecDepth 100000

theorem c11o (d : Dsk) (r : List UInt8) (recs : List (List UInt8)) (c : Chg) (hb : recs.length ≤ maxLen) (hc : ChgW c) (z1 : c.name.length ≤ 140737488351232) (z2 : c.sname.length ≤ 140737488351232) (z3 : c.vt.length ≤ 140737488351232) (ops : List DOp) (d' : Dsk) (X : List UInt8) (L : List (List UInt8)) (ha : appendV d r = .tup [.sl false (opvs ops), er 0])
    (e1 : readV d = .tup [.sl false (bs X), .sl false (bss L), er 0]) (e2 : doV d ops = .tup [dkv d', er 0]) (e3 : readV d' = .tup [.sl false (bs X), .sl false (bss (L ++ [r])), er 0]) (hL : L.length ≤ 1000000) (ho : ops.length ≤ 10) (hq : d.queue.length ≤ 1000000) (hf' : Few d') (hfb : fewB d = true) (hf : Few d) : PureT Try.prog 11 [dkv d, .sl false (bs r), .sl false (bss recs), chv c] (· = .val (.bool true)) := by
  have hl := lits74 _ hc
  have r1 : ∀ x : List UInt8, (strB x == strB x) = true := fun x => by rw [strB_beq]; simp
  have r2 : ∀ x : List (List UInt8), (x == x) = true := fun x => by simp
  have r4 : ∀ x : Int, (x == x) = true := fun x => by simp
  have r5 : ∀ x : Int, (x != x) = false := fun x => by simp
  have up := unpack_pack c hc
  have hp := parse_of recs [0, 0, 0] rfl
  have zz : ∀ l : List UInt8, bs l ++ [AV.val (.int .u8 0), AV.val (.int .u8 0), AV.val (.int .u8 0)] = bs (l ++ [0, 0, 0]) := fun l => by rw [← bs_append]; rfl
  have zu : Uni 1 [AV.val (.int .u8 0), AV.val (.int .u8 0), AV.val (.int .u8 0)] := uni_bs [0, 0, 0]
  have tk : List.take ((frames recs).length + 3) (frames recs ++ [0, 0, 0]) = frames recs ++ [0, 0, 0] := List.take_of_length_le (by rw [List.length_append]; exact Nat.le_refl _)
  have ze : frames [] = [] := rfl
  obtain ⟨p1, p2⟩ := hp
  have pl : (packB c).length = 64 + c.name.length + c.sname.length + c.vt.length := by simp [packB, num8_length]; omega
  have z0 : (frames ([] : List (List UInt8))).length = 0 := rfl
  have zl : (frames recs ++ [0, 0, 0]).length = (frames recs).length + 3 := by simp
  have tkL : List.take (L.length + 1) (L ++ [r]) = L ++ [r] := List.take_of_length_le (by simp)
  have nL : (L ++ [r]).length ≤ 4000000 := by rw [List.length_append]; simp; omega
  refine CallT.intro Try.func11 (by decide) rfl ?_
  simp -implicitDefEqProofs (dsimp := false) only [go_sem, simprocAttr, tkL, hl, r1, r2, r4, r5, hfb, ha, up, p1, p2, zz, zu, tk, outC, errV, chv, chc, str, i64v, str_size, strOf_bs, enterTm, Try.ntmps11, List.range'_succ, List.range'_zero, List.zip_cons_cons, List.zip_nil_left]
  refine CodeT.seqR ?_
  simp -implicitDefEqProofs (dsimp := false) only [go_sem, simprocAttr, tkL, hl, r1, r2, r4, r5, hfb, ha, up, p1, p2, zz, zu, tk, outC, errV, chv, chc, str, i64v, str_size, strOf_bs]
  refine CodeT.seqR ?_
  simp -implicitDefEqProofs (dsimp := false) only [go_sem, simprocAttr, tkL, hl, r1, r2, r4, r5, hfb, ha, up, p1, p2, zz, zu, tk, outC, errV, chv, chc, str, i64v, str_size, strOf_bs]
  refine PureT.eq (c12) rfl ?_
  simp -implicitDefEqProofs (dsimp := false) only [go_sem, simprocAttr, tkL, hl, r1, r2, r4, r5, hfb, ha, up, p1, p2, zz, zu, tk, outC, errV, chv, chc, str, i64v, str_size, strOf_bs]
  refine CodeT.seq ?_
  refine CodeT.seqR ?_
  simp -implicitDefEqProofs (dsimp := false) only [go_sem, simprocAttr, tkL, hl, r1, r2, r4, r5, hfb, ha, up, p1, p2, zz, zu, tk, outC, errV, chv, chc, str, i64v, str_size, strOf_bs]
  refine PureT.eq (c15 _) rfl ?_
  simp -implicitDefEqProofs (dsimp := false) only [go_sem, simprocAttr, tkL, hl, r1, r2, r4, r5, hfb, ha, up, p1, p2, zz, zu, tk, outC, errV, chv, chc, str, i64v, str_size, strOf_bs]
  refine gif_i (fun g8 => ?_) (fun g8 => ?_)
  have d8 := ofDec g8
  simp -implicitDefEqProofs (dsimp := false) only [go_sem, simprocAttr, tkL, hl, r1, r2, r4, r5, hfb, ha, up, p1, p2, zz, zu, tk, outC, errV, chv, chc, str, i64v, str_size, strOf_bs, g8]
  refine CodeT.condT rfl ?_
  refine CodeT.seqR ?_
  simp -implicitDefEqProofs (dsimp := false) only [go_sem, simprocAttr, tkL, hl, r1, r2, r4, r5, hfb, ha, up, p1, p2, zz, zu, tk, outC, errV, chv, chc, str, i64v, str_size, strOf_bs, g8]
  refine CodeT.ret ?_
  simp -implicitDefEqProofs (dsimp := false) only [go_sem, simprocAttr, tkL, hl, r1, r2, r4, r5, hfb, ha, up, p1, p2, zz, zu, tk, outC, errV, chv, chc, str, i64v, str_size, strOf_bs, g8]
  refine pureEnd rfl ?_
  simp -implicitDefEqProofs (dsimp := false) only [go_sem, simprocAttr, tkL, hl, r1, r2, r4, r5, hfb, ha, up, p1, p2, zz, zu, tk, outC, errV, chv, chc, str, i64v, str_size, strOf_bs, g8]
  have d8 := ofDecF g8
  simp -implicitDefEqProofs (dsimp := false) only [go_sem, simprocAttr, tkL, hl, r1, r2, r4, r5, hfb, ha, up, p1, p2, zz, zu, tk, outC, errV, chv, chc, str, i64v, str_size, strOf_bs, g8]
  refine gif_i (fun g9 => ?_) (fun g9 => ?_)
  have d9 := ofDec g9
  simp -implicitDefEqProofs (dsimp := false) only [go_sem, simprocAttr, tkL, hl, r1, r2, r4, r5, hfb, ha, up, p1, p2, zz, zu, tk, outC, errV, chv, chc, str, i64v, str_size, strOf_bs, g8, g9]
  refine CodeT.condT rfl ?_
  refine CodeT.seqR ?_
  simp -implicitDefEqProofs (dsimp := false) only [go_sem, simprocAttr, tkL, hl, r1, r2, r4, r5, hfb, ha, up, p1, p2, zz, zu, tk, outC, errV, chv, chc, str, i64v, str_size, strOf_bs, g8, g9]
  refine CodeT.ret ?_
  simp -implicitDefEqProofs (dsimp := false) only [go_sem, simprocAttr, tkL, hl, r1, r2, r4, r5, hfb, ha, up, p1, p2, zz, zu, tk, outC, errV, chv, chc, str, i64v, str_size, strOf_bs, g8, g9]
  refine pureEnd rfl ?_
  simp -implicitDefEqProofs (dsimp := false) only [go_sem, simprocAttr, tkL, hl, r1, r2, r4, r5, hfb, ha, up, p1, p2, zz, zu, tk, outC, errV, chv, chc, str, i64v, str_size, strOf_bs, g8, g9]
  have d9 := ofDecF g9
  simp -implicitDefEqProofs (dsimp := false) only [go_sem, simprocAttr, tkL, hl, r1, r2, r4, r5, hfb, ha, up, p1, p2, zz, zu, tk, outC, errV, chv, chc, str, i64v, str_size, strOf_bs, g8, g9]
  simp -implicitDefEqProofs (dsimp := false) (disch := omega) only [i64_in, bs_getD, opvs_getD, is64_getD, bss_getD]
  refine CodeT.cond rfl (fun g10 => ?_) (fun g10 => ?_)
  have d10 := ofDec g10
  refine CodeT.seqR ?_
  simp -implicitDefEqProofs (dsimp := false) only [go_sem, simprocAttr, tkL, hl, r1, r2, r4, r5, hfb, ha, up, p1, p2, zz, zu, tk, outC, errV, chv, chc, str, i64v, str_size, strOf_bs, g8, g9, g10]
  refine CodeT.ret ?_
  simp -implicitDefEqProofs (dsimp := false) only [go_sem, simprocAttr, tkL, hl, r1, r2, r4, r5, hfb, ha, up, p1, p2, zz, zu, tk, outC, errV, chv, chc, str, i64v, str_size, strOf_bs, g8, g9, g10]
  refine pureEnd rfl ?_
  simp -implicitDefEqProofs (dsimp := false) only [go_sem, simprocAttr, tkL, hl, r1, r2, r4, r5, hfb, ha, up, p1, p2, zz, zu, tk, outC, errV, chv, chc, str, i64v, str_size, strOf_bs, g8, g9, g10]
  have d10 := ofDecF g10
  refine CodeT.skip ?_
  simp -implicitDefEqProofs (dsimp := false) only [go_sem, simprocAttr, tkL, hl, r1, r2, r4, r5, hfb, ha, up, p1, p2, zz, zu, tk, outC, errV, chv, chc, str, i64v, str_size, strOf_bs, g8, g9, g10]
  refine CodeT.seqR ?_
  simp -implicitDefEqProofs (dsimp := false) only [go_sem, simprocAttr, tkL, hl, r1, r2, r4, r5, hfb, ha, up, p1, p2, zz, zu, tk, outC, errV, chv, chc, str, i64v, str_size, strOf_bs, g8, g9, g10]
  refine CodeT.seq ?_
  refine CodeT.seqR ?_
  simp -implicitDefEqProofs (dsimp := false) only [go_sem, simprocAttr, tkL, hl, r1, r2, r4, r5, hfb, ha, up, p1, p2, zz, zu, tk, outC, errV, chv, chc, str, i64v, str_size, strOf_bs, g8, g9, g10]
  refine CodeT.block ?_
  refine CodeT.promote 10 1 rfl ?_
  simp -implicitDefEqProofs (dsimp := false) only [go_sem, simprocAttr, tkL, hl, r1, r2, r4, r5, hfb, ha, up, p1, p2, zz, zu, tk, outC, errV, chv, chc, str, i64v, str_size, strOf_bs, g8, g9, g10]
  refine CodeT.whileS (fun i : Nat => [(11, .val (.int .i64 (i : Nat))), (10, .hsl 2 i 0 (frames (recs.take i)).length)]) [9, 7, 4, 1, 2] (fun i : Nat => [.cells [.sl false (bs d.bytes), .sl false (opvs d.queue)], .cells [.val (.int .i64 c.kind), .val (.int .i64 c.oid), .val (.string (strB c.name)), .val (.string (strB c.sname)), .val (.int .i64 c.skind), .val (.int .i64 c.vk), .val (.int .i64 c.vn), .val (.string (strB c.vt))], .row true i 1 (bs (frames (recs.take i)))]) (fun i : Nat => i ≤ recs.length ∧ (frames (recs.take i)).length ≤ 66001) (fun i : Nat => recs.length - i) (0) ?_ rfl ?_ ?_
  simp -implicitDefEqProofs (dsimp := false) only [go_sem, simprocAttr, tkL, hl, r1, r2, r4, r5, hfb, ha, up, p1, p2, zz, zu, tk, outC, errV, chv, chc, str, i64v, str_size, strOf_bs, g8, g9, g10]
  omega
  refine ⟨rfl, ?_, ?_, rfl, ?_⟩
  simp -implicitDefEqProofs (dsimp := false) only [go_sem, simprocAttr, tkL, hl, r1, r2, r4, r5, hfb, ha, up, p1, p2, zz, zu, tk, outC, errV, chv, chc, str, i64v, str_size, strOf_bs, g8, g9, g10, or_true, true_or, false_or, or_false, implies_true, Int.natCast_add, Int.cast_ofNat_Int, keepsD_nil]
  refine And.intro ?_ ?_
  trivial
  refine And.intro ?_ ?_
  trivial
  refine And.intro ?_ ?_
  trivial
  trivial
  simp -implicitDefEqProofs (dsimp := false) only [go_sem, simprocAttr, tkL, hl, r1, r2, r4, r5, hfb, ha, up, p1, p2, zz, zu, tk, outC, errV, chv, chc, str, i64v, str_size, strOf_bs, g8, g9, g10, or_true, true_or, false_or, or_false, implies_true, Int.natCast_add, Int.cast_ofNat_Int, keepsD_nil]
  trivial
  simp -implicitDefEqProofs (dsimp := false) only [go_sem, simprocAttr, tkL, hl, r1, r2, r4, r5, hfb, ha, up, p1, p2, zz, zu, tk, outC, errV, chv, chc, str, i64v, str_size, strOf_bs, g8, g9, g10, or_true, true_or, false_or, or_false, implies_true, Int.natCast_add, Int.cast_ofNat_Int, keepsD_nil]
  rintro i hj
  obtain ⟨hi, f0⟩ := hj
  have f2 := frames_succ recs i
  have f4 := frame_len (recs.getD i [])
  have f5 : i < recs.length → (frames (recs.take (i + 1))).length = (frames (recs.take i)).length + (frame (recs.getD i [])).length := fun h => by rw [f2 h, List.length_append]
  simp -implicitDefEqProofs (dsimp := false) only [go_sem, simprocAttr, tkL, hl, r1, r2, r4, r5, hfb, ha, up, p1, p2, zz, zu, tk, outC, errV, chv, chc, str, i64v, str_size, strOf_bs, g8, g9, g10]
  refine CodeT.seq ?_
  refine CodeT.seqR ?_
  simp -implicitDefEqProofs (dsimp := false) only [go_sem, simprocAttr, tkL, hl, r1, r2, r4, r5, hfb, ha, up, p1, p2, zz, zu, tk, outC, errV, chv, chc, str, i64v, str_size, strOf_bs, g8, g9, g10]
  refine CodeT.cond rfl (fun g11 => ?_) (fun g11 => ?_)
  have d11 := ofDec g11
  refine CodeT.skip ?_
  simp -implicitDefEqProofs (dsimp := false) only [go_sem, simprocAttr, tkL, hl, r1, r2, r4, r5, hfb, ha, up, p1, p2, zz, zu, tk, outC, errV, chv, chc, str, i64v, str_size, strOf_bs, g8, g9, g10, g11]
  refine CodeT.seq (CodeT.block ?_)
  refine CodeT.seq ?_
  refine CodeT.seqR ?_
  simp -implicitDefEqProofs (dsimp := false) only [go_sem, simprocAttr, tkL, hl, r1, r2, r4, r5, hfb, ha, up, p1, p2, zz, zu, tk, outC, errV, chv, chc, str, i64v, str_size, strOf_bs, g8, g9, g10, g11]
  refine gif_i (fun g12 => ?_) (fun g12 => ?_)
  have d12 := ofDec g12
  simp -implicitDefEqProofs (dsimp := false) only [go_sem, simprocAttr, tkL, hl, r1, r2, r4, r5, hfb, ha, up, p1, p2, zz, zu, tk, outC, errV, chv, chc, str, i64v, str_size, strOf_bs, g8, g9, g10, g11, g12]
  refine CodeT.condT rfl ?_
  refine CodeT.seqR ?_
  simp -implicitDefEqProofs (dsimp := false) only [go_sem, simprocAttr, tkL, hl, r1, r2, r4, r5, hfb, ha, up, p1, p2, zz, zu, tk, outC, errV, chv, chc, str, i64v, str_size, strOf_bs, g8, g9, g10, g11, g12]
  refine CodeT.ret ?_
  simp -implicitDefEqProofs (dsimp := false) only [go_sem, simprocAttr, tkL, hl, r1, r2, r4, r5, hfb, ha, up, p1, p2, zz, zu, tk, outC, errV, chv, chc, str, i64v, str_size, strOf_bs, g8, g9, g10, g11, g12]
  refine pureEnd rfl ?_
  simp -implicitDefEqProofs (dsimp := false) only [go_sem, simprocAttr, tkL, hl, r1, r2, r4, r5, hfb, ha, up, p1, p2, zz, zu, tk, outC, errV, chv, chc, str, i64v, str_size, strOf_bs, g8, g9, g10, g11, g12]
  have d12 := ofDecF g12
  simp -implicitDefEqProofs (dsimp := false) only [go_sem, simprocAttr, tkL, hl, r1, r2, r4, r5, hfb, ha, up, p1, p2, zz, zu, tk, outC, errV, chv, chc, str, i64v, str_size, strOf_bs, g8, g9, g10, g11, g12]
  refine gate_i ?_ ?_
  omega
  simp -implicitDefEqProofs (dsimp := false) (disch := omega) only [Int.toNat_natCast, i64_in, bs_getD, opvs_getD, is64_getD, bss_getD]
  simp -implicitDefEqProofs (dsimp := false) only [go_sem, simprocAttr, tkL, hl, r1, r2, r4, r5, hfb, ha, up, p1, p2, zz, zu, tk, outC, errV, chv, chc, str, i64v, str_size, strOf_bs, g8, g9, g10, g11, g12]
  refine CodeT.cond rfl (fun g13 => ?_) (fun g13 => ?_)
  have d13 := ofDec g13
  refine CodeT.seqR ?_
  simp -implicitDefEqProofs (dsimp := false) only [go_sem, simprocAttr, tkL, hl, r1, r2, r4, r5, hfb, ha, up, p1, p2, zz, zu, tk, outC, errV, chv, chc, str, i64v, str_size, strOf_bs, g8, g9, g10, g11, g12, g13]
  refine CodeT.ret ?_
  simp -implicitDefEqProofs (dsimp := false) only [go_sem, simprocAttr, tkL, hl, r1, r2, r4, r5, hfb, ha, up, p1, p2, zz, zu, tk, outC, errV, chv, chc, str, i64v, str_size, strOf_bs, g8, g9, g10, g11, g12, g13]
  refine pureEnd rfl ?_
  simp -implicitDefEqProofs (dsimp := false) only [go_sem, simprocAttr, tkL, hl, r1, r2, r4, r5, hfb, ha, up, p1, p2, zz, zu, tk, outC, errV, chv, chc, str, i64v, str_size, strOf_bs, g8, g9, g10, g11, g12, g13]
  have d13 := ofDecF g13
  refine CodeT.skip ?_
  simp -implicitDefEqProofs (dsimp := false) only [go_sem, simprocAttr, tkL, hl, r1, r2, r4, r5, hfb, ha, up, p1, p2, zz, zu, tk, outC, errV, chv, chc, str, i64v, str_size, strOf_bs, g8, g9, g10, g11, g12, g13]
  refine CodeT.region ?_
  simp -implicitDefEqProofs (dsimp := false) only [go_sem, simprocAttr, tkL, hl, r1, r2, r4, r5, hfb, ha, up, p1, p2, zz, zu, tk, outC, errV, chv, chc, str, i64v, str_size, strOf_bs, g8, g9, g10, g11, g12, g13]
  refine gate_i ?_ ?_
  omega
  simp -implicitDefEqProofs (dsimp := false) (disch := omega) only [Int.toNat_natCast, i64_in, bs_getD, opvs_getD, is64_getD, bss_getD]
  simp -implicitDefEqProofs (dsimp := false) only [go_sem, simprocAttr, tkL, hl, r1, r2, r4, r5, hfb, ha, up, p1, p2, zz, zu, tk, outC, errV, chv, chc, str, i64v, str_size, strOf_bs, g8, g9, g10, g11, g12, g13]
  refine PureT.eq (c13 _ ?_) rfl ?_
  omega
  simp -implicitDefEqProofs (dsimp := false) only [go_sem, simprocAttr, tkL, hl, r1, r2, r4, r5, hfb, ha, up, p1, p2, zz, zu, tk, outC, errV, chv, chc, str, i64v, str_size, strOf_bs, g8, g9, g10, g11, g12, g13]
  refine And.intro (by exact uni_bs _) ?_
  refine And.intro (by omega) ?_
  refine CodeT.region ?_
  simp -implicitDefEqProofs (dsimp := false) only [go_sem, simprocAttr, tkL, hl, r1, r2, r4, r5, hfb, ha, up, p1, p2, zz, zu, tk, outC, errV, chv, chc, str, i64v, str_size, strOf_bs, g8, g9, g10, g11, g12, g13]
  simp -implicitDefEqProofs (dsimp := false) (disch := omega) only [i64_in, bs_getD, opvs_getD, is64_getD, bss_getD]
  refine ⟨i + 1, ?_⟩
  refine And.intro ?_ ?_
  omega
  refine And.intro ?_ ?_
  omega
  refine ⟨rfl, ?_, ?_, rfl, ?_⟩
  simp -implicitDefEqProofs (dsimp := false) only [go_sem, simprocAttr, tkL, hl, r1, r2, r4, r5, hfb, ha, up, p1, p2, zz, zu, tk, outC, errV, chv, chc, str, i64v, str_size, strOf_bs, g8, g9, g10, g11, g12, g13, or_true, true_or, false_or, or_false, implies_true, Int.natCast_add, Int.cast_ofNat_Int, keepsD_nil]
  refine And.intro ?_ ?_
  (congr 1 <;> omega)
  refine And.intro ?_ ?_
  trivial
  refine And.intro ?_ ?_
  trivial
  trivial
  simp -implicitDefEqProofs (dsimp := false) only [go_sem, simprocAttr, tkL, hl, r1, r2, r4, r5, hfb, ha, up, p1, p2, zz, zu, tk, outC, errV, chv, chc, str, i64v, str_size, strOf_bs, g8, g9, g10, g11, g12, g13, or_true, true_or, false_or, or_false, implies_true, Int.natCast_add, Int.cast_ofNat_Int, keepsD_nil]
  rotate_left
  simp -implicitDefEqProofs (dsimp := false) only [go_sem, simprocAttr, tkL, hl, r1, r2, r4, r5, hfb, ha, up, p1, p2, zz, zu, tk, outC, errV, chv, chc, str, i64v, str_size, strOf_bs, g8, g9, g10, g11, g12, g13, or_true, true_or, false_or, or_false, implies_true, Int.natCast_add, Int.cast_ofNat_Int, keepsD_nil]
  have d11 := ofDecF g11
  refine CodeT.exit ?_
  simp -implicitDefEqProofs (dsimp := false) only [go_sem, simprocAttr, tkL, hl, r1, r2, r4, r5, hfb, ha, up, p1, p2, zz, zu, tk, outC, errV, chv, chc, str, i64v, str_size, strOf_bs, g8, g9, g10, g11]
  obtain rfl : i = recs.length := by omega
  simp -implicitDefEqProofs (dsimp := false) only [go_sem, simprocAttr, tkL, hl, r1, r2, r4, r5, hfb, ha, up, p1, p2, zz, zu, tk, outC, errV, chv, chc, str, i64v, str_size, strOf_bs, g8, g9, g10, g11]
  rw [List.take_length] at f0
  refine CodeT.freeze 10 ?_
  simp -implicitDefEqProofs (dsimp := false) only [go_sem, simprocAttr, tkL, hl, r1, r2, r4, r5, hfb, ha, up, p1, p2, zz, zu, tk, outC, errV, chv, chc, str, i64v, str_size, strOf_bs, g8, g9, g10, g11]
  refine And.intro ?_ ?_
  omega
  refine CodeT.seqR ?_
  simp -implicitDefEqProofs (dsimp := false) only [go_sem, simprocAttr, tkL, hl, r1, r2, r4, r5, hfb, ha, up, p1, p2, zz, zu, tk, outC, errV, chv, chc, str, i64v, str_size, strOf_bs, g8, g9, g10, g11]
  refine And.intro (by trivial) ?_
  refine And.intro (by exact uni_bs _) ?_
  refine And.intro (by omega) ?_
  refine And.intro (by trivial) ?_
  refine And.intro (by omega) ?_
  refine CallT.args ⟨_, Try.func14, by decide, rfl⟩ ?_
  simp -implicitDefEqProofs (dsimp := false) only [go_sem, simprocAttr, tkL, hl, r1, r2, r4, r5, hfb, ha, up, p1, p2, zz, zu, tk, outC, errV, chv, chc, str, i64v, str_size, strOf_bs, g8, g9, g10, g11]
  refine And.intro (by omega) ?_
  refine PureT.eq (c14 _ ?_) rfl ?_
  omega
  simp -implicitDefEqProofs (dsimp := false) only [go_sem, simprocAttr, tkL, hl, r1, r2, r4, r5, hfb, ha, up, p1, p2, zz, zu, tk, outC, errV, chv, chc, str, i64v, str_size, strOf_bs, g8, g9, g10, g11]
  refine CodeT.seqR ?_
  simp -implicitDefEqProofs (dsimp := false) only [go_sem, simprocAttr, tkL, hl, r1, r2, r4, r5, hfb, ha, up, p1, p2, zz, zu, tk, outC, errV, chv, chc, str, i64v, str_size, strOf_bs, g8, g9, g10, g11]
  refine PureT.eq (c48 _ ?_ ?_ ?_) rfl ?_
  omega
  omega
  omega
  simp -implicitDefEqProofs (dsimp := false) only [go_sem, simprocAttr, tkL, hl, r1, r2, r4, r5, hfb, ha, up, p1, p2, zz, zu, tk, outC, errV, chv, chc, str, i64v, str_size, strOf_bs, g8, g9, g10, g11]
  refine PureT.eq (c45 _ ?_) rfl ?_
  omega
  simp -implicitDefEqProofs (dsimp := false) only [go_sem, simprocAttr, tkL, hl, r1, r2, r4, r5, hfb, ha, up, p1, p2, zz, zu, tk, outC, errV, chv, chc, str, i64v, str_size, strOf_bs, g8, g9, g10, g11]
  refine CodeT.seq ?_
  refine CodeT.seqR ?_
  simp -implicitDefEqProofs (dsimp := false) only [go_sem, simprocAttr, tkL, hl, r1, r2, r4, r5, hfb, ha, up, p1, p2, zz, zu, tk, outC, errV, chv, chc, str, i64v, str_size, strOf_bs, g8, g9, g10, g11]
  refine PureT.eq (c23 _ _ ?_) rfl ?_
  omega
  simp -implicitDefEqProofs (dsimp := false) only [go_sem, simprocAttr, tkL, hl, r1, r2, r4, r5, hfb, ha, up, p1, p2, zz, zu, tk, outC, errV, chv, chc, str, i64v, str_size, strOf_bs, g8, g9, g10, g11]
  refine CodeT.condF rfl ?_
  refine CodeT.skip ?_
  simp -implicitDefEqProofs (dsimp := false) only [go_sem, simprocAttr, tkL, hl, r1, r2, r4, r5, hfb, ha, up, p1, p2, zz, zu, tk, outC, errV, chv, chc, str, i64v, str_size, strOf_bs, g8, g9, g10, g11]
  refine CodeT.seqR ?_
  simp -implicitDefEqProofs (dsimp := false) only [go_sem, simprocAttr, tkL, hl, r1, r2, r4, r5, hfb, ha, up, p1, p2, zz, zu, tk, outC, errV, chv, chc, str, i64v, str_size, strOf_bs, g8, g9, g10, g11]
  refine PureT.eq (c25 d hf r ?_) rfl ?_
  omega
  simp -implicitDefEqProofs (dsimp := false) only [go_sem, simprocAttr, tkL, hl, r1, r2, r4, r5, hfb, ha, up, p1, p2, zz, zu, tk, outC, errV, chv, chc, str, i64v, str_size, strOf_bs, g8, g9, g10, g11]
  refine CodeT.seq ?_
  refine CodeT.seqR ?_
  simp -implicitDefEqProofs (dsimp := false) only [go_sem, simprocAttr, tkL, hl, r1, r2, r4, r5, hfb, ha, up, p1, p2, zz, zu, tk, outC, errV, chv, chc, str, i64v, str_size, strOf_bs, g8, g9, g10, g11]
  refine CodeT.condF rfl ?_
  refine CodeT.skip ?_
  simp -implicitDefEqProofs (dsimp := false) only [go_sem, simprocAttr, tkL, hl, r1, r2, r4, r5, hfb, ha, up, p1, p2, zz, zu, tk, outC, errV, chv, chc, str, i64v, str_size, strOf_bs, g8, g9, g10, g11]
  refine CodeT.seqR ?_
  simp -implicitDefEqProofs (dsimp := false) only [go_sem, simprocAttr, tkL, hl, r1, r2, r4, r5, hfb, ha, up, p1, p2, zz, zu, tk, outC, errV, chv, chc, str, i64v, str_size, strOf_bs, g8, g9, g10, g11]
  refine PureT.eq (c21k d hf e1) rfl ?_
  simp -implicitDefEqProofs (dsimp := false) only [go_sem, simprocAttr, tkL, hl, r1, r2, r4, r5, hfb, ha, up, p1, p2, zz, zu, tk, outC, errV, chv, chc, str, i64v, str_size, strOf_bs, g8, g9, g10, g11]
  refine CodeT.seqR ?_
  simp -implicitDefEqProofs (dsimp := false) only [go_sem, simprocAttr, tkL, hl, r1, r2, r4, r5, hfb, ha, up, p1, p2, zz, zu, tk, outC, errV, chv, chc, str, i64v, str_size, strOf_bs, g8, g9, g10, g11]
  refine PureT.eq (c17k d ops hf ?_ hq e2) rfl ?_
  omega
  simp -implicitDefEqProofs (dsimp := false) only [go_sem, simprocAttr, tkL, hl, r1, r2, r4, r5, hfb, ha, up, p1, p2, zz, zu, tk, outC, errV, chv, chc, str, i64v, str_size, strOf_bs, g8, g9, g10, g11]
  refine CodeT.seqR ?_
  simp -implicitDefEqProofs (dsimp := false) only [go_sem, simprocAttr, tkL, hl, r1, r2, r4, r5, hfb, ha, up, p1, p2, zz, zu, tk, outC, errV, chv, chc, str, i64v, str_size, strOf_bs, g8, g9, g10, g11]
  refine PureT.eq (c21k d' hf' e3) rfl ?_
  simp -implicitDefEqProofs (dsimp := false) only [go_sem, simprocAttr, tkL, hl, r1, r2, r4, r5, hfb, ha, up, p1, p2, zz, zu, tk, outC, errV, chv, chc, str, i64v, str_size, strOf_bs, g8, g9, g10, g11]
  refine CodeT.seqR ?_
  simp -implicitDefEqProofs (dsimp := false) only [go_sem, simprocAttr, tkL, hl, r1, r2, r4, r5, hfb, ha, up, p1, p2, zz, zu, tk, outC, errV, chv, chc, str, i64v, str_size, strOf_bs, g8, g9, g10, g11]
  refine And.intro (by exact bs_byte _) ?_
  refine And.intro (by exact bs_byte _) ?_
  refine And.intro (by trivial) ?_
  refine And.intro (by exact uni_bss _) ?_
  refine And.intro (by omega) ?_
  refine And.intro (by trivial) ?_
  refine And.intro (by exact uni_bss [_]) ?_
  refine And.intro (by omega) ?_
  refine CallT.args ⟨_, Try.func23, by decide, rfl⟩ ?_
  simp -implicitDefEqProofs (dsimp := false) only [go_sem, simprocAttr, tkL, hl, r1, r2, r4, r5, hfb, ha, up, p1, p2, zz, zu, tk, outC, errV, chv, chc, str, i64v, str_size, strOf_bs, g8, g9, g10, g11]
  refine And.intro (by omega) ?_
  refine PureT.eq (c23 _ _ ?_) rfl ?_
  assumption
  simp -implicitDefEqProofs (dsimp := false) only [go_sem, simprocAttr, tkL, hl, r1, r2, r4, r5, hfb, ha, up, p1, p2, zz, zu, tk, outC, errV, chv, chc, str, i64v, str_size, strOf_bs, g8, g9, g10, g11]
  refine CodeT.ret ?_
  simp -implicitDefEqProofs (dsimp := false) only [go_sem, simprocAttr, tkL, hl, r1, r2, r4, r5, hfb, ha, up, p1, p2, zz, zu, tk, outC, errV, chv, chc, str, i64v, str_size, strOf_bs, g8, g9, g10, g11]
  refine pureEnd rfl ?_
  simp -implicitDefEqProofs (dsimp := false) only [go_sem, simprocAttr, tkL, hl, r1, r2, r4, r5, hfb, ha, up, p1, p2, zz, zu, tk, outC, errV, chv, chc, str, i64v, str_size, strOf_bs, g8, g9, g10, g11]
  · rw [f2 (by omega)]
end Go.Proofs.Try

namespace Go.Proofs.Try
set_option linter.unusedSimpArgs false
set_option linter.unusedVariables false
open Go.PM
set_option maxHeartbeats 4000000
set_option maxRecDepth 100000

theorem c11f (d : Dsk) (r : List UInt8) (recs : List (List UInt8)) (c : Chg) (hfb : fewB d = false) : PureT Try.prog 11 [dkv d, .sl false (bs r), .sl false (bss recs), chv c] (· = .val (.bool true)) := by
  refine CallT.intro Try.func11 (by decide) rfl ?_
  simp -implicitDefEqProofs (dsimp := false) only [go_sem, simprocAttr, hfb, chv, chc, str, i64v, str_size, strOf_bs, enterTm, Try.ntmps11, List.range'_succ, List.range'_zero, List.zip_cons_cons, List.zip_nil_left]
  refine CodeT.seqR ?_
  simp -implicitDefEqProofs (dsimp := false) only [go_sem, simprocAttr, hfb, chv, chc, str, i64v, str_size, strOf_bs]
  refine CodeT.seqR ?_
  simp -implicitDefEqProofs (dsimp := false) only [go_sem, simprocAttr, hfb, chv, chc, str, i64v, str_size, strOf_bs]
  refine PureT.eq (c12) rfl ?_
  simp -implicitDefEqProofs (dsimp := false) only [go_sem, simprocAttr, hfb, chv, chc, str, i64v, str_size, strOf_bs]
  refine CodeT.seq ?_
  refine CodeT.seqR ?_
  simp -implicitDefEqProofs (dsimp := false) only [go_sem, simprocAttr, hfb, chv, chc, str, i64v, str_size, strOf_bs]
  refine PureT.eq (c15 _) rfl ?_
  simp -implicitDefEqProofs (dsimp := false) only [go_sem, simprocAttr, hfb, chv, chc, str, i64v, str_size, strOf_bs]
  refine CodeT.condT rfl ?_
  refine CodeT.seqR ?_
  simp -implicitDefEqProofs (dsimp := false) only [go_sem, simprocAttr, hfb, chv, chc, str, i64v, str_size, strOf_bs]
  refine CodeT.ret ?_
  simp -implicitDefEqProofs (dsimp := false) only [go_sem, simprocAttr, hfb, chv, chc, str, i64v, str_size, strOf_bs]
  refine pureEnd rfl ?_
  simp -implicitDefEqProofs (dsimp := false) only [go_sem, simprocAttr, hfb, chv, chc, str, i64v, str_size, strOf_bs]
theorem c11 (d : Dsk) (r : List UInt8) (recs : List (List UInt8)) (c : Chg) (hb : recs.length ≤ maxLen) (hc : ChgW c) (z1 : c.name.length ≤ 140737488351232) (z2 : c.sname.length ≤ 140737488351232) (z3 : c.vt.length ≤ 140737488351232) : PureT Try.prog 11 [dkv d, .sl false (bs r), .sl false (bss recs), chv c] (· = .val (.bool true)) := by
  cases hfb : fewB d with
  | false => exact c11f d r recs c hfb
  | true =>
    obtain ⟨hf, _, hq⟩ := fewB_few hfb
    rcases app_cases d r with ⟨e, he, ha⟩ | ⟨hi, hw, hcl, hfr, ha⟩
    · exact c11e d r recs c hb hc z1 z2 z3 e (by simpa using he) ha hfb hf
    · obtain ⟨e2, e3⟩ := append_read hi hw hcl r hfr
      obtain ⟨f1, f2, f3, f4, f5, f6⟩ := disk_facts hi
      have hR : parseR (useB d) ≠ [] := by
        intro h
        rw [wrB_eq, h] at hw
        simp at hw
      have e1 : readV d = .tup [.sl false (bs ((parseR (useB d)).getD 0 [])), .sl false (bss ((parseR (useB d)).drop 1)), er 0] := by
        unfold readV
        rw [hi, hw]
        obtain ⟨x, R, hx⟩ := List.exists_cons_of_ne_nil hR
        rw [hx]
        rfl
      have hp : (parseR (useB d)).length ≤ (useB d).length + 1 := by rw [parseR_len]; exact parse_len _
      exact c11o d r recs c hb hc z1 z2 z3 _ _ _ _ ha e1 e2 e3 (by rw [List.length_drop]; omega) (by simp) (by omega) ⟨hf.b, by simp; omega⟩ hfb hf
end Go.Proofs.Try

namespace Go.PM
set_option linter.unusedSectionVars false
variable [Globals]
open Go.RowKit Go.Deep

section
variable {H : Type} {enc : TypeId × Value → H} {P : Program} {W : World}

/-- Fields that lie one behind the other, from cell off on: n cells in all. -/
def OpensF (enc : TypeId × Value → H) (P : Program) (W : World) (off n : Nat) (fs : List Field) {α : Type} (f : α → List AV) (p : α → Prop) : Prop :=
  ∀ (fuel : Nat) (cs : List Value), (∀ fd ∈ fs, ∃ x, DataW.trod enc P W 0 (fun _ => true) true fuel fd.type ((cs.drop fd.offset).take (P.cellsOf fd.type)) = some x) → ∃ a, p a ∧ CellsL (Mem.of W) (f a) ((cs.drop off).take n)

theorem opensF_nil {off : Nat} : OpensF enc P W off 0 [] (fun _ : Unit => []) (fun _ => True) := by
  intro fuel cs _
  refine ⟨(), trivial, by simp, fun j c hc => by simp at hc⟩
theorem opensF_cons {off n m sz : Nat} {fd : Field} {fs : List Field} {α β : Type} {g : α → AV} {p : α → Prop} {f : β → List AV} {q : β → Prop} (ho : fd.offset = off) (hsz : P.cellsOf fd.type = sz) (hm : m = sz + n)
    (h0 : Opens enc P W fd.type g p) (hl : ∀ a, (g a).cells.length = sz) (h1 : OpensF enc P W (off + sz) n fs f q) : OpensF enc P W off m (fd :: fs) (fun x : α × β => (g x.1).cells ++ f x.2) (fun x => p x.1 ∧ q x.2) := by
  subst hm
  intro fuel cs h
  obtain ⟨x, hx⟩ := h fd (List.mem_cons_self ..)
  obtain ⟨a, k1, k2⟩ := h0 _ _ _ hx
  obtain ⟨b, k3, k4⟩ := h1 fuel cs (fun fd' hf => h fd' (List.mem_cons_of_mem _ hf))
  rw [ho, hsz] at k2
  exact ⟨(a, b), ⟨k1, k3⟩, k2.app k4 (hl a)⟩
theorem opens_struct {t : TypeId} {fs : Array Field} {n : Nat} {α : Type} {f : α → List AV} {p : α → Prop} (ht : P.underlying t = some (.struct fs)) (hn : P.cellsOf t = n) (h : OpensF enc P W 0 n fs.toList f p) : Opens enc P W t (fun a => .agg (f a)) p := by
  intro fuel cs x hx
  obtain ⟨xs, m, _, rfl, hl, hlen, hf⟩ := DataW.trod_struct ht hx
  obtain ⟨a, k1, k2⟩ := h m cs (fun fd hfd => by
    obtain ⟨i, hi⟩ := List.getElem?_of_mem hfd
    have := hf i fd (by simpa using hi)
    have hlt : i < xs.length := by
      rw [hlen]
      have := (List.getElem?_eq_some_iff.1 hi).1
      simpa using this
    exact ⟨xs[i], this.trans (List.getElem?_eq_getElem hlt)⟩)
  refine ⟨a, k1, ?_⟩
  rw [List.drop_zero, List.take_of_length_le (by omega)] at k2
  exact k2
theorem Opens.map {t : TypeId} {α β : Type} {f : α → AV} {p : α → Prop} {f' : β → AV} (h : Opens enc P W t f p) (g : α → β) (hg : ∀ a, f a = f' (g a)) : Opens enc P W t f' (fun b => ∃ a, p a ∧ g a = b) := fun fuel cs x hx => by
  obtain ⟨a, h1, h2⟩ := h fuel cs x hx
  exact ⟨g a, ⟨a, h1, rfl⟩, hg a ▸ h2⟩
end
end Go.PM

namespace Go.Proofs.Try
set_option linter.unusedVariables false
open Go.PM Go.RowKit
variable {H : Type} {enc : TypeId × Value → H} {W : World}
theorem opensBytes : Opens enc Try.prog W 22 (fun l : List UInt8 => AV.sl false (l.map b8)) (fun l => l.length ≤ maxLen) :=
  (opens_slice (sz := 1) Try.underlying22 (by kernel_rfl) (by decide) (fun _ => rfl) (opens_u8 Try.underlying5)).mono fun _ h => h.2
/-- What every operation that is given is like. -/
structure OpW (o : DOp) : Prop where
  a0 : -9223372036854775808 ≤ o.at_
  a1 : o.at_ ≤ 9223372036854775807
  b : o.bytes.length ≤ maxLen
theorem opensOp : Opens enc Try.prog W 39 opv OpW :=
  ((opens_struct Try.underlying39 (by kernel_rfl) (opensF_cons rfl (by kernel_rfl) rfl (opens_bool Try.underlying4) (fun _ => rfl) (opensF_cons rfl (by kernel_rfl) rfl (opens_i64 Try.underlying3) (fun _ => rfl) (opensF_cons rfl (by kernel_rfl) rfl opensBytes (fun _ => rfl) opensF_nil)))).map (f' := opv) (fun x => (⟨x.1, x.2.1, x.2.2.1⟩ : DOp)) (fun _ => rfl)).mono
    fun o ⟨x, ⟨_, h1, h2, _⟩, h3⟩ => h3 ▸ ⟨h1.1, h1.2, h2⟩
instance : Inhabited DOp := ⟨op0⟩
theorem opensOps : Opens enc Try.prog W 29 (fun l : List DOp => AV.sl false (opvs l)) (fun l => (∀ o ∈ l, OpW o) ∧ l.length ≤ maxLen) :=
  opens_slice (sz := 3) Try.underlying29 (by kernel_rfl) (by decide) (fun _ => rfl) opensOp
structure DskW (d : Dsk) : Prop where
  b : d.bytes.length ≤ maxLen
  q : d.queue.length ≤ maxLen
  o : ∀ o ∈ d.queue, OpW o
theorem opensDsk : Opens enc Try.prog W 31 dkv DskW :=
  ((opens_struct Try.underlying31 (by kernel_rfl) (opensF_cons rfl (by kernel_rfl) rfl opensBytes (fun _ => rfl) (opensF_cons rfl (by kernel_rfl) rfl opensOps (fun _ => rfl) opensF_nil))).map (f' := dkv) (fun x => (⟨x.1, x.2.1⟩ : Dsk)) (fun _ => rfl)).mono
    fun o ⟨x, ⟨h0, h1, _⟩, h3⟩ => h3 ▸ ⟨h0, h1.2, h1.1⟩
theorem opensInts : Opens enc Try.prog W 32 (fun l : List Int => AV.sl false (is64 l)) (fun l => (∀ n ∈ l, -9223372036854775808 ≤ n ∧ n ≤ 9223372036854775807) ∧ l.length ≤ maxLen) :=
  opens_slice (sz := 1) Try.underlying32 (by kernel_rfl) (by decide) (fun _ => rfl) (opens_i64 Try.underlying3)
end Go.Proofs.Try

namespace Go.Proofs.Try
set_option linter.unusedVariables false
open Go.PM Go.RowKit
variable {H : Type} {enc : TypeId × Value → H} {W : World}
structure ChgZ (c : Chg) : Prop where
  w : ChgW c
  z1 : c.name.length ≤ 140737488351232
  z2 : c.sname.length ≤ 140737488351232
  z3 : c.vt.length ≤ 140737488351232
structure V3 where
  k : Int
  n : Int
  t : List UInt8
def v3v (v : V3) : AV := .agg [i64v v.k, i64v v.n, str v.t]
structure V3Z (v : V3) : Prop where
  k : -9223372036854775808 ≤ v.k ∧ v.k ≤ 9223372036854775807
  n : -9223372036854775808 ≤ v.n ∧ v.n ≤ 9223372036854775807
  t : v.t.length ≤ reachBytes
theorem opensStr : OpensZ enc Try.prog W 9 str (fun l => l.length ≤ reachBytes) := opensZ_string Try.underlying9
theorem opensInt : OpensZ enc Try.prog W 3 i64v (fun n => -9223372036854775808 ≤ n ∧ n ≤ 9223372036854775807) := (opens_i64 Try.underlying3).z
theorem opens70 : OpensZ enc Try.prog W 70 v3v V3Z :=
  ((opensZ_struct Try.underlying70 (by kernel_rfl) (opensFZ_cons rfl (by kernel_rfl) rfl opensInt (fun _ => rfl) (opensFZ_cons rfl (by kernel_rfl) rfl opensInt (fun _ => rfl) (opensFZ_cons rfl (by kernel_rfl) rfl opensStr (fun _ => rfl) opensFZ_nil)))).map (f' := v3v) (fun x => (⟨x.1, x.2.1, x.2.2.1⟩ : V3)) (fun _ => rfl)).mono
    fun o ⟨x, ⟨h1, h2, h3, _⟩, h⟩ => h ▸ ⟨h1, h2, h3⟩
structure S5 where
  s : List UInt8
  k : Int
  v : V3
def s5v (x : S5) : AV := .agg [str x.s, i64v x.k, i64v x.v.k, i64v x.v.n, str x.v.t]
structure S5Z (x : S5) : Prop where
  s : x.s.length ≤ reachBytes
  k : -9223372036854775808 ≤ x.k ∧ x.k ≤ 9223372036854775807
  v : V3Z x.v
theorem opens72 : OpensZ enc Try.prog W 72 s5v S5Z :=
  ((opensZ_struct Try.underlying72 (by kernel_rfl) (opensFZ_cons rfl (by kernel_rfl) rfl opensStr (fun _ => rfl) (opensFZ_cons rfl (by kernel_rfl) rfl opensInt (fun _ => rfl) (opensFZ_cons (sz := 3) rfl (by kernel_rfl) rfl opens70 (fun _ => rfl) opensFZ_nil)))).map (f' := s5v) (fun x => (⟨x.1, x.2.1, x.2.2.1⟩ : S5)) (fun _ => rfl)).mono
    fun o ⟨x, ⟨h1, h2, h3, _⟩, h⟩ => h ▸ ⟨h1, h2, h3⟩
theorem opensChg : OpensZ enc Try.prog W 74 chv ChgZ :=
  ((opensZ_struct Try.underlying74 (by kernel_rfl) (opensFZ_cons rfl (by kernel_rfl) rfl opensInt (fun _ => rfl) (opensFZ_cons rfl (by kernel_rfl) rfl opensInt (fun _ => rfl) (opensFZ_cons rfl (by kernel_rfl) rfl opensStr (fun _ => rfl) (opensFZ_cons (sz := 5) rfl (by kernel_rfl) rfl opens72 (fun _ => rfl) opensFZ_nil))))).map (f' := chv)
    (fun x => (⟨x.1, x.2.1, x.2.2.1, x.2.2.2.1.s, x.2.2.2.1.k, x.2.2.2.1.v.k, x.2.2.2.1.v.n, x.2.2.2.1.v.t⟩ : Chg)) (fun _ => rfl)).mono
    fun c ⟨x, ⟨h1, h2, h3, h4, _⟩, h⟩ => by
      subst h
      have m : reachBytes ≤ maxLen := by decide
      exact ⟨⟨h1, h2, Nat.le_trans h3 m, Nat.le_trans h4.s m, h4.k, h4.v.k, h4.v.n, Nat.le_trans h4.v.t m⟩, h3, h4.s, h4.v.t⟩
end Go.Proofs.Try

namespace Go.Proofs.Try
set_option linter.unusedVariables false
open Go.PM Go.RowKit
variable {H : Type} {enc : TypeId × Value → H} {W : World}
theorem opensBss : Opens enc Try.prog W 25 (fun l : List (List UInt8) => AV.sl false (bss l)) (fun l => l.length ≤ maxLen) :=
  (opens_slice (sz := 1) (f := fun l : List UInt8 => AV.sl false (l.map b8)) Try.underlying25 (by kernel_rfl) (by decide) (fun _ => rfl) opensBytes).mono fun _ h => h.2
end Go.Proofs.Try
