/-
  THE SPECIFICATION: WHAT IS TO BE DONE, WHAT IS READ.
-/
import Derived.Test.YtnmghpieidlpbaaD3
import Derived.ChangeSame
import Derived.Test.YtnmghpieidlpbaaRows
import Derived.WalkKit
set_option linter.unusedVariables false
set_option linter.unusedSimpArgs false
namespace Go.Proofs.Try
set_option linter.unusedSimpArgs false
set_option linter.unusedVariables false
open Go.PM
set_option maxHeartbeats 4000000
set_option maxRecDepth 100000

theorem nibs_len (l : List UInt8) (i : Nat) (h : i ≤ l.length) : ((l.take i).flatMap nib).length = 2 * i := by
  induction i with
  | zero => simp
  | succ i ih =>
    rw [List.take_add_one, List.getElem?_eq_getElem (by omega), List.flatMap_append, List.length_append, ih (by omega)]
    simp [nib]; omega
theorem nibs_succ (l : List UInt8) (i : Nat) (h : i < l.length) : (l.take (i + 1)).flatMap nib = (l.take i).flatMap nib ++ nib (l.getD i 0) := by
  rw [List.take_add_one, List.getElem?_eq_getElem h, List.flatMap_append]
  simp [List.getD_eq_getElem?_getD, h]
theorem nib_av (x : UInt8) : [AV.val (.int .u8 (IntKind.u8.wrap (16 + IntKind.u8.wrap ((x.toNat : Int).tdiv 16)))), .val (.int .u8 (IntKind.u8.wrap (16 + (x.toNat : Int).tmod 16)))] = bs (nib x) := by
  rw [u8_16, u8_quo, u8_rem, u8_add, u8_add]
  rfl
theorem c47 (l : List UInt8) (hl : l.length ≤ 1000000) : PureT Try.prog 47 [.sl false (bs l)] (· = .sl false (bs (frame l))) := by
  refine CallT.res ?_
  refine CallT.intro Try.func47 (by decide) rfl ?_
  simp -implicitDefEqProofs (dsimp := false) only [go_sem, simprocAttr, bs_snoc2, enterTm, Try.ntmps47, List.range'_succ, List.range'_zero, List.zip_cons_cons, List.zip_nil_left]
  refine CodeT.seqR ?_
  simp -implicitDefEqProofs (dsimp := false) only [go_sem, simprocAttr, bs_snoc2]
  refine CodeT.seqR ?_
  simp -implicitDefEqProofs (dsimp := false) only [go_sem, simprocAttr, bs_snoc2]
  refine CodeT.seq ?_
  refine CodeT.seqR ?_
  simp -implicitDefEqProofs (dsimp := false) only [go_sem, simprocAttr, bs_snoc2]
  refine CodeT.block ?_
  refine CodeT.promote 3 1 rfl ?_
  simp -implicitDefEqProofs (dsimp := false) only [go_sem, simprocAttr, bs_snoc2]
  refine CodeT.whileS (fun i : Nat => [(4, .val (.int .i64 (i : Nat))), (3, .hsl 0 i 0 (2 * i))]) [0] (fun i : Nat => [.row true i 1 (bs ((l.take i).flatMap nib))]) (fun i : Nat => i ≤ l.length) (fun i : Nat => l.length - i) (0) ?_ rfl ?_ ?_
  omega
  refine ⟨rfl, ?_, ?_, rfl, ?_⟩
  simp -implicitDefEqProofs (dsimp := false) only [go_sem, simprocAttr, bs_snoc2, or_true, true_or, false_or, or_false, implies_true, Int.natCast_add, Int.cast_ofNat_Int, keepsD_nil]
  trivial
  simp -implicitDefEqProofs (dsimp := false) only [go_sem, simprocAttr, bs_snoc2, or_true, true_or, false_or, or_false, implies_true, Int.natCast_add, Int.cast_ofNat_Int, keepsD_nil]
  trivial
  simp -implicitDefEqProofs (dsimp := false) only [go_sem, simprocAttr, bs_snoc2, or_true, true_or, false_or, or_false, implies_true, Int.natCast_add, Int.cast_ofNat_Int, keepsD_nil]
  rintro i hi
  have f1 := nibs_len l i hi
  have f2 := nibs_succ l i
  simp -implicitDefEqProofs (dsimp := false) only [go_sem, simprocAttr, bs_snoc2]
  refine CodeT.seq ?_
  refine CodeT.seqR ?_
  simp -implicitDefEqProofs (dsimp := false) only [go_sem, simprocAttr, bs_snoc2]
  refine CodeT.cond rfl (fun g1 => ?_) (fun g1 => ?_)
  have d1 := ofDec g1
  refine CodeT.skip ?_
  simp -implicitDefEqProofs (dsimp := false) only [go_sem, simprocAttr, bs_snoc2, g1]
  refine CodeT.seq (CodeT.block ?_)
  refine CodeT.drawnL [(0, .free), (1, .free), (2, .free), (7, .free), (8, .free), (3, .read), (4, .read), (5, .free), (6, .free), (9, .read), (10, .read), (11, .free), (12, .free), (13, .upd), (14, .upd), (15, .free)] mixed (by kernel_rfl) ?_
  simp -implicitDefEqProofs (dsimp := false) only [go_sem, simprocAttr, bs_snoc2, g1]
  refine gate_i ?_ ?_
  omega
  simp -implicitDefEqProofs (dsimp := false) (disch := omega) only [Int.toNat_natCast, i64_in, bs_getD, opvs_getD, is64_getD, bss_getD]
  simp -implicitDefEqProofs (dsimp := false) only [go_sem, simprocAttr, bs_snoc2, g1]
  refine gate_i ?_ ?_
  omega
  simp -implicitDefEqProofs (dsimp := false) (disch := omega) only [Int.toNat_natCast, i64_in, bs_getD, opvs_getD, is64_getD, bss_getD]
  simp -implicitDefEqProofs (dsimp := false) only [go_sem, simprocAttr, bs_snoc2, g1]
  refine And.intro (by trivial) ?_
  refine And.intro (by exact Stable.refl _) ?_
  refine And.intro ?_ ?_
  rotate_left
  refine And.intro (by omega) ?_
  refine And.intro (by omega) ?_
  refine And.intro (by exact Stable.row (Stable.refl _)) ?_
  refine CodeT.region ?_
  simp -implicitDefEqProofs (dsimp := false) only [go_sem, simprocAttr, bs_snoc2, g1]
  simp -implicitDefEqProofs (dsimp := false) (disch := omega) only [i64_in, bs_getD, opvs_getD, is64_getD, bss_getD]
  refine ⟨i + 1, ?_⟩
  refine And.intro ?_ ?_
  omega
  refine And.intro ?_ ?_
  omega
  refine ⟨rfl, ?_, ?_, rfl, ?_⟩
  simp -implicitDefEqProofs (dsimp := false) only [go_sem, simprocAttr, bs_snoc2, g1, or_true, true_or, false_or, or_false, implies_true, Int.natCast_add, Int.cast_ofNat_Int, keepsD_nil]
  refine And.intro ?_ ?_
  (congr 1 <;> omega)
  trivial
  simp -implicitDefEqProofs (dsimp := false) only [go_sem, simprocAttr, bs_snoc2, g1, or_true, true_or, false_or, or_false, implies_true, Int.natCast_add, Int.cast_ofNat_Int, keepsD_nil]
  rotate_left
  simp -implicitDefEqProofs (dsimp := false) only [go_sem, simprocAttr, bs_snoc2, g1, or_true, true_or, false_or, or_false, implies_true, Int.natCast_add, Int.cast_ofNat_Int, keepsD_nil]
  have d1 := ofDecF g1
  refine CodeT.exit ?_
  simp -implicitDefEqProofs (dsimp := false) only [go_sem, simprocAttr, bs_snoc2, g1]
  refine CodeT.seqR ?_
  simp -implicitDefEqProofs (dsimp := false) only [go_sem, simprocAttr, bs_snoc2, g1]
  refine And.intro (by trivial) ?_
  refine And.intro ?_ ?_
  rotate_left
  refine And.intro (by omega) ?_
  refine And.intro (by omega) ?_
  refine CodeT.ret ?_
  simp -implicitDefEqProofs (dsimp := false) only [go_sem, simprocAttr, bs_snoc2, g1]
  refine And.intro (by omega) ?_
  refine pureEnd rfl ?_
  rotate_left
  · rw [nib_av]; exact uni_bs _
  · rw [nib_av, f2 (by omega), ← bs_append]
  · exact uni_bs [255]
  · have : i = l.length := by omega
    subst this
    rw [List.take_length, show [AV.val (.int .u8 255)] = bs [255] from rfl, bs_append, List.take_of_length_le (by rw [bs_length, List.length_append]; simp)]
    rfl
/-- What is told of what is seen of a disk. -/
theorem halfOf_seen (d : Dsk) (hi : isDiskB d = true) : halfOf (seenB d) = useB d := by
  have := seenB_length (isDisk_ok hi).2
  unfold halfOf; rw [this]; rfl
theorem c76s (d : Dsk) (hi : isDiskB d = true) : PureT Try.prog 76 [.sl false (bs (seenB d))] (· = .tup [.sl false (bss (parseR (useB d))), .val (.int .i64 (halfB d + endB d : Nat)), .val (.int .i64 (halfB d + szB d : Nat))]) := by
  have h1 := seenB_length (isDisk_ok hi).2
  have h2 := disk_facts hi
  have := c76 (seenB d) (by omega) (by omega)
  rw [halfOf_seen d hi, h1] at this
  exact this
theorem c77s (d : Dsk) (hi : isDiskB d = true) (hf : Few d) : PureT Try.prog 77 [dkv d] (· = .sl false (bs (seenB d))) := c77 d (isDisk_ok hi).2 hf
theorem c87 (d : Dsk) (hi : isDiskB d = true) (hf : Few d) : PureT Try.prog 87 [dkv d] (· = .val (.bool (clB d))) := by
  have h1 := seenB_length (isDisk_ok hi).2
  have h2 := disk_facts hi
  have h3 := c76 d.bytes (by omega) (by omega)
  obtain ⟨k1, k2⟩ := halfAt_le d.bytes (by omega)
  have h4 := parseE_le (halfOf d.bytes)
  have h5 : (halfOf d.bytes).length = d.bytes.length / 2 := by simp [halfOf]; omega
  have e1 : (List.take (halfB d + szB d) (seenB d)).drop (halfB d + endB d) = (useB d).drop (endB d) := by
    show _ = (List.take (szB d) (List.drop (halfB d) (seenB d))).drop (endB d)
    rw [List.take_drop, List.drop_drop]
  have e2 : halfAt d.bytes = halfB d → (List.take (halfB d + szB d) d.bytes).drop (halfAt d.bytes + parseE (halfOf d.bytes)) = (oldB d (halfB d)).drop (parseE (oldB d (halfB d))) := by
    intro h
    rw [h]
    have : halfOf d.bytes = oldB d (halfB d) := by unfold halfOf oldB; rw [h]
    rw [this]
    show _ = (List.take (szB d) (List.drop (halfB d) d.bytes)).drop _
    rw [List.take_drop, List.drop_drop]
  have e3 : ∀ b, clB d = b → (if (!zerosB ((useB d).drop (endB d))) = true then false else if (((halfAt d.bytes : Nat) : Int) != ((halfB d : Nat) : Int)) = true then false else zerosB ((oldB d (halfB d)).drop (parseE (oldB d (halfB d))))) = b := fun b h => h
  refine CallT.intro Try.func87 (by decide) rfl ?_
  simp -implicitDefEqProofs (dsimp := false) only [go_sem, simprocAttr, e1, enterTm, Try.ntmps87, List.range'_succ, List.range'_zero, List.zip_cons_cons, List.zip_nil_left]
  refine CodeT.seqR ?_
  simp -implicitDefEqProofs (dsimp := false) only [go_sem, simprocAttr, e1]
  refine CodeT.freeze 1 ?_
  simp -implicitDefEqProofs (dsimp := false) only [go_sem, simprocAttr, e1]
  refine CodeT.seqR ?_
  simp -implicitDefEqProofs (dsimp := false) only [go_sem, simprocAttr, e1]
  refine PureT.eq (c77s d hi hf) rfl ?_
  simp -implicitDefEqProofs (dsimp := false) only [go_sem, simprocAttr, e1]
  refine CodeT.seqR ?_
  simp -implicitDefEqProofs (dsimp := false) only [go_sem, simprocAttr, e1]
  refine PureT.eq (c76s d hi) rfl ?_
  simp -implicitDefEqProofs (dsimp := false) only [go_sem, simprocAttr, e1]
  refine CodeT.seqR ?_
  simp -implicitDefEqProofs (dsimp := false) only [go_sem, simprocAttr, e1]
  refine PureT.eq (h3) rfl ?_
  simp -implicitDefEqProofs (dsimp := false) only [go_sem, simprocAttr, e1]
  refine CodeT.seqR ?_
  simp -implicitDefEqProofs (dsimp := false) only [go_sem, simprocAttr, e1]
  refine gif_i (fun g9 => ?_) (fun g9 => ?_)
  have d9 := ofBeq g9
  simp -implicitDefEqProofs (dsimp := false) only [go_sem, simprocAttr, e1, g9]
  refine And.intro (by exact uni_bs _) ?_
  refine And.intro (by omega) ?_
  refine And.intro (by omega) ?_
  refine And.intro (by omega) ?_
  refine PureT.eq (c79 _ ?_) rfl ?_
  rotate_left
  simp -implicitDefEqProofs (dsimp := false) only [go_sem, simprocAttr, e1, g9]
  refine gif_i (fun g11 => ?_) (fun g11 => ?_)
  simp -implicitDefEqProofs (dsimp := false) only [go_sem, simprocAttr, e1, g9, g11]
  refine And.intro (by exact uni_bs _) ?_
  refine And.intro (by omega) ?_
  refine And.intro (by omega) ?_
  refine And.intro (by omega) ?_
  refine PureT.eq (c79 _ ?_) rfl ?_
  rotate_left
  simp -implicitDefEqProofs (dsimp := false) only [go_sem, simprocAttr, e1, g9, g11]
  refine CodeT.ret ?_
  simp -implicitDefEqProofs (dsimp := false) only [go_sem, simprocAttr, e1, g9, g11]
  refine pureEnd rfl ?_
  rotate_left
  simp -implicitDefEqProofs (dsimp := false) only [go_sem, simprocAttr, e1, g9, g11]
  refine CodeT.ret ?_
  simp -implicitDefEqProofs (dsimp := false) only [go_sem, simprocAttr, e1, g9, g11]
  refine pureEnd rfl ?_
  rotate_left
  have d9 := ofBeqF g9
  simp -implicitDefEqProofs (dsimp := false) only [go_sem, simprocAttr, e1, g9]
  refine CodeT.ret ?_
  simp -implicitDefEqProofs (dsimp := false) only [go_sem, simprocAttr, e1, g9]
  refine pureEnd rfl ?_
  rotate_left
  · rw [List.length_drop]; omega
  · rw [List.length_drop, List.length_take]; omega
  · have hh : halfAt d.bytes = halfB d := by
      have := d9; unfold szB at this; omega
    rw [← e3 _ rfl, g11, e2 hh, hh]
    simp
  · rw [← e3 _ rfl, g11]
    simp
  · have hh : halfAt d.bytes ≠ halfB d := fun h => by
      rw [h] at g9
      simp [szB] at g9
    rw [← e3 _ rfl]
    have : (((halfAt d.bytes : Nat) : Int) != ((halfB d : Nat) : Int)) = true := by simpa using (by omega : ((halfAt d.bytes : Nat) : Int) ≠ ((halfB d : Nat) : Int))
    rw [this]
    simp
theorem half_bool (d : Dsk) : (((halfB d + szB d : Nat) : Int) - ((halfB d + endB d : Nat) : Int)) = ((szB d : Nat) : Int) - (endB d : Nat) := by omega
theorem c43 (d : Dsk) (hf : Few d) : PureT Try.prog 43 [dkv d] (· = checkV d) := by
  cases hi : isDiskB d
  · refine CallT.intro Try.func43 (by decide) rfl ?_
    simp -implicitDefEqProofs (dsimp := false) only [go_sem, simprocAttr, hi, enterTm, Try.ntmps43, List.range'_succ, List.range'_zero, List.zip_cons_cons, List.zip_nil_left]
    refine CodeT.seqR ?_
    simp -implicitDefEqProofs (dsimp := false) only [go_sem, simprocAttr, hi]
    refine CodeT.seq ?_
    refine CodeT.freeze 1 ?_
    simp -implicitDefEqProofs (dsimp := false) only [go_sem, simprocAttr, hi]
    refine CodeT.seqR ?_
    simp -implicitDefEqProofs (dsimp := false) only [go_sem, simprocAttr, hi]
    refine PureT.eq (c73 _ ?_) rfl ?_
    assumption
    simp -implicitDefEqProofs (dsimp := false) only [go_sem, simprocAttr, hi]
    refine CodeT.condT rfl ?_
    refine CodeT.seqR ?_
    simp -implicitDefEqProofs (dsimp := false) only [go_sem, simprocAttr, hi]
    refine CodeT.ret ?_
    simp -implicitDefEqProofs (dsimp := false) only [go_sem, simprocAttr, hi]
    refine pureEnd rfl ?_
    simp only [checkV, hi, er, Bool.true_and, Bool.false_and, Bool.and_true, Bool.and_false, Bool.true_or, Bool.false_or, Bool.or_true, Bool.or_false, Bool.not_true, Bool.not_false, Bool.false_eq_true, ↓reduceIte]
  refine CallT.intro Try.func43 (by decide) rfl ?_
  simp -implicitDefEqProofs (dsimp := false) only [go_sem, simprocAttr, hi, enterTm, Try.ntmps43, List.range'_succ, List.range'_zero, List.zip_cons_cons, List.zip_nil_left]
  refine CodeT.seqR ?_
  simp -implicitDefEqProofs (dsimp := false) only [go_sem, simprocAttr, hi]
  refine CodeT.seq ?_
  refine CodeT.freeze 1 ?_
  simp -implicitDefEqProofs (dsimp := false) only [go_sem, simprocAttr, hi]
  refine CodeT.seqR ?_
  simp -implicitDefEqProofs (dsimp := false) only [go_sem, simprocAttr, hi]
  refine PureT.eq (c73 _ ?_) rfl ?_
  assumption
  simp -implicitDefEqProofs (dsimp := false) only [go_sem, simprocAttr, hi]
  refine CodeT.condF rfl ?_
  refine CodeT.skip ?_
  simp -implicitDefEqProofs (dsimp := false) only [go_sem, simprocAttr, hi]
  refine CodeT.seqR ?_
  simp -implicitDefEqProofs (dsimp := false) only [go_sem, simprocAttr, hi]
  refine PureT.eq (c77s d hi hf) rfl ?_
  simp -implicitDefEqProofs (dsimp := false) only [go_sem, simprocAttr, hi]
  refine PureT.eq (c76s d hi) rfl ?_
  simp -implicitDefEqProofs (dsimp := false) only [go_sem, simprocAttr, hi]
  refine CodeT.seqR ?_
  simp -implicitDefEqProofs (dsimp := false) only [go_sem, simprocAttr, hi]
  refine gif_i (fun g4 => ?_) (fun g4 => ?_)
  have d4 := ofDec g4
  simp -implicitDefEqProofs (dsimp := false) only [go_sem, simprocAttr, hi, g4]
  refine PureT.eq (c87 d hi hf) rfl ?_
  simp -implicitDefEqProofs (dsimp := false) only [go_sem, simprocAttr, hi, g4]
  refine CodeT.ret ?_
  simp -implicitDefEqProofs (dsimp := false) only [go_sem, simprocAttr, hi, g4]
  refine pureEnd rfl ?_
  simp only [checkV, hi, er, wrB_eq, g4, Bool.true_and, Bool.false_and, Bool.and_true, Bool.and_false, Bool.true_or, Bool.false_or, Bool.or_true, Bool.or_false, Bool.not_true, Bool.not_false, Bool.false_eq_true, ↓reduceIte]
  have d4 := ofDecF g4
  simp -implicitDefEqProofs (dsimp := false) only [go_sem, simprocAttr, hi, g4]
  refine CodeT.ret ?_
  simp -implicitDefEqProofs (dsimp := false) only [go_sem, simprocAttr, hi, g4]
  refine pureEnd rfl ?_
  simp only [checkV, hi, er, wrB_eq, g4, Bool.true_and, Bool.false_and, Bool.and_true, Bool.and_false, Bool.true_or, Bool.false_or, Bool.or_true, Bool.or_false, Bool.not_true, Bool.not_false, Bool.false_eq_true, ↓reduceIte]
theorem c30 (d : Dsk) (hf : Few d) (base : List UInt8) (hb : base.length ≤ 1000000) : PureT Try.prog 30 [dkv d, .sl false (bs base)] (· = formatV d base) := by
  refine CallT.laxR ?_
  have hl := frame_length base
  cases hi : isDiskB d
  · refine CallT.intro Try.func30 (by decide) rfl ?_
    simp -implicitDefEqProofs (dsimp := false) only [go_sem, simprocAttr, hi, enterTm, Try.ntmps30, List.range'_succ, List.range'_zero, List.zip_cons_cons, List.zip_nil_left]
    refine CodeT.seqR ?_
    simp -implicitDefEqProofs (dsimp := false) only [go_sem, simprocAttr, hi]
    refine CodeT.seq ?_
    refine CodeT.freeze 2 ?_
    simp -implicitDefEqProofs (dsimp := false) only [go_sem, simprocAttr, hi]
    refine CodeT.seqR ?_
    simp -implicitDefEqProofs (dsimp := false) only [go_sem, simprocAttr, hi]
    refine PureT.eq (c73 _ ?_) rfl ?_
    assumption
    simp -implicitDefEqProofs (dsimp := false) only [go_sem, simprocAttr, hi]
    refine CodeT.condT rfl ?_
    refine CodeT.seqR ?_
    simp -implicitDefEqProofs (dsimp := false) only [go_sem, simprocAttr, hi]
    refine CodeT.ret ?_
    simp -implicitDefEqProofs (dsimp := false) only [go_sem, simprocAttr, hi]
    refine pureEnd rfl ?_
    simp only [formatV, hi, er, Bool.true_and, Bool.false_and, Bool.and_true, Bool.and_false, Bool.true_or, Bool.false_or, Bool.or_true, Bool.or_false, Bool.not_true, Bool.not_false, Bool.false_eq_true, ↓reduceIte]
  have hd := disk_facts hi
  have hh := half_len (n := d.bytes.length) (by omega)
  refine CallT.intro Try.func30 (by decide) rfl ?_
  simp -implicitDefEqProofs (dsimp := false) only [go_sem, simprocAttr, hi, hh, enterTm, Try.ntmps30, List.range'_succ, List.range'_zero, List.zip_cons_cons, List.zip_nil_left]
  refine CodeT.seqR ?_
  simp -implicitDefEqProofs (dsimp := false) only [go_sem, simprocAttr, hi, hh]
  refine CodeT.seq ?_
  refine CodeT.freeze 2 ?_
  simp -implicitDefEqProofs (dsimp := false) only [go_sem, simprocAttr, hi, hh]
  refine CodeT.seqR ?_
  simp -implicitDefEqProofs (dsimp := false) only [go_sem, simprocAttr, hi, hh]
  refine PureT.eq (c73 _ ?_) rfl ?_
  assumption
  simp -implicitDefEqProofs (dsimp := false) only [go_sem, simprocAttr, hi, hh]
  refine CodeT.condF rfl ?_
  refine CodeT.skip ?_
  simp -implicitDefEqProofs (dsimp := false) only [go_sem, simprocAttr, hi, hh]
  refine CodeT.seqR ?_
  simp -implicitDefEqProofs (dsimp := false) only [go_sem, simprocAttr, hi, hh]
  refine PureT.eq (c47 _ ?_) rfl ?_
  assumption
  simp -implicitDefEqProofs (dsimp := false) only [go_sem, simprocAttr, hi, hh]
  refine CodeT.seq ?_
  refine CodeT.seqR ?_
  simp -implicitDefEqProofs (dsimp := false) only [go_sem, simprocAttr, hi, hh]
  refine CodeT.cond rfl (fun g3 => ?_) (fun g3 => ?_)
  have d3 := ofDec g3
  refine CodeT.seqR ?_
  simp -implicitDefEqProofs (dsimp := false) only [go_sem, simprocAttr, hi, hh, g3]
  refine CodeT.ret ?_
  simp -implicitDefEqProofs (dsimp := false) only [go_sem, simprocAttr, hi, hh, g3]
  refine pureEnd rfl ?_
  rotate_left
  have d3 := ofDecF g3
  refine CodeT.skip ?_
  simp -implicitDefEqProofs (dsimp := false) only [go_sem, simprocAttr, hi, hh, g3]
  refine CodeT.seqR ?_
  simp -implicitDefEqProofs (dsimp := false) only [go_sem, simprocAttr, hi, hh, g3]
  refine And.intro (by omega) ?_
  refine And.intro (by omega) ?_
  refine And.intro (by omega) ?_
  refine CallT.args ⟨_, Try.func74, by decide, rfl⟩ ?_
  simp -implicitDefEqProofs (dsimp := false) only [go_sem, simprocAttr, hi, hh, g3]
  refine And.intro (by omega) ?_
  refine PureT.eq (c74 _ _) rfl ?_
  simp -implicitDefEqProofs (dsimp := false) only [go_sem, simprocAttr, hi, hh, g3]
  refine PureT.eq (c75) rfl ?_
  simp -implicitDefEqProofs (dsimp := false) only [go_sem, simprocAttr, hi, hh, g3]
  refine PureT.eq (c74 _ _) rfl ?_
  simp -implicitDefEqProofs (dsimp := false) only [go_sem, simprocAttr, hi, hh, g3]
  refine PureT.eq (c75) rfl ?_
  simp -implicitDefEqProofs (dsimp := false) only [go_sem, simprocAttr, hi, hh, g3]
  refine And.intro (by trivial) ?_
  refine CodeT.ret ?_
  simp -implicitDefEqProofs (dsimp := false) only [go_sem, simprocAttr, hi, hh, g3]
  refine pureEnd rfl ?_
  rotate_left
  · unfold formatV szB; rw [hi, g3]; rfl
  · unfold formatV szB; rw [hi, g3]; rfl
theorem c32 (d : Dsk) (hf : Few d) (r : List UInt8) (hb : r.length ≤ 1000000) : PureT Try.prog 32 [dkv d, .sl false (bs r)] (· = appendV d r) := by
  refine CallT.laxR ?_
  have hl := frame_length r
  cases hi : isDiskB d
  · refine CallT.intro Try.func32 (by decide) rfl ?_
    simp -implicitDefEqProofs (dsimp := false) only [go_sem, simprocAttr, hi, checkV, enterTm, Try.ntmps32, List.range'_succ, List.range'_zero, List.zip_cons_cons, List.zip_nil_left]
    refine CodeT.seqR ?_
    simp -implicitDefEqProofs (dsimp := false) only [go_sem, simprocAttr, hi, checkV]
    refine CodeT.freeze 2 ?_
    simp -implicitDefEqProofs (dsimp := false) only [go_sem, simprocAttr, hi, checkV]
    refine CodeT.seqR ?_
    simp -implicitDefEqProofs (dsimp := false) only [go_sem, simprocAttr, hi, checkV]
    refine PureT.eq (c43 _ ?_) rfl ?_
    assumption
    simp -implicitDefEqProofs (dsimp := false) only [go_sem, simprocAttr, hi, checkV]
    refine CodeT.seq ?_
    refine CodeT.seqR ?_
    simp -implicitDefEqProofs (dsimp := false) only [go_sem, simprocAttr, hi, checkV]
    refine CodeT.condT rfl ?_
    refine CodeT.seqR ?_
    simp -implicitDefEqProofs (dsimp := false) only [go_sem, simprocAttr, hi, checkV]
    refine CodeT.ret ?_
    simp -implicitDefEqProofs (dsimp := false) only [go_sem, simprocAttr, hi, checkV]
    refine pureEnd rfl ?_
    simp only [appendV, hi, er, Bool.true_and, Bool.false_and, Bool.and_true, Bool.and_false, Bool.true_or, Bool.false_or, Bool.or_true, Bool.or_false, Bool.not_true, Bool.not_false, Bool.false_eq_true, ↓reduceIte]
  have hd := disk_facts hi
  cases hw : wrB d
  · refine CallT.intro Try.func32 (by decide) rfl ?_
    simp -implicitDefEqProofs (dsimp := false) only [go_sem, simprocAttr, hi, hw, checkV, enterTm, Try.ntmps32, List.range'_succ, List.range'_zero, List.zip_cons_cons, List.zip_nil_left]
    refine CodeT.seqR ?_
    simp -implicitDefEqProofs (dsimp := false) only [go_sem, simprocAttr, hi, hw, checkV]
    refine CodeT.freeze 2 ?_
    simp -implicitDefEqProofs (dsimp := false) only [go_sem, simprocAttr, hi, hw, checkV]
    refine CodeT.seqR ?_
    simp -implicitDefEqProofs (dsimp := false) only [go_sem, simprocAttr, hi, hw, checkV]
    refine PureT.eq (c43 _ ?_) rfl ?_
    assumption
    simp -implicitDefEqProofs (dsimp := false) only [go_sem, simprocAttr, hi, hw, checkV]
    refine CodeT.seq ?_
    refine CodeT.seqR ?_
    simp -implicitDefEqProofs (dsimp := false) only [go_sem, simprocAttr, hi, hw, checkV]
    refine CodeT.condF rfl ?_
    refine CodeT.skip ?_
    simp -implicitDefEqProofs (dsimp := false) only [go_sem, simprocAttr, hi, hw, checkV]
    refine CodeT.seq ?_
    refine CodeT.seqR ?_
    simp -implicitDefEqProofs (dsimp := false) only [go_sem, simprocAttr, hi, hw, checkV]
    refine CodeT.condT rfl ?_
    refine CodeT.seqR ?_
    simp -implicitDefEqProofs (dsimp := false) only [go_sem, simprocAttr, hi, hw, checkV]
    refine CodeT.ret ?_
    simp -implicitDefEqProofs (dsimp := false) only [go_sem, simprocAttr, hi, hw, checkV]
    refine pureEnd rfl ?_
    simp only [appendV, hi, er, hw, Bool.true_and, Bool.false_and, Bool.and_true, Bool.and_false, Bool.true_or, Bool.false_or, Bool.or_true, Bool.or_false, Bool.not_true, Bool.not_false, Bool.false_eq_true, ↓reduceIte]
  cases hc : clB d
  · refine CallT.intro Try.func32 (by decide) rfl ?_
    simp -implicitDefEqProofs (dsimp := false) only [go_sem, simprocAttr, hi, hw, hc, checkV, enterTm, Try.ntmps32, List.range'_succ, List.range'_zero, List.zip_cons_cons, List.zip_nil_left]
    refine CodeT.seqR ?_
    simp -implicitDefEqProofs (dsimp := false) only [go_sem, simprocAttr, hi, hw, hc, checkV]
    refine CodeT.freeze 2 ?_
    simp -implicitDefEqProofs (dsimp := false) only [go_sem, simprocAttr, hi, hw, hc, checkV]
    refine CodeT.seqR ?_
    simp -implicitDefEqProofs (dsimp := false) only [go_sem, simprocAttr, hi, hw, hc, checkV]
    refine PureT.eq (c43 _ ?_) rfl ?_
    assumption
    simp -implicitDefEqProofs (dsimp := false) only [go_sem, simprocAttr, hi, hw, hc, checkV]
    refine CodeT.seq ?_
    refine CodeT.seqR ?_
    simp -implicitDefEqProofs (dsimp := false) only [go_sem, simprocAttr, hi, hw, hc, checkV]
    refine CodeT.condF rfl ?_
    refine CodeT.skip ?_
    simp -implicitDefEqProofs (dsimp := false) only [go_sem, simprocAttr, hi, hw, hc, checkV]
    refine CodeT.seq ?_
    refine CodeT.seqR ?_
    simp -implicitDefEqProofs (dsimp := false) only [go_sem, simprocAttr, hi, hw, hc, checkV]
    refine CodeT.condT rfl ?_
    refine CodeT.seqR ?_
    simp -implicitDefEqProofs (dsimp := false) only [go_sem, simprocAttr, hi, hw, hc, checkV]
    refine CodeT.ret ?_
    simp -implicitDefEqProofs (dsimp := false) only [go_sem, simprocAttr, hi, hw, hc, checkV]
    refine pureEnd rfl ?_
    simp only [appendV, hi, er, hw, hc, Bool.true_and, Bool.false_and, Bool.and_true, Bool.and_false, Bool.true_or, Bool.false_or, Bool.or_true, Bool.or_false, Bool.not_true, Bool.not_false, Bool.false_eq_true, ↓reduceIte]
  refine CallT.intro Try.func32 (by decide) rfl ?_
  simp -implicitDefEqProofs (dsimp := false) only [go_sem, simprocAttr, hi, hw, hc, checkV, enterTm, Try.ntmps32, List.range'_succ, List.range'_zero, List.zip_cons_cons, List.zip_nil_left]
  refine CodeT.seqR ?_
  simp -implicitDefEqProofs (dsimp := false) only [go_sem, simprocAttr, hi, hw, hc, checkV]
  refine CodeT.freeze 2 ?_
  simp -implicitDefEqProofs (dsimp := false) only [go_sem, simprocAttr, hi, hw, hc, checkV]
  refine CodeT.seqR ?_
  simp -implicitDefEqProofs (dsimp := false) only [go_sem, simprocAttr, hi, hw, hc, checkV]
  refine PureT.eq (c43 _ ?_) rfl ?_
  assumption
  simp -implicitDefEqProofs (dsimp := false) only [go_sem, simprocAttr, hi, hw, hc, checkV]
  refine CodeT.seq ?_
  refine CodeT.seqR ?_
  simp -implicitDefEqProofs (dsimp := false) only [go_sem, simprocAttr, hi, hw, hc, checkV]
  refine CodeT.condF rfl ?_
  refine CodeT.skip ?_
  simp -implicitDefEqProofs (dsimp := false) only [go_sem, simprocAttr, hi, hw, hc, checkV]
  refine CodeT.seq ?_
  refine CodeT.seqR ?_
  simp -implicitDefEqProofs (dsimp := false) only [go_sem, simprocAttr, hi, hw, hc, checkV]
  refine CodeT.condF rfl ?_
  refine CodeT.skip ?_
  simp -implicitDefEqProofs (dsimp := false) only [go_sem, simprocAttr, hi, hw, hc, checkV]
  refine CodeT.seqR ?_
  simp -implicitDefEqProofs (dsimp := false) only [go_sem, simprocAttr, hi, hw, hc, checkV]
  refine PureT.eq (c77s d hi hf) rfl ?_
  simp -implicitDefEqProofs (dsimp := false) only [go_sem, simprocAttr, hi, hw, hc, checkV]
  refine PureT.eq (c76s d hi) rfl ?_
  simp -implicitDefEqProofs (dsimp := false) only [go_sem, simprocAttr, hi, hw, hc, checkV]
  refine CodeT.seqR ?_
  simp -implicitDefEqProofs (dsimp := false) only [go_sem, simprocAttr, hi, hw, hc, checkV]
  refine PureT.eq (c47 _ ?_) rfl ?_
  assumption
  simp -implicitDefEqProofs (dsimp := false) only [go_sem, simprocAttr, hi, hw, hc, checkV]
  refine CodeT.seq ?_
  refine CodeT.seqR ?_
  simp -implicitDefEqProofs (dsimp := false) only [go_sem, simprocAttr, hi, hw, hc, checkV]
  simp -implicitDefEqProofs (dsimp := false) (disch := omega) only [i64_in, bs_getD, opvs_getD, is64_getD, bss_getD]
  refine CodeT.cond rfl (fun g5 => ?_) (fun g5 => ?_)
  have d5 := ofDec g5
  refine CodeT.seqR ?_
  simp -implicitDefEqProofs (dsimp := false) only [go_sem, simprocAttr, hi, hw, hc, checkV, g5]
  refine CodeT.ret ?_
  simp -implicitDefEqProofs (dsimp := false) only [go_sem, simprocAttr, hi, hw, hc, checkV, g5]
  refine pureEnd rfl ?_
  (simp [appendV, hi, hw, hc, er, wr, fl, zs, opvs, List.map_cons, List.map_nil, half_bool, Int.natCast_add, *]; omega)
  have d5 := ofDecF g5
  refine CodeT.skip ?_
  simp -implicitDefEqProofs (dsimp := false) only [go_sem, simprocAttr, hi, hw, hc, checkV, g5]
  refine CodeT.seqR ?_
  simp -implicitDefEqProofs (dsimp := false) only [go_sem, simprocAttr, hi, hw, hc, checkV, g5]
  refine PureT.eq (c74 _ _) rfl ?_
  simp -implicitDefEqProofs (dsimp := false) only [go_sem, simprocAttr, hi, hw, hc, checkV, g5]
  refine And.intro (by trivial) ?_
  refine CodeT.ret ?_
  simp -implicitDefEqProofs (dsimp := false) only [go_sem, simprocAttr, hi, hw, hc, checkV, g5]
  refine pureEnd rfl ?_
  (simp [appendV, hi, hw, hc, er, wr, fl, zs, opvs, List.map_cons, List.map_nil, half_bool, Int.natCast_add, *]; omega)
theorem c34 (d : Dsk) (hf : Few d) (r : List UInt8) (hb : r.length ≤ 1000000) : PureT Try.prog 34 [dkv d, .sl false (bs r)] (· = checkinV d r) := by
  refine CallT.laxR ?_
  have hl := frame_length r
  cases hi : isDiskB d
  · refine CallT.intro Try.func34 (by decide) rfl ?_
    simp -implicitDefEqProofs (dsimp := false) only [go_sem, simprocAttr, hi, checkV, enterTm, Try.ntmps34, List.range'_succ, List.range'_zero, List.zip_cons_cons, List.zip_nil_left]
    refine CodeT.seqR ?_
    simp -implicitDefEqProofs (dsimp := false) only [go_sem, simprocAttr, hi, checkV]
    refine CodeT.freeze 2 ?_
    simp -implicitDefEqProofs (dsimp := false) only [go_sem, simprocAttr, hi, checkV]
    refine CodeT.seqR ?_
    simp -implicitDefEqProofs (dsimp := false) only [go_sem, simprocAttr, hi, checkV]
    refine PureT.eq (c43 _ ?_) rfl ?_
    assumption
    simp -implicitDefEqProofs (dsimp := false) only [go_sem, simprocAttr, hi, checkV]
    refine CodeT.seq ?_
    refine CodeT.seqR ?_
    simp -implicitDefEqProofs (dsimp := false) only [go_sem, simprocAttr, hi, checkV]
    refine CodeT.condT rfl ?_
    refine CodeT.seqR ?_
    simp -implicitDefEqProofs (dsimp := false) only [go_sem, simprocAttr, hi, checkV]
    refine CodeT.ret ?_
    simp -implicitDefEqProofs (dsimp := false) only [go_sem, simprocAttr, hi, checkV]
    refine pureEnd rfl ?_
    simp only [checkinV, hi, er, Bool.true_and, Bool.false_and, Bool.and_true, Bool.and_false, Bool.true_or, Bool.false_or, Bool.or_true, Bool.or_false, Bool.not_true, Bool.not_false, Bool.false_eq_true, ↓reduceIte]
  have hd := disk_facts hi
  have hh := half_len (n := d.bytes.length) (by omega)
  have hs := seenB_length (isDisk_ok hi).2
  cases hw : wrB d
  · refine CallT.intro Try.func34 (by decide) rfl ?_
    simp -implicitDefEqProofs (dsimp := false) only [go_sem, simprocAttr, hi, hw, checkV, enterTm, Try.ntmps34, List.range'_succ, List.range'_zero, List.zip_cons_cons, List.zip_nil_left]
    refine CodeT.seqR ?_
    simp -implicitDefEqProofs (dsimp := false) only [go_sem, simprocAttr, hi, hw, checkV]
    refine CodeT.freeze 2 ?_
    simp -implicitDefEqProofs (dsimp := false) only [go_sem, simprocAttr, hi, hw, checkV]
    refine CodeT.seqR ?_
    simp -implicitDefEqProofs (dsimp := false) only [go_sem, simprocAttr, hi, hw, checkV]
    refine PureT.eq (c43 _ ?_) rfl ?_
    assumption
    simp -implicitDefEqProofs (dsimp := false) only [go_sem, simprocAttr, hi, hw, checkV]
    refine CodeT.seq ?_
    refine CodeT.seqR ?_
    simp -implicitDefEqProofs (dsimp := false) only [go_sem, simprocAttr, hi, hw, checkV]
    refine CodeT.condF rfl ?_
    refine CodeT.skip ?_
    simp -implicitDefEqProofs (dsimp := false) only [go_sem, simprocAttr, hi, hw, checkV]
    refine CodeT.seq ?_
    refine CodeT.seqR ?_
    simp -implicitDefEqProofs (dsimp := false) only [go_sem, simprocAttr, hi, hw, checkV]
    refine CodeT.condT rfl ?_
    refine CodeT.seqR ?_
    simp -implicitDefEqProofs (dsimp := false) only [go_sem, simprocAttr, hi, hw, checkV]
    refine CodeT.ret ?_
    simp -implicitDefEqProofs (dsimp := false) only [go_sem, simprocAttr, hi, hw, checkV]
    refine pureEnd rfl ?_
    simp only [checkinV, hi, er, hw, Bool.true_and, Bool.false_and, Bool.and_true, Bool.and_false, Bool.true_or, Bool.false_or, Bool.or_true, Bool.or_false, Bool.not_true, Bool.not_false, Bool.false_eq_true, ↓reduceIte]
  refine CallT.intro Try.func34 (by decide) rfl ?_
  simp -implicitDefEqProofs (dsimp := false) only [go_sem, simprocAttr, hi, hw, checkV, hh, one_u8, zero_u8, enterTm, Try.ntmps34, List.range'_succ, List.range'_zero, List.zip_cons_cons, List.zip_nil_left]
  refine CodeT.seqR ?_
  simp -implicitDefEqProofs (dsimp := false) only [go_sem, simprocAttr, hi, hw, checkV, hh, one_u8, zero_u8]
  refine CodeT.freeze 2 ?_
  simp -implicitDefEqProofs (dsimp := false) only [go_sem, simprocAttr, hi, hw, checkV, hh, one_u8, zero_u8]
  refine CodeT.seqR ?_
  simp -implicitDefEqProofs (dsimp := false) only [go_sem, simprocAttr, hi, hw, checkV, hh, one_u8, zero_u8]
  refine PureT.eq (c43 _ ?_) rfl ?_
  assumption
  simp -implicitDefEqProofs (dsimp := false) only [go_sem, simprocAttr, hi, hw, checkV, hh, one_u8, zero_u8]
  refine CodeT.seq ?_
  refine CodeT.seqR ?_
  simp -implicitDefEqProofs (dsimp := false) only [go_sem, simprocAttr, hi, hw, checkV, hh, one_u8, zero_u8]
  refine CodeT.condF rfl ?_
  refine CodeT.skip ?_
  simp -implicitDefEqProofs (dsimp := false) only [go_sem, simprocAttr, hi, hw, checkV, hh, one_u8, zero_u8]
  refine CodeT.seq ?_
  refine CodeT.seqR ?_
  simp -implicitDefEqProofs (dsimp := false) only [go_sem, simprocAttr, hi, hw, checkV, hh, one_u8, zero_u8]
  refine CodeT.condF rfl ?_
  refine CodeT.skip ?_
  simp -implicitDefEqProofs (dsimp := false) only [go_sem, simprocAttr, hi, hw, checkV, hh, one_u8, zero_u8]
  refine CodeT.seqR ?_
  simp -implicitDefEqProofs (dsimp := false) only [go_sem, simprocAttr, hi, hw, checkV, hh, one_u8, zero_u8]
  refine CodeT.seqR ?_
  simp -implicitDefEqProofs (dsimp := false) only [go_sem, simprocAttr, hi, hw, checkV, hh, one_u8, zero_u8]
  refine PureT.eq (c47 _ ?_) rfl ?_
  assumption
  simp -implicitDefEqProofs (dsimp := false) only [go_sem, simprocAttr, hi, hw, checkV, hh, one_u8, zero_u8]
  refine CodeT.seq ?_
  refine CodeT.seqR ?_
  simp -implicitDefEqProofs (dsimp := false) only [go_sem, simprocAttr, hi, hw, checkV, hh, one_u8, zero_u8]
  refine CodeT.cond rfl (fun g3 => ?_) (fun g3 => ?_)
  have d3 := ofDec g3
  refine CodeT.seqR ?_
  simp -implicitDefEqProofs (dsimp := false) only [go_sem, simprocAttr, hi, hw, checkV, hh, one_u8, zero_u8, g3]
  refine CodeT.ret ?_
  simp -implicitDefEqProofs (dsimp := false) only [go_sem, simprocAttr, hi, hw, checkV, hh, one_u8, zero_u8, g3]
  refine pureEnd rfl ?_
  (simp [checkinV, hi, hw, er, wr, fl, zs, opvs, List.map_cons, List.map_nil, *]; omega)
  have d3 := ofDecF g3
  refine CodeT.skip ?_
  simp -implicitDefEqProofs (dsimp := false) only [go_sem, simprocAttr, hi, hw, checkV, hh, one_u8, zero_u8, g3]
  refine CodeT.seqR ?_
  simp -implicitDefEqProofs (dsimp := false) only [go_sem, simprocAttr, hi, hw, checkV, hh, one_u8, zero_u8, g3]
  refine CodeT.seqR ?_
  simp -implicitDefEqProofs (dsimp := false) only [go_sem, simprocAttr, hi, hw, checkV, hh, one_u8, zero_u8, g3]
  refine And.intro (by trivial) ?_
  refine CodeT.seq ?_
  refine CodeT.seqR ?_
  simp -implicitDefEqProofs (dsimp := false) only [go_sem, simprocAttr, hi, hw, checkV, hh, one_u8, zero_u8, g3]
  refine PureT.eq (c77s d hi hf) rfl ?_
  simp -implicitDefEqProofs (dsimp := false) only [go_sem, simprocAttr, hi, hw, checkV, hh, one_u8, zero_u8, g3]
  refine gate_i ?_ ?_
  omega
  simp -implicitDefEqProofs (dsimp := false) (disch := omega) only [Int.toNat_natCast, i64_in, bs_getD, opvs_getD, is64_getD, bss_getD]
  simp -implicitDefEqProofs (dsimp := false) only [go_sem, simprocAttr, hi, hw, checkV, hh, one_u8, zero_u8, g3]
  refine CodeT.cond rfl (fun g5 => ?_) (fun g5 => ?_)
  have d5 := ofBeq g5
  refine CodeT.seqR ?_
  simp -implicitDefEqProofs (dsimp := false) only [go_sem, simprocAttr, hi, hw, checkV, hh, one_u8, zero_u8, g3, g5]
  refine CodeT.region ?_
  simp -implicitDefEqProofs (dsimp := false) only [go_sem, simprocAttr, hi, hw, checkV, hh, one_u8, zero_u8, g3, g5]
  refine And.intro (by trivial) ?_
  refine CodeT.seqR ?_
  simp -implicitDefEqProofs (dsimp := false) only [go_sem, simprocAttr, hi, hw, checkV, hh, one_u8, zero_u8, g3, g5]
  refine And.intro (by omega) ?_
  refine And.intro (by omega) ?_
  refine And.intro (by omega) ?_
  refine CallT.args ⟨_, Try.func74, by decide, rfl⟩ ?_
  simp -implicitDefEqProofs (dsimp := false) only [go_sem, simprocAttr, hi, hw, checkV, hh, one_u8, zero_u8, g3, g5]
  refine And.intro (by omega) ?_
  refine PureT.eq (c74 _ _) rfl ?_
  simp -implicitDefEqProofs (dsimp := false) only [go_sem, simprocAttr, hi, hw, checkV, hh, one_u8, zero_u8, g3, g5]
  refine PureT.eq (c75) rfl ?_
  simp -implicitDefEqProofs (dsimp := false) only [go_sem, simprocAttr, hi, hw, checkV, hh, one_u8, zero_u8, g3, g5]
  refine PureT.eq (c74 _ _) rfl ?_
  simp -implicitDefEqProofs (dsimp := false) only [go_sem, simprocAttr, hi, hw, checkV, hh, one_u8, zero_u8, g3, g5]
  refine PureT.eq (c75) rfl ?_
  simp -implicitDefEqProofs (dsimp := false) only [go_sem, simprocAttr, hi, hw, checkV, hh, one_u8, zero_u8, g3, g5]
  refine CallT.laxA ?_
  simp -implicitDefEqProofs (dsimp := false) only [go_sem, simprocAttr, hi, hw, checkV, hh, one_u8, zero_u8, g3, g5]
  refine PureT.eq (c74 _ _) rfl ?_
  simp -implicitDefEqProofs (dsimp := false) only [go_sem, simprocAttr, hi, hw, checkV, hh, one_u8, zero_u8, g3, g5]
  refine PureT.eq (c75) rfl ?_
  simp -implicitDefEqProofs (dsimp := false) only [go_sem, simprocAttr, hi, hw, checkV, hh, one_u8, zero_u8, g3, g5]
  refine And.intro (by trivial) ?_
  refine CodeT.ret ?_
  simp -implicitDefEqProofs (dsimp := false) only [go_sem, simprocAttr, hi, hw, checkV, hh, one_u8, zero_u8, g3, g5]
  refine pureEnd rfl ?_
  simp -implicitDefEqProofs (dsimp := false) (disch := omega) only [i64_in, bs_getD, opvs_getD, is64_getD, bss_getD]
  rotate_left
  have d5 := ofBeqF g5
  refine CodeT.skip ?_
  simp -implicitDefEqProofs (dsimp := false) only [go_sem, simprocAttr, hi, hw, checkV, hh, one_u8, zero_u8, g3, g5]
  refine CodeT.seqR ?_
  simp -implicitDefEqProofs (dsimp := false) only [go_sem, simprocAttr, hi, hw, checkV, hh, one_u8, zero_u8, g3, g5]
  refine And.intro (by omega) ?_
  refine And.intro (by omega) ?_
  refine And.intro (by omega) ?_
  refine CallT.args ⟨_, Try.func74, by decide, rfl⟩ ?_
  simp -implicitDefEqProofs (dsimp := false) only [go_sem, simprocAttr, hi, hw, checkV, hh, one_u8, zero_u8, g3, g5]
  refine And.intro (by omega) ?_
  refine PureT.eq (c74 _ _) rfl ?_
  simp -implicitDefEqProofs (dsimp := false) only [go_sem, simprocAttr, hi, hw, checkV, hh, one_u8, zero_u8, g3, g5]
  refine PureT.eq (c75) rfl ?_
  simp -implicitDefEqProofs (dsimp := false) only [go_sem, simprocAttr, hi, hw, checkV, hh, one_u8, zero_u8, g3, g5]
  refine PureT.eq (c74 _ _) rfl ?_
  simp -implicitDefEqProofs (dsimp := false) only [go_sem, simprocAttr, hi, hw, checkV, hh, one_u8, zero_u8, g3, g5]
  refine PureT.eq (c75) rfl ?_
  simp -implicitDefEqProofs (dsimp := false) only [go_sem, simprocAttr, hi, hw, checkV, hh, one_u8, zero_u8, g3, g5]
  refine CallT.laxA ?_
  simp -implicitDefEqProofs (dsimp := false) only [go_sem, simprocAttr, hi, hw, checkV, hh, one_u8, zero_u8, g3, g5]
  refine PureT.eq (c74 _ _) rfl ?_
  simp -implicitDefEqProofs (dsimp := false) only [go_sem, simprocAttr, hi, hw, checkV, hh, one_u8, zero_u8, g3, g5]
  refine PureT.eq (c75) rfl ?_
  simp -implicitDefEqProofs (dsimp := false) only [go_sem, simprocAttr, hi, hw, checkV, hh, one_u8, zero_u8, g3, g5]
  refine And.intro (by trivial) ?_
  refine CodeT.ret ?_
  simp -implicitDefEqProofs (dsimp := false) only [go_sem, simprocAttr, hi, hw, checkV, hh, one_u8, zero_u8, g3, g5]
  refine pureEnd rfl ?_
  rotate_left
  · have h0 : (seenB d).getD 0 0 = 0 := UInt8.toNat_inj.1 (by have := d5; rw [show (0 : UInt8).toNat = 0 from rfl]; omega)
    have hB : halfB d = 1 := by unfold halfB halfAt; rw [if_pos h0]
    unfold checkinV otherB turnB szB
    rw [hi, hw, hB, g3, show (2 + ((d.bytes.length / 2 : Nat) : Int) - ((1 : Nat) : Int)) = 1 + ((d.bytes.length / 2 : Nat) : Int) by omega]
    rfl
  · have h0 : (seenB d).getD 0 0 ≠ 0 := fun h => d5 (by rw [h]; rfl)
    have hB : halfB d = 1 + szB d := by unfold halfB halfAt; rw [if_neg h0, hs]; rfl
    have hn : (((1 + d.bytes.length / 2 : Nat) : Int) == 1) = false := by
      have := hd.2.2.1
      unfold szB at this
      simp; omega
    unfold checkinV otherB turnB szB
    unfold szB at hB
    rw [hi, hw, hB, g3, hn, show (2 + ((d.bytes.length / 2 : Nat) : Int) - ((1 + d.bytes.length / 2 : Nat) : Int)) = 1 by omega]
    rfl
theorem c35 (d : Dsk) (hf : Few d) : PureT Try.prog 35 [dkv d] (· = openV d) := by
  refine CallT.laxR ?_
  have hq := hf.q
  cases hi : isDiskB d
  · refine CallT.intro Try.func35 (by decide) rfl ?_
    simp -implicitDefEqProofs (dsimp := false) only [go_sem, simprocAttr, hi, checkV, enterTm, Try.ntmps35, List.range'_succ, List.range'_zero, List.zip_cons_cons, List.zip_nil_left]
    refine CodeT.seqR ?_
    simp -implicitDefEqProofs (dsimp := false) only [go_sem, simprocAttr, hi, checkV]
    refine CodeT.freeze 1 ?_
    simp -implicitDefEqProofs (dsimp := false) only [go_sem, simprocAttr, hi, checkV]
    refine CodeT.seqR ?_
    simp -implicitDefEqProofs (dsimp := false) only [go_sem, simprocAttr, hi, checkV]
    refine PureT.eq (c43 _ ?_) rfl ?_
    assumption
    simp -implicitDefEqProofs (dsimp := false) only [go_sem, simprocAttr, hi, checkV]
    refine CodeT.seq ?_
    refine CodeT.seqR ?_
    simp -implicitDefEqProofs (dsimp := false) only [go_sem, simprocAttr, hi, checkV]
    refine CodeT.condT rfl ?_
    refine CodeT.seqR ?_
    simp -implicitDefEqProofs (dsimp := false) only [go_sem, simprocAttr, hi, checkV]
    refine CodeT.ret ?_
    simp -implicitDefEqProofs (dsimp := false) only [go_sem, simprocAttr, hi, checkV]
    refine pureEnd rfl ?_
    simp only [openV, hi, er, Bool.true_and, Bool.false_and, Bool.and_true, Bool.and_false, Bool.true_or, Bool.false_or, Bool.or_true, Bool.or_false, Bool.not_true, Bool.not_false, Bool.false_eq_true, ↓reduceIte]
  have hd := disk_facts hi
  have hs := seenB_length (isDisk_ok hi).2
  cases hw : wrB d
  · refine CallT.intro Try.func35 (by decide) rfl ?_
    simp -implicitDefEqProofs (dsimp := false) only [go_sem, simprocAttr, hi, hw, checkV, enterTm, Try.ntmps35, List.range'_succ, List.range'_zero, List.zip_cons_cons, List.zip_nil_left]
    refine CodeT.seqR ?_
    simp -implicitDefEqProofs (dsimp := false) only [go_sem, simprocAttr, hi, hw, checkV]
    refine CodeT.freeze 1 ?_
    simp -implicitDefEqProofs (dsimp := false) only [go_sem, simprocAttr, hi, hw, checkV]
    refine CodeT.seqR ?_
    simp -implicitDefEqProofs (dsimp := false) only [go_sem, simprocAttr, hi, hw, checkV]
    refine PureT.eq (c43 _ ?_) rfl ?_
    assumption
    simp -implicitDefEqProofs (dsimp := false) only [go_sem, simprocAttr, hi, hw, checkV]
    refine CodeT.seq ?_
    refine CodeT.seqR ?_
    simp -implicitDefEqProofs (dsimp := false) only [go_sem, simprocAttr, hi, hw, checkV]
    refine CodeT.condF rfl ?_
    refine CodeT.skip ?_
    simp -implicitDefEqProofs (dsimp := false) only [go_sem, simprocAttr, hi, hw, checkV]
    refine CodeT.seq ?_
    refine CodeT.seqR ?_
    simp -implicitDefEqProofs (dsimp := false) only [go_sem, simprocAttr, hi, hw, checkV]
    refine CodeT.condT rfl ?_
    refine CodeT.seqR ?_
    simp -implicitDefEqProofs (dsimp := false) only [go_sem, simprocAttr, hi, hw, checkV]
    refine CodeT.ret ?_
    simp -implicitDefEqProofs (dsimp := false) only [go_sem, simprocAttr, hi, hw, checkV]
    refine pureEnd rfl ?_
    simp only [openV, hi, er, hw, Bool.true_and, Bool.false_and, Bool.and_true, Bool.and_false, Bool.true_or, Bool.false_or, Bool.or_true, Bool.or_false, Bool.not_true, Bool.not_false, Bool.false_eq_true, ↓reduceIte]
  have e1 : (List.take (halfB d + szB d) (seenB d)).drop (halfB d + endB d) = (useB d).drop (endB d) := by
    show _ = (List.take (szB d) (List.drop (halfB d) (seenB d))).drop (endB d)
    rw [List.take_drop, List.drop_drop]
  have e2 : (((halfB d + szB d : Nat) : Int) - ((halfB d + endB d : Nat) : Int)).toNat = szB d - endB d := by omega
  have e3 : halfB d + szB d - (halfB d + endB d) = szB d - endB d := by omega
  refine CallT.intro Try.func35 (by decide) rfl ?_
  simp -implicitDefEqProofs (dsimp := false) only [go_sem, simprocAttr, hi, hw, checkV, e1, e3, enterTm, Try.ntmps35, List.range'_succ, List.range'_zero, List.zip_cons_cons, List.zip_nil_left]
  refine CodeT.seqR ?_
  simp -implicitDefEqProofs (dsimp := false) only [go_sem, simprocAttr, hi, hw, checkV, e1, e3]
  refine CodeT.freeze 1 ?_
  simp -implicitDefEqProofs (dsimp := false) only [go_sem, simprocAttr, hi, hw, checkV, e1, e3]
  refine CodeT.seqR ?_
  simp -implicitDefEqProofs (dsimp := false) only [go_sem, simprocAttr, hi, hw, checkV, e1, e3]
  refine PureT.eq (c43 _ ?_) rfl ?_
  assumption
  simp -implicitDefEqProofs (dsimp := false) only [go_sem, simprocAttr, hi, hw, checkV, e1, e3]
  refine CodeT.seq ?_
  refine CodeT.seqR ?_
  simp -implicitDefEqProofs (dsimp := false) only [go_sem, simprocAttr, hi, hw, checkV, e1, e3]
  refine CodeT.condF rfl ?_
  refine CodeT.skip ?_
  simp -implicitDefEqProofs (dsimp := false) only [go_sem, simprocAttr, hi, hw, checkV, e1, e3]
  refine CodeT.seq ?_
  refine CodeT.seqR ?_
  simp -implicitDefEqProofs (dsimp := false) only [go_sem, simprocAttr, hi, hw, checkV, e1, e3]
  refine CodeT.condF rfl ?_
  refine CodeT.skip ?_
  simp -implicitDefEqProofs (dsimp := false) only [go_sem, simprocAttr, hi, hw, checkV, e1, e3]
  refine CodeT.seqR ?_
  simp -implicitDefEqProofs (dsimp := false) only [go_sem, simprocAttr, hi, hw, checkV, e1, e3]
  refine PureT.eq (c77s d hi hf) rfl ?_
  simp -implicitDefEqProofs (dsimp := false) only [go_sem, simprocAttr, hi, hw, checkV, e1, e3]
  refine CodeT.seqR ?_
  simp -implicitDefEqProofs (dsimp := false) only [go_sem, simprocAttr, hi, hw, checkV, e1, e3]
  refine PureT.eq (c76s d hi) rfl ?_
  simp -implicitDefEqProofs (dsimp := false) only [go_sem, simprocAttr, hi, hw, checkV, e1, e3]
  refine CodeT.seq ?_
  refine CodeT.seqR ?_
  simp -implicitDefEqProofs (dsimp := false) only [go_sem, simprocAttr, hi, hw, checkV, e1, e3]
  refine And.intro (by exact uni_bs _) ?_
  refine And.intro (by omega) ?_
  refine And.intro (by omega) ?_
  refine And.intro (by omega) ?_
  refine PureT.eq (c79 _ ?_) rfl ?_
  (simp [openV, hi, hw, er, wr, fl, zs, opvs, List.map_cons, List.map_nil, *]; omega)
  simp -implicitDefEqProofs (dsimp := false) only [go_sem, simprocAttr, hi, hw, checkV, e1, e3]
  refine CodeT.cond rfl (fun g5 => ?_) (fun g5 => ?_)
  refine CodeT.seqD [(0, .free), (1, .free), (2, .free), (3, .free), (4, .free), (5, .upd), (6, .upd), (7, .free), (8, .upd), (9, .free), (10, .free)] mixed (by kernel_rfl) ?_
  simp -implicitDefEqProofs (dsimp := false) only [go_sem, simprocAttr, hi, hw, checkV, e1, e3, g5]
  refine CallF.go (c75) rfl ?_
  simp -implicitDefEqProofs (dsimp := false) only [go_sem, simprocAttr, hi, hw, checkV, e1, e3, g5]
  simp -implicitDefEqProofs (dsimp := false) (disch := omega) only [i64_in, bs_getD, opvs_getD, is64_getD, bss_getD]
  simp -implicitDefEqProofs (dsimp := false) only [go_sem, simprocAttr, hi, hw, checkV, e1, e3, g5]
  refine And.intro (by omega) ?_
  refine And.intro (by omega) ?_
  refine And.intro (by omega) ?_
  refine And.intro (by exact Stable.append [_] [_]) ?_
  refine ⟨⟨_, Try.func74, by decide, rfl⟩, Or.inl ?_⟩
  simp -implicitDefEqProofs (dsimp := false) only [go_sem, simprocAttr, hi, hw, checkV, e1, e3, g5]
  refine And.intro (by omega) ?_
  refine CallY.pure (c74 _ _) rfl ?_
  simp -implicitDefEqProofs (dsimp := false) only [go_sem, simprocAttr, hi, hw, checkV, e1, e3, g5]
  refine And.intro (by exact Stable.same (Stable.row (Stable.refl _))) ?_
  refine CallF.go (c75) rfl ?_
  simp -implicitDefEqProofs (dsimp := false) only [go_sem, simprocAttr, hi, hw, checkV, e1, e3, g5]
  refine And.intro (by trivial) ?_
  refine And.intro (by exact Stable.refl _) ?_
  refine CodeT.ret ?_
  simp -implicitDefEqProofs (dsimp := false) only [go_sem, simprocAttr, hi, hw, checkV, e1, e3, g5]
  refine pureEnd rfl ?_
  simp [openV, hi, hw, er, wr, fl, zs, opvs, List.map_cons, List.map_nil, g5]
  refine CodeT.skip ?_
  simp -implicitDefEqProofs (dsimp := false) only [go_sem, simprocAttr, hi, hw, checkV, e1, e3, g5]
  refine CodeT.seq ?_
  refine CodeT.seqR ?_
  simp -implicitDefEqProofs (dsimp := false) only [go_sem, simprocAttr, hi, hw, checkV, e1, e3, g5]
  refine CodeT.cond rfl (fun g6 => ?_) (fun g6 => ?_)
  have d6 := ofDec g6
  refine CodeT.seqR ?_
  simp -implicitDefEqProofs (dsimp := false) only [go_sem, simprocAttr, hi, hw, checkV, e1, e3, g5, g6]
  refine PureT.eq (c75) rfl ?_
  simp -implicitDefEqProofs (dsimp := false) only [go_sem, simprocAttr, hi, hw, checkV, e1, e3, g5, g6]
  refine And.intro (by trivial) ?_
  refine CodeT.ret ?_
  simp -implicitDefEqProofs (dsimp := false) only [go_sem, simprocAttr, hi, hw, checkV, e1, e3, g5, g6]
  refine pureEnd rfl ?_
  simp only [openV, hi, hw, er, wr, fl, zs, opvs, List.map_cons, List.map_nil, g5, g6, Bool.true_and, Bool.false_and, Bool.and_true, Bool.and_false, Bool.true_or, Bool.false_or, Bool.or_true, Bool.or_false, Bool.not_true, Bool.not_false, Bool.false_eq_true, ↓reduceIte]
  have d6 := ofDecF g6
  refine CodeT.skip ?_
  simp -implicitDefEqProofs (dsimp := false) only [go_sem, simprocAttr, hi, hw, checkV, e1, e3, g5, g6]
  refine CodeT.seqR ?_
  simp -implicitDefEqProofs (dsimp := false) only [go_sem, simprocAttr, hi, hw, checkV, e1, e3, g5, g6]
  refine CodeT.ret ?_
  simp -implicitDefEqProofs (dsimp := false) only [go_sem, simprocAttr, hi, hw, checkV, e1, e3, g5, g6]
  refine pureEnd rfl ?_
  simp only [openV, hi, hw, er, wr, fl, zs, opvs, List.map_cons, List.map_nil, g5, g6, Bool.true_and, Bool.false_and, Bool.and_true, Bool.and_false, Bool.true_or, Bool.false_or, Bool.or_true, Bool.or_false, Bool.not_true, Bool.not_false, Bool.false_eq_true, ↓reduceIte]
theorem c36 (d : Dsk) (hf : Few d) : PureT Try.prog 36 [dkv d] (· = readV d) := by
  refine CallT.laxR ?_
  cases hi : isDiskB d
  · refine CallT.intro Try.func36 (by decide) rfl ?_
    simp -implicitDefEqProofs (dsimp := false) only [go_sem, simprocAttr, hi, checkV, enterTm, Try.ntmps36, List.range'_succ, List.range'_zero, List.zip_cons_cons, List.zip_nil_left]
    refine CodeT.seqR ?_
    simp -implicitDefEqProofs (dsimp := false) only [go_sem, simprocAttr, hi, checkV]
    refine CodeT.freeze 1 ?_
    simp -implicitDefEqProofs (dsimp := false) only [go_sem, simprocAttr, hi, checkV]
    refine CodeT.seqR ?_
    simp -implicitDefEqProofs (dsimp := false) only [go_sem, simprocAttr, hi, checkV]
    refine PureT.eq (c43 _ ?_) rfl ?_
    assumption
    simp -implicitDefEqProofs (dsimp := false) only [go_sem, simprocAttr, hi, checkV]
    refine CodeT.seq ?_
    refine CodeT.seqR ?_
    simp -implicitDefEqProofs (dsimp := false) only [go_sem, simprocAttr, hi, checkV]
    refine CodeT.condT rfl ?_
    refine CodeT.seqR ?_
    simp -implicitDefEqProofs (dsimp := false) only [go_sem, simprocAttr, hi, checkV]
    refine CodeT.ret ?_
    simp -implicitDefEqProofs (dsimp := false) only [go_sem, simprocAttr, hi, checkV]
    refine pureEnd rfl ?_
    simp only [readV, hi, er, Bool.true_and, Bool.false_and, Bool.and_true, Bool.and_false, Bool.true_or, Bool.false_or, Bool.or_true, Bool.or_false, Bool.not_true, Bool.not_false, Bool.false_eq_true, ↓reduceIte]
  cases hw : wrB d
  · refine CallT.intro Try.func36 (by decide) rfl ?_
    simp -implicitDefEqProofs (dsimp := false) only [go_sem, simprocAttr, hi, hw, checkV, enterTm, Try.ntmps36, List.range'_succ, List.range'_zero, List.zip_cons_cons, List.zip_nil_left]
    refine CodeT.seqR ?_
    simp -implicitDefEqProofs (dsimp := false) only [go_sem, simprocAttr, hi, hw, checkV]
    refine CodeT.freeze 1 ?_
    simp -implicitDefEqProofs (dsimp := false) only [go_sem, simprocAttr, hi, hw, checkV]
    refine CodeT.seqR ?_
    simp -implicitDefEqProofs (dsimp := false) only [go_sem, simprocAttr, hi, hw, checkV]
    refine PureT.eq (c43 _ ?_) rfl ?_
    assumption
    simp -implicitDefEqProofs (dsimp := false) only [go_sem, simprocAttr, hi, hw, checkV]
    refine CodeT.seq ?_
    refine CodeT.seqR ?_
    simp -implicitDefEqProofs (dsimp := false) only [go_sem, simprocAttr, hi, hw, checkV]
    refine CodeT.condF rfl ?_
    refine CodeT.skip ?_
    simp -implicitDefEqProofs (dsimp := false) only [go_sem, simprocAttr, hi, hw, checkV]
    refine CodeT.seq ?_
    refine CodeT.seqR ?_
    simp -implicitDefEqProofs (dsimp := false) only [go_sem, simprocAttr, hi, hw, checkV]
    refine CodeT.condT rfl ?_
    refine CodeT.seqR ?_
    simp -implicitDefEqProofs (dsimp := false) only [go_sem, simprocAttr, hi, hw, checkV]
    refine CodeT.ret ?_
    simp -implicitDefEqProofs (dsimp := false) only [go_sem, simprocAttr, hi, hw, checkV]
    refine pureEnd rfl ?_
    simp only [readV, hi, er, hw, Bool.true_and, Bool.false_and, Bool.and_true, Bool.and_false, Bool.true_or, Bool.false_or, Bool.or_true, Bool.or_false, Bool.not_true, Bool.not_false, Bool.false_eq_true, ↓reduceIte]
  have hp := hw
  rw [wrB_eq, decide_eq_true_eq] at hp
  refine CallT.intro Try.func36 (by decide) rfl ?_
  simp -implicitDefEqProofs (dsimp := false) only [go_sem, simprocAttr, hi, hw, checkV, enterTm, Try.ntmps36, List.range'_succ, List.range'_zero, List.zip_cons_cons, List.zip_nil_left]
  refine CodeT.seqR ?_
  simp -implicitDefEqProofs (dsimp := false) only [go_sem, simprocAttr, hi, hw, checkV]
  refine CodeT.freeze 1 ?_
  simp -implicitDefEqProofs (dsimp := false) only [go_sem, simprocAttr, hi, hw, checkV]
  refine CodeT.seqR ?_
  simp -implicitDefEqProofs (dsimp := false) only [go_sem, simprocAttr, hi, hw, checkV]
  refine PureT.eq (c43 _ ?_) rfl ?_
  assumption
  simp -implicitDefEqProofs (dsimp := false) only [go_sem, simprocAttr, hi, hw, checkV]
  refine CodeT.seq ?_
  refine CodeT.seqR ?_
  simp -implicitDefEqProofs (dsimp := false) only [go_sem, simprocAttr, hi, hw, checkV]
  refine CodeT.condF rfl ?_
  refine CodeT.skip ?_
  simp -implicitDefEqProofs (dsimp := false) only [go_sem, simprocAttr, hi, hw, checkV]
  refine CodeT.seq ?_
  refine CodeT.seqR ?_
  simp -implicitDefEqProofs (dsimp := false) only [go_sem, simprocAttr, hi, hw, checkV]
  refine CodeT.condF rfl ?_
  refine CodeT.skip ?_
  simp -implicitDefEqProofs (dsimp := false) only [go_sem, simprocAttr, hi, hw, checkV]
  refine CodeT.seqR ?_
  simp -implicitDefEqProofs (dsimp := false) only [go_sem, simprocAttr, hi, hw, checkV]
  refine PureT.eq (c77s d hi hf) rfl ?_
  simp -implicitDefEqProofs (dsimp := false) only [go_sem, simprocAttr, hi, hw, checkV]
  refine PureT.eq (c76s d hi) rfl ?_
  simp -implicitDefEqProofs (dsimp := false) only [go_sem, simprocAttr, hi, hw, checkV]
  refine CodeT.seqD [(0, .free), (3, .free), (1, .read), (2, .read), (5, .free), (4, .read), (6, .free), (7, .free)] mixed (by kernel_rfl) ?_
  simp -implicitDefEqProofs (dsimp := false) only [go_sem, simprocAttr, hi, hw, checkV]
  refine gate_i ?_ ?_
  assumption
  simp -implicitDefEqProofs (dsimp := false) (disch := omega) only [Int.toNat_natCast, i64_in, bs_getD, opvs_getD, is64_getD, bss_getD]
  simp -implicitDefEqProofs (dsimp := false) only [go_sem, simprocAttr, hi, hw, checkV]
  refine And.intro (by trivial) ?_
  refine And.intro (by exact uni_bss _) ?_
  refine And.intro (by assumption) ?_
  refine And.intro (by omega) ?_
  refine CodeT.ret ?_
  simp -implicitDefEqProofs (dsimp := false) only [go_sem, simprocAttr, hi, hw, checkV]
  refine pureEnd rfl ?_
  simp only [readV, hi, hw, er, Bool.true_and, Bool.false_and, Bool.and_true, Bool.and_false, Bool.true_or, Bool.false_or, Bool.or_true, Bool.or_false, Bool.not_true, Bool.not_false, Bool.false_eq_true, ↓reduceIte]
theorem c37 (d : Dsk) (hf : Few d) : PureT Try.prog 37 [dkv d] (· = roomV d) := by
  cases hi : isDiskB d
  · refine CallT.intro Try.func37 (by decide) rfl ?_
    simp -implicitDefEqProofs (dsimp := false) only [go_sem, simprocAttr, hi, checkV, enterTm, Try.ntmps37, List.range'_succ, List.range'_zero, List.zip_cons_cons, List.zip_nil_left]
    refine CodeT.seqR ?_
    simp -implicitDefEqProofs (dsimp := false) only [go_sem, simprocAttr, hi, checkV]
    refine CodeT.freeze 1 ?_
    simp -implicitDefEqProofs (dsimp := false) only [go_sem, simprocAttr, hi, checkV]
    refine CodeT.seqR ?_
    simp -implicitDefEqProofs (dsimp := false) only [go_sem, simprocAttr, hi, checkV]
    refine PureT.eq (c43 _ ?_) rfl ?_
    assumption
    simp -implicitDefEqProofs (dsimp := false) only [go_sem, simprocAttr, hi, checkV]
    refine CodeT.seq ?_
    refine CodeT.seqR ?_
    simp -implicitDefEqProofs (dsimp := false) only [go_sem, simprocAttr, hi, checkV]
    refine CodeT.condT rfl ?_
    refine CodeT.seqR ?_
    simp -implicitDefEqProofs (dsimp := false) only [go_sem, simprocAttr, hi, checkV]
    refine CodeT.ret ?_
    simp -implicitDefEqProofs (dsimp := false) only [go_sem, simprocAttr, hi, checkV]
    refine pureEnd rfl ?_
    simp only [roomV, hi, er, Bool.true_and, Bool.false_and, Bool.and_true, Bool.and_false, Bool.true_or, Bool.false_or, Bool.or_true, Bool.or_false, Bool.not_true, Bool.not_false, Bool.false_eq_true, ↓reduceIte]
  have hd := disk_facts hi
  cases hw : wrB d
  · refine CallT.intro Try.func37 (by decide) rfl ?_
    simp -implicitDefEqProofs (dsimp := false) only [go_sem, simprocAttr, hi, hw, checkV, enterTm, Try.ntmps37, List.range'_succ, List.range'_zero, List.zip_cons_cons, List.zip_nil_left]
    refine CodeT.seqR ?_
    simp -implicitDefEqProofs (dsimp := false) only [go_sem, simprocAttr, hi, hw, checkV]
    refine CodeT.freeze 1 ?_
    simp -implicitDefEqProofs (dsimp := false) only [go_sem, simprocAttr, hi, hw, checkV]
    refine CodeT.seqR ?_
    simp -implicitDefEqProofs (dsimp := false) only [go_sem, simprocAttr, hi, hw, checkV]
    refine PureT.eq (c43 _ ?_) rfl ?_
    assumption
    simp -implicitDefEqProofs (dsimp := false) only [go_sem, simprocAttr, hi, hw, checkV]
    refine CodeT.seq ?_
    refine CodeT.seqR ?_
    simp -implicitDefEqProofs (dsimp := false) only [go_sem, simprocAttr, hi, hw, checkV]
    refine CodeT.condF rfl ?_
    refine CodeT.skip ?_
    simp -implicitDefEqProofs (dsimp := false) only [go_sem, simprocAttr, hi, hw, checkV]
    refine CodeT.seq ?_
    refine CodeT.seqR ?_
    simp -implicitDefEqProofs (dsimp := false) only [go_sem, simprocAttr, hi, hw, checkV]
    refine CodeT.condT rfl ?_
    refine CodeT.seqR ?_
    simp -implicitDefEqProofs (dsimp := false) only [go_sem, simprocAttr, hi, hw, checkV]
    refine CodeT.ret ?_
    simp -implicitDefEqProofs (dsimp := false) only [go_sem, simprocAttr, hi, hw, checkV]
    refine pureEnd rfl ?_
    simp only [roomV, hi, er, hw, Bool.true_and, Bool.false_and, Bool.and_true, Bool.and_false, Bool.true_or, Bool.false_or, Bool.or_true, Bool.or_false, Bool.not_true, Bool.not_false, Bool.false_eq_true, ↓reduceIte]
  cases hc : clB d
  · refine CallT.intro Try.func37 (by decide) rfl ?_
    simp -implicitDefEqProofs (dsimp := false) only [go_sem, simprocAttr, hi, hw, hc, checkV, enterTm, Try.ntmps37, List.range'_succ, List.range'_zero, List.zip_cons_cons, List.zip_nil_left]
    refine CodeT.seqR ?_
    simp -implicitDefEqProofs (dsimp := false) only [go_sem, simprocAttr, hi, hw, hc, checkV]
    refine CodeT.freeze 1 ?_
    simp -implicitDefEqProofs (dsimp := false) only [go_sem, simprocAttr, hi, hw, hc, checkV]
    refine CodeT.seqR ?_
    simp -implicitDefEqProofs (dsimp := false) only [go_sem, simprocAttr, hi, hw, hc, checkV]
    refine PureT.eq (c43 _ ?_) rfl ?_
    assumption
    simp -implicitDefEqProofs (dsimp := false) only [go_sem, simprocAttr, hi, hw, hc, checkV]
    refine CodeT.seq ?_
    refine CodeT.seqR ?_
    simp -implicitDefEqProofs (dsimp := false) only [go_sem, simprocAttr, hi, hw, hc, checkV]
    refine CodeT.condF rfl ?_
    refine CodeT.skip ?_
    simp -implicitDefEqProofs (dsimp := false) only [go_sem, simprocAttr, hi, hw, hc, checkV]
    refine CodeT.seq ?_
    refine CodeT.seqR ?_
    simp -implicitDefEqProofs (dsimp := false) only [go_sem, simprocAttr, hi, hw, hc, checkV]
    refine CodeT.condT rfl ?_
    refine CodeT.seqR ?_
    simp -implicitDefEqProofs (dsimp := false) only [go_sem, simprocAttr, hi, hw, hc, checkV]
    refine CodeT.ret ?_
    simp -implicitDefEqProofs (dsimp := false) only [go_sem, simprocAttr, hi, hw, hc, checkV]
    refine pureEnd rfl ?_
    simp only [roomV, hi, er, hw, hc, Bool.true_and, Bool.false_and, Bool.and_true, Bool.and_false, Bool.true_or, Bool.false_or, Bool.or_true, Bool.or_false, Bool.not_true, Bool.not_false, Bool.false_eq_true, ↓reduceIte]
  refine CallT.intro Try.func37 (by decide) rfl ?_
  simp -implicitDefEqProofs (dsimp := false) only [go_sem, simprocAttr, hi, hw, hc, checkV, enterTm, Try.ntmps37, List.range'_succ, List.range'_zero, List.zip_cons_cons, List.zip_nil_left]
  refine CodeT.seqR ?_
  simp -implicitDefEqProofs (dsimp := false) only [go_sem, simprocAttr, hi, hw, hc, checkV]
  refine CodeT.freeze 1 ?_
  simp -implicitDefEqProofs (dsimp := false) only [go_sem, simprocAttr, hi, hw, hc, checkV]
  refine CodeT.seqR ?_
  simp -implicitDefEqProofs (dsimp := false) only [go_sem, simprocAttr, hi, hw, hc, checkV]
  refine PureT.eq (c43 _ ?_) rfl ?_
  assumption
  simp -implicitDefEqProofs (dsimp := false) only [go_sem, simprocAttr, hi, hw, hc, checkV]
  refine CodeT.seq ?_
  refine CodeT.seqR ?_
  simp -implicitDefEqProofs (dsimp := false) only [go_sem, simprocAttr, hi, hw, hc, checkV]
  refine CodeT.condF rfl ?_
  refine CodeT.skip ?_
  simp -implicitDefEqProofs (dsimp := false) only [go_sem, simprocAttr, hi, hw, hc, checkV]
  refine CodeT.seq ?_
  refine CodeT.seqR ?_
  simp -implicitDefEqProofs (dsimp := false) only [go_sem, simprocAttr, hi, hw, hc, checkV]
  refine CodeT.condF rfl ?_
  refine CodeT.skip ?_
  simp -implicitDefEqProofs (dsimp := false) only [go_sem, simprocAttr, hi, hw, hc, checkV]
  refine CodeT.seqR ?_
  simp -implicitDefEqProofs (dsimp := false) only [go_sem, simprocAttr, hi, hw, hc, checkV]
  refine PureT.eq (c77s d hi hf) rfl ?_
  simp -implicitDefEqProofs (dsimp := false) only [go_sem, simprocAttr, hi, hw, hc, checkV]
  refine PureT.eq (c76s d hi) rfl ?_
  simp -implicitDefEqProofs (dsimp := false) only [go_sem, simprocAttr, hi, hw, hc, checkV]
  refine CodeT.seq ?_
  refine CodeT.seqR ?_
  simp -implicitDefEqProofs (dsimp := false) only [go_sem, simprocAttr, hi, hw, hc, checkV]
  refine CodeT.cond rfl (fun g4 => ?_) (fun g4 => ?_)
  have d4 := ofBeq g4
  refine CodeT.seqR ?_
  simp -implicitDefEqProofs (dsimp := false) only [go_sem, simprocAttr, hi, hw, hc, checkV, g4]
  refine CodeT.ret ?_
  simp -implicitDefEqProofs (dsimp := false) only [go_sem, simprocAttr, hi, hw, hc, checkV, g4]
  refine pureEnd rfl ?_
  (simp [roomV, hi, hw, hc, er, *]; omega)
  have d4 := ofBeqF g4
  refine CodeT.skip ?_
  simp -implicitDefEqProofs (dsimp := false) only [go_sem, simprocAttr, hi, hw, hc, checkV, g4]
  refine CodeT.seqR ?_
  simp -implicitDefEqProofs (dsimp := false) only [go_sem, simprocAttr, hi, hw, hc, checkV, g4]
  refine CodeT.ret ?_
  simp -implicitDefEqProofs (dsimp := false) only [go_sem, simprocAttr, hi, hw, hc, checkV, g4]
  refine pureEnd rfl ?_
  simp -implicitDefEqProofs (dsimp := false) (disch := omega) only [i64_in, bs_getD, opvs_getD, is64_getD, bss_getD]
  rotate_left
  · have h1 : (((halfB d + szB d : Nat) : Int) - ((halfB d + endB d : Nat) : Int) - 1) = ((szB d - endB d - 1 : Nat) : Int) := by omega
    have h2 : (((endB d : Nat) : Int) == ((szB d : Nat) : Int)) = false := by simp; omega
    rw [h1, half_len (by omega)]
    simp only [roomV, hi, hw, hc, h2, er, Bool.not_true, Bool.false_eq_true, ↓reduceIte]
theorem c39 (n : Int) (h1 : -9223372036854775808 ≤ n) (h2 : n ≤ 9223372036854775807) : PureT Try.prog 39 [.val (.int .i64 n)] (· = newV n) := by
  refine CallT.res (CallT.laxR ?_)
  have hs := sizeI_eq n
  cases hz : sizeI n
  · refine CallT.intro Try.func39 (by decide) rfl ?_
    simp -implicitDefEqProofs (dsimp := false) only [go_sem, simprocAttr, hz, enterTm, Try.ntmps39, List.range'_succ, List.range'_zero, List.zip_cons_cons, List.zip_nil_left]
    refine CodeT.seqR ?_
    simp -implicitDefEqProofs (dsimp := false) only [go_sem, simprocAttr, hz]
    refine CodeT.seq ?_
    refine CodeT.seqR ?_
    simp -implicitDefEqProofs (dsimp := false) only [go_sem, simprocAttr, hz]
    refine gif_i (fun g3 => ?_) (fun g3 => ?_)
    have d3 := ofDec g3
    simp -implicitDefEqProofs (dsimp := false) only [go_sem, simprocAttr, hz, g3]
    refine CodeT.condT rfl ?_
    refine CodeT.seqR ?_
    simp -implicitDefEqProofs (dsimp := false) only [go_sem, simprocAttr, hz, g3]
    refine CodeT.ret ?_
    simp -implicitDefEqProofs (dsimp := false) only [go_sem, simprocAttr, hz, g3]
    refine pureEnd rfl ?_
    rotate_left
    have d3 := ofDecF g3
    simp -implicitDefEqProofs (dsimp := false) only [go_sem, simprocAttr, hz, g3]
    refine PureT.eq (c81 _ ?_ ?_) rfl ?_
    assumption
    assumption
    simp -implicitDefEqProofs (dsimp := false) only [go_sem, simprocAttr, hz, g3]
    refine CodeT.condT rfl ?_
    refine CodeT.seqR ?_
    simp -implicitDefEqProofs (dsimp := false) only [go_sem, simprocAttr, hz, g3]
    refine CodeT.ret ?_
    simp -implicitDefEqProofs (dsimp := false) only [go_sem, simprocAttr, hz, g3]
    refine pureEnd rfl ?_
    rotate_left
    all_goals
      simp only [newV, hz, Bool.not_false, ↓reduceIte]
      rfl
  rw [hz] at hs
  simp [sizeB] at hs
  refine CallT.intro Try.func39 (by decide) rfl ?_
  simp -implicitDefEqProofs (dsimp := false) only [go_sem, simprocAttr, hz, enterTm, Try.ntmps39, List.range'_succ, List.range'_zero, List.zip_cons_cons, List.zip_nil_left]
  refine CodeT.seqR ?_
  simp -implicitDefEqProofs (dsimp := false) only [go_sem, simprocAttr, hz]
  refine CodeT.seq ?_
  refine CodeT.seqR ?_
  simp -implicitDefEqProofs (dsimp := false) only [go_sem, simprocAttr, hz]
  refine gif_i (fun g3 => ?_) (fun g3 => ?_)
  have d3 := ofDec g3
  (exfalso; omega)
  have d3 := ofDecF g3
  simp -implicitDefEqProofs (dsimp := false) only [go_sem, simprocAttr, hz, g3]
  refine PureT.eq (c81 _ ?_ ?_) rfl ?_
  assumption
  assumption
  simp -implicitDefEqProofs (dsimp := false) only [go_sem, simprocAttr, hz, g3]
  refine CodeT.condF rfl ?_
  refine CodeT.skip ?_
  simp -implicitDefEqProofs (dsimp := false) only [go_sem, simprocAttr, hz, g3]
  refine CodeT.seqR ?_
  simp -implicitDefEqProofs (dsimp := false) only [go_sem, simprocAttr, hz, g3]
  refine And.intro (by omega) ?_
  refine And.intro (by omega) ?_
  refine And.intro (by omega) ?_
  refine CodeT.ret ?_
  simp -implicitDefEqProofs (dsimp := false) only [go_sem, simprocAttr, hz, g3]
  refine And.intro (by omega) ?_
  refine pureEnd rfl ?_
  rotate_left
  simp only [newV, hz, Bool.not_true, Bool.false_eq_true, ↓reduceIte]
  rfl
end Go.Proofs.Try

namespace Go.Proofs.Try
set_option linter.unusedSimpArgs false
set_option linter.unusedVariables false
open Go.PM
set_option maxHeartbeats 4000000
set_option maxRecDepth 100000

/-- The outcomes are lists of operations, or none, with an error. -/
def OpsV (v : AV) : Prop := ∃ (ops : List DOp) (e : Int), v = .tup [.sl false (opvs ops), er e] ∧ ops.length ≤ 10
theorem formatV_ops (d : Dsk) (b : List UInt8) : OpsV (formatV d b) := by
  unfold formatV
  split
  · exact ⟨[], _, rfl, by simp⟩
  split
  · exact ⟨[], _, rfl, by simp⟩
  · exact ⟨_, _, rfl, by simp⟩
theorem appendV_ops (d : Dsk) (b : List UInt8) : OpsV (appendV d b) := by
  unfold appendV
  split
  · exact ⟨[], _, rfl, by simp⟩
  split
  · exact ⟨[], _, rfl, by simp⟩
  split
  · exact ⟨[], _, rfl, by simp⟩
  split
  · exact ⟨[], _, rfl, by simp⟩
  · exact ⟨_, _, rfl, by simp⟩
theorem checkinV_ops (d : Dsk) (b : List UInt8) : OpsV (checkinV d b) := by
  unfold checkinV
  split
  · exact ⟨[], _, rfl, by simp⟩
  split
  · exact ⟨[], _, rfl, by simp⟩
  split
  · exact ⟨[], _, rfl, by simp⟩
  · exact ⟨_, _, rfl, by simp⟩
theorem openV_ops (d : Dsk) : OpsV (openV d) := by
  unfold openV
  split
  · exact ⟨[], _, rfl, by simp⟩
  split
  · exact ⟨[], _, rfl, by simp⟩
  split
  · exact ⟨_, _, rfl, by simp⟩
  split
  · exact ⟨_, _, rfl, by simp⟩
  · exact ⟨[], _, rfl, by simp⟩
theorem readV_eq (d : Dsk) (hf : Few d) : ∃ (b : List UInt8) (l : List (List UInt8)) (e : Int), readV d = .tup [.sl false (bs b), .sl false (bss l), er e] ∧ l.length ≤ 4000000 := by
  unfold readV
  cases hi : isDiskB d
  · exact ⟨[], [], _, rfl, by simp⟩
  have h2 := disk_facts hi
  have h1 := parse_len (useB d)
  cases hw : wrB d
  · exact ⟨[], [], _, rfl, by simp⟩
  · exact ⟨_, _, _, rfl, by rw [List.length_drop, parseR_len]; omega⟩
theorem roomV_eq (d : Dsk) : ∃ (n e : Int), roomV d = .tup [er n, er e] := by
  unfold roomV
  split
  · exact ⟨_, _, rfl⟩
  split
  · exact ⟨_, _, rfl⟩
  split
  · exact ⟨_, _, rfl⟩
  split
  · exact ⟨_, _, rfl⟩
  · exact ⟨_, _, rfl⟩
theorem c8 (d : Dsk) (r : List UInt8) : PureT Try.prog 8 [dkv d, .sl false (bs r)] (· = .val (.bool true)) := by
  cases hfb : fewB d
  · refine CallT.intro Try.func8 (by decide) rfl ?_
    simp -implicitDefEqProofs (dsimp := false) only [go_sem, simprocAttr, hfb, enterTm, Try.ntmps8, List.range'_succ, List.range'_zero, List.zip_cons_cons, List.zip_nil_left]
    refine CodeT.seqR ?_
    simp -implicitDefEqProofs (dsimp := false) only [go_sem, simprocAttr, hfb]
    refine CodeT.freeze 2 ?_
    simp -implicitDefEqProofs (dsimp := false) only [go_sem, simprocAttr, hfb]
    refine CodeT.seqR ?_
    simp -implicitDefEqProofs (dsimp := false) only [go_sem, simprocAttr, hfb]
    refine PureT.eq (c12) rfl ?_
    simp -implicitDefEqProofs (dsimp := false) only [go_sem, simprocAttr, hfb]
    refine CodeT.seq ?_
    refine CodeT.seqR ?_
    simp -implicitDefEqProofs (dsimp := false) only [go_sem, simprocAttr, hfb]
    refine PureT.eq (c15 _) rfl ?_
    simp -implicitDefEqProofs (dsimp := false) only [go_sem, simprocAttr, hfb]
    refine CodeT.condT rfl ?_
    refine CodeT.seqR ?_
    simp -implicitDefEqProofs (dsimp := false) only [go_sem, simprocAttr, hfb]
    refine CodeT.ret ?_
    simp -implicitDefEqProofs (dsimp := false) only [go_sem, simprocAttr, hfb]
    refine pureEnd rfl ?_
    simp -implicitDefEqProofs (dsimp := false) only [go_sem, simprocAttr, hfb]
  cases hr : decide ((r.length : Int) > 30000)
  case true => refine CallT.intro Try.func8 (by decide) rfl ?_
               simp -implicitDefEqProofs (dsimp := false) only [go_sem, simprocAttr, hfb, hr, enterTm, Try.ntmps8, List.range'_succ, List.range'_zero, List.zip_cons_cons, List.zip_nil_left]
               refine CodeT.seqR ?_
               simp -implicitDefEqProofs (dsimp := false) only [go_sem, simprocAttr, hfb, hr]
               refine CodeT.freeze 2 ?_
               simp -implicitDefEqProofs (dsimp := false) only [go_sem, simprocAttr, hfb, hr]
               refine CodeT.seqR ?_
               simp -implicitDefEqProofs (dsimp := false) only [go_sem, simprocAttr, hfb, hr]
               refine PureT.eq (c12) rfl ?_
               simp -implicitDefEqProofs (dsimp := false) only [go_sem, simprocAttr, hfb, hr]
               refine CodeT.seq ?_
               refine CodeT.seqR ?_
               simp -implicitDefEqProofs (dsimp := false) only [go_sem, simprocAttr, hfb, hr]
               refine PureT.eq (c15 _) rfl ?_
               simp -implicitDefEqProofs (dsimp := false) only [go_sem, simprocAttr, hfb, hr]
               refine CodeT.condT rfl ?_
               refine CodeT.seqR ?_
               simp -implicitDefEqProofs (dsimp := false) only [go_sem, simprocAttr, hfb, hr]
               refine CodeT.ret ?_
               simp -implicitDefEqProofs (dsimp := false) only [go_sem, simprocAttr, hfb, hr]
               refine pureEnd rfl ?_
               simp -implicitDefEqProofs (dsimp := false) only [go_sem, simprocAttr, hfb, hr]
  have hr' : r.length ≤ 1000000 := by have := of_decide_eq_false hr; omega
  obtain ⟨hf, -, hq⟩ := fewB_few hfb
  obtain ⟨o1, e1, v1, l1⟩ := formatV_ops d r
  obtain ⟨o2, e2, v2, l2⟩ := appendV_ops d r
  obtain ⟨o3, e3, v3, l3⟩ := checkinV_ops d r
  obtain ⟨o4, e4, v4, l4⟩ := openV_ops d
  obtain ⟨b5, l5, e5, v5, h5⟩ := readV_eq d hf
  obtain ⟨n6, e6, v6⟩ := roomV_eq d
  have r1 : ∀ x : List UInt8, (strB x == strB x) = true := fun x => by rw [strB_beq]; simp
  have r2 : ∀ x : List (List UInt8), (x == x) = true := fun x => by simp
  have r3 : ∀ x : List DOp, (x == x) = true := fun x => by simp
  have r4 : ∀ x : Int, (x == x) = true := fun x => by simp
  have r5 : ∀ x : Int, (x != x) = false := fun x => by simp
  refine CallT.intro Try.func8 (by decide) rfl ?_
  simp -implicitDefEqProofs (dsimp := false) only [go_sem, simprocAttr, hfb, hr, r1, r2, r3, r4, r5, v1, v2, v3, v4, v5, v6, strOf_bs, enterTm, Try.ntmps8, List.range'_succ, List.range'_zero, List.zip_cons_cons, List.zip_nil_left]
  refine CodeT.seqR ?_
  simp -implicitDefEqProofs (dsimp := false) only [go_sem, simprocAttr, hfb, hr, r1, r2, r3, r4, r5, v1, v2, v3, v4, v5, v6, strOf_bs]
  refine CodeT.freeze 2 ?_
  simp -implicitDefEqProofs (dsimp := false) only [go_sem, simprocAttr, hfb, hr, r1, r2, r3, r4, r5, v1, v2, v3, v4, v5, v6, strOf_bs]
  refine CodeT.seqR ?_
  simp -implicitDefEqProofs (dsimp := false) only [go_sem, simprocAttr, hfb, hr, r1, r2, r3, r4, r5, v1, v2, v3, v4, v5, v6, strOf_bs]
  refine PureT.eq (c12) rfl ?_
  simp -implicitDefEqProofs (dsimp := false) only [go_sem, simprocAttr, hfb, hr, r1, r2, r3, r4, r5, v1, v2, v3, v4, v5, v6, strOf_bs]
  refine CodeT.seq ?_
  refine CodeT.seqR ?_
  simp -implicitDefEqProofs (dsimp := false) only [go_sem, simprocAttr, hfb, hr, r1, r2, r3, r4, r5, v1, v2, v3, v4, v5, v6, strOf_bs]
  refine PureT.eq (c15 _) rfl ?_
  simp -implicitDefEqProofs (dsimp := false) only [go_sem, simprocAttr, hfb, hr, r1, r2, r3, r4, r5, v1, v2, v3, v4, v5, v6, strOf_bs]
  refine CodeT.condF rfl ?_
  refine CodeT.skip ?_
  simp -implicitDefEqProofs (dsimp := false) only [go_sem, simprocAttr, hfb, hr, r1, r2, r3, r4, r5, v1, v2, v3, v4, v5, v6, strOf_bs]
  refine CodeT.seqR ?_
  simp -implicitDefEqProofs (dsimp := false) only [go_sem, simprocAttr, hfb, hr, r1, r2, r3, r4, r5, v1, v2, v3, v4, v5, v6, strOf_bs]
  refine PureT.eq (c29 _ ?_ _ ?_) rfl ?_
  assumption
  assumption
  simp -implicitDefEqProofs (dsimp := false) only [go_sem, simprocAttr, hfb, hr, r1, r2, r3, r4, r5, v1, v2, v3, v4, v5, v6, strOf_bs]
  refine CodeT.seqR ?_
  simp -implicitDefEqProofs (dsimp := false) only [go_sem, simprocAttr, hfb, hr, r1, r2, r3, r4, r5, v1, v2, v3, v4, v5, v6, strOf_bs]
  refine PureT.eq (c30 _ ?_ _ ?_) rfl ?_
  assumption
  assumption
  simp -implicitDefEqProofs (dsimp := false) only [go_sem, simprocAttr, hfb, hr, r1, r2, r3, r4, r5, v1, v2, v3, v4, v5, v6, strOf_bs]
  refine CodeT.seq ?_
  refine CodeT.seqR ?_
  simp -implicitDefEqProofs (dsimp := false) only [go_sem, simprocAttr, hfb, hr, r1, r2, r3, r4, r5, v1, v2, v3, v4, v5, v6, strOf_bs]
  refine PureT.eq (c31 _ _ ?_) rfl ?_
  omega
  simp -implicitDefEqProofs (dsimp := false) only [go_sem, simprocAttr, hfb, hr, r1, r2, r3, r4, r5, v1, v2, v3, v4, v5, v6, strOf_bs]
  refine CodeT.condF rfl ?_
  refine CodeT.skip ?_
  simp -implicitDefEqProofs (dsimp := false) only [go_sem, simprocAttr, hfb, hr, r1, r2, r3, r4, r5, v1, v2, v3, v4, v5, v6, strOf_bs]
  refine CodeT.seqR ?_
  simp -implicitDefEqProofs (dsimp := false) only [go_sem, simprocAttr, hfb, hr, r1, r2, r3, r4, r5, v1, v2, v3, v4, v5, v6, strOf_bs]
  refine PureT.eq (c25 _ ?_ _ ?_) rfl ?_
  assumption
  assumption
  simp -implicitDefEqProofs (dsimp := false) only [go_sem, simprocAttr, hfb, hr, r1, r2, r3, r4, r5, v1, v2, v3, v4, v5, v6, strOf_bs]
  refine CodeT.seqR ?_
  simp -implicitDefEqProofs (dsimp := false) only [go_sem, simprocAttr, hfb, hr, r1, r2, r3, r4, r5, v1, v2, v3, v4, v5, v6, strOf_bs]
  refine PureT.eq (c32 _ ?_ _ ?_) rfl ?_
  assumption
  assumption
  simp -implicitDefEqProofs (dsimp := false) only [go_sem, simprocAttr, hfb, hr, r1, r2, r3, r4, r5, v1, v2, v3, v4, v5, v6, strOf_bs]
  refine CodeT.seq ?_
  refine CodeT.seqR ?_
  simp -implicitDefEqProofs (dsimp := false) only [go_sem, simprocAttr, hfb, hr, r1, r2, r3, r4, r5, v1, v2, v3, v4, v5, v6, strOf_bs]
  refine PureT.eq (c31 _ _ ?_) rfl ?_
  omega
  simp -implicitDefEqProofs (dsimp := false) only [go_sem, simprocAttr, hfb, hr, r1, r2, r3, r4, r5, v1, v2, v3, v4, v5, v6, strOf_bs]
  refine CodeT.condF rfl ?_
  refine CodeT.skip ?_
  simp -implicitDefEqProofs (dsimp := false) only [go_sem, simprocAttr, hfb, hr, r1, r2, r3, r4, r5, v1, v2, v3, v4, v5, v6, strOf_bs]
  refine CodeT.seqR ?_
  simp -implicitDefEqProofs (dsimp := false) only [go_sem, simprocAttr, hfb, hr, r1, r2, r3, r4, r5, v1, v2, v3, v4, v5, v6, strOf_bs]
  refine PureT.eq (c33 _ ?_ _ ?_) rfl ?_
  assumption
  assumption
  simp -implicitDefEqProofs (dsimp := false) only [go_sem, simprocAttr, hfb, hr, r1, r2, r3, r4, r5, v1, v2, v3, v4, v5, v6, strOf_bs]
  refine CodeT.seqR ?_
  simp -implicitDefEqProofs (dsimp := false) only [go_sem, simprocAttr, hfb, hr, r1, r2, r3, r4, r5, v1, v2, v3, v4, v5, v6, strOf_bs]
  refine PureT.eq (c34 _ ?_ _ ?_) rfl ?_
  assumption
  assumption
  simp -implicitDefEqProofs (dsimp := false) only [go_sem, simprocAttr, hfb, hr, r1, r2, r3, r4, r5, v1, v2, v3, v4, v5, v6, strOf_bs]
  refine CodeT.seq ?_
  refine CodeT.seqR ?_
  simp -implicitDefEqProofs (dsimp := false) only [go_sem, simprocAttr, hfb, hr, r1, r2, r3, r4, r5, v1, v2, v3, v4, v5, v6, strOf_bs]
  refine PureT.eq (c31 _ _ ?_) rfl ?_
  omega
  simp -implicitDefEqProofs (dsimp := false) only [go_sem, simprocAttr, hfb, hr, r1, r2, r3, r4, r5, v1, v2, v3, v4, v5, v6, strOf_bs]
  refine CodeT.condF rfl ?_
  refine CodeT.skip ?_
  simp -implicitDefEqProofs (dsimp := false) only [go_sem, simprocAttr, hfb, hr, r1, r2, r3, r4, r5, v1, v2, v3, v4, v5, v6, strOf_bs]
  refine CodeT.seqR ?_
  simp -implicitDefEqProofs (dsimp := false) only [go_sem, simprocAttr, hfb, hr, r1, r2, r3, r4, r5, v1, v2, v3, v4, v5, v6, strOf_bs]
  refine PureT.eq (c20 _ ?_) rfl ?_
  assumption
  simp -implicitDefEqProofs (dsimp := false) only [go_sem, simprocAttr, hfb, hr, r1, r2, r3, r4, r5, v1, v2, v3, v4, v5, v6, strOf_bs]
  refine CodeT.seqR ?_
  simp -implicitDefEqProofs (dsimp := false) only [go_sem, simprocAttr, hfb, hr, r1, r2, r3, r4, r5, v1, v2, v3, v4, v5, v6, strOf_bs]
  refine PureT.eq (c35 _ ?_) rfl ?_
  assumption
  simp -implicitDefEqProofs (dsimp := false) only [go_sem, simprocAttr, hfb, hr, r1, r2, r3, r4, r5, v1, v2, v3, v4, v5, v6, strOf_bs]
  refine CodeT.seq ?_
  refine CodeT.seqR ?_
  simp -implicitDefEqProofs (dsimp := false) only [go_sem, simprocAttr, hfb, hr, r1, r2, r3, r4, r5, v1, v2, v3, v4, v5, v6, strOf_bs]
  refine PureT.eq (c31 _ _ ?_) rfl ?_
  omega
  simp -implicitDefEqProofs (dsimp := false) only [go_sem, simprocAttr, hfb, hr, r1, r2, r3, r4, r5, v1, v2, v3, v4, v5, v6, strOf_bs]
  refine CodeT.condF rfl ?_
  refine CodeT.skip ?_
  simp -implicitDefEqProofs (dsimp := false) only [go_sem, simprocAttr, hfb, hr, r1, r2, r3, r4, r5, v1, v2, v3, v4, v5, v6, strOf_bs]
  refine CodeT.seqR ?_
  simp -implicitDefEqProofs (dsimp := false) only [go_sem, simprocAttr, hfb, hr, r1, r2, r3, r4, r5, v1, v2, v3, v4, v5, v6, strOf_bs]
  refine PureT.eq (c21 _ ?_) rfl ?_
  assumption
  simp -implicitDefEqProofs (dsimp := false) only [go_sem, simprocAttr, hfb, hr, r1, r2, r3, r4, r5, v1, v2, v3, v4, v5, v6, strOf_bs]
  refine CodeT.seqR ?_
  simp -implicitDefEqProofs (dsimp := false) only [go_sem, simprocAttr, hfb, hr, r1, r2, r3, r4, r5, v1, v2, v3, v4, v5, v6, strOf_bs]
  refine PureT.eq (c36 _ ?_) rfl ?_
  assumption
  simp -implicitDefEqProofs (dsimp := false) only [go_sem, simprocAttr, hfb, hr, r1, r2, r3, r4, r5, v1, v2, v3, v4, v5, v6, strOf_bs]
  refine CodeT.seqR ?_
  simp -implicitDefEqProofs (dsimp := false) only [go_sem, simprocAttr, hfb, hr, r1, r2, r3, r4, r5, v1, v2, v3, v4, v5, v6, strOf_bs]
  refine PureT.eq (c24 _ ?_) rfl ?_
  assumption
  simp -implicitDefEqProofs (dsimp := false) only [go_sem, simprocAttr, hfb, hr, r1, r2, r3, r4, r5, v1, v2, v3, v4, v5, v6, strOf_bs]
  refine CodeT.seqR ?_
  simp -implicitDefEqProofs (dsimp := false) only [go_sem, simprocAttr, hfb, hr, r1, r2, r3, r4, r5, v1, v2, v3, v4, v5, v6, strOf_bs]
  refine PureT.eq (c37 _ ?_) rfl ?_
  assumption
  simp -implicitDefEqProofs (dsimp := false) only [go_sem, simprocAttr, hfb, hr, r1, r2, r3, r4, r5, v1, v2, v3, v4, v5, v6, strOf_bs]
  refine CodeT.seqR ?_
  simp -implicitDefEqProofs (dsimp := false) only [go_sem, simprocAttr, hfb, hr, r1, r2, r3, r4, r5, v1, v2, v3, v4, v5, v6, strOf_bs]
  refine And.intro (by exact bs_byte _) ?_
  refine And.intro (by exact bs_byte _) ?_
  refine PureT.eq (c23 _ _ ?_) rfl ?_
  assumption
  simp -implicitDefEqProofs (dsimp := false) only [go_sem, simprocAttr, hfb, hr, r1, r2, r3, r4, r5, v1, v2, v3, v4, v5, v6, strOf_bs]
  refine CodeT.ret ?_
  simp -implicitDefEqProofs (dsimp := false) only [go_sem, simprocAttr, hfb, hr, r1, r2, r3, r4, r5, v1, v2, v3, v4, v5, v6, strOf_bs]
  refine pureEnd rfl ?_
  simp -implicitDefEqProofs (dsimp := false) only [go_sem, simprocAttr, hfb, hr, r1, r2, r3, r4, r5, v1, v2, v3, v4, v5, v6, strOf_bs]
end Go.Proofs.Try

namespace Go.Proofs.Try
set_option linter.unusedSimpArgs false
set_option linter.unusedVariables false
open Go.PM
set_option maxHeartbeats 4000000
set_option maxRecDepth 100000

theorem kt74 : Try.prog.keyTypeAt 20 74 = true := by kernel_rfl
theorem eg74 : Try.prog.eqGuardType Try.prog.depth 74 = false := by kernel_rfl
theorem is74 : isStructB Try.prog 74 = true := by kernel_rfl
theorem co72 : Try.prog.cellsOf 72 = 5 := by kernel_rfl
theorem co70 : Try.prog.cellsOf 70 = 3 := by kernel_rfl
theorem co74 : Try.prog.cellsOf 74 = 8 := by kernel_rfl
theorem co3 : Try.prog.cellsOf 3 = 1 := by kernel_rfl
theorem co9 : Try.prog.cellsOf 9 = 1 := by kernel_rfl
theorem lits74 (c : Chg) (h : ChgW c) : litsA Try.prog 74 [.val (.int .i64 c.kind), .val (.int .i64 c.oid), .val (.string (strB c.name)), .val (.string (strB c.sname)), .val (.int .i64 c.skind), .val (.int .i64 c.vk), .val (.int .i64 c.vn), .val (.string (strB c.vt))] = some (litL c) := by
  have w : ∀ n : Int, (-9223372036854775808 ≤ n ∧ n ≤ 9223372036854775807) → (Lit.int .i64 n).wf = true := by
    intro n hn
    simp [Lit.wf, IntKind.min, IntKind.max, IntKind.signed, IntKind.bits]
    omega
  have u3 : ∀ (d : Nat) (n : Int), (-9223372036854775808 ≤ n ∧ n ≤ 9223372036854775807) → Try.prog.keyLits (d + 1) 3 [.int .i64 n] = some [.int .i64 n] := by
    intro d n hn
    simp only [Program.keyLits, Try.underlying3, w n hn, and_self, if_true]
  have u9 : ∀ (d : Nat) (l : List UInt8), l.length ≤ maxLen → Try.prog.keyLits (d + 1) 9 [.string (strB l)] = some [.string l] := by
    intro d l hl
    have : (strB l).size ≤ maxLen := hl
    simp only [Program.keyLits, Try.underlying9, this, if_true]
    rfl
  have u70 : Try.prog.keyLits 18 70 [.int .i64 c.vk, .int .i64 c.vn, .string (strB c.vt)] = some [.int .i64 c.vk, .int .i64 c.vn, .string c.vt] := by
    unfold Program.keyLits
    simp [Try.underlying70, co70, co3, co9, u3 16 _ h.vk, u3 16 _ h.vn, u9 16 _ h.vt]
  have u72 : Try.prog.keyLits 19 72 [.string (strB c.sname), .int .i64 c.skind, .int .i64 c.vk, .int .i64 c.vn, .string (strB c.vt)] = some [.string c.sname, .int .i64 c.skind, .int .i64 c.vk, .int .i64 c.vn, .string c.vt] := by
    unfold Program.keyLits
    simp [Try.underlying72, co72, co70, co3, co9, u3 17 _ h.sk, u9 17 _ h.sn, u70]
  unfold litsA
  simp only [List.mapM_cons, List.mapM_nil, Go.PM.valOf, bind, Option.bind_some, pure]
  unfold Program.keyLits
  simp [Try.underlying74, co74, co72, co3, co9, u3 18 _ h.k, u3 18 _ h.o, u9 18 _ h.n, u72, litL]
theorem litEq_self (l : List Lit) : litEq l l = true := litEq_iff.2 rfl
attribute [go_sem] kt74 eg74 is74 litEq_self
attribute [go_sem ↓] aggEqA
theorem c10 (a b : List UInt8) (c : Chg) (hb : b.length ≤ maxLen) (hc : ChgW c) (z1 : c.name.length ≤ 140737488351232) (z2 : c.sname.length ≤ 140737488351232) (z3 : c.vt.length ≤ 140737488351232) : PureT Try.prog 10 [.sl false (bs a), .sl false (bs b), chv c] (· = .val (.bool true)) := by
  have hl := lits74 _ (unpackD_W (b := b) hb)
  have r1 : ∀ x : List UInt8, (strB x == strB x) = true := fun x => by rw [strB_beq]; simp
  have r2 : ∀ x : List (List UInt8), (x == x) = true := fun x => by simp
  have r4 : ∀ x : Int, (x == x) = true := fun x => by simp
  have hp : (parseR b).length ≤ b.length + 1 := by rw [parseR_len]; exact parse_len b
  refine CallT.intro Try.func10 (by decide) rfl ?_
  simp -implicitDefEqProofs (dsimp := false) only [go_sem, simprocAttr, hl, r1, r2, r4, outC, chv, chc, str, i64v, str_size, strOf_bs, enterTm, Try.ntmps10, List.range'_succ, List.range'_zero, List.zip_cons_cons, List.zip_nil_left]
  refine CodeT.seqR ?_
  simp -implicitDefEqProofs (dsimp := false) only [go_sem, simprocAttr, hl, r1, r2, r4, outC, chv, chc, str, i64v, str_size, strOf_bs]
  refine CodeT.seqR ?_
  simp -implicitDefEqProofs (dsimp := false) only [go_sem, simprocAttr, hl, r1, r2, r4, outC, chv, chc, str, i64v, str_size, strOf_bs]
  refine PureT.eq (c12) rfl ?_
  simp -implicitDefEqProofs (dsimp := false) only [go_sem, simprocAttr, hl, r1, r2, r4, outC, chv, chc, str, i64v, str_size, strOf_bs]
  refine CodeT.seq ?_
  refine CodeT.seqR ?_
  simp -implicitDefEqProofs (dsimp := false) only [go_sem, simprocAttr, hl, r1, r2, r4, outC, chv, chc, str, i64v, str_size, strOf_bs]
  refine gif_i (fun g6 => ?_) (fun g6 => ?_)
  have d6 := ofDec g6
  simp -implicitDefEqProofs (dsimp := false) only [go_sem, simprocAttr, hl, r1, r2, r4, outC, chv, chc, str, i64v, str_size, strOf_bs, g6]
  refine CodeT.condT rfl ?_
  refine CodeT.seqR ?_
  simp -implicitDefEqProofs (dsimp := false) only [go_sem, simprocAttr, hl, r1, r2, r4, outC, chv, chc, str, i64v, str_size, strOf_bs, g6]
  refine CodeT.ret ?_
  simp -implicitDefEqProofs (dsimp := false) only [go_sem, simprocAttr, hl, r1, r2, r4, outC, chv, chc, str, i64v, str_size, strOf_bs, g6]
  refine pureEnd rfl ?_
  simp -implicitDefEqProofs (dsimp := false) only [go_sem, simprocAttr, hl, r1, r2, r4, outC, chv, chc, str, i64v, str_size, strOf_bs, g6]
  have d6 := ofDecF g6
  simp -implicitDefEqProofs (dsimp := false) only [go_sem, simprocAttr, hl, r1, r2, r4, outC, chv, chc, str, i64v, str_size, strOf_bs, g6]
  refine gif_i (fun g7 => ?_) (fun g7 => ?_)
  have d7 := ofDec g7
  simp -implicitDefEqProofs (dsimp := false) only [go_sem, simprocAttr, hl, r1, r2, r4, outC, chv, chc, str, i64v, str_size, strOf_bs, g6, g7]
  refine CodeT.condT rfl ?_
  refine CodeT.seqR ?_
  simp -implicitDefEqProofs (dsimp := false) only [go_sem, simprocAttr, hl, r1, r2, r4, outC, chv, chc, str, i64v, str_size, strOf_bs, g6, g7]
  refine CodeT.ret ?_
  simp -implicitDefEqProofs (dsimp := false) only [go_sem, simprocAttr, hl, r1, r2, r4, outC, chv, chc, str, i64v, str_size, strOf_bs, g6, g7]
  refine pureEnd rfl ?_
  simp -implicitDefEqProofs (dsimp := false) only [go_sem, simprocAttr, hl, r1, r2, r4, outC, chv, chc, str, i64v, str_size, strOf_bs, g6, g7]
  have d7 := ofDecF g7
  simp -implicitDefEqProofs (dsimp := false) only [go_sem, simprocAttr, hl, r1, r2, r4, outC, chv, chc, str, i64v, str_size, strOf_bs, g6, g7]
  simp -implicitDefEqProofs (dsimp := false) (disch := omega) only [i64_in, bs_getD, opvs_getD, is64_getD, bss_getD]
  refine CodeT.cond rfl (fun g8 => ?_) (fun g8 => ?_)
  have d8 := ofDec g8
  refine CodeT.seqR ?_
  simp -implicitDefEqProofs (dsimp := false) only [go_sem, simprocAttr, hl, r1, r2, r4, outC, chv, chc, str, i64v, str_size, strOf_bs, g6, g7, g8]
  refine CodeT.ret ?_
  simp -implicitDefEqProofs (dsimp := false) only [go_sem, simprocAttr, hl, r1, r2, r4, outC, chv, chc, str, i64v, str_size, strOf_bs, g6, g7, g8]
  refine pureEnd rfl ?_
  simp -implicitDefEqProofs (dsimp := false) only [go_sem, simprocAttr, hl, r1, r2, r4, outC, chv, chc, str, i64v, str_size, strOf_bs, g6, g7, g8]
  have d8 := ofDecF g8
  refine CodeT.skip ?_
  simp -implicitDefEqProofs (dsimp := false) only [go_sem, simprocAttr, hl, r1, r2, r4, outC, chv, chc, str, i64v, str_size, strOf_bs, g6, g7, g8]
  refine CodeT.seqR ?_
  simp -implicitDefEqProofs (dsimp := false) only [go_sem, simprocAttr, hl, r1, r2, r4, outC, chv, chc, str, i64v, str_size, strOf_bs, g6, g7, g8]
  refine PureT.eq (c14 _ ?_) rfl ?_
  omega
  simp -implicitDefEqProofs (dsimp := false) only [go_sem, simprocAttr, hl, r1, r2, r4, outC, chv, chc, str, i64v, str_size, strOf_bs, g6, g7, g8]
  refine CodeT.seqR ?_
  simp -implicitDefEqProofs (dsimp := false) only [go_sem, simprocAttr, hl, r1, r2, r4, outC, chv, chc, str, i64v, str_size, strOf_bs, g6, g7, g8]
  refine PureT.eq (c44 _ ?_) rfl ?_
  omega
  simp -implicitDefEqProofs (dsimp := false) only [go_sem, simprocAttr, hl, r1, r2, r4, outC, chv, chc, str, i64v, str_size, strOf_bs, g6, g7, g8]
  refine CodeT.seqR ?_
  simp -implicitDefEqProofs (dsimp := false) only [go_sem, simprocAttr, hl, r1, r2, r4, outC, chv, chc, str, i64v, str_size, strOf_bs, g6, g7, g8]
  refine PureT.eq (c45 _ ?_) rfl ?_
  omega
  simp -implicitDefEqProofs (dsimp := false) only [go_sem, simprocAttr, hl, r1, r2, r4, outC, chv, chc, str, i64v, str_size, strOf_bs, g6, g7, g8]
  refine CodeT.seqR ?_
  simp -implicitDefEqProofs (dsimp := false) only [go_sem, simprocAttr, hl, r1, r2, r4, outC, chv, chc, str, i64v, str_size, strOf_bs, g6, g7, g8]
  refine PureT.eq (c46 _ ?_) rfl ?_
  omega
  simp -implicitDefEqProofs (dsimp := false) only [go_sem, simprocAttr, hl, r1, r2, r4, outC, chv, chc, str, i64v, str_size, strOf_bs, g6, g7, g8]
  refine CodeT.seqD [(0, .free), (1, .free), (2, .free), (3, .free), (4, .free), (5, .free), (6, .free), (7, .free), (8, .free), (9, .free), (10, .free), (11, .free), (12, .free), (13, .free), (14, .free), (15, .free), (16, .free), (17, .free), (18, .free), (19, .free), (20, .free), (21, .read), (22, .free), (23, .free), (24, .read), (25, .free), (26, .free), (27, .free), (28, .free), (29, .free), (30, .read), (31, .read), (32, .free), (33, .free), (34, .free), (35, .free), (36, .free), (37, .free), (38, .free), (39, .free)] mixed (by kernel_rfl) ?_
  simp -implicitDefEqProofs (dsimp := false) only [go_sem, simprocAttr, hl, r1, r2, r4, outC, chv, chc, str, i64v, str_size, strOf_bs, g6, g7, g8]
  refine CallF.go (c13 _ ?_) rfl ?_
  omega
  simp -implicitDefEqProofs (dsimp := false) only [go_sem, simprocAttr, hl, r1, r2, r4, outC, chv, chc, str, i64v, str_size, strOf_bs, g6, g7, g8]
  refine And.intro (by exact bs_byte _) ?_
  refine CallF.go (c47 _ ?_) rfl ?_
  omega
  simp -implicitDefEqProofs (dsimp := false) only [go_sem, simprocAttr, hl, r1, r2, r4, outC, chv, chc, str, i64v, str_size, strOf_bs, g6, g7, g8]
  refine And.intro (by exact bs_byte _) ?_
  refine CallF.go (c23 _ _ ?_) rfl ?_
  omega
  simp -implicitDefEqProofs (dsimp := false) only [go_sem, simprocAttr, hl, r1, r2, r4, outC, chv, chc, str, i64v, str_size, strOf_bs, g6, g7, g8]
  refine CallF.go (c48 _ ?_ ?_ ?_) rfl ?_
  omega
  omega
  omega
  simp -implicitDefEqProofs (dsimp := false) only [go_sem, simprocAttr, hl, r1, r2, r4, outC, chv, chc, str, i64v, str_size, strOf_bs, g6, g7, g8]
  refine And.intro (by exact bs_byte _) ?_
  refine CallF.go (c49 _ ?_ ?_ ?_) rfl ?_
  omega
  omega
  omega
  simp -implicitDefEqProofs (dsimp := false) only [go_sem, simprocAttr, hl, r1, r2, r4, outC, chv, chc, str, i64v, str_size, strOf_bs, g6, g7, g8]
  refine And.intro (by exact bs_byte _) ?_
  refine CodeT.ret ?_
  simp -implicitDefEqProofs (dsimp := false) only [go_sem, simprocAttr, hl, r1, r2, r4, outC, chv, chc, str, i64v, str_size, strOf_bs, g6, g7, g8]
  refine pureEnd rfl ?_
  simp -implicitDefEqProofs (dsimp := false) only [go_sem, simprocAttr, hl, r1, r2, r4, outC, chv, chc, str, i64v, str_size, strOf_bs, g6, g7, g8]
end Go.Proofs.Try

namespace Go.PM
open Go.RowKit Go.Deep

section
variable {H : Type} {enc : TypeId × Value → H} {P : Program} {W : World}

/-- Fields that lie one behind the other, from cell off on: n cells in all. -/
def OpensF (enc : TypeId × Value → H) (P : Program) (W : World) (off n : Nat) (fs : List Field) {α : Type} (f : α → List AV) (p : α → Prop) : Prop :=
  ∀ (fuel : Nat) (cs : List Value), (∀ fd ∈ fs, ∃ x, DataW.trod enc P W 0 (fun _ => true) true fuel fd.type ((cs.drop fd.offset).take (P.cellsOf fd.type)) = some x) → ∃ a, p a ∧ CellsL (Mem.of W) (f a) ((cs.drop off).take n)

theorem opensF_nil {off : Nat} : OpensF enc P W off 0 [] (fun _ : Unit => []) (fun _ => True) := by
  intro fuel cs _
  refine ⟨(), trivial, by simp, fun j c hc => by simp at hc⟩
theorem opensF_cons {off n m sz : Nat} {fd : Field} {fs : List Field} {α β : Type} {g : α → AV} {p : α → Prop} {f : β → List AV} {q : β → Prop} (ho : fd.offset = off) (hsz : P.cellsOf fd.type = sz) (hm : m = sz + n)
    (h0 : Opens enc P W fd.type g p) (hl : ∀ a, (g a).cells.length = sz) (h1 : OpensF enc P W (off + sz) n fs f q) : OpensF enc P W off m (fd :: fs) (fun x : α × β => (g x.1).cells ++ f x.2) (fun x => p x.1 ∧ q x.2) := by
  subst hm
  intro fuel cs h
  obtain ⟨x, hx⟩ := h fd (List.mem_cons_self ..)
  obtain ⟨a, k1, k2⟩ := h0 _ _ _ hx
  obtain ⟨b, k3, k4⟩ := h1 fuel cs (fun fd' hf => h fd' (List.mem_cons_of_mem _ hf))
  rw [ho, hsz] at k2
  exact ⟨(a, b), ⟨k1, k3⟩, k2.app k4 (hl a)⟩
theorem opens_struct {t : TypeId} {fs : Array Field} {n : Nat} {α : Type} {f : α → List AV} {p : α → Prop} (ht : P.underlying t = some (.struct fs)) (hn : P.cellsOf t = n) (h : OpensF enc P W 0 n fs.toList f p) : Opens enc P W t (fun a => .agg (f a)) p := by
  intro fuel cs x hx
  obtain ⟨xs, m, _, rfl, hl, hlen, hf⟩ := DataW.trod_struct ht hx
  obtain ⟨a, k1, k2⟩ := h m cs (fun fd hfd => by
    obtain ⟨i, hi⟩ := List.getElem?_of_mem hfd
    have := hf i fd (by simpa using hi)
    have hlt : i < xs.length := by
      rw [hlen]
      have := (List.getElem?_eq_some_iff.1 hi).1
      simpa using this
    exact ⟨xs[i], this.trans (List.getElem?_eq_getElem hlt)⟩)
  refine ⟨a, k1, ?_⟩
  rw [List.drop_zero, List.take_of_length_le (by omega)] at k2
  exact k2
theorem Opens.map {t : TypeId} {α β : Type} {f : α → AV} {p : α → Prop} {f' : β → AV} (h : Opens enc P W t f p) (g : α → β) (hg : ∀ a, f a = f' (g a)) : Opens enc P W t f' (fun b => ∃ a, p a ∧ g a = b) := fun fuel cs x hx => by
  obtain ⟨a, h1, h2⟩ := h fuel cs x hx
  exact ⟨g a, ⟨a, h1, rfl⟩, hg a ▸ h2⟩
end
end Go.PM

namespace Go.Proofs.Try
set_option linter.unusedVariables false
open Go.PM Go.RowKit
variable {H : Type} {enc : TypeId × Value → H} {W : World}
theorem opensBytes : Opens enc Try.prog W 22 (fun l : List UInt8 => AV.sl false (l.map b8)) (fun l => l.length ≤ maxLen) :=
  (opens_slice (sz := 1) Try.underlying22 (by kernel_rfl) (by decide) (fun _ => rfl) (opens_u8 Try.underlying5)).mono fun _ h => h.2
/-- What every operation that is given is like. -/
structure OpW (o : DOp) : Prop where
  a0 : -9223372036854775808 ≤ o.at_
  a1 : o.at_ ≤ 9223372036854775807
  b : o.bytes.length ≤ maxLen
theorem opensOp : Opens enc Try.prog W 39 opv OpW :=
  ((opens_struct Try.underlying39 (by kernel_rfl) (opensF_cons rfl (by kernel_rfl) rfl (opens_bool Try.underlying4) (fun _ => rfl) (opensF_cons rfl (by kernel_rfl) rfl (opens_i64 Try.underlying3) (fun _ => rfl) (opensF_cons rfl (by kernel_rfl) rfl opensBytes (fun _ => rfl) opensF_nil)))).map (f' := opv) (fun x => (⟨x.1, x.2.1, x.2.2.1⟩ : DOp)) (fun _ => rfl)).mono
    fun o ⟨x, ⟨_, h1, h2, _⟩, h3⟩ => h3 ▸ ⟨h1.1, h1.2, h2⟩
instance : Inhabited DOp := ⟨op0⟩
theorem opensOps : Opens enc Try.prog W 29 (fun l : List DOp => AV.sl false (opvs l)) (fun l => (∀ o ∈ l, OpW o) ∧ l.length ≤ maxLen) :=
  opens_slice (sz := 3) Try.underlying29 (by kernel_rfl) (by decide) (fun _ => rfl) opensOp
structure DskW (d : Dsk) : Prop where
  b : d.bytes.length ≤ maxLen
  q : d.queue.length ≤ maxLen
  o : ∀ o ∈ d.queue, OpW o
theorem opensDsk : Opens enc Try.prog W 31 dkv DskW :=
  ((opens_struct Try.underlying31 (by kernel_rfl) (opensF_cons rfl (by kernel_rfl) rfl opensBytes (fun _ => rfl) (opensF_cons rfl (by kernel_rfl) rfl opensOps (fun _ => rfl) opensF_nil))).map (f' := dkv) (fun x => (⟨x.1, x.2.1⟩ : Dsk)) (fun _ => rfl)).mono
    fun o ⟨x, ⟨h0, h1, _⟩, h3⟩ => h3 ▸ ⟨h0, h1.2, h1.1⟩
theorem opensInts : Opens enc Try.prog W 32 (fun l : List Int => AV.sl false (is64 l)) (fun l => (∀ n ∈ l, -9223372036854775808 ≤ n ∧ n ≤ 9223372036854775807) ∧ l.length ≤ maxLen) :=
  opens_slice (sz := 1) Try.underlying32 (by kernel_rfl) (by decide) (fun _ => rfl) (opens_i64 Try.underlying3)
end Go.Proofs.Try

namespace Go.Proofs.Try
set_option linter.unusedVariables false
open Go.PM Go.RowKit
variable {H : Type} {enc : TypeId × Value → H} {W : World}
structure ChgZ (c : Chg) : Prop where
  w : ChgW c
  z1 : c.name.length ≤ 140737488351232
  z2 : c.sname.length ≤ 140737488351232
  z3 : c.vt.length ≤ 140737488351232
structure V3 where
  k : Int
  n : Int
  t : List UInt8
def v3v (v : V3) : AV := .agg [i64v v.k, i64v v.n, str v.t]
structure V3Z (v : V3) : Prop where
  k : -9223372036854775808 ≤ v.k ∧ v.k ≤ 9223372036854775807
  n : -9223372036854775808 ≤ v.n ∧ v.n ≤ 9223372036854775807
  t : v.t.length ≤ reachBytes
theorem opensStr : OpensZ enc Try.prog W 9 str (fun l => l.length ≤ reachBytes) := opensZ_string Try.underlying9
theorem opensInt : OpensZ enc Try.prog W 3 i64v (fun n => -9223372036854775808 ≤ n ∧ n ≤ 9223372036854775807) := (opens_i64 Try.underlying3).z
theorem opens70 : OpensZ enc Try.prog W 70 v3v V3Z :=
  ((opensZ_struct Try.underlying70 (by kernel_rfl) (opensFZ_cons rfl (by kernel_rfl) rfl opensInt (fun _ => rfl) (opensFZ_cons rfl (by kernel_rfl) rfl opensInt (fun _ => rfl) (opensFZ_cons rfl (by kernel_rfl) rfl opensStr (fun _ => rfl) opensFZ_nil)))).map (f' := v3v) (fun x => (⟨x.1, x.2.1, x.2.2.1⟩ : V3)) (fun _ => rfl)).mono
    fun o ⟨x, ⟨h1, h2, h3, _⟩, h⟩ => h ▸ ⟨h1, h2, h3⟩
structure S5 where
  s : List UInt8
  k : Int
  v : V3
def s5v (x : S5) : AV := .agg [str x.s, i64v x.k, i64v x.v.k, i64v x.v.n, str x.v.t]
structure S5Z (x : S5) : Prop where
  s : x.s.length ≤ reachBytes
  k : -9223372036854775808 ≤ x.k ∧ x.k ≤ 9223372036854775807
  v : V3Z x.v
theorem opens72 : OpensZ enc Try.prog W 72 s5v S5Z :=
  ((opensZ_struct Try.underlying72 (by kernel_rfl) (opensFZ_cons rfl (by kernel_rfl) rfl opensStr (fun _ => rfl) (opensFZ_cons rfl (by kernel_rfl) rfl opensInt (fun _ => rfl) (opensFZ_cons (sz := 3) rfl (by kernel_rfl) rfl opens70 (fun _ => rfl) opensFZ_nil)))).map (f' := s5v) (fun x => (⟨x.1, x.2.1, x.2.2.1⟩ : S5)) (fun _ => rfl)).mono
    fun o ⟨x, ⟨h1, h2, h3, _⟩, h⟩ => h ▸ ⟨h1, h2, h3⟩
theorem opensChg : OpensZ enc Try.prog W 74 chv ChgZ :=
  ((opensZ_struct Try.underlying74 (by kernel_rfl) (opensFZ_cons rfl (by kernel_rfl) rfl opensInt (fun _ => rfl) (opensFZ_cons rfl (by kernel_rfl) rfl opensInt (fun _ => rfl) (opensFZ_cons rfl (by kernel_rfl) rfl opensStr (fun _ => rfl) (opensFZ_cons (sz := 5) rfl (by kernel_rfl) rfl opens72 (fun _ => rfl) opensFZ_nil))))).map (f' := chv)
    (fun x => (⟨x.1, x.2.1, x.2.2.1, x.2.2.2.1.s, x.2.2.2.1.k, x.2.2.2.1.v.k, x.2.2.2.1.v.n, x.2.2.2.1.v.t⟩ : Chg)) (fun _ => rfl)).mono
    fun c ⟨x, ⟨h1, h2, h3, h4, _⟩, h⟩ => by
      subst h
      have m : reachBytes ≤ maxLen := by decide
      exact ⟨⟨h1, h2, Nat.le_trans h3 m, Nat.le_trans h4.s m, h4.k, h4.v.k, h4.v.n, Nat.le_trans h4.v.t m⟩, h3, h4.s, h4.v.t⟩
end Go.Proofs.Try
