/-
  THE SPECIFICATION: WHAT IS TO BE DONE, WHAT IS READ.
-/
import Derived.Test.YtnmghpieidlpbaaD3
set_option linter.unusedVariables false
set_option linter.unusedSimpArgs false
namespace Go.Proofs.Try
set_option linter.unusedSimpArgs false
set_option linter.unusedVariables false
open Go.PM
set_option maxHeartbeats 4000000
set_option maxRecDepth 100000

theorem nibs_len (l : List UInt8) (i : Nat) (h : i ≤ l.length) : ((l.take i).flatMap nib).length = 2 * i := by
  induction i with
  | zero => simp
  | succ i ih =>
    rw [List.take_add_one, List.getElem?_eq_getElem (by omega), List.flatMap_append, List.length_append, ih (by omega)]
    simp [nib]; omega
theorem nibs_succ (l : List UInt8) (i : Nat) (h : i < l.length) : (l.take (i + 1)).flatMap nib = (l.take i).flatMap nib ++ nib (l.getD i 0) := by
  rw [List.take_add_one, List.getElem?_eq_getElem h, List.flatMap_append]
  simp [List.getD_eq_getElem?_getD, h]
theorem nib_av (x : UInt8) : [AV.val (.int .u8 (IntKind.u8.wrap (16 + IntKind.u8.wrap ((x.toNat : Int).tdiv 16)))), .val (.int .u8 (IntKind.u8.wrap (16 + (x.toNat : Int).tmod 16)))] = bs (nib x) := by
  rw [u8_16, u8_quo, u8_rem, u8_add, u8_add]
  rfl
theorem c47 (l : List UInt8) (hl : l.length ≤ 1000000) : PureT Try.prog 47 [.sl false (bs l)] (· = .sl false (bs (frame l))) := by
  refine CallT.res ?_
  refine CallT.intro Try.func47 (by decide) rfl ?_
  simp -implicitDefEqProofs (dsimp := false) only [go_sem, simprocAttr, bs_snoc2, enterTm, Try.ntmps47, List.range'_succ, List.range'_zero, List.zip_cons_cons, List.zip_nil_left]
  refine CodeT.seqR ?_
  simp -implicitDefEqProofs (dsimp := false) only [go_sem, simprocAttr, bs_snoc2]
  refine CodeT.seqR ?_
  simp -implicitDefEqProofs (dsimp := false) only [go_sem, simprocAttr, bs_snoc2]
  refine CodeT.seq ?_
  refine CodeT.seqR ?_
  simp -implicitDefEqProofs (dsimp := false) only [go_sem, simprocAttr, bs_snoc2]
  refine CodeT.block ?_
  refine CodeT.promote 3 1 rfl ?_
  simp -implicitDefEqProofs (dsimp := false) only [go_sem, simprocAttr, bs_snoc2]
  refine CodeT.whileS (fun i : Nat => [(4, .val (.int .i64 (i : Nat))), (3, .hsl 0 i 0 (2 * i))]) [0] (fun i : Nat => [.row true i 1 (bs ((l.take i).flatMap nib))]) (fun i : Nat => i ≤ l.length) (fun i : Nat => l.length - i) (0) ?_ rfl ?_ ?_
  omega
  refine ⟨rfl, ?_, ?_, rfl, ?_⟩
  simp -implicitDefEqProofs (dsimp := false) only [go_sem, simprocAttr, bs_snoc2, or_true, true_or, false_or, or_false, implies_true, Int.natCast_add, Int.cast_ofNat_Int, keepsD_nil]
  trivial
  simp -implicitDefEqProofs (dsimp := false) only [go_sem, simprocAttr, bs_snoc2, or_true, true_or, false_or, or_false, implies_true, Int.natCast_add, Int.cast_ofNat_Int, keepsD_nil]
  trivial
  simp -implicitDefEqProofs (dsimp := false) only [go_sem, simprocAttr, bs_snoc2, or_true, true_or, false_or, or_false, implies_true, Int.natCast_add, Int.cast_ofNat_Int, keepsD_nil]
  rintro i hi
  have f1 := nibs_len l i hi
  have f2 := nibs_succ l i
  simp -implicitDefEqProofs (dsimp := false) only [go_sem, simprocAttr, bs_snoc2]
  refine CodeT.seq ?_
  refine CodeT.seqR ?_
  simp -implicitDefEqProofs (dsimp := false) only [go_sem, simprocAttr, bs_snoc2]
  refine CodeT.cond rfl (fun g1 => ?_) (fun g1 => ?_)
  have d1 := ofDec g1
  refine CodeT.skip ?_
  simp -implicitDefEqProofs (dsimp := false) only [go_sem, simprocAttr, bs_snoc2, g1]
  refine CodeT.seq (CodeT.block ?_)
  refine CodeT.drawnL [(0, .free), (1, .free), (2, .free), (7, .free), (8, .free), (3, .read), (4, .read), (5, .free), (6, .free), (9, .read), (10, .read), (11, .free), (12, .free), (13, .upd), (14, .upd), (15, .free)] mixed (by kernel_rfl) ?_
  simp -implicitDefEqProofs (dsimp := false) only [go_sem, simprocAttr, bs_snoc2, g1]
  refine gate_i ?_ ?_
  omega
  simp -implicitDefEqProofs (dsimp := false) (disch := omega) only [Int.toNat_natCast, i64_in, bs_getD, opvs_getD, is64_getD, bss_getD]
  simp -implicitDefEqProofs (dsimp := false) only [go_sem, simprocAttr, bs_snoc2, g1]
  refine gate_i ?_ ?_
  omega
  simp -implicitDefEqProofs (dsimp := false) (disch := omega) only [Int.toNat_natCast, i64_in, bs_getD, opvs_getD, is64_getD, bss_getD]
  simp -implicitDefEqProofs (dsimp := false) only [go_sem, simprocAttr, bs_snoc2, g1]
  refine And.intro (by trivial) ?_
  refine And.intro (by exact Stable.refl _) ?_
  refine And.intro ?_ ?_
  rotate_left
  refine And.intro (by omega) ?_
  refine And.intro (by omega) ?_
  refine And.intro (by exact Stable.row (Stable.refl _)) ?_
  refine CodeT.region ?_
  simp -implicitDefEqProofs (dsimp := false) only [go_sem, simprocAttr, bs_snoc2, g1]
  simp -implicitDefEqProofs (dsimp := false) (disch := omega) only [i64_in, bs_getD, opvs_getD, is64_getD, bss_getD]
  refine ⟨i + 1, ?_⟩
  refine And.intro ?_ ?_
  omega
  refine And.intro ?_ ?_
  omega
  refine ⟨rfl, ?_, ?_, rfl, ?_⟩
  simp -implicitDefEqProofs (dsimp := false) only [go_sem, simprocAttr, bs_snoc2, g1, or_true, true_or, false_or, or_false, implies_true, Int.natCast_add, Int.cast_ofNat_Int, keepsD_nil]
  refine And.intro ?_ ?_
  (congr 1 <;> omega)
  trivial
  simp -implicitDefEqProofs (dsimp := false) only [go_sem, simprocAttr, bs_snoc2, g1, or_true, true_or, false_or, or_false, implies_true, Int.natCast_add, Int.cast_ofNat_Int, keepsD_nil]
  rotate_left
  simp -implicitDefEqProofs (dsimp := false) only [go_sem, simprocAttr, bs_snoc2, g1, or_true, true_or, false_or, or_false, implies_true, Int.natCast_add, Int.cast_ofNat_Int, keepsD_nil]
  have d1 := ofDecF g1
  refine CodeT.exit ?_
  simp -implicitDefEqProofs (dsimp := false) only [go_sem, simprocAttr, bs_snoc2, g1]
  refine CodeT.seqR ?_
  simp -implicitDefEqProofs (dsimp := false) only [go_sem, simprocAttr, bs_snoc2, g1]
  refine And.intro (by trivial) ?_
  refine And.intro ?_ ?_
  rotate_left
  refine And.intro (by omega) ?_
  refine And.intro (by omega) ?_
  refine CodeT.ret ?_
  simp -implicitDefEqProofs (dsimp := false) only [go_sem, simprocAttr, bs_snoc2, g1]
  refine And.intro (by omega) ?_
  refine pureEnd rfl ?_
  rotate_left
  · rw [nib_av]; exact uni_bs _
  · rw [nib_av, f2 (by omega), ← bs_append]
  · exact uni_bs [255]
  · have : i = l.length := by omega
    subst this
    rw [List.take_length, show [AV.val (.int .u8 255)] = bs [255] from rfl, bs_append, List.take_of_length_le (by rw [bs_length, List.length_append]; simp)]
    rfl
/-- What is told of what is seen of a disk. -/
theorem halfOf_seen (d : Dsk) (hi : isDiskB d = true) : halfOf (seenB d) = useB d := by
  have := seenB_length (isDisk_ok hi).2
  unfold halfOf; rw [this]; rfl
theorem c76s (d : Dsk) (hi : isDiskB d = true) : PureT Try.prog 76 [.sl false (bs (seenB d))] (· = .tup [.sl false (bss (parseR (useB d))), .val (.int .i64 (halfB d + endB d : Nat)), .val (.int .i64 (halfB d + szB d : Nat))]) := by
  have h1 := seenB_length (isDisk_ok hi).2
  have h2 := disk_facts hi
  have := c76 (seenB d) (by omega) (by omega)
  rw [halfOf_seen d hi, h1] at this
  exact this
theorem c77s (d : Dsk) (hi : isDiskB d = true) (hf : Few d) : PureT Try.prog 77 [dkv d] (· = .sl false (bs (seenB d))) := c77 d (isDisk_ok hi).2 hf
theorem c87 (d : Dsk) (hi : isDiskB d = true) (hf : Few d) : PureT Try.prog 87 [dkv d] (· = .val (.bool (clB d))) := by
  have h1 := seenB_length (isDisk_ok hi).2
  have h2 := disk_facts hi
  have h3 := c76 d.bytes (by omega) (by omega)
  obtain ⟨k1, k2⟩ := halfAt_le d.bytes (by omega)
  have h4 := parseE_le (halfOf d.bytes)
  have h5 : (halfOf d.bytes).length = d.bytes.length / 2 := by simp [halfOf]; omega
  have e1 : (List.take (halfB d + szB d) (seenB d)).drop (halfB d + endB d) = (useB d).drop (endB d) := by
    show _ = (List.take (szB d) (List.drop (halfB d) (seenB d))).drop (endB d)
    rw [List.take_drop, List.drop_drop]
  have e2 : halfAt d.bytes = halfB d → (List.take (halfB d + szB d) d.bytes).drop (halfAt d.bytes + parseE (halfOf d.bytes)) = (oldB d (halfB d)).drop (parseE (oldB d (halfB d))) := by
    intro h
    rw [h]
    have : halfOf d.bytes = oldB d (halfB d) := by unfold halfOf oldB; rw [h]
    rw [this]
    show _ = (List.take (szB d) (List.drop (halfB d) d.bytes)).drop _
    rw [List.take_drop, List.drop_drop]
  have e3 : ∀ b, clB d = b → (if (!zerosB ((useB d).drop (endB d))) = true then false else if (((halfAt d.bytes : Nat) : Int) != ((halfB d : Nat) : Int)) = true then false else zerosB ((oldB d (halfB d)).drop (parseE (oldB d (halfB d))))) = b := fun b h => h
  refine CallT.intro Try.func87 (by decide) rfl ?_
  simp -implicitDefEqProofs (dsimp := false) only [go_sem, simprocAttr, e1, enterTm, Try.ntmps87, List.range'_succ, List.range'_zero, List.zip_cons_cons, List.zip_nil_left]
  refine CodeT.seqR ?_
  simp -implicitDefEqProofs (dsimp := false) only [go_sem, simprocAttr, e1]
  refine CodeT.freeze 1 ?_
  simp -implicitDefEqProofs (dsimp := false) only [go_sem, simprocAttr, e1]
  refine CodeT.seqR ?_
  simp -implicitDefEqProofs (dsimp := false) only [go_sem, simprocAttr, e1]
  refine PureT.eq (c77s d hi hf) rfl ?_
  simp -implicitDefEqProofs (dsimp := false) only [go_sem, simprocAttr, e1]
  refine CodeT.seqR ?_
  simp -implicitDefEqProofs (dsimp := false) only [go_sem, simprocAttr, e1]
  refine PureT.eq (c76s d hi) rfl ?_
  simp -implicitDefEqProofs (dsimp := false) only [go_sem, simprocAttr, e1]
  refine CodeT.seqR ?_
  simp -implicitDefEqProofs (dsimp := false) only [go_sem, simprocAttr, e1]
  refine PureT.eq (h3) rfl ?_
  simp -implicitDefEqProofs (dsimp := false) only [go_sem, simprocAttr, e1]
  refine CodeT.seqR ?_
  simp -implicitDefEqProofs (dsimp := false) only [go_sem, simprocAttr, e1]
  refine gif_i (fun g9 => ?_) (fun g9 => ?_)
  have d9 := ofBeq g9
  simp -implicitDefEqProofs (dsimp := false) only [go_sem, simprocAttr, e1, g9]
  refine And.intro (by exact uni_bs _) ?_
  refine And.intro (by omega) ?_
  refine And.intro (by omega) ?_
  refine And.intro (by omega) ?_
  refine PureT.eq (c79 _ ?_) rfl ?_
  rotate_left
  simp -implicitDefEqProofs (dsimp := false) only [go_sem, simprocAttr, e1, g9]
  refine gif_i (fun g11 => ?_) (fun g11 => ?_)
  simp -implicitDefEqProofs (dsimp := false) only [go_sem, simprocAttr, e1, g9, g11]
  refine And.intro (by exact uni_bs _) ?_
  refine And.intro (by omega) ?_
  refine And.intro (by omega) ?_
  refine And.intro (by omega) ?_
  refine PureT.eq (c79 _ ?_) rfl ?_
  rotate_left
  simp -implicitDefEqProofs (dsimp := false) only [go_sem, simprocAttr, e1, g9, g11]
  refine CodeT.ret ?_
  simp -implicitDefEqProofs (dsimp := false) only [go_sem, simprocAttr, e1, g9, g11]
  refine pureEnd rfl ?_
  rotate_left
  simp -implicitDefEqProofs (dsimp := false) only [go_sem, simprocAttr, e1, g9, g11]
  refine CodeT.ret ?_
  simp -implicitDefEqProofs (dsimp := false) only [go_sem, simprocAttr, e1, g9, g11]
  refine pureEnd rfl ?_
  rotate_left
  have d9 := ofBeqF g9
  simp -implicitDefEqProofs (dsimp := false) only [go_sem, simprocAttr, e1, g9]
  refine CodeT.ret ?_
  simp -implicitDefEqProofs (dsimp := false) only [go_sem, simprocAttr, e1, g9]
  refine pureEnd rfl ?_
  rotate_left
  · rw [List.length_drop]; omega
  · rw [List.length_drop, List.length_take]; omega
  · have hh : halfAt d.bytes = halfB d := by
      have := d9; unfold szB at this; omega
    rw [← e3 _ rfl, g11, e2 hh, hh]
    simp
  · rw [← e3 _ rfl, g11]
    simp
  · have hh : halfAt d.bytes ≠ halfB d := fun h => by
      rw [h] at g9
      simp [szB] at g9
    rw [← e3 _ rfl]
    have : (((halfAt d.bytes : Nat) : Int) != ((halfB d : Nat) : Int)) = true := by simpa using (by omega : ((halfAt d.bytes : Nat) : Int) ≠ ((halfB d : Nat) : Int))
    rw [this]
    simp
theorem half_bool (d : Dsk) : (((halfB d + szB d : Nat) : Int) - ((halfB d + endB d : Nat) : Int)) = ((szB d : Nat) : Int) - (endB d : Nat) := by omega
theorem c43 (d : Dsk) (hf : Few d) : PureT Try.prog 43 [dkv d] (· = checkV d) := by
  cases hi : isDiskB d
  · refine CallT.intro Try.func43 (by decide) rfl ?_
    simp -implicitDefEqProofs (dsimp := false) only [go_sem, simprocAttr, hi, enterTm, Try.ntmps43, List.range'_succ, List.range'_zero, List.zip_cons_cons, List.zip_nil_left]
    refine CodeT.seqR ?_
    simp -implicitDefEqProofs (dsimp := false) only [go_sem, simprocAttr, hi]
    refine CodeT.seq ?_
    refine CodeT.freeze 1 ?_
    simp -implicitDefEqProofs (dsimp := false) only [go_sem, simprocAttr, hi]
    refine CodeT.seqR ?_
    simp -implicitDefEqProofs (dsimp := false) only [go_sem, simprocAttr, hi]
    refine PureT.eq (c73 _ ?_) rfl ?_
    assumption
    simp -implicitDefEqProofs (dsimp := false) only [go_sem, simprocAttr, hi]
    refine CodeT.condT rfl ?_
    refine CodeT.seqR ?_
    simp -implicitDefEqProofs (dsimp := false) only [go_sem, simprocAttr, hi]
    refine CodeT.ret ?_
    simp -implicitDefEqProofs (dsimp := false) only [go_sem, simprocAttr, hi]
    refine pureEnd rfl ?_
    simp only [checkV, hi, er, Bool.true_and, Bool.false_and, Bool.and_true, Bool.and_false, Bool.true_or, Bool.false_or, Bool.or_true, Bool.or_false, Bool.not_true, Bool.not_false, Bool.false_eq_true, ↓reduceIte]
  refine CallT.intro Try.func43 (by decide) rfl ?_
  simp -implicitDefEqProofs (dsimp := false) only [go_sem, simprocAttr, hi, enterTm, Try.ntmps43, List.range'_succ, List.range'_zero, List.zip_cons_cons, List.zip_nil_left]
  refine CodeT.seqR ?_
  simp -implicitDefEqProofs (dsimp := false) only [go_sem, simprocAttr, hi]
  refine CodeT.seq ?_
  refine CodeT.freeze 1 ?_
  simp -implicitDefEqProofs (dsimp := false) only [go_sem, simprocAttr, hi]
  refine CodeT.seqR ?_
  simp -implicitDefEqProofs (dsimp := false) only [go_sem, simprocAttr, hi]
  refine PureT.eq (c73 _ ?_) rfl ?_
  assumption
  simp -implicitDefEqProofs (dsimp := false) only [go_sem, simprocAttr, hi]
  refine CodeT.condF rfl ?_
  refine CodeT.skip ?_
  simp -implicitDefEqProofs (dsimp := false) only [go_sem, simprocAttr, hi]
  refine CodeT.seqR ?_
  simp -implicitDefEqProofs (dsimp := false) only [go_sem, simprocAttr, hi]
  refine PureT.eq (c77s d hi hf) rfl ?_
  simp -implicitDefEqProofs (dsimp := false) only [go_sem, simprocAttr, hi]
  refine PureT.eq (c76s d hi) rfl ?_
  simp -implicitDefEqProofs (dsimp := false) only [go_sem, simprocAttr, hi]
  refine CodeT.seqR ?_
  simp -implicitDefEqProofs (dsimp := false) only [go_sem, simprocAttr, hi]
  refine gif_i (fun g4 => ?_) (fun g4 => ?_)
  have d4 := ofDec g4
  simp -implicitDefEqProofs (dsimp := false) only [go_sem, simprocAttr, hi, g4]
  refine PureT.eq (c87 d hi hf) rfl ?_
  simp -implicitDefEqProofs (dsimp := false) only [go_sem, simprocAttr, hi, g4]
  refine CodeT.ret ?_
  simp -implicitDefEqProofs (dsimp := false) only [go_sem, simprocAttr, hi, g4]
  refine pureEnd rfl ?_
  simp only [checkV, hi, er, wrB_eq, g4, Bool.true_and, Bool.false_and, Bool.and_true, Bool.and_false, Bool.true_or, Bool.false_or, Bool.or_true, Bool.or_false, Bool.not_true, Bool.not_false, Bool.false_eq_true, ↓reduceIte]
  have d4 := ofDecF g4
  simp -implicitDefEqProofs (dsimp := false) only [go_sem, simprocAttr, hi, g4]
  refine CodeT.ret ?_
  simp -implicitDefEqProofs (dsimp := false) only [go_sem, simprocAttr, hi, g4]
  refine pureEnd rfl ?_
  simp only [checkV, hi, er, wrB_eq, g4, Bool.true_and, Bool.false_and, Bool.and_true, Bool.and_false, Bool.true_or, Bool.false_or, Bool.or_true, Bool.or_false, Bool.not_true, Bool.not_false, Bool.false_eq_true, ↓reduceIte]
theorem c30 (d : Dsk) (hf : Few d) (base : List UInt8) (hb : base.length ≤ 1000000) : PureT Try.prog 30 [dkv d, .sl false (bs base)] (· = formatV d base) := by
  refine CallT.laxR ?_
  have hl := frame_length base
  cases hi : isDiskB d
  · refine CallT.intro Try.func30 (by decide) rfl ?_
    simp -implicitDefEqProofs (dsimp := false) only [go_sem, simprocAttr, hi, enterTm, Try.ntmps30, List.range'_succ, List.range'_zero, List.zip_cons_cons, List.zip_nil_left]
    refine CodeT.seqR ?_
    simp -implicitDefEqProofs (dsimp := false) only [go_sem, simprocAttr, hi]
    refine CodeT.seq ?_
    refine CodeT.freeze 2 ?_
    simp -implicitDefEqProofs (dsimp := false) only [go_sem, simprocAttr, hi]
    refine CodeT.seqR ?_
    simp -implicitDefEqProofs (dsimp := false) only [go_sem, simprocAttr, hi]
    refine PureT.eq (c73 _ ?_) rfl ?_
    assumption
    simp -implicitDefEqProofs (dsimp := false) only [go_sem, simprocAttr, hi]
    refine CodeT.condT rfl ?_
    refine CodeT.seqR ?_
    simp -implicitDefEqProofs (dsimp := false) only [go_sem, simprocAttr, hi]
    refine CodeT.ret ?_
    simp -implicitDefEqProofs (dsimp := false) only [go_sem, simprocAttr, hi]
    refine pureEnd rfl ?_
    simp only [formatV, hi, er, Bool.true_and, Bool.false_and, Bool.and_true, Bool.and_false, Bool.true_or, Bool.false_or, Bool.or_true, Bool.or_false, Bool.not_true, Bool.not_false, Bool.false_eq_true, ↓reduceIte]
  have hd := disk_facts hi
  have hh := half_len (n := d.bytes.length) (by omega)
  refine CallT.intro Try.func30 (by decide) rfl ?_
  simp -implicitDefEqProofs (dsimp := false) only [go_sem, simprocAttr, hi, hh, enterTm, Try.ntmps30, List.range'_succ, List.range'_zero, List.zip_cons_cons, List.zip_nil_left]
  refine CodeT.seqR ?_
  simp -implicitDefEqProofs (dsimp := false) only [go_sem, simprocAttr, hi, hh]
  refine CodeT.seq ?_
  refine CodeT.freeze 2 ?_
  simp -implicitDefEqProofs (dsimp := false) only [go_sem, simprocAttr, hi, hh]
  refine CodeT.seqR ?_
  simp -implicitDefEqProofs (dsimp := false) only [go_sem, simprocAttr, hi, hh]
  refine PureT.eq (c73 _ ?_) rfl ?_
  assumption
  simp -implicitDefEqProofs (dsimp := false) only [go_sem, simprocAttr, hi, hh]
  refine CodeT.condF rfl ?_
  refine CodeT.skip ?_
  simp -implicitDefEqProofs (dsimp := false) only [go_sem, simprocAttr, hi, hh]
  refine CodeT.seqR ?_
  simp -implicitDefEqProofs (dsimp := false) only [go_sem, simprocAttr, hi, hh]
  refine PureT.eq (c47 _ ?_) rfl ?_
  assumption
  simp -implicitDefEqProofs (dsimp := false) only [go_sem, simprocAttr, hi, hh]
  refine CodeT.seq ?_
  refine CodeT.seqR ?_
  simp -implicitDefEqProofs (dsimp := false) only [go_sem, simprocAttr, hi, hh]
  refine CodeT.cond rfl (fun g3 => ?_) (fun g3 => ?_)
  have d3 := ofDec g3
  refine CodeT.seqR ?_
  simp -implicitDefEqProofs (dsimp := false) only [go_sem, simprocAttr, hi, hh, g3]
  refine CodeT.ret ?_
  simp -implicitDefEqProofs (dsimp := false) only [go_sem, simprocAttr, hi, hh, g3]
  refine pureEnd rfl ?_
  rotate_left
  have d3 := ofDecF g3
  refine CodeT.skip ?_
  simp -implicitDefEqProofs (dsimp := false) only [go_sem, simprocAttr, hi, hh, g3]
  refine CodeT.seqR ?_
  simp -implicitDefEqProofs (dsimp := false) only [go_sem, simprocAttr, hi, hh, g3]
  refine And.intro (by omega) ?_
  refine And.intro (by omega) ?_
  refine And.intro (by omega) ?_
  refine CallT.args ⟨_, Try.func74, by decide, rfl⟩ ?_
  simp -implicitDefEqProofs (dsimp := false) only [go_sem, simprocAttr, hi, hh, g3]
  refine And.intro (by omega) ?_
  refine PureT.eq (c74 _ _) rfl ?_
  simp -implicitDefEqProofs (dsimp := false) only [go_sem, simprocAttr, hi, hh, g3]
  refine PureT.eq (c75) rfl ?_
  simp -implicitDefEqProofs (dsimp := false) only [go_sem, simprocAttr, hi, hh, g3]
  refine PureT.eq (c74 _ _) rfl ?_
  simp -implicitDefEqProofs (dsimp := false) only [go_sem, simprocAttr, hi, hh, g3]
  refine PureT.eq (c75) rfl ?_
  simp -implicitDefEqProofs (dsimp := false) only [go_sem, simprocAttr, hi, hh, g3]
  refine And.intro (by trivial) ?_
  refine CodeT.ret ?_
  simp -implicitDefEqProofs (dsimp := false) only [go_sem, simprocAttr, hi, hh, g3]
  refine pureEnd rfl ?_
  rotate_left
  · unfold formatV szB; rw [hi, g3]; rfl
  · unfold formatV szB; rw [hi, g3]; rfl
theorem c32 (d : Dsk) (hf : Few d) (r : List UInt8) (hb : r.length ≤ 1000000) : PureT Try.prog 32 [dkv d, .sl false (bs r)] (· = appendV d r) := by
  refine CallT.laxR ?_
  have hl := frame_length r
  cases hi : isDiskB d
  · refine CallT.intro Try.func32 (by decide) rfl ?_
    simp -implicitDefEqProofs (dsimp := false) only [go_sem, simprocAttr, hi, checkV, enterTm, Try.ntmps32, List.range'_succ, List.range'_zero, List.zip_cons_cons, List.zip_nil_left]
    refine CodeT.seqR ?_
    simp -implicitDefEqProofs (dsimp := false) only [go_sem, simprocAttr, hi, checkV]
    refine CodeT.freeze 2 ?_
    simp -implicitDefEqProofs (dsimp := false) only [go_sem, simprocAttr, hi, checkV]
    refine CodeT.seqR ?_
    simp -implicitDefEqProofs (dsimp := false) only [go_sem, simprocAttr, hi, checkV]
    refine PureT.eq (c43 _ ?_) rfl ?_
    assumption
    simp -implicitDefEqProofs (dsimp := false) only [go_sem, simprocAttr, hi, checkV]
    refine CodeT.seq ?_
    refine CodeT.seqR ?_
    simp -implicitDefEqProofs (dsimp := false) only [go_sem, simprocAttr, hi, checkV]
    refine CodeT.condT rfl ?_
    refine CodeT.seqR ?_
    simp -implicitDefEqProofs (dsimp := false) only [go_sem, simprocAttr, hi, checkV]
    refine CodeT.ret ?_
    simp -implicitDefEqProofs (dsimp := false) only [go_sem, simprocAttr, hi, checkV]
    refine pureEnd rfl ?_
    simp only [appendV, hi, er, Bool.true_and, Bool.false_and, Bool.and_true, Bool.and_false, Bool.true_or, Bool.false_or, Bool.or_true, Bool.or_false, Bool.not_true, Bool.not_false, Bool.false_eq_true, ↓reduceIte]
  have hd := disk_facts hi
  cases hw : wrB d
  · refine CallT.intro Try.func32 (by decide) rfl ?_
    simp -implicitDefEqProofs (dsimp := false) only [go_sem, simprocAttr, hi, hw, checkV, enterTm, Try.ntmps32, List.range'_succ, List.range'_zero, List.zip_cons_cons, List.zip_nil_left]
    refine CodeT.seqR ?_
    simp -implicitDefEqProofs (dsimp := false) only [go_sem, simprocAttr, hi, hw, checkV]
    refine CodeT.freeze 2 ?_
    simp -implicitDefEqProofs (dsimp := false) only [go_sem, simprocAttr, hi, hw, checkV]
    refine CodeT.seqR ?_
    simp -implicitDefEqProofs (dsimp := false) only [go_sem, simprocAttr, hi, hw, checkV]
    refine PureT.eq (c43 _ ?_) rfl ?_
    assumption
    simp -implicitDefEqProofs (dsimp := false) only [go_sem, simprocAttr, hi, hw, checkV]
    refine CodeT.seq ?_
    refine CodeT.seqR ?_
    simp -implicitDefEqProofs (dsimp := false) only [go_sem, simprocAttr, hi, hw, checkV]
    refine CodeT.condF rfl ?_
    refine CodeT.skip ?_
    simp -implicitDefEqProofs (dsimp := false) only [go_sem, simprocAttr, hi, hw, checkV]
    refine CodeT.seq ?_
    refine CodeT.seqR ?_
    simp -implicitDefEqProofs (dsimp := false) only [go_sem, simprocAttr, hi, hw, checkV]
    refine CodeT.condT rfl ?_
    refine CodeT.seqR ?_
    simp -implicitDefEqProofs (dsimp := false) only [go_sem, simprocAttr, hi, hw, checkV]
    refine CodeT.ret ?_
    simp -implicitDefEqProofs (dsimp := false) only [go_sem, simprocAttr, hi, hw, checkV]
    refine pureEnd rfl ?_
    simp only [appendV, hi, er, hw, Bool.true_and, Bool.false_and, Bool.and_true, Bool.and_false, Bool.true_or, Bool.false_or, Bool.or_true, Bool.or_false, Bool.not_true, Bool.not_false, Bool.false_eq_true, ↓reduceIte]
  cases hc : clB d
  · refine CallT.intro Try.func32 (by decide) rfl ?_
    simp -implicitDefEqProofs (dsimp := false) only [go_sem, simprocAttr, hi, hw, hc, checkV, enterTm, Try.ntmps32, List.range'_succ, List.range'_zero, List.zip_cons_cons, List.zip_nil_left]
    refine CodeT.seqR ?_
    simp -implicitDefEqProofs (dsimp := false) only [go_sem, simprocAttr, hi, hw, hc, checkV]
    refine CodeT.freeze 2 ?_
    simp -implicitDefEqProofs (dsimp := false) only [go_sem, simprocAttr, hi, hw, hc, checkV]
    refine CodeT.seqR ?_
    simp -implicitDefEqProofs (dsimp := false) only [go_sem, simprocAttr, hi, hw, hc, checkV]
    refine PureT.eq (c43 _ ?_) rfl ?_
    assumption
    simp -implicitDefEqProofs (dsimp := false) only [go_sem, simprocAttr, hi, hw, hc, checkV]
    refine CodeT.seq ?_
    refine CodeT.seqR ?_
    simp -implicitDefEqProofs (dsimp := false) only [go_sem, simprocAttr, hi, hw, hc, checkV]
    refine CodeT.condF rfl ?_
    refine CodeT.skip ?_
    simp -implicitDefEqProofs (dsimp := false) only [go_sem, simprocAttr, hi, hw, hc, checkV]
    refine CodeT.seq ?_
    refine CodeT.seqR ?_
    simp -implicitDefEqProofs (dsimp := false) only [go_sem, simprocAttr, hi, hw, hc, checkV]
    refine CodeT.condT rfl ?_
    refine CodeT.seqR ?_
    simp -implicitDefEqProofs (dsimp := false) only [go_sem, simprocAttr, hi, hw, hc, checkV]
    refine CodeT.ret ?_
    simp -implicitDefEqProofs (dsimp := false) only [go_sem, simprocAttr, hi, hw, hc, checkV]
    refine pureEnd rfl ?_
    simp only [appendV, hi, er, hw, hc, Bool.true_and, Bool.false_and, Bool.and_true, Bool.and_false, Bool.true_or, Bool.false_or, Bool.or_true, Bool.or_false, Bool.not_true, Bool.not_false, Bool.false_eq_true, ↓reduceIte]
  refine CallT.intro Try.func32 (by decide) rfl ?_
  simp -implicitDefEqProofs (dsimp := false) only [go_sem, simprocAttr, hi, hw, hc, checkV, enterTm, Try.ntmps32, List.range'_succ, List.range'_zero, List.zip_cons_cons, List.zip_nil_left]
  refine CodeT.seqR ?_
  simp -implicitDefEqProofs (dsimp := false) only [go_sem, simprocAttr, hi, hw, hc, checkV]
  refine CodeT.freeze 2 ?_
  simp -implicitDefEqProofs (dsimp := false) only [go_sem, simprocAttr, hi, hw, hc, checkV]
  refine CodeT.seqR ?_
  simp -implicitDefEqProofs (dsimp := false) only [go_sem, simprocAttr, hi, hw, hc, checkV]
  refine PureT.eq (c43 _ ?_) rfl ?_
  assumption
  simp -implicitDefEqProofs (dsimp := false) only [go_sem, simprocAttr, hi, hw, hc, checkV]
  refine CodeT.seq ?_
  refine CodeT.seqR ?_
  simp -implicitDefEqProofs (dsimp := false) only [go_sem, simprocAttr, hi, hw, hc, checkV]
  refine CodeT.condF rfl ?_
  refine CodeT.skip ?_
  simp -implicitDefEqProofs (dsimp := false) only [go_sem, simprocAttr, hi, hw, hc, checkV]
  refine CodeT.seq ?_
  refine CodeT.seqR ?_
  simp -implicitDefEqProofs (dsimp := false) only [go_sem, simprocAttr, hi, hw, hc, checkV]
  refine CodeT.condF rfl ?_
  refine CodeT.skip ?_
  simp -implicitDefEqProofs (dsimp := false) only [go_sem, simprocAttr, hi, hw, hc, checkV]
  refine CodeT.seqR ?_
  simp -implicitDefEqProofs (dsimp := false) only [go_sem, simprocAttr, hi, hw, hc, checkV]
  refine PureT.eq (c77s d hi hf) rfl ?_
  simp -implicitDefEqProofs (dsimp := false) only [go_sem, simprocAttr, hi, hw, hc, checkV]
  refine PureT.eq (c76s d hi) rfl ?_
  simp -implicitDefEqProofs (dsimp := false) only [go_sem, simprocAttr, hi, hw, hc, checkV]
  refine CodeT.seqR ?_
  simp -implicitDefEqProofs (dsimp := false) only [go_sem, simprocAttr, hi, hw, hc, checkV]
  refine PureT.eq (c47 _ ?_) rfl ?_
  assumption
  simp -implicitDefEqProofs (dsimp := false) only [go_sem, simprocAttr, hi, hw, hc, checkV]
  refine CodeT.seq ?_
  refine CodeT.seqR ?_
  simp -implicitDefEqProofs (dsimp := false) only [go_sem, simprocAttr, hi, hw, hc, checkV]
  simp -implicitDefEqProofs (dsimp := false) (disch := omega) only [i64_in, bs_getD, opvs_getD, is64_getD, bss_getD]
  refine CodeT.cond rfl (fun g5 => ?_) (fun g5 => ?_)
  have d5 := ofDec g5
  refine CodeT.seqR ?_
  simp -implicitDefEqProofs (dsimp := false) only [go_sem, simprocAttr, hi, hw, hc, checkV, g5]
  refine CodeT.ret ?_
  simp -implicitDefEqProofs (dsimp := false) only [go_sem, simprocAttr, hi, hw, hc, checkV, g5]
  refine pureEnd rfl ?_
  (simp [appendV, hi, hw, hc, er, wr, fl, zs, opvs, List.map_cons, List.map_nil, half_bool, Int.natCast_add, *]; omega)
  have d5 := ofDecF g5
  refine CodeT.skip ?_
  simp -implicitDefEqProofs (dsimp := false) only [go_sem, simprocAttr, hi, hw, hc, checkV, g5]
  refine CodeT.seqR ?_
  simp -implicitDefEqProofs (dsimp := false) only [go_sem, simprocAttr, hi, hw, hc, checkV, g5]
  refine PureT.eq (c74 _ _) rfl ?_
  simp -implicitDefEqProofs (dsimp := false) only [go_sem, simprocAttr, hi, hw, hc, checkV, g5]
  refine And.intro (by trivial) ?_
  refine CodeT.ret ?_
  simp -implicitDefEqProofs (dsimp := false) only [go_sem, simprocAttr, hi, hw, hc, checkV, g5]
  refine pureEnd rfl ?_
  (simp [appendV, hi, hw, hc, er, wr, fl, zs, opvs, List.map_cons, List.map_nil, half_bool, Int.natCast_add, *]; omega)
theorem c34 (d : Dsk) (hf : Few d) (r : List UInt8) (hb : r.length ≤ 1000000) : PureT Try.prog 34 [dkv d, .sl false (bs r)] (· = checkinV d r) := by
  refine CallT.laxR ?_
  have hl := frame_length r
  cases hi : isDiskB d
  · refine CallT.intro Try.func34 (by decide) rfl ?_
    simp -implicitDefEqProofs (dsimp := false) only [go_sem, simprocAttr, hi, checkV, enterTm, Try.ntmps34, List.range'_succ, List.range'_zero, List.zip_cons_cons, List.zip_nil_left]
    refine CodeT.seqR ?_
    simp -implicitDefEqProofs (dsimp := false) only [go_sem, simprocAttr, hi, checkV]
    refine CodeT.freeze 2 ?_
    simp -implicitDefEqProofs (dsimp := false) only [go_sem, simprocAttr, hi, checkV]
    refine CodeT.seqR ?_
    simp -implicitDefEqProofs (dsimp := false) only [go_sem, simprocAttr, hi, checkV]
    refine PureT.eq (c43 _ ?_) rfl ?_
    assumption
    simp -implicitDefEqProofs (dsimp := false) only [go_sem, simprocAttr, hi, checkV]
    refine CodeT.seq ?_
    refine CodeT.seqR ?_
    simp -implicitDefEqProofs (dsimp := false) only [go_sem, simprocAttr, hi, checkV]
    refine CodeT.condT rfl ?_
    refine CodeT.seqR ?_
    simp -implicitDefEqProofs (dsimp := false) only [go_sem, simprocAttr, hi, checkV]
    refine CodeT.ret ?_
    simp -implicitDefEqProofs (dsimp := false) only [go_sem, simprocAttr, hi, checkV]
    refine pureEnd rfl ?_
    simp only [checkinV, hi, er, Bool.true_and, Bool.false_and, Bool.and_true, Bool.and_false, Bool.true_or, Bool.false_or, Bool.or_true, Bool.or_false, Bool.not_true, Bool.not_false, Bool.false_eq_true, ↓reduceIte]
  have hd := disk_facts hi
  have hh := half_len (n := d.bytes.length) (by omega)
  have hs := seenB_length (isDisk_ok hi).2
  cases hw : wrB d
  · refine CallT.intro Try.func34 (by decide) rfl ?_
    simp -implicitDefEqProofs (dsimp := false) only [go_sem, simprocAttr, hi, hw, checkV, enterTm, Try.ntmps34, List.range'_succ, List.range'_zero, List.zip_cons_cons, List.zip_nil_left]
    refine CodeT.seqR ?_
    simp -implicitDefEqProofs (dsimp := false) only [go_sem, simprocAttr, hi, hw, checkV]
    refine CodeT.freeze 2 ?_
    simp -implicitDefEqProofs (dsimp := false) only [go_sem, simprocAttr, hi, hw, checkV]
    refine CodeT.seqR ?_
    simp -implicitDefEqProofs (dsimp := false) only [go_sem, simprocAttr, hi, hw, checkV]
    refine PureT.eq (c43 _ ?_) rfl ?_
    assumption
    simp -implicitDefEqProofs (dsimp := false) only [go_sem, simprocAttr, hi, hw, checkV]
    refine CodeT.seq ?_
    refine CodeT.seqR ?_
    simp -implicitDefEqProofs (dsimp := false) only [go_sem, simprocAttr, hi, hw, checkV]
    refine CodeT.condF rfl ?_
    refine CodeT.skip ?_
    simp -implicitDefEqProofs (dsimp := false) only [go_sem, simprocAttr, hi, hw, checkV]
    refine CodeT.seq ?_
    refine CodeT.seqR ?_
    simp -implicitDefEqProofs (dsimp := false) only [go_sem, simprocAttr, hi, hw, checkV]
    refine CodeT.condT rfl ?_
    refine CodeT.seqR ?_
    simp -implicitDefEqProofs (dsimp := false) only [go_sem, simprocAttr, hi, hw, checkV]
    refine CodeT.ret ?_
    simp -implicitDefEqProofs (dsimp := false) only [go_sem, simprocAttr, hi, hw, checkV]
    refine pureEnd rfl ?_
    simp only [checkinV, hi, er, hw, Bool.true_and, Bool.false_and, Bool.and_true, Bool.and_false, Bool.true_or, Bool.false_or, Bool.or_true, Bool.or_false, Bool.not_true, Bool.not_false, Bool.false_eq_true, ↓reduceIte]
  refine CallT.intro Try.func34 (by decide) rfl ?_
  simp -implicitDefEqProofs (dsimp := false) only [go_sem, simprocAttr, hi, hw, checkV, hh, one_u8, zero_u8, enterTm, Try.ntmps34, List.range'_succ, List.range'_zero, List.zip_cons_cons, List.zip_nil_left]
  refine CodeT.seqR ?_
  simp -implicitDefEqProofs (dsimp := false) only [go_sem, simprocAttr, hi, hw, checkV, hh, one_u8, zero_u8]
  refine CodeT.freeze 2 ?_
  simp -implicitDefEqProofs (dsimp := false) only [go_sem, simprocAttr, hi, hw, checkV, hh, one_u8, zero_u8]
  refine CodeT.seqR ?_
  simp -implicitDefEqProofs (dsimp := false) only [go_sem, simprocAttr, hi, hw, checkV, hh, one_u8, zero_u8]
  refine PureT.eq (c43 _ ?_) rfl ?_
  assumption
  simp -implicitDefEqProofs (dsimp := false) only [go_sem, simprocAttr, hi, hw, checkV, hh, one_u8, zero_u8]
  refine CodeT.seq ?_
  refine CodeT.seqR ?_
  simp -implicitDefEqProofs (dsimp := false) only [go_sem, simprocAttr, hi, hw, checkV, hh, one_u8, zero_u8]
  refine CodeT.condF rfl ?_
  refine CodeT.skip ?_
  simp -implicitDefEqProofs (dsimp := false) only [go_sem, simprocAttr, hi, hw, checkV, hh, one_u8, zero_u8]
  refine CodeT.seq ?_
  refine CodeT.seqR ?_
  simp -implicitDefEqProofs (dsimp := false) only [go_sem, simprocAttr, hi, hw, checkV, hh, one_u8, zero_u8]
  refine CodeT.condF rfl ?_
  refine CodeT.skip ?_
  simp -implicitDefEqProofs (dsimp := false) only [go_sem, simprocAttr, hi, hw, checkV, hh, one_u8, zero_u8]
  refine CodeT.seqR ?_
  simp -implicitDefEqProofs (dsimp := false) only [go_sem, simprocAttr, hi, hw, checkV, hh, one_u8, zero_u8]
  refine CodeT.seqR ?_
  simp -implicitDefEqProofs (dsimp := false) only [go_sem, simprocAttr, hi, hw, checkV, hh, one_u8, zero_u8]
  refine PureT.eq (c47 _ ?_) rfl ?_
  assumption
  simp -implicitDefEqProofs (dsimp := false) only [go_sem, simprocAttr, hi, hw, checkV, hh, one_u8, zero_u8]
  refine CodeT.seq ?_
  refine CodeT.seqR ?_
  simp -implicitDefEqProofs (dsimp := false) only [go_sem, simprocAttr, hi, hw, checkV, hh, one_u8, zero_u8]
  refine CodeT.cond rfl (fun g3 => ?_) (fun g3 => ?_)
  have d3 := ofDec g3
  refine CodeT.seqR ?_
  simp -implicitDefEqProofs (dsimp := false) only [go_sem, simprocAttr, hi, hw, checkV, hh, one_u8, zero_u8, g3]
  refine CodeT.ret ?_
  simp -implicitDefEqProofs (dsimp := false) only [go_sem, simprocAttr, hi, hw, checkV, hh, one_u8, zero_u8, g3]
  refine pureEnd rfl ?_
  (simp [checkinV, hi, hw, er, wr, fl, zs, opvs, List.map_cons, List.map_nil, *]; omega)
  have d3 := ofDecF g3
  refine CodeT.skip ?_
  simp -implicitDefEqProofs (dsimp := false) only [go_sem, simprocAttr, hi, hw, checkV, hh, one_u8, zero_u8, g3]
  refine CodeT.seqR ?_
  simp -implicitDefEqProofs (dsimp := false) only [go_sem, simprocAttr, hi, hw, checkV, hh, one_u8, zero_u8, g3]
  refine CodeT.seqR ?_
  simp -implicitDefEqProofs (dsimp := false) only [go_sem, simprocAttr, hi, hw, checkV, hh, one_u8, zero_u8, g3]
  refine And.intro (by trivial) ?_
  refine CodeT.seq ?_
  refine CodeT.seqR ?_
  simp -implicitDefEqProofs (dsimp := false) only [go_sem, simprocAttr, hi, hw, checkV, hh, one_u8, zero_u8, g3]
  refine PureT.eq (c77s d hi hf) rfl ?_
  simp -implicitDefEqProofs (dsimp := false) only [go_sem, simprocAttr, hi, hw, checkV, hh, one_u8, zero_u8, g3]
  refine gate_i ?_ ?_
  omega
  simp -implicitDefEqProofs (dsimp := false) (disch := omega) only [Int.toNat_natCast, i64_in, bs_getD, opvs_getD, is64_getD, bss_getD]
  simp -implicitDefEqProofs (dsimp := false) only [go_sem, simprocAttr, hi, hw, checkV, hh, one_u8, zero_u8, g3]
  refine CodeT.cond rfl (fun g5 => ?_) (fun g5 => ?_)
  have d5 := ofBeq g5
  refine CodeT.seqR ?_
  simp -implicitDefEqProofs (dsimp := false) only [go_sem, simprocAttr, hi, hw, checkV, hh, one_u8, zero_u8, g3, g5]
  refine CodeT.region ?_
  simp -implicitDefEqProofs (dsimp := false) only [go_sem, simprocAttr, hi, hw, checkV, hh, one_u8, zero_u8, g3, g5]
  refine And.intro (by trivial) ?_
  refine CodeT.seqR ?_
  simp -implicitDefEqProofs (dsimp := false) only [go_sem, simprocAttr, hi, hw, checkV, hh, one_u8, zero_u8, g3, g5]
  refine And.intro (by omega) ?_
  refine And.intro (by omega) ?_
  refine And.intro (by omega) ?_
  refine CallT.args ⟨_, Try.func74, by decide, rfl⟩ ?_
  simp -implicitDefEqProofs (dsimp := false) only [go_sem, simprocAttr, hi, hw, checkV, hh, one_u8, zero_u8, g3, g5]
  refine And.intro (by omega) ?_
  refine PureT.eq (c74 _ _) rfl ?_
  simp -implicitDefEqProofs (dsimp := false) only [go_sem, simprocAttr, hi, hw, checkV, hh, one_u8, zero_u8, g3, g5]
  refine PureT.eq (c75) rfl ?_
  simp -implicitDefEqProofs (dsimp := false) only [go_sem, simprocAttr, hi, hw, checkV, hh, one_u8, zero_u8, g3, g5]
  refine PureT.eq (c74 _ _) rfl ?_
  simp -implicitDefEqProofs (dsimp := false) only [go_sem, simprocAttr, hi, hw, checkV, hh, one_u8, zero_u8, g3, g5]
  refine PureT.eq (c75) rfl ?_
  simp -implicitDefEqProofs (dsimp := false) only [go_sem, simprocAttr, hi, hw, checkV, hh, one_u8, zero_u8, g3, g5]
  refine CallT.laxA ?_
  simp -implicitDefEqProofs (dsimp := false) only [go_sem, simprocAttr, hi, hw, checkV, hh, one_u8, zero_u8, g3, g5]
  refine PureT.eq (c74 _ _) rfl ?_
  simp -implicitDefEqProofs (dsimp := false) only [go_sem, simprocAttr, hi, hw, checkV, hh, one_u8, zero_u8, g3, g5]
  refine PureT.eq (c75) rfl ?_
  simp -implicitDefEqProofs (dsimp := false) only [go_sem, simprocAttr, hi, hw, checkV, hh, one_u8, zero_u8, g3, g5]
  refine And.intro (by trivial) ?_
  refine CodeT.ret ?_
  simp -implicitDefEqProofs (dsimp := false) only [go_sem, simprocAttr, hi, hw, checkV, hh, one_u8, zero_u8, g3, g5]
  refine pureEnd rfl ?_
  simp -implicitDefEqProofs (dsimp := false) (disch := omega) only [i64_in, bs_getD, opvs_getD, is64_getD, bss_getD]
  rotate_left
  have d5 := ofBeqF g5
  refine CodeT.skip ?_
  simp -implicitDefEqProofs (dsimp := false) only [go_sem, simprocAttr, hi, hw, checkV, hh, one_u8, zero_u8, g3, g5]
  refine CodeT.seqR ?_
  simp -implicitDefEqProofs (dsimp := false) only [go_sem, simprocAttr, hi, hw, checkV, hh, one_u8, zero_u8, g3, g5]
  refine And.intro (by omega) ?_
  refine And.intro (by omega) ?_
  refine And.intro (by omega) ?_
  refine CallT.args ⟨_, Try.func74, by decide, rfl⟩ ?_
  simp -implicitDefEqProofs (dsimp := false) only [go_sem, simprocAttr, hi, hw, checkV, hh, one_u8, zero_u8, g3, g5]
  refine And.intro (by omega) ?_
  refine PureT.eq (c74 _ _) rfl ?_
  simp -implicitDefEqProofs (dsimp := false) only [go_sem, simprocAttr, hi, hw, checkV, hh, one_u8, zero_u8, g3, g5]
  refine PureT.eq (c75) rfl ?_
  simp -implicitDefEqProofs (dsimp := false) only [go_sem, simprocAttr, hi, hw, checkV, hh, one_u8, zero_u8, g3, g5]
  refine PureT.eq (c74 _ _) rfl ?_
  simp -implicitDefEqProofs (dsimp := false) only [go_sem, simprocAttr, hi, hw, checkV, hh, one_u8, zero_u8, g3, g5]
  refine PureT.eq (c75) rfl ?_
  simp -implicitDefEqProofs (dsimp := false) only [go_sem, simprocAttr, hi, hw, checkV, hh, one_u8, zero_u8, g3, g5]
  refine CallT.laxA ?_
  simp -implicitDefEqProofs (dsimp := false) only [go_sem, simprocAttr, hi, hw, checkV, hh, one_u8, zero_u8, g3, g5]
  refine PureT.eq (c74 _ _) rfl ?_
  simp -implicitDefEqProofs (dsimp := false) only [go_sem, simprocAttr, hi, hw, checkV, hh, one_u8, zero_u8, g3, g5]
  refine PureT.eq (c75) rfl ?_
  simp -implicitDefEqProofs (dsimp := false) only [go_sem, simprocAttr, hi, hw, checkV, hh, one_u8, zero_u8, g3, g5]
  refine And.intro (by trivial) ?_
  refine CodeT.ret ?_
  simp -implicitDefEqProofs (dsimp := false) only [go_sem, simprocAttr, hi, hw, checkV, hh, one_u8, zero_u8, g3, g5]
  refine pureEnd rfl ?_
  rotate_left
  · have h0 : (seenB d).getD 0 0 = 0 := UInt8.toNat_inj.1 (by have := d5; rw [show (0 : UInt8).toNat = 0 from rfl]; omega)
    have hB : halfB d = 1 := by unfold halfB halfAt; rw [if_pos h0]
    unfold checkinV otherB turnB szB
    rw [hi, hw, hB, g3, show (2 + ((d.bytes.length / 2 : Nat) : Int) - ((1 : Nat) : Int)) = 1 + ((d.bytes.length / 2 : Nat) : Int) by omega]
    rfl
  · have h0 : (seenB d).getD 0 0 ≠ 0 := fun h => d5 (by rw [h]; rfl)
    have hB : halfB d = 1 + szB d := by unfold halfB halfAt; rw [if_neg h0, hs]; rfl
    have hn : (((1 + d.bytes.length / 2 : Nat) : Int) == 1) = false := by
      have := hd.2.2.1
      unfold szB at this
      simp; omega
    unfold checkinV otherB turnB szB
    unfold szB at hB
    rw [hi, hw, hB, g3, hn, show (2 + ((d.bytes.length / 2 : Nat) : Int) - ((1 + d.bytes.length / 2 : Nat) : Int)) = 1 by omega]
    rfl
theorem c35 (d : Dsk) (hf : Few d) : PureT Try.prog 35 [dkv d] (· = openV d) := by
  refine CallT.laxR ?_
  have hq := hf.q
  cases hi : isDiskB d
  · refine CallT.intro Try.func35 (by decide) rfl ?_
    simp -implicitDefEqProofs (dsimp := false) only [go_sem, simprocAttr, hi, checkV, enterTm, Try.ntmps35, List.range'_succ, List.range'_zero, List.zip_cons_cons, List.zip_nil_left]
    refine CodeT.seqR ?_
    simp -implicitDefEqProofs (dsimp := false) only [go_sem, simprocAttr, hi, checkV]
    refine CodeT.freeze 1 ?_
    simp -implicitDefEqProofs (dsimp := false) only [go_sem, simprocAttr, hi, checkV]
    refine CodeT.seqR ?_
    simp -implicitDefEqProofs (dsimp := false) only [go_sem, simprocAttr, hi, checkV]
    refine PureT.eq (c43 _ ?_) rfl ?_
    assumption
    simp -implicitDefEqProofs (dsimp := false) only [go_sem, simprocAttr, hi, checkV]
    refine CodeT.seq ?_
    refine CodeT.seqR ?_
    simp -implicitDefEqProofs (dsimp := false) only [go_sem, simprocAttr, hi, checkV]
    refine CodeT.condT rfl ?_
    refine CodeT.seqR ?_
    simp -implicitDefEqProofs (dsimp := false) only [go_sem, simprocAttr, hi, checkV]
    refine CodeT.ret ?_
    simp -implicitDefEqProofs (dsimp := false) only [go_sem, simprocAttr, hi, checkV]
    refine pureEnd rfl ?_
    simp only [openV, hi, er, Bool.true_and, Bool.false_and, Bool.and_true, Bool.and_false, Bool.true_or, Bool.false_or, Bool.or_true, Bool.or_false, Bool.not_true, Bool.not_false, Bool.false_eq_true, ↓reduceIte]
  have hd := disk_facts hi
  have hs := seenB_length (isDisk_ok hi).2
  cases hw : wrB d
  · refine CallT.intro Try.func35 (by decide) rfl ?_
    simp -implicitDefEqProofs (dsimp := false) only [go_sem, simprocAttr, hi, hw, checkV, enterTm, Try.ntmps35, List.range'_succ, List.range'_zero, List.zip_cons_cons, List.zip_nil_left]
    refine CodeT.seqR ?_
    simp -implicitDefEqProofs (dsimp := false) only [go_sem, simprocAttr, hi, hw, checkV]
    refine CodeT.freeze 1 ?_
    simp -implicitDefEqProofs (dsimp := false) only [go_sem, simprocAttr, hi, hw, checkV]
    refine CodeT.seqR ?_
    simp -implicitDefEqProofs (dsimp := false) only [go_sem, simprocAttr, hi, hw, checkV]
    refine PureT.eq (c43 _ ?_) rfl ?_
    assumption
    simp -implicitDefEqProofs (dsimp := false) only [go_sem, simprocAttr, hi, hw, checkV]
    refine CodeT.seq ?_
    refine CodeT.seqR ?_
    simp -implicitDefEqProofs (dsimp := false) only [go_sem, simprocAttr, hi, hw, checkV]
    refine CodeT.condF rfl ?_
    refine CodeT.skip ?_
    simp -implicitDefEqProofs (dsimp := false) only [go_sem, simprocAttr, hi, hw, checkV]
    refine CodeT.seq ?_
    refine CodeT.seqR ?_
    simp -implicitDefEqProofs (dsimp := false) only [go_sem, simprocAttr, hi, hw, checkV]
    refine CodeT.condT rfl ?_
    refine CodeT.seqR ?_
    simp -implicitDefEqProofs (dsimp := false) only [go_sem, simprocAttr, hi, hw, checkV]
    refine CodeT.ret ?_
    simp -implicitDefEqProofs (dsimp := false) only [go_sem, simprocAttr, hi, hw, checkV]
    refine pureEnd rfl ?_
    simp only [openV, hi, er, hw, Bool.true_and, Bool.false_and, Bool.and_true, Bool.and_false, Bool.true_or, Bool.false_or, Bool.or_true, Bool.or_false, Bool.not_true, Bool.not_false, Bool.false_eq_true, ↓reduceIte]
  have e1 : (List.take (halfB d + szB d) (seenB d)).drop (halfB d + endB d) = (useB d).drop (endB d) := by
    show _ = (List.take (szB d) (List.drop (halfB d) (seenB d))).drop (endB d)
    rw [List.take_drop, List.drop_drop]
  have e2 : (((halfB d + szB d : Nat) : Int) - ((halfB d + endB d : Nat) : Int)).toNat = szB d - endB d := by omega
  have e3 : halfB d + szB d - (halfB d + endB d) = szB d - endB d := by omega
  refine CallT.intro Try.func35 (by decide) rfl ?_
  simp -implicitDefEqProofs (dsimp := false) only [go_sem, simprocAttr, hi, hw, checkV, e1, e3, enterTm, Try.ntmps35, List.range'_succ, List.range'_zero, List.zip_cons_cons, List.zip_nil_left]
  refine CodeT.seqR ?_
  simp -implicitDefEqProofs (dsimp := false) only [go_sem, simprocAttr, hi, hw, checkV, e1, e3]
  refine CodeT.freeze 1 ?_
  simp -implicitDefEqProofs (dsimp := false) only [go_sem, simprocAttr, hi, hw, checkV, e1, e3]
  refine CodeT.seqR ?_
  simp -implicitDefEqProofs (dsimp := false) only [go_sem, simprocAttr, hi, hw, checkV, e1, e3]
  refine PureT.eq (c43 _ ?_) rfl ?_
  assumption
  simp -implicitDefEqProofs (dsimp := false) only [go_sem, simprocAttr, hi, hw, checkV, e1, e3]
  refine CodeT.seq ?_
  refine CodeT.seqR ?_
  simp -implicitDefEqProofs (dsimp := false) only [go_sem, simprocAttr, hi, hw, checkV, e1, e3]
  refine CodeT.condF rfl ?_
  refine CodeT.skip ?_
  simp -implicitDefEqProofs (dsimp := false) only [go_sem, simprocAttr, hi, hw, checkV, e1, e3]
  refine CodeT.seq ?_
  refine CodeT.seqR ?_
  simp -implicitDefEqProofs (dsimp := false) only [go_sem, simprocAttr, hi, hw, checkV, e1, e3]
  refine CodeT.condF rfl ?_
  refine CodeT.skip ?_
  simp -implicitDefEqProofs (dsimp := false) only [go_sem, simprocAttr, hi, hw, checkV, e1, e3]
  refine CodeT.seqR ?_
  simp -implicitDefEqProofs (dsimp := false) only [go_sem, simprocAttr, hi, hw, checkV, e1, e3]
  refine PureT.eq (c77s d hi hf) rfl ?_
  simp -implicitDefEqProofs (dsimp := false) only [go_sem, simprocAttr, hi, hw, checkV, e1, e3]
  refine CodeT.seqR ?_
  simp -implicitDefEqProofs (dsimp := false) only [go_sem, simprocAttr, hi, hw, checkV, e1, e3]
  refine PureT.eq (c76s d hi) rfl ?_
  simp -implicitDefEqProofs (dsimp := false) only [go_sem, simprocAttr, hi, hw, checkV, e1, e3]
  refine CodeT.seq ?_
  refine CodeT.seqR ?_
  simp -implicitDefEqProofs (dsimp := false) only [go_sem, simprocAttr, hi, hw, checkV, e1, e3]
  refine And.intro (by exact uni_bs _) ?_
  refine And.intro (by omega) ?_
  refine And.intro (by omega) ?_
  refine And.intro (by omega) ?_
  refine PureT.eq (c79 _ ?_) rfl ?_
  (simp [openV, hi, hw, er, wr, fl, zs, opvs, List.map_cons, List.map_nil, *]; omega)
  simp -implicitDefEqProofs (dsimp := false) only [go_sem, simprocAttr, hi, hw, checkV, e1, e3]
  refine CodeT.cond rfl (fun g5 => ?_) (fun g5 => ?_)
  refine CodeT.seqD [(0, .free), (1, .free), (2, .free), (3, .free), (4, .free), (5, .upd), (6, .upd), (7, .free), (8, .upd), (9, .free), (10, .free)] mixed (by kernel_rfl) ?_
  simp -implicitDefEqProofs (dsimp := false) only [go_sem, simprocAttr, hi, hw, checkV, e1, e3, g5]
  refine CallF.go (c75) rfl ?_
  simp -implicitDefEqProofs (dsimp := false) only [go_sem, simprocAttr, hi, hw, checkV, e1, e3, g5]
  simp -implicitDefEqProofs (dsimp := false) (disch := omega) only [i64_in, bs_getD, opvs_getD, is64_getD, bss_getD]
  simp -implicitDefEqProofs (dsimp := false) only [go_sem, simprocAttr, hi, hw, checkV, e1, e3, g5]
  refine And.intro (by omega) ?_
  refine And.intro (by omega) ?_
  refine And.intro (by omega) ?_
  refine And.intro (by exact Stable.append [_] [_]) ?_
  refine ⟨⟨_, Try.func74, by decide, rfl⟩, ?_⟩
  simp -implicitDefEqProofs (dsimp := false) only [go_sem, simprocAttr, hi, hw, checkV, e1, e3, g5]
  refine And.intro (by omega) ?_
  refine CallY.pure (c74 _ _) rfl ?_
  simp -implicitDefEqProofs (dsimp := false) only [go_sem, simprocAttr, hi, hw, checkV, e1, e3, g5]
  refine And.intro (by exact Stable.same (Stable.row (Stable.refl _))) ?_
  refine CallF.go (c75) rfl ?_
  simp -implicitDefEqProofs (dsimp := false) only [go_sem, simprocAttr, hi, hw, checkV, e1, e3, g5]
  refine And.intro (by trivial) ?_
  refine And.intro (by exact Stable.refl _) ?_
  refine CodeT.ret ?_
  simp -implicitDefEqProofs (dsimp := false) only [go_sem, simprocAttr, hi, hw, checkV, e1, e3, g5]
  refine pureEnd rfl ?_
  simp [openV, hi, hw, er, wr, fl, zs, opvs, List.map_cons, List.map_nil, g5]
  refine CodeT.skip ?_
  simp -implicitDefEqProofs (dsimp := false) only [go_sem, simprocAttr, hi, hw, checkV, e1, e3, g5]
  refine CodeT.seq ?_
  refine CodeT.seqR ?_
  simp -implicitDefEqProofs (dsimp := false) only [go_sem, simprocAttr, hi, hw, checkV, e1, e3, g5]
  refine CodeT.cond rfl (fun g6 => ?_) (fun g6 => ?_)
  have d6 := ofDec g6
  refine CodeT.seqR ?_
  simp -implicitDefEqProofs (dsimp := false) only [go_sem, simprocAttr, hi, hw, checkV, e1, e3, g5, g6]
  refine PureT.eq (c75) rfl ?_
  simp -implicitDefEqProofs (dsimp := false) only [go_sem, simprocAttr, hi, hw, checkV, e1, e3, g5, g6]
  refine And.intro (by trivial) ?_
  refine CodeT.ret ?_
  simp -implicitDefEqProofs (dsimp := false) only [go_sem, simprocAttr, hi, hw, checkV, e1, e3, g5, g6]
  refine pureEnd rfl ?_
  simp only [openV, hi, hw, er, wr, fl, zs, opvs, List.map_cons, List.map_nil, g5, g6, Bool.true_and, Bool.false_and, Bool.and_true, Bool.and_false, Bool.true_or, Bool.false_or, Bool.or_true, Bool.or_false, Bool.not_true, Bool.not_false, Bool.false_eq_true, ↓reduceIte]
  have d6 := ofDecF g6
  refine CodeT.skip ?_
  simp -implicitDefEqProofs (dsimp := false) only [go_sem, simprocAttr, hi, hw, checkV, e1, e3, g5, g6]
  refine CodeT.seqR ?_
  simp -implicitDefEqProofs (dsimp := false) only [go_sem, simprocAttr, hi, hw, checkV, e1, e3, g5, g6]
  refine CodeT.ret ?_
  simp -implicitDefEqProofs (dsimp := false) only [go_sem, simprocAttr, hi, hw, checkV, e1, e3, g5, g6]
  refine pureEnd rfl ?_
  simp only [openV, hi, hw, er, wr, fl, zs, opvs, List.map_cons, List.map_nil, g5, g6, Bool.true_and, Bool.false_and, Bool.and_true, Bool.and_false, Bool.true_or, Bool.false_or, Bool.or_true, Bool.or_false, Bool.not_true, Bool.not_false, Bool.false_eq_true, ↓reduceIte]
theorem c36 (d : Dsk) (hf : Few d) : PureT Try.prog 36 [dkv d] (· = readV d) := by
  refine CallT.laxR ?_
  cases hi : isDiskB d
  · refine CallT.intro Try.func36 (by decide) rfl ?_
    simp -implicitDefEqProofs (dsimp := false) only [go_sem, simprocAttr, hi, checkV, enterTm, Try.ntmps36, List.range'_succ, List.range'_zero, List.zip_cons_cons, List.zip_nil_left]
    refine CodeT.seqR ?_
    simp -implicitDefEqProofs (dsimp := false) only [go_sem, simprocAttr, hi, checkV]
    refine CodeT.freeze 1 ?_
    simp -implicitDefEqProofs (dsimp := false) only [go_sem, simprocAttr, hi, checkV]
    refine CodeT.seqR ?_
    simp -implicitDefEqProofs (dsimp := false) only [go_sem, simprocAttr, hi, checkV]
    refine PureT.eq (c43 _ ?_) rfl ?_
    assumption
    simp -implicitDefEqProofs (dsimp := false) only [go_sem, simprocAttr, hi, checkV]
    refine CodeT.seq ?_
    refine CodeT.seqR ?_
    simp -implicitDefEqProofs (dsimp := false) only [go_sem, simprocAttr, hi, checkV]
    refine CodeT.condT rfl ?_
    refine CodeT.seqR ?_
    simp -implicitDefEqProofs (dsimp := false) only [go_sem, simprocAttr, hi, checkV]
    refine CodeT.ret ?_
    simp -implicitDefEqProofs (dsimp := false) only [go_sem, simprocAttr, hi, checkV]
    refine pureEnd rfl ?_
    simp only [readV, hi, er, Bool.true_and, Bool.false_and, Bool.and_true, Bool.and_false, Bool.true_or, Bool.false_or, Bool.or_true, Bool.or_false, Bool.not_true, Bool.not_false, Bool.false_eq_true, ↓reduceIte]
  cases hw : wrB d
  · refine CallT.intro Try.func36 (by decide) rfl ?_
    simp -implicitDefEqProofs (dsimp := false) only [go_sem, simprocAttr, hi, hw, checkV, enterTm, Try.ntmps36, List.range'_succ, List.range'_zero, List.zip_cons_cons, List.zip_nil_left]
    refine CodeT.seqR ?_
    simp -implicitDefEqProofs (dsimp := false) only [go_sem, simprocAttr, hi, hw, checkV]
    refine CodeT.freeze 1 ?_
    simp -implicitDefEqProofs (dsimp := false) only [go_sem, simprocAttr, hi, hw, checkV]
    refine CodeT.seqR ?_
    simp -implicitDefEqProofs (dsimp := false) only [go_sem, simprocAttr, hi, hw, checkV]
    refine PureT.eq (c43 _ ?_) rfl ?_
    assumption
    simp -implicitDefEqProofs (dsimp := false) only [go_sem, simprocAttr, hi, hw, checkV]
    refine CodeT.seq ?_
    refine CodeT.seqR ?_
    simp -implicitDefEqProofs (dsimp := false) only [go_sem, simprocAttr, hi, hw, checkV]
    refine CodeT.condF rfl ?_
    refine CodeT.skip ?_
    simp -implicitDefEqProofs (dsimp := false) only [go_sem, simprocAttr, hi, hw, checkV]
    refine CodeT.seq ?_
    refine CodeT.seqR ?_
    simp -implicitDefEqProofs (dsimp := false) only [go_sem, simprocAttr, hi, hw, checkV]
    refine CodeT.condT rfl ?_
    refine CodeT.seqR ?_
    simp -implicitDefEqProofs (dsimp := false) only [go_sem, simprocAttr, hi, hw, checkV]
    refine CodeT.ret ?_
    simp -implicitDefEqProofs (dsimp := false) only [go_sem, simprocAttr, hi, hw, checkV]
    refine pureEnd rfl ?_
    simp only [readV, hi, er, hw, Bool.true_and, Bool.false_and, Bool.and_true, Bool.and_false, Bool.true_or, Bool.false_or, Bool.or_true, Bool.or_false, Bool.not_true, Bool.not_false, Bool.false_eq_true, ↓reduceIte]
  have hp := hw
  rw [wrB_eq, decide_eq_true_eq] at hp
  refine CallT.intro Try.func36 (by decide) rfl ?_
  simp -implicitDefEqProofs (dsimp := false) only [go_sem, simprocAttr, hi, hw, checkV, enterTm, Try.ntmps36, List.range'_succ, List.range'_zero, List.zip_cons_cons, List.zip_nil_left]
  refine CodeT.seqR ?_
  simp -implicitDefEqProofs (dsimp := false) only [go_sem, simprocAttr, hi, hw, checkV]
  refine CodeT.freeze 1 ?_
  simp -implicitDefEqProofs (dsimp := false) only [go_sem, simprocAttr, hi, hw, checkV]
  refine CodeT.seqR ?_
  simp -implicitDefEqProofs (dsimp := false) only [go_sem, simprocAttr, hi, hw, checkV]
  refine PureT.eq (c43 _ ?_) rfl ?_
  assumption
  simp -implicitDefEqProofs (dsimp := false) only [go_sem, simprocAttr, hi, hw, checkV]
  refine CodeT.seq ?_
  refine CodeT.seqR ?_
  simp -implicitDefEqProofs (dsimp := false) only [go_sem, simprocAttr, hi, hw, checkV]
  refine CodeT.condF rfl ?_
  refine CodeT.skip ?_
  simp -implicitDefEqProofs (dsimp := false) only [go_sem, simprocAttr, hi, hw, checkV]
  refine CodeT.seq ?_
  refine CodeT.seqR ?_
  simp -implicitDefEqProofs (dsimp := false) only [go_sem, simprocAttr, hi, hw, checkV]
  refine CodeT.condF rfl ?_
  refine CodeT.skip ?_
  simp -implicitDefEqProofs (dsimp := false) only [go_sem, simprocAttr, hi, hw, checkV]
  refine CodeT.seqR ?_
  simp -implicitDefEqProofs (dsimp := false) only [go_sem, simprocAttr, hi, hw, checkV]
  refine PureT.eq (c77s d hi hf) rfl ?_
  simp -implicitDefEqProofs (dsimp := false) only [go_sem, simprocAttr, hi, hw, checkV]
  refine PureT.eq (c76s d hi) rfl ?_
  simp -implicitDefEqProofs (dsimp := false) only [go_sem, simprocAttr, hi, hw, checkV]
  refine CodeT.seqD [(0, .free), (3, .free), (1, .read), (2, .read), (5, .free), (4, .read), (6, .free), (7, .free)] mixed (by kernel_rfl) ?_
  simp -implicitDefEqProofs (dsimp := false) only [go_sem, simprocAttr, hi, hw, checkV]
  refine gate_i ?_ ?_
  assumption
  simp -implicitDefEqProofs (dsimp := false) (disch := omega) only [Int.toNat_natCast, i64_in, bs_getD, opvs_getD, is64_getD, bss_getD]
  simp -implicitDefEqProofs (dsimp := false) only [go_sem, simprocAttr, hi, hw, checkV]
  refine And.intro (by trivial) ?_
  refine And.intro (by exact uni_bss _) ?_
  refine And.intro (by assumption) ?_
  refine And.intro (by omega) ?_
  refine CodeT.ret ?_
  simp -implicitDefEqProofs (dsimp := false) only [go_sem, simprocAttr, hi, hw, checkV]
  refine pureEnd rfl ?_
  simp only [readV, hi, hw, er, Bool.true_and, Bool.false_and, Bool.and_true, Bool.and_false, Bool.true_or, Bool.false_or, Bool.or_true, Bool.or_false, Bool.not_true, Bool.not_false, Bool.false_eq_true, ↓reduceIte]
theorem c37 (d : Dsk) (hf : Few d) : PureT Try.prog 37 [dkv d] (· = roomV d) := by
  cases hi : isDiskB d
  · refine CallT.intro Try.func37 (by decide) rfl ?_
    simp -implicitDefEqProofs (dsimp := false) only [go_sem, simprocAttr, hi, checkV, enterTm, Try.ntmps37, List.range'_succ, List.range'_zero, List.zip_cons_cons, List.zip_nil_left]
    refine CodeT.seqR ?_
    simp -implicitDefEqProofs (dsimp := false) only [go_sem, simprocAttr, hi, checkV]
    refine CodeT.freeze 1 ?_
    simp -implicitDefEqProofs (dsimp := false) only [go_sem, simprocAttr, hi, checkV]
    refine CodeT.seqR ?_
    simp -implicitDefEqProofs (dsimp := false) only [go_sem, simprocAttr, hi, checkV]
    refine PureT.eq (c43 _ ?_) rfl ?_
    assumption
    simp -implicitDefEqProofs (dsimp := false) only [go_sem, simprocAttr, hi, checkV]
    refine CodeT.seq ?_
    refine CodeT.seqR ?_
    simp -implicitDefEqProofs (dsimp := false) only [go_sem, simprocAttr, hi, checkV]
    refine CodeT.condT rfl ?_
    refine CodeT.seqR ?_
    simp -implicitDefEqProofs (dsimp := false) only [go_sem, simprocAttr, hi, checkV]
    refine CodeT.ret ?_
    simp -implicitDefEqProofs (dsimp := false) only [go_sem, simprocAttr, hi, checkV]
    refine pureEnd rfl ?_
    simp only [roomV, hi, er, Bool.true_and, Bool.false_and, Bool.and_true, Bool.and_false, Bool.true_or, Bool.false_or, Bool.or_true, Bool.or_false, Bool.not_true, Bool.not_false, Bool.false_eq_true, ↓reduceIte]
  have hd := disk_facts hi
  cases hw : wrB d
  · refine CallT.intro Try.func37 (by decide) rfl ?_
    simp -implicitDefEqProofs (dsimp := false) only [go_sem, simprocAttr, hi, hw, checkV, enterTm, Try.ntmps37, List.range'_succ, List.range'_zero, List.zip_cons_cons, List.zip_nil_left]
    refine CodeT.seqR ?_
    simp -implicitDefEqProofs (dsimp := false) only [go_sem, simprocAttr, hi, hw, checkV]
    refine CodeT.freeze 1 ?_
    simp -implicitDefEqProofs (dsimp := false) only [go_sem, simprocAttr, hi, hw, checkV]
    refine CodeT.seqR ?_
    simp -implicitDefEqProofs (dsimp := false) only [go_sem, simprocAttr, hi, hw, checkV]
    refine PureT.eq (c43 _ ?_) rfl ?_
    assumption
    simp -implicitDefEqProofs (dsimp := false) only [go_sem, simprocAttr, hi, hw, checkV]
    refine CodeT.seq ?_
    refine CodeT.seqR ?_
    simp -implicitDefEqProofs (dsimp := false) only [go_sem, simprocAttr, hi, hw, checkV]
    refine CodeT.condF rfl ?_
    refine CodeT.skip ?_
    simp -implicitDefEqProofs (dsimp := false) only [go_sem, simprocAttr, hi, hw, checkV]
    refine CodeT.seq ?_
    refine CodeT.seqR ?_
    simp -implicitDefEqProofs (dsimp := false) only [go_sem, simprocAttr, hi, hw, checkV]
    refine CodeT.condT rfl ?_
    refine CodeT.seqR ?_
    simp -implicitDefEqProofs (dsimp := false) only [go_sem, simprocAttr, hi, hw, checkV]
    refine CodeT.ret ?_
    simp -implicitDefEqProofs (dsimp := false) only [go_sem, simprocAttr, hi, hw, checkV]
    refine pureEnd rfl ?_
    simp only [roomV, hi, er, hw, Bool.true_and, Bool.false_and, Bool.and_true, Bool.and_false, Bool.true_or, Bool.false_or, Bool.or_true, Bool.or_false, Bool.not_true, Bool.not_false, Bool.false_eq_true, ↓reduceIte]
  cases hc : clB d
  · refine CallT.intro Try.func37 (by decide) rfl ?_
    simp -implicitDefEqProofs (dsimp := false) only [go_sem, simprocAttr, hi, hw, hc, checkV, enterTm, Try.ntmps37, List.range'_succ, List.range'_zero, List.zip_cons_cons, List.zip_nil_left]
    refine CodeT.seqR ?_
    simp -implicitDefEqProofs (dsimp := false) only [go_sem, simprocAttr, hi, hw, hc, checkV]
    refine CodeT.freeze 1 ?_
    simp -implicitDefEqProofs (dsimp := false) only [go_sem, simprocAttr, hi, hw, hc, checkV]
    refine CodeT.seqR ?_
    simp -implicitDefEqProofs (dsimp := false) only [go_sem, simprocAttr, hi, hw, hc, checkV]
    refine PureT.eq (c43 _ ?_) rfl ?_
    assumption
    simp -implicitDefEqProofs (dsimp := false) only [go_sem, simprocAttr, hi, hw, hc, checkV]
    refine CodeT.seq ?_
    refine CodeT.seqR ?_
    simp -implicitDefEqProofs (dsimp := false) only [go_sem, simprocAttr, hi, hw, hc, checkV]
    refine CodeT.condF rfl ?_
    refine CodeT.skip ?_
    simp -implicitDefEqProofs (dsimp := false) only [go_sem, simprocAttr, hi, hw, hc, checkV]
    refine CodeT.seq ?_
    refine CodeT.seqR ?_
    simp -implicitDefEqProofs (dsimp := false) only [go_sem, simprocAttr, hi, hw, hc, checkV]
    refine CodeT.condT rfl ?_
    refine CodeT.seqR ?_
    simp -implicitDefEqProofs (dsimp := false) only [go_sem, simprocAttr, hi, hw, hc, checkV]
    refine CodeT.ret ?_
    simp -implicitDefEqProofs (dsimp := false) only [go_sem, simprocAttr, hi, hw, hc, checkV]
    refine pureEnd rfl ?_
    simp only [roomV, hi, er, hw, hc, Bool.true_and, Bool.false_and, Bool.and_true, Bool.and_false, Bool.true_or, Bool.false_or, Bool.or_true, Bool.or_false, Bool.not_true, Bool.not_false, Bool.false_eq_true, ↓reduceIte]
  refine CallT.intro Try.func37 (by decide) rfl ?_
  simp -implicitDefEqProofs (dsimp := false) only [go_sem, simprocAttr, hi, hw, hc, checkV, enterTm, Try.ntmps37, List.range'_succ, List.range'_zero, List.zip_cons_cons, List.zip_nil_left]
  refine CodeT.seqR ?_
  simp -implicitDefEqProofs (dsimp := false) only [go_sem, simprocAttr, hi, hw, hc, checkV]
  refine CodeT.freeze 1 ?_
  simp -implicitDefEqProofs (dsimp := false) only [go_sem, simprocAttr, hi, hw, hc, checkV]
  refine CodeT.seqR ?_
  simp -implicitDefEqProofs (dsimp := false) only [go_sem, simprocAttr, hi, hw, hc, checkV]
  refine PureT.eq (c43 _ ?_) rfl ?_
  assumption
  simp -implicitDefEqProofs (dsimp := false) only [go_sem, simprocAttr, hi, hw, hc, checkV]
  refine CodeT.seq ?_
  refine CodeT.seqR ?_
  simp -implicitDefEqProofs (dsimp := false) only [go_sem, simprocAttr, hi, hw, hc, checkV]
  refine CodeT.condF rfl ?_
  refine CodeT.skip ?_
  simp -implicitDefEqProofs (dsimp := false) only [go_sem, simprocAttr, hi, hw, hc, checkV]
  refine CodeT.seq ?_
  refine CodeT.seqR ?_
  simp -implicitDefEqProofs (dsimp := false) only [go_sem, simprocAttr, hi, hw, hc, checkV]
  refine CodeT.condF rfl ?_
  refine CodeT.skip ?_
  simp -implicitDefEqProofs (dsimp := false) only [go_sem, simprocAttr, hi, hw, hc, checkV]
  refine CodeT.seqR ?_
  simp -implicitDefEqProofs (dsimp := false) only [go_sem, simprocAttr, hi, hw, hc, checkV]
  refine PureT.eq (c77s d hi hf) rfl ?_
  simp -implicitDefEqProofs (dsimp := false) only [go_sem, simprocAttr, hi, hw, hc, checkV]
  refine PureT.eq (c76s d hi) rfl ?_
  simp -implicitDefEqProofs (dsimp := false) only [go_sem, simprocAttr, hi, hw, hc, checkV]
  refine CodeT.seq ?_
  refine CodeT.seqR ?_
  simp -implicitDefEqProofs (dsimp := false) only [go_sem, simprocAttr, hi, hw, hc, checkV]
  refine CodeT.cond rfl (fun g4 => ?_) (fun g4 => ?_)
  have d4 := ofBeq g4
  refine CodeT.seqR ?_
  simp -implicitDefEqProofs (dsimp := false) only [go_sem, simprocAttr, hi, hw, hc, checkV, g4]
  refine CodeT.ret ?_
  simp -implicitDefEqProofs (dsimp := false) only [go_sem, simprocAttr, hi, hw, hc, checkV, g4]
  refine pureEnd rfl ?_
  (simp [roomV, hi, hw, hc, er, *]; omega)
  have d4 := ofBeqF g4
  refine CodeT.skip ?_
  simp -implicitDefEqProofs (dsimp := false) only [go_sem, simprocAttr, hi, hw, hc, checkV, g4]
  refine CodeT.seqR ?_
  simp -implicitDefEqProofs (dsimp := false) only [go_sem, simprocAttr, hi, hw, hc, checkV, g4]
  refine CodeT.ret ?_
  simp -implicitDefEqProofs (dsimp := false) only [go_sem, simprocAttr, hi, hw, hc, checkV, g4]
  refine pureEnd rfl ?_
  simp -implicitDefEqProofs (dsimp := false) (disch := omega) only [i64_in, bs_getD, opvs_getD, is64_getD, bss_getD]
  rotate_left
  · have h1 : (((halfB d + szB d : Nat) : Int) - ((halfB d + endB d : Nat) : Int) - 1) = ((szB d - endB d - 1 : Nat) : Int) := by omega
    have h2 : (((endB d : Nat) : Int) == ((szB d : Nat) : Int)) = false := by simp; omega
    rw [h1, half_len (by omega)]
    simp only [roomV, hi, hw, hc, h2, er, Bool.not_true, Bool.false_eq_true, ↓reduceIte]
theorem c39 (n : Int) (h1 : -9223372036854775808 ≤ n) (h2 : n ≤ 9223372036854775807) : PureT Try.prog 39 [.val (.int .i64 n)] (· = newV n) := by
  refine CallT.res (CallT.laxR ?_)
  have hs := sizeI_eq n
  cases hz : sizeI n
  · refine CallT.intro Try.func39 (by decide) rfl ?_
    simp -implicitDefEqProofs (dsimp := false) only [go_sem, simprocAttr, hz, enterTm, Try.ntmps39, List.range'_succ, List.range'_zero, List.zip_cons_cons, List.zip_nil_left]
    refine CodeT.seqR ?_
    simp -implicitDefEqProofs (dsimp := false) only [go_sem, simprocAttr, hz]
    refine CodeT.seq ?_
    refine CodeT.seqR ?_
    simp -implicitDefEqProofs (dsimp := false) only [go_sem, simprocAttr, hz]
    refine gif_i (fun g3 => ?_) (fun g3 => ?_)
    have d3 := ofDec g3
    simp -implicitDefEqProofs (dsimp := false) only [go_sem, simprocAttr, hz, g3]
    refine CodeT.condT rfl ?_
    refine CodeT.seqR ?_
    simp -implicitDefEqProofs (dsimp := false) only [go_sem, simprocAttr, hz, g3]
    refine CodeT.ret ?_
    simp -implicitDefEqProofs (dsimp := false) only [go_sem, simprocAttr, hz, g3]
    refine pureEnd rfl ?_
    rotate_left
    have d3 := ofDecF g3
    simp -implicitDefEqProofs (dsimp := false) only [go_sem, simprocAttr, hz, g3]
    refine PureT.eq (c81 _ ?_ ?_) rfl ?_
    assumption
    assumption
    simp -implicitDefEqProofs (dsimp := false) only [go_sem, simprocAttr, hz, g3]
    refine CodeT.condT rfl ?_
    refine CodeT.seqR ?_
    simp -implicitDefEqProofs (dsimp := false) only [go_sem, simprocAttr, hz, g3]
    refine CodeT.ret ?_
    simp -implicitDefEqProofs (dsimp := false) only [go_sem, simprocAttr, hz, g3]
    refine pureEnd rfl ?_
    rotate_left
    all_goals
      simp only [newV, hz, Bool.not_false, ↓reduceIte]
      rfl
  rw [hz] at hs
  simp [sizeB] at hs
  refine CallT.intro Try.func39 (by decide) rfl ?_
  simp -implicitDefEqProofs (dsimp := false) only [go_sem, simprocAttr, hz, enterTm, Try.ntmps39, List.range'_succ, List.range'_zero, List.zip_cons_cons, List.zip_nil_left]
  refine CodeT.seqR ?_
  simp -implicitDefEqProofs (dsimp := false) only [go_sem, simprocAttr, hz]
  refine CodeT.seq ?_
  refine CodeT.seqR ?_
  simp -implicitDefEqProofs (dsimp := false) only [go_sem, simprocAttr, hz]
  refine gif_i (fun g3 => ?_) (fun g3 => ?_)
  have d3 := ofDec g3
  (exfalso; omega)
  have d3 := ofDecF g3
  simp -implicitDefEqProofs (dsimp := false) only [go_sem, simprocAttr, hz, g3]
  refine PureT.eq (c81 _ ?_ ?_) rfl ?_
  assumption
  assumption
  simp -implicitDefEqProofs (dsimp := false) only [go_sem, simprocAttr, hz, g3]
  refine CodeT.condF rfl ?_
  refine CodeT.skip ?_
  simp -implicitDefEqProofs (dsimp := false) only [go_sem, simprocAttr, hz, g3]
  refine CodeT.seqR ?_
  simp -implicitDefEqProofs (dsimp := false) only [go_sem, simprocAttr, hz, g3]
  refine And.intro (by omega) ?_
  refine And.intro (by omega) ?_
  refine And.intro (by omega) ?_
  refine CodeT.ret ?_
  simp -implicitDefEqProofs (dsimp := false) only [go_sem, simprocAttr, hz, g3]
  refine And.intro (by omega) ?_
  refine pureEnd rfl ?_
  rotate_left
  simp only [newV, hz, Bool.not_true, Bool.false_eq_true, ↓reduceIte]
  rfl
end Go.Proofs.Try

namespace Go.Proofs.Try
set_option linter.unusedSimpArgs false
set_option linter.unusedVariables false
open Go.PM
set_option maxHeartbeats 4000000
set_option maxRecDepth 100000

/-- The outcomes are lists of operations, or none, with an error. -/
def OpsV (v : AV) : Prop := ∃ (ops : List DOp) (e : Int), v = .tup [.sl false (opvs ops), er e] ∧ ops.length ≤ 10
theorem formatV_ops (d : Dsk) (b : List UInt8) : OpsV (formatV d b) := by
  unfold formatV
  split
  · exact ⟨[], _, rfl, by simp⟩
  split
  · exact ⟨[], _, rfl, by simp⟩
  · exact ⟨_, _, rfl, by simp⟩
theorem appendV_ops (d : Dsk) (b : List UInt8) : OpsV (appendV d b) := by
  unfold appendV
  split
  · exact ⟨[], _, rfl, by simp⟩
  split
  · exact ⟨[], _, rfl, by simp⟩
  split
  · exact ⟨[], _, rfl, by simp⟩
  split
  · exact ⟨[], _, rfl, by simp⟩
  · exact ⟨_, _, rfl, by simp⟩
theorem checkinV_ops (d : Dsk) (b : List UInt8) : OpsV (checkinV d b) := by
  unfold checkinV
  split
  · exact ⟨[], _, rfl, by simp⟩
  split
  · exact ⟨[], _, rfl, by simp⟩
  split
  · exact ⟨[], _, rfl, by simp⟩
  · exact ⟨_, _, rfl, by simp⟩
theorem openV_ops (d : Dsk) : OpsV (openV d) := by
  unfold openV
  split
  · exact ⟨[], _, rfl, by simp⟩
  split
  · exact ⟨[], _, rfl, by simp⟩
  split
  · exact ⟨_, _, rfl, by simp⟩
  split
  · exact ⟨_, _, rfl, by simp⟩
  · exact ⟨[], _, rfl, by simp⟩
theorem readV_eq (d : Dsk) (hf : Few d) : ∃ (b : List UInt8) (l : List (List UInt8)) (e : Int), readV d = .tup [.sl false (bs b), .sl false (bss l), er e] ∧ l.length ≤ 4000000 := by
  unfold readV
  cases hi : isDiskB d
  · exact ⟨[], [], _, rfl, by simp⟩
  have h2 := disk_facts hi
  have h1 := parse_len (useB d)
  cases hw : wrB d
  · exact ⟨[], [], _, rfl, by simp⟩
  · exact ⟨_, _, _, rfl, by rw [List.length_drop, parseR_len]; omega⟩
theorem roomV_eq (d : Dsk) : ∃ (n e : Int), roomV d = .tup [er n, er e] := by
  unfold roomV
  split
  · exact ⟨_, _, rfl⟩
  split
  · exact ⟨_, _, rfl⟩
  split
  · exact ⟨_, _, rfl⟩
  split
  · exact ⟨_, _, rfl⟩
  · exact ⟨_, _, rfl⟩
theorem c8 (d : Dsk) (r : List UInt8) : PureT Try.prog 8 [dkv d, .sl false (bs r)] (· = .val (.bool true)) := by
  cases hfb : fewB d
  · refine CallT.intro Try.func8 (by decide) rfl ?_
    simp -implicitDefEqProofs (dsimp := false) only [go_sem, simprocAttr, hfb, enterTm, Try.ntmps8, List.range'_succ, List.range'_zero, List.zip_cons_cons, List.zip_nil_left]
    refine CodeT.seqR ?_
    simp -implicitDefEqProofs (dsimp := false) only [go_sem, simprocAttr, hfb]
    refine CodeT.freeze 2 ?_
    simp -implicitDefEqProofs (dsimp := false) only [go_sem, simprocAttr, hfb]
    refine CodeT.seqR ?_
    simp -implicitDefEqProofs (dsimp := false) only [go_sem, simprocAttr, hfb]
    refine PureT.eq (c12) rfl ?_
    simp -implicitDefEqProofs (dsimp := false) only [go_sem, simprocAttr, hfb]
    refine CodeT.seq ?_
    refine CodeT.seqR ?_
    simp -implicitDefEqProofs (dsimp := false) only [go_sem, simprocAttr, hfb]
    refine PureT.eq (c15 _) rfl ?_
    simp -implicitDefEqProofs (dsimp := false) only [go_sem, simprocAttr, hfb]
    refine CodeT.condT rfl ?_
    refine CodeT.seqR ?_
    simp -implicitDefEqProofs (dsimp := false) only [go_sem, simprocAttr, hfb]
    refine CodeT.ret ?_
    simp -implicitDefEqProofs (dsimp := false) only [go_sem, simprocAttr, hfb]
    refine pureEnd rfl ?_
    simp -implicitDefEqProofs (dsimp := false) only [go_sem, simprocAttr, hfb]
  cases hr : decide ((r.length : Int) > 30000)
  case true => refine CallT.intro Try.func8 (by decide) rfl ?_
               simp -implicitDefEqProofs (dsimp := false) only [go_sem, simprocAttr, hfb, hr, enterTm, Try.ntmps8, List.range'_succ, List.range'_zero, List.zip_cons_cons, List.zip_nil_left]
               refine CodeT.seqR ?_
               simp -implicitDefEqProofs (dsimp := false) only [go_sem, simprocAttr, hfb, hr]
               refine CodeT.freeze 2 ?_
               simp -implicitDefEqProofs (dsimp := false) only [go_sem, simprocAttr, hfb, hr]
               refine CodeT.seqR ?_
               simp -implicitDefEqProofs (dsimp := false) only [go_sem, simprocAttr, hfb, hr]
               refine PureT.eq (c12) rfl ?_
               simp -implicitDefEqProofs (dsimp := false) only [go_sem, simprocAttr, hfb, hr]
               refine CodeT.seq ?_
               refine CodeT.seqR ?_
               simp -implicitDefEqProofs (dsimp := false) only [go_sem, simprocAttr, hfb, hr]
               refine PureT.eq (c15 _) rfl ?_
               simp -implicitDefEqProofs (dsimp := false) only [go_sem, simprocAttr, hfb, hr]
               refine CodeT.condT rfl ?_
               refine CodeT.seqR ?_
               simp -implicitDefEqProofs (dsimp := false) only [go_sem, simprocAttr, hfb, hr]
               refine CodeT.ret ?_
               simp -implicitDefEqProofs (dsimp := false) only [go_sem, simprocAttr, hfb, hr]
               refine pureEnd rfl ?_
               simp -implicitDefEqProofs (dsimp := false) only [go_sem, simprocAttr, hfb, hr]
  have hr' : r.length ≤ 1000000 := by have := of_decide_eq_false hr; omega
  obtain ⟨hf, -, hq⟩ := fewB_few hfb
  obtain ⟨o1, e1, v1, l1⟩ := formatV_ops d r
  obtain ⟨o2, e2, v2, l2⟩ := appendV_ops d r
  obtain ⟨o3, e3, v3, l3⟩ := checkinV_ops d r
  obtain ⟨o4, e4, v4, l4⟩ := openV_ops d
  obtain ⟨b5, l5, e5, v5, h5⟩ := readV_eq d hf
  obtain ⟨n6, e6, v6⟩ := roomV_eq d
  have r1 : ∀ x : List UInt8, (strB x == strB x) = true := fun x => by rw [strB_beq]; simp
  have r2 : ∀ x : List (List UInt8), (x == x) = true := fun x => by simp
  have r3 : ∀ x : List DOp, (x == x) = true := fun x => by simp
  have r4 : ∀ x : Int, (x == x) = true := fun x => by simp
  have r5 : ∀ x : Int, (x != x) = false := fun x => by simp
  refine CallT.intro Try.func8 (by decide) rfl ?_
  simp -implicitDefEqProofs (dsimp := false) only [go_sem, simprocAttr, hfb, hr, r1, r2, r3, r4, r5, v1, v2, v3, v4, v5, v6, strOf_bs, enterTm, Try.ntmps8, List.range'_succ, List.range'_zero, List.zip_cons_cons, List.zip_nil_left]
  refine CodeT.seqR ?_
  simp -implicitDefEqProofs (dsimp := false) only [go_sem, simprocAttr, hfb, hr, r1, r2, r3, r4, r5, v1, v2, v3, v4, v5, v6, strOf_bs]
  refine CodeT.freeze 2 ?_
  simp -implicitDefEqProofs (dsimp := false) only [go_sem, simprocAttr, hfb, hr, r1, r2, r3, r4, r5, v1, v2, v3, v4, v5, v6, strOf_bs]
  refine CodeT.seqR ?_
  simp -implicitDefEqProofs (dsimp := false) only [go_sem, simprocAttr, hfb, hr, r1, r2, r3, r4, r5, v1, v2, v3, v4, v5, v6, strOf_bs]
  refine PureT.eq (c12) rfl ?_
  simp -implicitDefEqProofs (dsimp := false) only [go_sem, simprocAttr, hfb, hr, r1, r2, r3, r4, r5, v1, v2, v3, v4, v5, v6, strOf_bs]
  refine CodeT.seq ?_
  refine CodeT.seqR ?_
  simp -implicitDefEqProofs (dsimp := false) only [go_sem, simprocAttr, hfb, hr, r1, r2, r3, r4, r5, v1, v2, v3, v4, v5, v6, strOf_bs]
  refine PureT.eq (c15 _) rfl ?_
  simp -implicitDefEqProofs (dsimp := false) only [go_sem, simprocAttr, hfb, hr, r1, r2, r3, r4, r5, v1, v2, v3, v4, v5, v6, strOf_bs]
  refine CodeT.condF rfl ?_
  refine CodeT.skip ?_
  simp -implicitDefEqProofs (dsimp := false) only [go_sem, simprocAttr, hfb, hr, r1, r2, r3, r4, r5, v1, v2, v3, v4, v5, v6, strOf_bs]
  refine CodeT.seqR ?_
  simp -implicitDefEqProofs (dsimp := false) only [go_sem, simprocAttr, hfb, hr, r1, r2, r3, r4, r5, v1, v2, v3, v4, v5, v6, strOf_bs]
  refine PureT.eq (c29 _ ?_ _ ?_) rfl ?_
  assumption
  assumption
  simp -implicitDefEqProofs (dsimp := false) only [go_sem, simprocAttr, hfb, hr, r1, r2, r3, r4, r5, v1, v2, v3, v4, v5, v6, strOf_bs]
  refine CodeT.seqR ?_
  simp -implicitDefEqProofs (dsimp := false) only [go_sem, simprocAttr, hfb, hr, r1, r2, r3, r4, r5, v1, v2, v3, v4, v5, v6, strOf_bs]
  refine PureT.eq (c30 _ ?_ _ ?_) rfl ?_
  assumption
  assumption
  simp -implicitDefEqProofs (dsimp := false) only [go_sem, simprocAttr, hfb, hr, r1, r2, r3, r4, r5, v1, v2, v3, v4, v5, v6, strOf_bs]
  refine CodeT.seq ?_
  refine CodeT.seqR ?_
  simp -implicitDefEqProofs (dsimp := false) only [go_sem, simprocAttr, hfb, hr, r1, r2, r3, r4, r5, v1, v2, v3, v4, v5, v6, strOf_bs]
  refine PureT.eq (c31 _ _ ?_) rfl ?_
  omega
  simp -implicitDefEqProofs (dsimp := false) only [go_sem, simprocAttr, hfb, hr, r1, r2, r3, r4, r5, v1, v2, v3, v4, v5, v6, strOf_bs]
  refine CodeT.condF rfl ?_
  refine CodeT.skip ?_
  simp -implicitDefEqProofs (dsimp := false) only [go_sem, simprocAttr, hfb, hr, r1, r2, r3, r4, r5, v1, v2, v3, v4, v5, v6, strOf_bs]
  refine CodeT.seqR ?_
  simp -implicitDefEqProofs (dsimp := false) only [go_sem, simprocAttr, hfb, hr, r1, r2, r3, r4, r5, v1, v2, v3, v4, v5, v6, strOf_bs]
  refine PureT.eq (c25 _ ?_ _ ?_) rfl ?_
  assumption
  assumption
  simp -implicitDefEqProofs (dsimp := false) only [go_sem, simprocAttr, hfb, hr, r1, r2, r3, r4, r5, v1, v2, v3, v4, v5, v6, strOf_bs]
  refine CodeT.seqR ?_
  simp -implicitDefEqProofs (dsimp := false) only [go_sem, simprocAttr, hfb, hr, r1, r2, r3, r4, r5, v1, v2, v3, v4, v5, v6, strOf_bs]
  refine PureT.eq (c32 _ ?_ _ ?_) rfl ?_
  assumption
  assumption
  simp -implicitDefEqProofs (dsimp := false) only [go_sem, simprocAttr, hfb, hr, r1, r2, r3, r4, r5, v1, v2, v3, v4, v5, v6, strOf_bs]
  refine CodeT.seq ?_
  refine CodeT.seqR ?_
  simp -implicitDefEqProofs (dsimp := false) only [go_sem, simprocAttr, hfb, hr, r1, r2, r3, r4, r5, v1, v2, v3, v4, v5, v6, strOf_bs]
  refine PureT.eq (c31 _ _ ?_) rfl ?_
  omega
  simp -implicitDefEqProofs (dsimp := false) only [go_sem, simprocAttr, hfb, hr, r1, r2, r3, r4, r5, v1, v2, v3, v4, v5, v6, strOf_bs]
  refine CodeT.condF rfl ?_
  refine CodeT.skip ?_
  simp -implicitDefEqProofs (dsimp := false) only [go_sem, simprocAttr, hfb, hr, r1, r2, r3, r4, r5, v1, v2, v3, v4, v5, v6, strOf_bs]
  refine CodeT.seqR ?_
  simp -implicitDefEqProofs (dsimp := false) only [go_sem, simprocAttr, hfb, hr, r1, r2, r3, r4, r5, v1, v2, v3, v4, v5, v6, strOf_bs]
  refine PureT.eq (c33 _ ?_ _ ?_) rfl ?_
  assumption
  assumption
  simp -implicitDefEqProofs (dsimp := false) only [go_sem, simprocAttr, hfb, hr, r1, r2, r3, r4, r5, v1, v2, v3, v4, v5, v6, strOf_bs]
  refine CodeT.seqR ?_
  simp -implicitDefEqProofs (dsimp := false) only [go_sem, simprocAttr, hfb, hr, r1, r2, r3, r4, r5, v1, v2, v3, v4, v5, v6, strOf_bs]
  refine PureT.eq (c34 _ ?_ _ ?_) rfl ?_
  assumption
  assumption
  simp -implicitDefEqProofs (dsimp := false) only [go_sem, simprocAttr, hfb, hr, r1, r2, r3, r4, r5, v1, v2, v3, v4, v5, v6, strOf_bs]
  refine CodeT.seq ?_
  refine CodeT.seqR ?_
  simp -implicitDefEqProofs (dsimp := false) only [go_sem, simprocAttr, hfb, hr, r1, r2, r3, r4, r5, v1, v2, v3, v4, v5, v6, strOf_bs]
  refine PureT.eq (c31 _ _ ?_) rfl ?_
  omega
  simp -implicitDefEqProofs (dsimp := false) only [go_sem, simprocAttr, hfb, hr, r1, r2, r3, r4, r5, v1, v2, v3, v4, v5, v6, strOf_bs]
  refine CodeT.condF rfl ?_
  refine CodeT.skip ?_
  simp -implicitDefEqProofs (dsimp := false) only [go_sem, simprocAttr, hfb, hr, r1, r2, r3, r4, r5, v1, v2, v3, v4, v5, v6, strOf_bs]
  refine CodeT.seqR ?_
  simp -implicitDefEqProofs (dsimp := false) only [go_sem, simprocAttr, hfb, hr, r1, r2, r3, r4, r5, v1, v2, v3, v4, v5, v6, strOf_bs]
  refine PureT.eq (c20 _ ?_) rfl ?_
  assumption
  simp -implicitDefEqProofs (dsimp := false) only [go_sem, simprocAttr, hfb, hr, r1, r2, r3, r4, r5, v1, v2, v3, v4, v5, v6, strOf_bs]
  refine CodeT.seqR ?_
  simp -implicitDefEqProofs (dsimp := false) only [go_sem, simprocAttr, hfb, hr, r1, r2, r3, r4, r5, v1, v2, v3, v4, v5, v6, strOf_bs]
  refine PureT.eq (c35 _ ?_) rfl ?_
  assumption
  simp -implicitDefEqProofs (dsimp := false) only [go_sem, simprocAttr, hfb, hr, r1, r2, r3, r4, r5, v1, v2, v3, v4, v5, v6, strOf_bs]
  refine CodeT.seq ?_
  refine CodeT.seqR ?_
  simp -implicitDefEqProofs (dsimp := false) only [go_sem, simprocAttr, hfb, hr, r1, r2, r3, r4, r5, v1, v2, v3, v4, v5, v6, strOf_bs]
  refine PureT.eq (c31 _ _ ?_) rfl ?_
  omega
  simp -implicitDefEqProofs (dsimp := false) only [go_sem, simprocAttr, hfb, hr, r1, r2, r3, r4, r5, v1, v2, v3, v4, v5, v6, strOf_bs]
  refine CodeT.condF rfl ?_
  refine CodeT.skip ?_
  simp -implicitDefEqProofs (dsimp := false) only [go_sem, simprocAttr, hfb, hr, r1, r2, r3, r4, r5, v1, v2, v3, v4, v5, v6, strOf_bs]
  refine CodeT.seqR ?_
  simp -implicitDefEqProofs (dsimp := false) only [go_sem, simprocAttr, hfb, hr, r1, r2, r3, r4, r5, v1, v2, v3, v4, v5, v6, strOf_bs]
  refine PureT.eq (c21 _ ?_) rfl ?_
  assumption
  simp -implicitDefEqProofs (dsimp := false) only [go_sem, simprocAttr, hfb, hr, r1, r2, r3, r4, r5, v1, v2, v3, v4, v5, v6, strOf_bs]
  refine CodeT.seqR ?_
  simp -implicitDefEqProofs (dsimp := false) only [go_sem, simprocAttr, hfb, hr, r1, r2, r3, r4, r5, v1, v2, v3, v4, v5, v6, strOf_bs]
  refine PureT.eq (c36 _ ?_) rfl ?_
  assumption
  simp -implicitDefEqProofs (dsimp := false) only [go_sem, simprocAttr, hfb, hr, r1, r2, r3, r4, r5, v1, v2, v3, v4, v5, v6, strOf_bs]
  refine CodeT.seqR ?_
  simp -implicitDefEqProofs (dsimp := false) only [go_sem, simprocAttr, hfb, hr, r1, r2, r3, r4, r5, v1, v2, v3, v4, v5, v6, strOf_bs]
  refine PureT.eq (c24 _ ?_) rfl ?_
  assumption
  simp -implicitDefEqProofs (dsimp := false) only [go_sem, simprocAttr, hfb, hr, r1, r2, r3, r4, r5, v1, v2, v3, v4, v5, v6, strOf_bs]
  refine CodeT.seqR ?_
  simp -implicitDefEqProofs (dsimp := false) only [go_sem, simprocAttr, hfb, hr, r1, r2, r3, r4, r5, v1, v2, v3, v4, v5, v6, strOf_bs]
  refine PureT.eq (c37 _ ?_) rfl ?_
  assumption
  simp -implicitDefEqProofs (dsimp := false) only [go_sem, simprocAttr, hfb, hr, r1, r2, r3, r4, r5, v1, v2, v3, v4, v5, v6, strOf_bs]
  refine CodeT.seqR ?_
  simp -implicitDefEqProofs (dsimp := false) only [go_sem, simprocAttr, hfb, hr, r1, r2, r3, r4, r5, v1, v2, v3, v4, v5, v6, strOf_bs]
  refine And.intro (by exact bs_byte _) ?_
  refine And.intro (by exact bs_byte _) ?_
  refine PureT.eq (c23 _ _ ?_) rfl ?_
  assumption
  simp -implicitDefEqProofs (dsimp := false) only [go_sem, simprocAttr, hfb, hr, r1, r2, r3, r4, r5, v1, v2, v3, v4, v5, v6, strOf_bs]
  refine CodeT.ret ?_
  simp -implicitDefEqProofs (dsimp := false) only [go_sem, simprocAttr, hfb, hr, r1, r2, r3, r4, r5, v1, v2, v3, v4, v5, v6, strOf_bs]
  refine pureEnd rfl ?_
  simp -implicitDefEqProofs (dsimp := false) only [go_sem, simprocAttr, hfb, hr, r1, r2, r3, r4, r5, v1, v2, v3, v4, v5, v6, strOf_bs]
end Go.Proofs.Try

namespace Go.Proofs.Try
set_option linter.unusedSimpArgs false
set_option linter.unusedVariables false
open Go.PM
set_option maxHeartbeats 4000000
set_option maxRecDepth 100000

theorem c84 (a b : List UInt8) : PureT Try.prog 84 [.sl false (bs a), .sl false (bs b)] (· = .val (.bool (a == b))) := by
  refine CallT.intro Try.func84 (by decide) rfl ?_
  simp -implicitDefEqProofs (dsimp := false) only [go_sem, simprocAttr, strOf_bs, strB_beq, enterTm, Try.ntmps84, List.range'_succ, List.range'_zero, List.zip_cons_cons, List.zip_nil_left]
  refine CodeT.seqR ?_
  simp -implicitDefEqProofs (dsimp := false) only [go_sem, simprocAttr, strOf_bs, strB_beq]
  refine CodeT.seqR ?_
  simp -implicitDefEqProofs (dsimp := false) only [go_sem, simprocAttr, strOf_bs, strB_beq]
  refine And.intro (by exact bs_byte _) ?_
  refine And.intro (by exact bs_byte _) ?_
  refine CodeT.ret ?_
  simp -implicitDefEqProofs (dsimp := false) only [go_sem, simprocAttr, strOf_bs, strB_beq]
  refine pureEnd rfl ?_
  simp -implicitDefEqProofs (dsimp := false) only [go_sem, simprocAttr, strOf_bs, strB_beq]
theorem c86 (a b : DOp) : PureT Try.prog 86 [opv a, opv b] (· = .val (.bool (a == b))) := by
  have e : (a == b) = ((a.flush == b.flush) && (a.at_ == b.at_) && (a.bytes == b.bytes)) := by
    rw [Bool.eq_iff_iff]
    obtain ⟨x, y, z⟩ := a
    obtain ⟨x', y', z'⟩ := b
    simp [and_assoc]
  refine CallT.intro Try.func86 (by decide) rfl ?_
  simp -implicitDefEqProofs (dsimp := false) only [go_sem, simprocAttr, enterTm, Try.ntmps86, List.range'_succ, List.range'_zero, List.zip_cons_cons, List.zip_nil_left]
  refine CodeT.seqR ?_
  simp -implicitDefEqProofs (dsimp := false) only [go_sem, simprocAttr]
  refine CodeT.seqR ?_
  simp -implicitDefEqProofs (dsimp := false) only [go_sem, simprocAttr]
  refine gif_i (fun g1 => ?_) (fun g1 => ?_)
  simp -implicitDefEqProofs (dsimp := false) only [go_sem, simprocAttr, g1]
  refine gif_i (fun g2 => ?_) (fun g2 => ?_)
  have d2 := ofBeq g2
  simp -implicitDefEqProofs (dsimp := false) only [go_sem, simprocAttr, g1, g2]
  refine PureT.eq (c84 _ _) rfl ?_
  simp -implicitDefEqProofs (dsimp := false) only [go_sem, simprocAttr, g1, g2]
  refine CodeT.ret ?_
  simp -implicitDefEqProofs (dsimp := false) only [go_sem, simprocAttr, g1, g2]
  refine pureEnd rfl ?_
  simp only [e, g1, g2, Bool.true_and, Bool.false_and, Bool.and_true, Bool.and_false, Bool.true_or, Bool.false_or, Bool.or_true, Bool.or_false, Bool.not_true, Bool.not_false, Bool.false_eq_true, ↓reduceIte]
  have d2 := ofBeqF g2
  simp -implicitDefEqProofs (dsimp := false) only [go_sem, simprocAttr, g1, g2]
  refine CodeT.ret ?_
  simp -implicitDefEqProofs (dsimp := false) only [go_sem, simprocAttr, g1, g2]
  refine pureEnd rfl ?_
  simp only [e, g1, g2, Bool.true_and, Bool.false_and, Bool.and_true, Bool.and_false, Bool.true_or, Bool.false_or, Bool.or_true, Bool.or_false, Bool.not_true, Bool.not_false, Bool.false_eq_true, ↓reduceIte]
  simp -implicitDefEqProofs (dsimp := false) only [go_sem, simprocAttr, g1]
  refine CodeT.ret ?_
  simp -implicitDefEqProofs (dsimp := false) only [go_sem, simprocAttr, g1]
  refine pureEnd rfl ?_
  simp only [e, g1, Bool.true_and, Bool.false_and, Bool.and_true, Bool.and_false, Bool.true_or, Bool.false_or, Bool.or_true, Bool.or_false, Bool.not_true, Bool.not_false, Bool.false_eq_true, ↓reduceIte]
theorem c85 (a b : List DOp) (ha : a.length ≤ 4000000) : PureT Try.prog 85 [.sl false (opvs a), .sl false (opvs b), .fn 86 []] (· = .val (.bool (a == b))) := by
  refine CallT.intro Try.func85 (by decide) rfl ?_
  simp -implicitDefEqProofs (dsimp := false) only [go_sem, simprocAttr, enterTm, Try.ntmps85, List.range'_succ, List.range'_zero, List.zip_cons_cons, List.zip_nil_left]
  refine CodeT.seqR ?_
  simp -implicitDefEqProofs (dsimp := false) only [go_sem, simprocAttr]
  refine CodeT.seq ?_
  refine CodeT.seqR ?_
  simp -implicitDefEqProofs (dsimp := false) only [go_sem, simprocAttr]
  refine CodeT.cond rfl (fun g1 => ?_) (fun g1 => ?_)
  have d1 := ofBne g1
  refine CodeT.seqR ?_
  simp -implicitDefEqProofs (dsimp := false) only [go_sem, simprocAttr, g1]
  refine CodeT.ret ?_
  simp -implicitDefEqProofs (dsimp := false) only [go_sem, simprocAttr, g1]
  refine pureEnd rfl ?_
  rotate_left
  have d1 := ofBneF g1
  refine CodeT.skip ?_
  simp -implicitDefEqProofs (dsimp := false) only [go_sem, simprocAttr, g1]
  refine CodeT.seq ?_
  refine CodeT.seqR ?_
  simp -implicitDefEqProofs (dsimp := false) only [go_sem, simprocAttr, g1]
  refine CodeT.block ?_
  refine CodeT.whileS (fun i : Nat => [(17, .val (.int .i64 (i : Nat)))]) [16, 15, 1, 2] (fun i : Nat => []) (fun i : Nat => i ≤ a.length ∧ a.take i = b.take i) (fun i : Nat => a.length - i) (0) ?_ rfl ?_ ?_
  simp -implicitDefEqProofs (dsimp := false) only [go_sem, simprocAttr, g1]
  omega
  refine ⟨rfl, ?_, ?_, rfl, ?_⟩
  simp -implicitDefEqProofs (dsimp := false) only [go_sem, simprocAttr, g1, or_true, true_or, false_or, or_false, implies_true, Int.natCast_add, Int.cast_ofNat_Int, keepsD_nil]
  simp -implicitDefEqProofs (dsimp := false) only [go_sem, simprocAttr, g1, or_true, true_or, false_or, or_false, implies_true, Int.natCast_add, Int.cast_ofNat_Int, keepsD_nil]
  simp -implicitDefEqProofs (dsimp := false) only [go_sem, simprocAttr, g1, or_true, true_or, false_or, or_false, implies_true, Int.natCast_add, Int.cast_ofNat_Int, keepsD_nil]
  rintro i hi
  obtain ⟨f1, f2⟩ := hi
  simp -implicitDefEqProofs (dsimp := false) only [go_sem, simprocAttr, g1]
  refine CodeT.seqR ?_
  simp -implicitDefEqProofs (dsimp := false) only [go_sem, simprocAttr, g1]
  refine CodeT.seq (CodeT.cond rfl (fun g2 => ?_) (fun g2 => ?_))
  have d2 := ofDec g2
  refine CodeT.skip ?_
  simp -implicitDefEqProofs (dsimp := false) only [go_sem, simprocAttr, g1, g2]
  refine CodeT.seq (CodeT.block ?_)
  refine CodeT.seqR ?_
  simp -implicitDefEqProofs (dsimp := false) only [go_sem, simprocAttr, g1, g2]
  refine gate_i ?_ ?_
  omega
  simp -implicitDefEqProofs (dsimp := false) (disch := omega) only [Int.toNat_natCast, i64_in, bs_getD, opvs_getD, is64_getD, bss_getD]
  simp -implicitDefEqProofs (dsimp := false) only [go_sem, simprocAttr, g1, g2]
  refine CodeT.seqR ?_
  simp -implicitDefEqProofs (dsimp := false) only [go_sem, simprocAttr, g1, g2]
  refine gate_i ?_ ?_
  omega
  simp -implicitDefEqProofs (dsimp := false) (disch := omega) only [Int.toNat_natCast, i64_in, bs_getD, opvs_getD, is64_getD, bss_getD]
  simp -implicitDefEqProofs (dsimp := false) only [go_sem, simprocAttr, g1, g2]
  refine CodeT.seqR ?_
  simp -implicitDefEqProofs (dsimp := false) only [go_sem, simprocAttr, g1, g2]
  refine PureT.eq (c86 _ _) rfl ?_
  simp -implicitDefEqProofs (dsimp := false) only [go_sem, simprocAttr, g1, g2]
  refine CodeT.cond rfl (fun g4 => ?_) (fun g4 => ?_)
  refine CodeT.seqR ?_
  simp -implicitDefEqProofs (dsimp := false) only [go_sem, simprocAttr, g1, g2, g4]
  refine CodeT.ret ?_
  simp -implicitDefEqProofs (dsimp := false) only [go_sem, simprocAttr, g1, g2, g4]
  refine pureEnd rfl ?_
  rotate_left
  refine CodeT.skip ?_
  simp -implicitDefEqProofs (dsimp := false) only [go_sem, simprocAttr, g1, g2, g4]
  refine CodeT.region ?_
  simp -implicitDefEqProofs (dsimp := false) only [go_sem, simprocAttr, g1, g2, g4]
  simp -implicitDefEqProofs (dsimp := false) (disch := omega) only [i64_in, bs_getD, opvs_getD, is64_getD, bss_getD]
  refine ⟨i + 1, ?_⟩
  refine And.intro ?_ ?_
  refine And.intro ?_ ?_
  omega
  rotate_left
  refine And.intro ?_ ?_
  omega
  refine ⟨rfl, ?_, ?_, rfl, ?_⟩
  simp -implicitDefEqProofs (dsimp := false) only [go_sem, simprocAttr, g1, g2, g4, or_true, true_or, false_or, or_false, implies_true, Int.natCast_add, Int.cast_ofNat_Int, keepsD_nil]
  simp -implicitDefEqProofs (dsimp := false) only [go_sem, simprocAttr, g1, g2, g4, or_true, true_or, false_or, or_false, implies_true, Int.natCast_add, Int.cast_ofNat_Int, keepsD_nil]
  simp -implicitDefEqProofs (dsimp := false) only [go_sem, simprocAttr, g1, g2, g4, or_true, true_or, false_or, or_false, implies_true, Int.natCast_add, Int.cast_ofNat_Int, keepsD_nil]
  have d2 := ofDecF g2
  refine CodeT.exit ?_
  simp -implicitDefEqProofs (dsimp := false) only [go_sem, simprocAttr, g1, g2]
  refine CodeT.seqR ?_
  simp -implicitDefEqProofs (dsimp := false) only [go_sem, simprocAttr, g1, g2]
  refine CodeT.ret ?_
  simp -implicitDefEqProofs (dsimp := false) only [go_sem, simprocAttr, g1, g2]
  refine pureEnd rfl ?_
  rotate_left
  · rw [ls_len d1]
  · rw [ls_at i op0 (by simpa using g4)]
  · exact ls_succ op0 f2 (by omega) (by omega) (by simpa using g4)
  · rw [ls_all d1 f2 d2]
theorem c41 (a b : Dsk) (ha : a.queue.length ≤ 4000000) : PureT Try.prog 41 [dkv a, dkv b] (· = .val (.bool (a == b))) := by
  refine CallT.intro Try.func41 (by decide) rfl ?_
  simp -implicitDefEqProofs (dsimp := false) only [go_sem, simprocAttr, enterTm, Try.ntmps41, List.range'_succ, List.range'_zero, List.zip_cons_cons, List.zip_nil_left]
  refine CodeT.seqR ?_
  simp -implicitDefEqProofs (dsimp := false) only [go_sem, simprocAttr]
  refine CodeT.freeze 2 ?_
  simp -implicitDefEqProofs (dsimp := false) only [go_sem, simprocAttr]
  refine CodeT.freeze 3 ?_
  simp -implicitDefEqProofs (dsimp := false) only [go_sem, simprocAttr]
  refine CodeT.seqR ?_
  simp -implicitDefEqProofs (dsimp := false) only [go_sem, simprocAttr]
  refine PureT.eq (c84 _ _) rfl ?_
  simp -implicitDefEqProofs (dsimp := false) only [go_sem, simprocAttr]
  refine gif_i (fun g2 => ?_) (fun g2 => ?_)
  simp -implicitDefEqProofs (dsimp := false) only [go_sem, simprocAttr, g2]
  refine PureT.eq (c85 _ _ ?_) rfl ?_
  assumption
  simp -implicitDefEqProofs (dsimp := false) only [go_sem, simprocAttr, g2]
  refine CodeT.ret ?_
  simp -implicitDefEqProofs (dsimp := false) only [go_sem, simprocAttr, g2]
  refine pureEnd rfl ?_
  simp only [dk_beq, g2, Bool.true_and, Bool.false_and, Bool.and_true, Bool.and_false, Bool.true_or, Bool.false_or, Bool.or_true, Bool.or_false, Bool.not_true, Bool.not_false, Bool.false_eq_true, ↓reduceIte]
  simp -implicitDefEqProofs (dsimp := false) only [go_sem, simprocAttr, g2]
  refine CodeT.ret ?_
  simp -implicitDefEqProofs (dsimp := false) only [go_sem, simprocAttr, g2]
  refine pureEnd rfl ?_
  simp only [dk_beq, g2, Bool.true_and, Bool.false_and, Bool.and_true, Bool.and_false, Bool.true_or, Bool.false_or, Bool.or_true, Bool.or_false, Bool.not_true, Bool.not_false, Bool.false_eq_true, ↓reduceIte]
theorem c83d (d : Dsk) (hf : Few d) (hb : ∀ o ∈ d.queue, o.bytes.length ≤ 4000000) : CallT Try.prog 83 [dkv d] [] (fun r h' => r = .ret (.agg [.sl false (bs d.bytes), .hsl 4 d.queue.length 0 d.queue.length]) ∧ h' = [.dead, .dead, .dead, .dead, .row true d.queue.length 3 (opvs d.queue)]) := by
  have h1 := hf.b; have h2 := hf.q
  refine CallT.less ?_
  refine CallT.intro Try.func83 (by decide) rfl ?_
  simp -implicitDefEqProofs (dsimp := false) only [go_sem, simprocAttr, Nat.min_eq_left, enterTm, Try.ntmps83, List.range'_succ, List.range'_zero, List.zip_cons_cons, List.zip_nil_left]
  refine CodeT.seqR ?_
  simp -implicitDefEqProofs (dsimp := false) only [go_sem, simprocAttr, Nat.min_eq_left]
  refine CodeT.freeze 1 ?_
  simp -implicitDefEqProofs (dsimp := false) only [go_sem, simprocAttr, Nat.min_eq_left]
  refine CodeT.seqR ?_
  simp -implicitDefEqProofs (dsimp := false) only [go_sem, simprocAttr, Nat.min_eq_left]
  refine And.intro (by exact uni_bs _) ?_
  refine And.intro (by omega) ?_
  refine CodeT.seq ?_
  refine CodeT.seqR ?_
  simp -implicitDefEqProofs (dsimp := false) only [go_sem, simprocAttr, Nat.min_eq_left]
  refine CodeT.block ?_
  refine CodeT.promoteBox 3 1 3 rfl rfl ?_
  refine CodeT.freezeCell 3 0 2 rfl rfl rfl (by simp [bs_length]) ?_
  simp -implicitDefEqProofs (dsimp := false) only [go_sem, simprocAttr, Nat.min_eq_left]
  refine CodeT.whileS (fun i : Nat => [(4, .val (.int .i64 (i : Nat)))]) [3, 2, 1] (fun i : Nat => [.dead, .cells [.sl true [], .sl true []], .row false 1 1 (bs d.bytes), .cells [.sl false (bs d.bytes), .hsl 4 i 0 i], .row true i 3 (opvs (d.queue.take i))]) (fun i : Nat => i ≤ d.queue.length) (fun i : Nat => d.queue.length - i) (0) ?_ rfl ?_ ?_
  omega
  refine ⟨rfl, ?_, ?_, rfl, ?_⟩
  simp -implicitDefEqProofs (dsimp := false) only [go_sem, simprocAttr, Nat.min_eq_left, or_true, true_or, false_or, or_false, implies_true, Int.natCast_add, Int.cast_ofNat_Int, keepsD_nil]
  refine And.intro ?_ ?_
  trivial
  trivial
  simp -implicitDefEqProofs (dsimp := false) only [go_sem, simprocAttr, Nat.min_eq_left, or_true, true_or, false_or, or_false, implies_true, Int.natCast_add, Int.cast_ofNat_Int, keepsD_nil]
  refine And.intro ?_ ?_
  trivial
  trivial
  simp -implicitDefEqProofs (dsimp := false) only [go_sem, simprocAttr, Nat.min_eq_left, or_true, true_or, false_or, or_false, implies_true, Int.natCast_add, Int.cast_ofNat_Int, keepsD_nil]
  rintro i hx
  have f1 : i < d.queue.length → (d.queue.getD i op0).bytes.length ≤ 4000000 := fun h => hb _ (by simp [List.getD_eq_getElem?_getD, h])
  have f2 := take_map_succ id d.queue i op0
  rw [List.map_id, List.map_id] at f2
  have f3 : min i d.queue.length = i := by omega
  simp -implicitDefEqProofs (dsimp := false) only [go_sem, simprocAttr, Nat.min_eq_left]
  refine CodeT.seq ?_
  refine CodeT.seqR ?_
  simp -implicitDefEqProofs (dsimp := false) only [go_sem, simprocAttr, Nat.min_eq_left]
  refine CodeT.cond rfl (fun g3 => ?_) (fun g3 => ?_)
  have d3 := ofDec g3
  refine CodeT.skip ?_
  simp -implicitDefEqProofs (dsimp := false) only [go_sem, simprocAttr, Nat.min_eq_left, g3]
  refine CodeT.seq (CodeT.block ?_)
  refine CodeT.seqR ?_
  simp -implicitDefEqProofs (dsimp := false) only [go_sem, simprocAttr, Nat.min_eq_left, g3]
  refine gate_i ?_ ?_
  omega
  simp -implicitDefEqProofs (dsimp := false) (disch := omega) only [Int.toNat_natCast, i64_in, bs_getD, opvs_getD, is64_getD, bss_getD]
  simp -implicitDefEqProofs (dsimp := false) only [go_sem, simprocAttr, Nat.min_eq_left, g3]
  refine CodeT.seqR ?_
  simp -implicitDefEqProofs (dsimp := false) only [go_sem, simprocAttr, Nat.min_eq_left, g3]
  refine And.intro (by exact uni_bs _) ?_
  refine And.intro (by omega) ?_
  refine CodeT.region ?_
  simp -implicitDefEqProofs (dsimp := false) only [go_sem, simprocAttr, Nat.min_eq_left, g3]
  refine And.intro (by trivial) ?_
  refine And.intro (by omega) ?_
  refine And.intro (by exact uni_opvs [_]) ?_
  refine And.intro (by omega) ?_
  refine And.intro (by omega) ?_
  refine CodeT.region ?_
  simp -implicitDefEqProofs (dsimp := false) only [go_sem, simprocAttr, Nat.min_eq_left, g3]
  simp -implicitDefEqProofs (dsimp := false) (disch := omega) only [i64_in, bs_getD, opvs_getD, is64_getD, bss_getD]
  refine ⟨i + 1, ?_⟩
  refine And.intro ?_ ?_
  omega
  refine And.intro ?_ ?_
  omega
  refine ⟨rfl, ?_, ?_, rfl, ?_⟩
  simp -implicitDefEqProofs (dsimp := false) only [go_sem, simprocAttr, Nat.min_eq_left, g3, or_true, true_or, false_or, or_false, implies_true, Int.natCast_add, Int.cast_ofNat_Int, keepsD_nil]
  refine And.intro ?_ ?_
  trivial
  trivial
  simp -implicitDefEqProofs (dsimp := false) only [go_sem, simprocAttr, Nat.min_eq_left, g3, or_true, true_or, false_or, or_false, implies_true, Int.natCast_add, Int.cast_ofNat_Int, keepsD_nil]
  refine And.intro ?_ ?_
  refine And.intro ?_ ?_
  rotate_left
  trivial
  rotate_left
  simp -implicitDefEqProofs (dsimp := false) only [go_sem, simprocAttr, Nat.min_eq_left, g3, or_true, true_or, false_or, or_false, implies_true, Int.natCast_add, Int.cast_ofNat_Int, keepsD_nil]
  have d3 := ofDecF g3
  refine CodeT.exit ?_
  simp -implicitDefEqProofs (dsimp := false) only [go_sem, simprocAttr, Nat.min_eq_left, g3]
  obtain rfl : i = d.queue.length := by omega
  simp -implicitDefEqProofs (dsimp := false) only [go_sem, simprocAttr, Nat.min_eq_left, g3]
  refine CodeT.seqR ?_
  simp -implicitDefEqProofs (dsimp := false) only [go_sem, simprocAttr, Nat.min_eq_left, g3]
  refine CodeT.ret ?_
  simp -implicitDefEqProofs (dsimp := false) only [go_sem, simprocAttr, Nat.min_eq_left, g3]
  rotate_left
  · rw [f3]
  · rw [f2 (by omega)]; rfl
  · refine ⟨_, ?_, Nat.zero_le _, rfl, rfl⟩
    exact ⟨.inl rfl, .inl rfl, .inl rfl, .inl rfl, .inr ⟨rfl, rfl⟩, trivial⟩
theorem fits_eq (n : Nat) (o : DOp) : (!fitsB o n) = ((o.flush && (decide ((o.bytes.length : Int) > 0) || (o.at_ != 0))) || (!o.flush && !insB n o)) := by
  cases h : o.flush
  · have := insB_eq n o
    rw [badOp, h, Bool.false_or, Bool.not_not] at this
    rw [this, Bool.false_and, Bool.false_or, Bool.not_false, Bool.true_and]
  · rw [fitsB, if_pos h, Bool.true_and, Bool.not_true, Bool.false_and, Bool.or_false]
    cases hb : o.bytes with
    | nil => simp [bne]
    | cons x l =>
      have e1 : decide ((x :: l).length = 0) = false := by simp
      have e2 : decide ((((x :: l).length : Nat) : Int) > 0) = true := by simp
      rw [e1, e2]
      simp
theorem doV_bad {d : Dsk} {ops : List DOp} (hi : isDiskB d = true) (i : Nat) (h : i < ops.length) (hb : (!fitsB (ops.getD i op0) d.bytes.length) = true) : doV d ops = .tup [.agg [.sl false [], .sl false []], er 1] := by
  have : badArg d ops = true := any_at _ ops i h hb
  unfold doV
  rw [hi, this]
  rfl
theorem c40 (d : Dsk) (ops : List DOp) (hf : Few d) (ho : ops.length ≤ 1000000) (hq : d.queue.length ≤ 1000000) : PureT Try.prog 40 [dkv d, .sl false (opvs ops)] (· = doV d ops) := by
  refine CallT.res (CallT.laxR ?_)
  have h1 := hf.b
  cases hi : isDiskB d
  · refine CallT.intro Try.func40 (by decide) rfl ?_
    simp -implicitDefEqProofs (dsimp := false) only [go_sem, simprocAttr, hi, enterTm, Try.ntmps40, List.range'_succ, List.range'_zero, List.zip_cons_cons, List.zip_nil_left]
    refine CodeT.seqR ?_
    simp -implicitDefEqProofs (dsimp := false) only [go_sem, simprocAttr, hi]
    refine CodeT.seq ?_
    refine CodeT.freeze 2 ?_
    simp -implicitDefEqProofs (dsimp := false) only [go_sem, simprocAttr, hi]
    refine CodeT.seqR ?_
    simp -implicitDefEqProofs (dsimp := false) only [go_sem, simprocAttr, hi]
    refine PureT.eq (c73 _ ?_) rfl ?_
    assumption
    simp -implicitDefEqProofs (dsimp := false) only [go_sem, simprocAttr, hi]
    refine CodeT.condT rfl ?_
    refine CodeT.seqR ?_
    simp -implicitDefEqProofs (dsimp := false) only [go_sem, simprocAttr, hi]
    refine CodeT.ret ?_
    simp -implicitDefEqProofs (dsimp := false) only [go_sem, simprocAttr, hi]
    refine pureEnd rfl ?_
    rotate_left
    simp only [doV, hi, Bool.not_false, ↓reduceIte]; rfl
  have hsm := isDisk_small hi
  have hz := (isDisk_ok hi).1.z
  refine CallT.intro Try.func40 (by decide) rfl ?_
  simp -implicitDefEqProofs (dsimp := false) only [go_sem, simprocAttr, hi, enterTm, Try.ntmps40, List.range'_succ, List.range'_zero, List.zip_cons_cons, List.zip_nil_left]
  refine CodeT.seqR ?_
  simp -implicitDefEqProofs (dsimp := false) only [go_sem, simprocAttr, hi]
  refine CodeT.seq ?_
  refine CodeT.freeze 2 ?_
  simp -implicitDefEqProofs (dsimp := false) only [go_sem, simprocAttr, hi]
  refine CodeT.seqR ?_
  simp -implicitDefEqProofs (dsimp := false) only [go_sem, simprocAttr, hi]
  refine PureT.eq (c73 _ ?_) rfl ?_
  assumption
  simp -implicitDefEqProofs (dsimp := false) only [go_sem, simprocAttr, hi]
  refine CodeT.condF rfl ?_
  refine CodeT.skip ?_
  simp -implicitDefEqProofs (dsimp := false) only [go_sem, simprocAttr, hi]
  refine CodeT.seq ?_
  refine CodeT.seqR ?_
  simp -implicitDefEqProofs (dsimp := false) only [go_sem, simprocAttr, hi]
  refine CodeT.block ?_
  refine CodeT.whileS (fun i : Nat => [(6, .val (.int .i64 (i : Nat)))]) [4, 2, 1] (fun i : Nat => [.dead, .cells [.sl true [], .sl true []]]) (fun i : Nat => i ≤ ops.length ∧ (ops.take i).any (fun o => !fitsB o d.bytes.length) = false) (fun i : Nat => ops.length - i) (0) ?_ rfl ?_ ?_
  simp -implicitDefEqProofs (dsimp := false) only [go_sem, simprocAttr, hi]
  rotate_left
  refine ⟨rfl, ?_, ?_, rfl, ?_⟩
  simp -implicitDefEqProofs (dsimp := false) only [go_sem, simprocAttr, hi, or_true, true_or, false_or, or_false, implies_true, Int.natCast_add, Int.cast_ofNat_Int, keepsD_nil]
  trivial
  simp -implicitDefEqProofs (dsimp := false) only [go_sem, simprocAttr, hi, or_true, true_or, false_or, or_false, implies_true, Int.natCast_add, Int.cast_ofNat_Int, keepsD_nil]
  simp -implicitDefEqProofs (dsimp := false) only [go_sem, simprocAttr, hi, or_true, true_or, false_or, or_false, implies_true, Int.natCast_add, Int.cast_ofNat_Int, keepsD_nil]
  rintro i hy
  obtain ⟨f8, f9⟩ := hy
  have f10 := fits_eq d.bytes.length (ops.getD i op0)
  simp -implicitDefEqProofs (dsimp := false) only [go_sem, simprocAttr, hi]
  refine CodeT.seq ?_
  refine CodeT.seqR ?_
  simp -implicitDefEqProofs (dsimp := false) only [go_sem, simprocAttr, hi]
  refine CodeT.cond rfl (fun g3 => ?_) (fun g3 => ?_)
  have d3 := ofDec g3
  refine CodeT.skip ?_
  simp -implicitDefEqProofs (dsimp := false) only [go_sem, simprocAttr, hi, g3]
  refine CodeT.seq (CodeT.block ?_)
  refine CodeT.seqR ?_
  simp -implicitDefEqProofs (dsimp := false) only [go_sem, simprocAttr, hi, g3]
  refine gate_i ?_ ?_
  omega
  simp -implicitDefEqProofs (dsimp := false) (disch := omega) only [Int.toNat_natCast, i64_in, bs_getD, opvs_getD, is64_getD, bss_getD]
  simp -implicitDefEqProofs (dsimp := false) only [go_sem, simprocAttr, hi, g3]
  refine CodeT.seqR ?_
  simp -implicitDefEqProofs (dsimp := false) only [go_sem, simprocAttr, hi, g3]
  refine gif_i (fun g4 => ?_) (fun g4 => ?_)
  simp -implicitDefEqProofs (dsimp := false) only [go_sem, simprocAttr, hi, g3, g4]
  refine gif_i (fun g5 => ?_) (fun g5 => ?_)
  have d5 := ofDec g5
  simp -implicitDefEqProofs (dsimp := false) only [go_sem, simprocAttr, hi, g3, g4, g5]
  refine CodeT.condT rfl ?_
  refine CodeT.seqR ?_
  simp -implicitDefEqProofs (dsimp := false) only [go_sem, simprocAttr, hi, g3, g4, g5]
  refine CodeT.ret ?_
  simp -implicitDefEqProofs (dsimp := false) only [go_sem, simprocAttr, hi, g3, g4, g5]
  refine pureEnd rfl ?_
  rotate_left
  have d5 := ofDecF g5
  simp -implicitDefEqProofs (dsimp := false) only [go_sem, simprocAttr, hi, g3, g4, g5]
  refine gif_i (fun g6 => ?_) (fun g6 => ?_)
  have d6 := ofBne g6
  simp -implicitDefEqProofs (dsimp := false) only [go_sem, simprocAttr, hi, g3, g4, g5, g6]
  refine CodeT.condT rfl ?_
  refine CodeT.seqR ?_
  simp -implicitDefEqProofs (dsimp := false) only [go_sem, simprocAttr, hi, g3, g4, g5, g6]
  refine CodeT.ret ?_
  simp -implicitDefEqProofs (dsimp := false) only [go_sem, simprocAttr, hi, g3, g4, g5, g6]
  refine pureEnd rfl ?_
  rotate_left
  have d6 := ofBneF g6
  simp -implicitDefEqProofs (dsimp := false) only [go_sem, simprocAttr, hi, g3, g4, g5, g6]
  refine CodeT.condF rfl ?_
  refine CodeT.skip ?_
  simp -implicitDefEqProofs (dsimp := false) only [go_sem, simprocAttr, hi, g3, g4, g5, g6]
  refine CodeT.region ?_
  simp -implicitDefEqProofs (dsimp := false) only [go_sem, simprocAttr, hi, g3, g4, g5, g6]
  simp -implicitDefEqProofs (dsimp := false) (disch := omega) only [i64_in, bs_getD, opvs_getD, is64_getD, bss_getD]
  refine ⟨i + 1, ?_⟩
  refine And.intro ?_ ?_
  refine And.intro ?_ ?_
  omega
  rotate_left
  refine And.intro ?_ ?_
  omega
  refine ⟨rfl, ?_, ?_, rfl, ?_⟩
  simp -implicitDefEqProofs (dsimp := false) only [go_sem, simprocAttr, hi, g3, g4, g5, g6, or_true, true_or, false_or, or_false, implies_true, Int.natCast_add, Int.cast_ofNat_Int, keepsD_nil]
  trivial
  simp -implicitDefEqProofs (dsimp := false) only [go_sem, simprocAttr, hi, g3, g4, g5, g6, or_true, true_or, false_or, or_false, implies_true, Int.natCast_add, Int.cast_ofNat_Int, keepsD_nil]
  simp -implicitDefEqProofs (dsimp := false) only [go_sem, simprocAttr, hi, g3, g4, g5, g6, or_true, true_or, false_or, or_false, implies_true, Int.natCast_add, Int.cast_ofNat_Int, keepsD_nil]
  simp -implicitDefEqProofs (dsimp := false) only [go_sem, simprocAttr, hi, g3, g4]
  refine PureT.eq (c82 _ _ ?_) rfl ?_
  assumption
  simp -implicitDefEqProofs (dsimp := false) only [go_sem, simprocAttr, hi, g3, g4]
  refine CodeT.cond rfl (fun g8 => ?_) (fun g8 => ?_)
  refine CodeT.seqR ?_
  simp -implicitDefEqProofs (dsimp := false) only [go_sem, simprocAttr, hi, g3, g4, g8]
  refine CodeT.ret ?_
  simp -implicitDefEqProofs (dsimp := false) only [go_sem, simprocAttr, hi, g3, g4, g8]
  refine pureEnd rfl ?_
  rotate_left
  refine CodeT.skip ?_
  simp -implicitDefEqProofs (dsimp := false) only [go_sem, simprocAttr, hi, g3, g4, g8]
  refine CodeT.region ?_
  simp -implicitDefEqProofs (dsimp := false) only [go_sem, simprocAttr, hi, g3, g4, g8]
  simp -implicitDefEqProofs (dsimp := false) (disch := omega) only [i64_in, bs_getD, opvs_getD, is64_getD, bss_getD]
  refine ⟨i + 1, ?_⟩
  refine And.intro ?_ ?_
  refine And.intro ?_ ?_
  omega
  rotate_left
  refine And.intro ?_ ?_
  omega
  refine ⟨rfl, ?_, ?_, rfl, ?_⟩
  simp -implicitDefEqProofs (dsimp := false) only [go_sem, simprocAttr, hi, g3, g4, g8, or_true, true_or, false_or, or_false, implies_true, Int.natCast_add, Int.cast_ofNat_Int, keepsD_nil]
  trivial
  simp -implicitDefEqProofs (dsimp := false) only [go_sem, simprocAttr, hi, g3, g4, g8, or_true, true_or, false_or, or_false, implies_true, Int.natCast_add, Int.cast_ofNat_Int, keepsD_nil]
  simp -implicitDefEqProofs (dsimp := false) only [go_sem, simprocAttr, hi, g3, g4, g8, or_true, true_or, false_or, or_false, implies_true, Int.natCast_add, Int.cast_ofNat_Int, keepsD_nil]
  have d3 := ofDecF g3
  refine CodeT.exit ?_
  simp -implicitDefEqProofs (dsimp := false) only [go_sem, simprocAttr, hi, g3]
  have hbad : badArg d ops = false := by rw [List.take_of_length_le (by omega)] at f9; exact f9
  have hfit : ∀ o ∈ ops, fitsB o d.bytes.length = true := fun o ho => by simpa using List.any_eq_false.1 hbad o ho
  have hb := fits_small hbad h1
  refine CodeT.seqR ?_
  simp -implicitDefEqProofs (dsimp := false) only [go_sem, simprocAttr, hi, g3]
  refine CallT.eq (CallT.liftEq (c83d d hf (queue_small hi h1)) rfl) ?_
  simp -implicitDefEqProofs (dsimp := false) only [go_sem, simprocAttr, hi, g3]
  refine CodeT.seq ?_
  refine CodeT.seqR ?_
  simp -implicitDefEqProofs (dsimp := false) only [go_sem, simprocAttr, hi, g3]
  refine CodeT.block ?_
  refine CodeT.whileS (fun x : Nat × Nat => [(9, .val (.int .i64 (x.1 : Nat)))]) [8, 6, 4, 2, 1] (fun x : Nat × Nat => [.dead, .cells [.sl true [], .sl true []], .dead, .dead, .dead, .dead, .row true x.2 3 (opvs (doB d (ops.take x.1)).queue), .cells [.sl false (bs (doB d (ops.take x.1)).bytes), .hsl 6 x.2 0 (doB d (ops.take x.1)).queue.length]]) (fun x : Nat × Nat => x.1 ≤ ops.length) (fun x : Nat × Nat => ops.length - x.1) ((0, d.queue.length)) ?_ rfl ?_ ?_
  omega
  refine ⟨rfl, ?_, ?_, rfl, ?_⟩
  simp -implicitDefEqProofs (dsimp := false) only [go_sem, simprocAttr, hi, g3, or_true, true_or, false_or, or_false, implies_true, Int.natCast_add, Int.cast_ofNat_Int, keepsD_nil]
  refine And.intro ?_ ?_
  trivial
  trivial
  simp -implicitDefEqProofs (dsimp := false) only [go_sem, simprocAttr, hi, g3, or_true, true_or, false_or, or_false, implies_true, Int.natCast_add, Int.cast_ofNat_Int, keepsD_nil]
  refine And.intro ?_ ?_
  trivial
  refine And.intro ?_ ?_
  trivial
  trivial
  simp -implicitDefEqProofs (dsimp := false) only [go_sem, simprocAttr, hi, g3, or_true, true_or, false_or, or_false, implies_true, Int.natCast_add, Int.cast_ofNat_Int, keepsD_nil]
  rintro ⟨i, v⟩ hx
  obtain ⟨f3, f4, f5⟩ := doB_ok hi hfit i hx
  rw [← f3] at f4
  have f6 := doB_succ d ops i
  have f1 : i < ops.length → (ops.getD i op0).bytes.length ≤ 4000000 := fun h => hb _ (by simp [List.getD_eq_getElem?_getD, h])
  have f7 : i = ops.length → doB d (ops.take i) = doB d ops := fun h => by rw [h, List.take_length]
  generalize doB d (ops.take i) = D at *
  simp -implicitDefEqProofs (dsimp := false) only [go_sem, simprocAttr, hi, g3]
  refine CodeT.seq ?_
  refine CodeT.seqR ?_
  simp -implicitDefEqProofs (dsimp := false) only [go_sem, simprocAttr, hi, g3]
  refine CodeT.cond rfl (fun g10 => ?_) (fun g10 => ?_)
  have d10 := ofDec g10
  refine CodeT.skip ?_
  simp -implicitDefEqProofs (dsimp := false) only [go_sem, simprocAttr, hi, g3, g10]
  refine CodeT.seq (CodeT.block ?_)
  refine CodeT.seqR ?_
  simp -implicitDefEqProofs (dsimp := false) only [go_sem, simprocAttr, hi, g3, g10]
  refine gate_i ?_ ?_
  omega
  simp -implicitDefEqProofs (dsimp := false) (disch := omega) only [Int.toNat_natCast, i64_in, bs_getD, opvs_getD, is64_getD, bss_getD]
  simp -implicitDefEqProofs (dsimp := false) only [go_sem, simprocAttr, hi, g3, g10]
  refine CodeT.seq ?_
  refine CodeT.seqR ?_
  simp -implicitDefEqProofs (dsimp := false) only [go_sem, simprocAttr, hi, g3, g10]
  refine CodeT.cond rfl (fun g11 => ?_) (fun g11 => ?_)
  refine CodeT.seqR ?_
  simp -implicitDefEqProofs (dsimp := false) only [go_sem, simprocAttr, hi, g3, g10, g11]
  refine CallT.args ⟨_, Try.func77, by decide, rfl⟩ ?_
  simp -implicitDefEqProofs (dsimp := false) only [go_sem, simprocAttr, hi, g3, g10, g11]
  refine And.intro (by omega) ?_
  refine PureT.eq (c77 _ ?_ ?_) rfl ?_
  assumption
  rotate_left
  simp -implicitDefEqProofs (dsimp := false) only [go_sem, simprocAttr, hi, g3, g10, g11]
  refine CodeT.exit ?_
  simp -implicitDefEqProofs (dsimp := false) only [go_sem, simprocAttr, hi, g3, g10, g11]
  first | refine CodeT.renilBox 7 1 6 rfl rfl rfl ?_ | skip
  simp -implicitDefEqProofs (dsimp := false) only [go_sem, simprocAttr, hi, g3, g10, g11]
  refine CodeT.region ?_
  simp -implicitDefEqProofs (dsimp := false) only [go_sem, simprocAttr, hi, g3, g10, g11]
  simp -implicitDefEqProofs (dsimp := false) (disch := omega) only [i64_in, bs_getD, opvs_getD, is64_getD, bss_getD]
  refine ⟨(i + 1, v + 1), ?_⟩
  refine And.intro ?_ ?_
  omega
  refine And.intro ?_ ?_
  omega
  refine ⟨rfl, ?_, ?_, rfl, ?_⟩
  simp -implicitDefEqProofs (dsimp := false) only [go_sem, simprocAttr, hi, g3, g10, g11, or_true, true_or, false_or, or_false, implies_true, Int.natCast_add, Int.cast_ofNat_Int, keepsD_nil]
  refine And.intro ?_ ?_
  trivial
  trivial
  simp -implicitDefEqProofs (dsimp := false) only [go_sem, simprocAttr, hi, g3, g10, g11, or_true, true_or, false_or, or_false, implies_true, Int.natCast_add, Int.cast_ofNat_Int, keepsD_nil]
  refine And.intro ?_ ?_
  rotate_left
  refine And.intro ?_ ?_
  rotate_left
  trivial
  simp -implicitDefEqProofs (dsimp := false) only [go_sem, simprocAttr, hi, g3, g10, g11, or_true, true_or, false_or, or_false, implies_true, Int.natCast_add, Int.cast_ofNat_Int, keepsD_nil]
  refine CodeT.skip ?_
  simp -implicitDefEqProofs (dsimp := false) only [go_sem, simprocAttr, hi, g3, g10, g11]
  refine CodeT.seqR ?_
  simp -implicitDefEqProofs (dsimp := false) only [go_sem, simprocAttr, hi, g3, g10, g11]
  refine And.intro (by exact uni_bs _) ?_
  refine And.intro (by omega) ?_
  refine CodeT.region ?_
  simp -implicitDefEqProofs (dsimp := false) only [go_sem, simprocAttr, hi, g3, g10, g11]
  refine And.intro (by trivial) ?_
  refine And.intro (by omega) ?_
  refine And.intro (by exact uni_opvs [_]) ?_
  refine And.intro (by omega) ?_
  first | refine CodeT.renilBox 7 1 6 rfl rfl rfl ?_ | skip
  refine CodeT.region ?_
  simp -implicitDefEqProofs (dsimp := false) only [go_sem, simprocAttr, hi, g3, g10, g11]
  simp -implicitDefEqProofs (dsimp := false) (disch := omega) only [i64_in, bs_getD, opvs_getD, is64_getD, bss_getD]
  refine ⟨(i + 1, v + 1), ?_⟩
  refine And.intro ?_ ?_
  omega
  refine And.intro ?_ ?_
  omega
  refine ⟨rfl, ?_, ?_, rfl, ?_⟩
  simp -implicitDefEqProofs (dsimp := false) only [go_sem, simprocAttr, hi, g3, g10, g11, or_true, true_or, false_or, or_false, implies_true, Int.natCast_add, Int.cast_ofNat_Int, keepsD_nil]
  refine And.intro ?_ ?_
  trivial
  trivial
  simp -implicitDefEqProofs (dsimp := false) only [go_sem, simprocAttr, hi, g3, g10, g11, or_true, true_or, false_or, or_false, implies_true, Int.natCast_add, Int.cast_ofNat_Int, keepsD_nil]
  refine And.intro ?_ ?_
  rotate_left
  refine And.intro ?_ ?_
  rotate_left
  trivial
  simp -implicitDefEqProofs (dsimp := false) only [go_sem, simprocAttr, hi, g3, g10, g11, or_true, true_or, false_or, or_false, implies_true, Int.natCast_add, Int.cast_ofNat_Int, keepsD_nil]
  have d10 := ofDecF g10
  refine CodeT.exit ?_
  simp -implicitDefEqProofs (dsimp := false) only [go_sem, simprocAttr, hi, g3, g10]
  refine CodeT.seqR ?_
  simp -implicitDefEqProofs (dsimp := false) only [go_sem, simprocAttr, hi, g3, g10]
  refine CodeT.ret ?_
  simp -implicitDefEqProofs (dsimp := false) only [go_sem, simprocAttr, hi, g3, g10]
  refine And.intro (by omega) ?_
  refine pureEnd rfl ?_
  rotate_left
  · exact ⟨Nat.zero_le _, rfl⟩
  · rw [doV_bad hi i (by omega) (by rw [f10, g4, g5]; rfl)]
  · rw [doV_bad hi i (by omega) (by rw [f10, g4, g5, g6]; rfl)]
  · rw [any_take _ _ i (by omega), f9, Bool.false_or, f10, g4, g5, g6]; rfl
  · have e : (⟨false, (ops.getD i op0).at_, (ops.getD i op0).bytes⟩ : DOp) = ops.getD i op0 := by rw [← g4]
    rw [e] at g8
    rw [doV_bad hi i (by omega) (by rw [f10, g4, g8]; rfl)]
  · have e : (⟨false, (ops.getD i op0).at_, (ops.getD i op0).bytes⟩ : DOp) = ops.getD i op0 := by rw [← g4]
    rw [e] at g8
    rw [any_take _ _ i (by omega), f9, Bool.false_or, f10, g4, g8]; rfl
  · exact ⟨by rw [f3]; omega, by omega⟩
  · rw [f6 (by omega), doStep, if_pos g11]; rfl
  · rw [f6 (by omega), doStep, if_pos g11]; rfl
  · have e : (⟨false, (ops.getD i op0).at_, (ops.getD i op0).bytes⟩ : DOp) = ops.getD i op0 := by rw [← g11]
    rw [f6 (by omega), doStep, if_neg (by rw [g11]; decide), e]
  · rw [f6 (by omega), doStep, if_neg (by rw [g11]; decide)]
    simp
  · rw [f7 (by omega)]
    unfold doV
    rw [hi, hbad]
    rfl
theorem c42 (d : Dsk) (cuts : List Int) (hf : Few d) (hc : cuts.length ≤ 1000000) : PureT Try.prog 42 [dkv d, .sl false (is64 cuts)] (· = crashV d cuts) := by
  refine CallT.res (CallT.laxR ?_)
  have h1 := hf.b; have h2 := hf.q
  cases hi : isDiskB d
  · refine CallT.intro Try.func42 (by decide) rfl ?_
    simp -implicitDefEqProofs (dsimp := false) only [go_sem, simprocAttr, hi, enterTm, Try.ntmps42, List.range'_succ, List.range'_zero, List.zip_cons_cons, List.zip_nil_left]
    refine CodeT.seqR ?_
    simp -implicitDefEqProofs (dsimp := false) only [go_sem, simprocAttr, hi]
    refine CodeT.seq ?_
    refine CodeT.freeze 2 ?_
    simp -implicitDefEqProofs (dsimp := false) only [go_sem, simprocAttr, hi]
    refine CodeT.seqR ?_
    simp -implicitDefEqProofs (dsimp := false) only [go_sem, simprocAttr, hi]
    refine PureT.eq (c73 _ ?_) rfl ?_
    assumption
    simp -implicitDefEqProofs (dsimp := false) only [go_sem, simprocAttr, hi]
    refine CodeT.condT rfl ?_
    refine CodeT.seqR ?_
    simp -implicitDefEqProofs (dsimp := false) only [go_sem, simprocAttr, hi]
    refine CodeT.ret ?_
    simp -implicitDefEqProofs (dsimp := false) only [go_sem, simprocAttr, hi]
    refine pureEnd rfl ?_
    rotate_left
    simp only [crashV, hi, Bool.not_false, ↓reduceIte]; rfl
  obtain ⟨k, hw⟩ := isDisk_ok hi
  refine CallT.intro Try.func42 (by decide) rfl ?_
  simp -implicitDefEqProofs (dsimp := false) only [go_sem, simprocAttr, hi, enterTm, Try.ntmps42, List.range'_succ, List.range'_zero, List.zip_cons_cons, List.zip_nil_left]
  refine CodeT.seqR ?_
  simp -implicitDefEqProofs (dsimp := false) only [go_sem, simprocAttr, hi]
  refine CodeT.seq ?_
  refine CodeT.freeze 2 ?_
  simp -implicitDefEqProofs (dsimp := false) only [go_sem, simprocAttr, hi]
  refine CodeT.seqR ?_
  simp -implicitDefEqProofs (dsimp := false) only [go_sem, simprocAttr, hi]
  refine PureT.eq (c73 _ ?_) rfl ?_
  assumption
  simp -implicitDefEqProofs (dsimp := false) only [go_sem, simprocAttr, hi]
  refine CodeT.condF rfl ?_
  refine CodeT.skip ?_
  simp -implicitDefEqProofs (dsimp := false) only [go_sem, simprocAttr, hi]
  refine CodeT.seqR ?_
  simp -implicitDefEqProofs (dsimp := false) only [go_sem, simprocAttr, hi]
  refine And.intro (by exact uni_bs _) ?_
  refine And.intro (by omega) ?_
  refine CodeT.seq ?_
  refine CodeT.seqR ?_
  simp -implicitDefEqProofs (dsimp := false) only [go_sem, simprocAttr, hi]
  refine CodeT.block ?_
  refine CodeT.whileS (fun i : Nat => [(7, .val (.int .i64 (i : Nat)))]) [6, 4, 2, 1] (fun i : Nat => [.dead, .cells [.sl true [], .sl true []], .row true 1 1 (bs (doneTo d.bytes d.queue (farC cuts d) i)), .cells [.hsl 2 1 0 d.bytes.length, .sl true []]]) (fun i : Nat => i ≤ d.queue.length) (fun i : Nat => d.queue.length - i) (0) ?_ rfl ?_ ?_
  omega
  refine ⟨rfl, ?_, ?_, rfl, ?_⟩
  simp -implicitDefEqProofs (dsimp := false) only [go_sem, simprocAttr, hi, or_true, true_or, false_or, or_false, implies_true, Int.natCast_add, Int.cast_ofNat_Int, keepsD_nil]
  refine And.intro ?_ ?_
  trivial
  trivial
  simp -implicitDefEqProofs (dsimp := false) only [go_sem, simprocAttr, hi, or_true, true_or, false_or, or_false, implies_true, Int.natCast_add, Int.cast_ofNat_Int, keepsD_nil]
  refine And.intro ?_ ?_
  trivial
  trivial
  simp -implicitDefEqProofs (dsimp := false) only [go_sem, simprocAttr, hi, or_true, true_or, false_or, or_false, implies_true, Int.natCast_add, Int.cast_ofNat_Int, keepsD_nil]
  rintro i hx
  have f1 := hw i
  have f2 : (doneTo d.bytes d.queue (farC cuts d) i).length = d.bytes.length := doneTo_length hw i hx
  have f3 := doneTo_succ d.bytes d.queue (farC cuts d) i
  generalize hS : doneTo d.bytes d.queue (farC cuts d) i = S at *
  have f7 := farC_le cuts d i
  have f8 : cuts.length ≤ i → farC cuts d i = 0 := fun h => if_pos h
  have f9 : i < cuts.length → farC cuts d i = min (cuts.getD i 0).toNat (d.queue.getD i op0).bytes.length := fun h => if_neg (by omega)
  simp -implicitDefEqProofs (dsimp := false) only [go_sem, simprocAttr, hi]
  refine CodeT.seq ?_
  refine CodeT.seqR ?_
  simp -implicitDefEqProofs (dsimp := false) only [go_sem, simprocAttr, hi]
  refine CodeT.cond rfl (fun g4 => ?_) (fun g4 => ?_)
  have d4 := ofDec g4
  refine CodeT.skip ?_
  simp -implicitDefEqProofs (dsimp := false) only [go_sem, simprocAttr, hi, g4]
  refine CodeT.seq (CodeT.block ?_)
  refine CodeT.seqR ?_
  simp -implicitDefEqProofs (dsimp := false) only [go_sem, simprocAttr, hi, g4]
  refine gate_i ?_ ?_
  omega
  simp -implicitDefEqProofs (dsimp := false) (disch := omega) only [Int.toNat_natCast, i64_in, bs_getD, opvs_getD, is64_getD, bss_getD]
  simp -implicitDefEqProofs (dsimp := false) only [go_sem, simprocAttr, hi, g4]
  refine CodeT.freeze 8 ?_
  simp -implicitDefEqProofs (dsimp := false) only [go_sem, simprocAttr, hi, g4]
  refine CodeT.seqR ?_
  simp -implicitDefEqProofs (dsimp := false) only [go_sem, simprocAttr, hi, g4]
  refine CodeT.seq ?_
  refine CodeT.seqR ?_
  simp -implicitDefEqProofs (dsimp := false) only [go_sem, simprocAttr, hi, g4]
  refine CodeT.cond rfl (fun g5 => ?_) (fun g5 => ?_)
  have d5 := ofDec g5
  refine CodeT.drawnL [(0, .free), (1, .free), (4, .free), (2, .read), (3, .read), (5, .read), (6, .read), (7, .read), (8, .read), (9, .free)] mixed (by kernel_rfl) ?_
  simp -implicitDefEqProofs (dsimp := false) only [go_sem, simprocAttr, hi, g4, g5]
  refine gate_i ?_ ?_
  omega
  simp -implicitDefEqProofs (dsimp := false) (disch := omega) only [Int.toNat_natCast, i64_in, bs_getD, opvs_getD, is64_getD, bss_getD]
  simp -implicitDefEqProofs (dsimp := false) only [go_sem, simprocAttr, hi, g4, g5]
  refine And.intro (by trivial) ?_
  refine And.intro (by trivial) ?_
  refine And.intro (by trivial) ?_
  refine CodeT.seqR ?_
  simp -implicitDefEqProofs (dsimp := false) only [go_sem, simprocAttr, hi, g4, g5]
  refine CodeT.block ?_
  refine CodeT.whileS (fun k : Nat => [(10, .val (.int .i64 (k : Nat)))]) [9, 8, 7, 6, 4, 2, 1] (fun k : Nat => [.dead, .cells [.sl true [], .sl true []], .row true 1 1 (bs (putB S (d.queue.getD i op0).at_.toNat ((d.queue.getD i op0).bytes.take k))), .cells [.hsl 2 1 0 d.bytes.length, .sl true []], .dead]) (fun k : Nat => k ≤ farC cuts d i) (fun k : Nat => farC cuts d i - k) (0) ?_ rfl ?_ ?_
  omega
  refine ⟨rfl, ?_, ?_, rfl, ?_⟩
  simp -implicitDefEqProofs (dsimp := false) only [go_sem, simprocAttr, hi, g4, g5, or_true, true_or, false_or, or_false, implies_true, Int.natCast_add, Int.cast_ofNat_Int, keepsD_nil]
  refine And.intro ?_ ?_
  trivial
  trivial
  simp -implicitDefEqProofs (dsimp := false) only [go_sem, simprocAttr, hi, g4, g5, or_true, true_or, false_or, or_false, implies_true, Int.natCast_add, Int.cast_ofNat_Int, keepsD_nil]
  refine And.intro ?_ ?_
  rotate_left
  trivial
  simp -implicitDefEqProofs (dsimp := false) only [go_sem, simprocAttr, hi, g4, g5, or_true, true_or, false_or, or_false, implies_true, Int.natCast_add, Int.cast_ofNat_Int, keepsD_nil]
  rintro k hk
  have f4 : (putB S (d.queue.getD i op0).at_.toNat ((d.queue.getD i op0).bytes.take k)).length = d.bytes.length := by rw [putB_length (by have := f1 (by omega); rw [List.length_take]; omega), f2]
  obtain ⟨f5, f6⟩ := f1 (by omega)
  simp -implicitDefEqProofs (dsimp := false) only [go_sem, simprocAttr, hi, g4, g5]
  refine CodeT.seq ?_
  refine CodeT.seqR ?_
  simp -implicitDefEqProofs (dsimp := false) only [go_sem, simprocAttr, hi, g4, g5]
  refine CodeT.cond rfl (fun g6 => ?_) (fun g6 => ?_)
  have d6 := ofDec g6
  refine CodeT.skip ?_
  simp -implicitDefEqProofs (dsimp := false) only [go_sem, simprocAttr, hi, g4, g5, g6]
  refine CodeT.seq (CodeT.block ?_)
  refine CodeT.drawnL [(0, .free), (2, .free), (4, .free), (6, .free), (8, .free), (1, .read), (3, .read), (5, .free), (7, .read), (9, .read), (10, .read), (11, .upd), (12, .set)] mixed (by kernel_rfl) ?_
  simp -implicitDefEqProofs (dsimp := false) only [go_sem, simprocAttr, hi, g4, g5, g6]
  refine gate_i ?_ ?_
  omega
  simp -implicitDefEqProofs (dsimp := false) (disch := omega) only [Int.toNat_natCast, i64_in, bs_getD, opvs_getD, is64_getD, bss_getD]
  simp -implicitDefEqProofs (dsimp := false) only [go_sem, simprocAttr, hi, g4, g5, g6]
  refine And.intro (by omega) ?_
  refine And.intro (by omega) ?_
  refine And.intro (by omega) ?_
  refine And.intro (by exact Stable.refl _) ?_
  refine And.intro (by omega) ?_
  refine CodeT.region ?_
  simp -implicitDefEqProofs (dsimp := false) only [go_sem, simprocAttr, hi, g4, g5, g6]
  simp -implicitDefEqProofs (dsimp := false) (disch := omega) only [i64_in, bs_getD, opvs_getD, is64_getD, bss_getD]
  refine ⟨k + 1, ?_⟩
  refine And.intro ?_ ?_
  omega
  refine And.intro ?_ ?_
  omega
  refine ⟨rfl, ?_, ?_, rfl, ?_⟩
  simp -implicitDefEqProofs (dsimp := false) only [go_sem, simprocAttr, hi, g4, g5, g6, or_true, true_or, false_or, or_false, implies_true, Int.natCast_add, Int.cast_ofNat_Int, keepsD_nil]
  refine And.intro ?_ ?_
  trivial
  trivial
  simp -implicitDefEqProofs (dsimp := false) only [go_sem, simprocAttr, hi, g4, g5, g6, or_true, true_or, false_or, or_false, implies_true, Int.natCast_add, Int.cast_ofNat_Int, keepsD_nil]
  refine And.intro ?_ ?_
  rotate_left
  trivial
  simp -implicitDefEqProofs (dsimp := false) only [go_sem, simprocAttr, hi, g4, g5, g6, or_true, true_or, false_or, or_false, implies_true, Int.natCast_add, Int.cast_ofNat_Int, keepsD_nil]
  have d6 := ofDecF g6
  refine CodeT.exit ?_
  simp -implicitDefEqProofs (dsimp := false) only [go_sem, simprocAttr, hi, g4, g5, g6]
  refine CodeT.region ?_
  simp -implicitDefEqProofs (dsimp := false) only [go_sem, simprocAttr, hi, g4, g5, g6]
  simp -implicitDefEqProofs (dsimp := false) (disch := omega) only [i64_in, bs_getD, opvs_getD, is64_getD, bss_getD]
  refine ⟨i + 1, ?_⟩
  refine And.intro ?_ ?_
  omega
  refine And.intro ?_ ?_
  omega
  refine ⟨rfl, ?_, ?_, rfl, ?_⟩
  simp -implicitDefEqProofs (dsimp := false) only [go_sem, simprocAttr, hi, g4, g5, g6, or_true, true_or, false_or, or_false, implies_true, Int.natCast_add, Int.cast_ofNat_Int, keepsD_nil]
  refine And.intro ?_ ?_
  trivial
  trivial
  simp -implicitDefEqProofs (dsimp := false) only [go_sem, simprocAttr, hi, g4, g5, g6, or_true, true_or, false_or, or_false, implies_true, Int.natCast_add, Int.cast_ofNat_Int, keepsD_nil]
  refine And.intro ?_ ?_
  rotate_left
  trivial
  simp -implicitDefEqProofs (dsimp := false) only [go_sem, simprocAttr, hi, g4, g5, g6, or_true, true_or, false_or, or_false, implies_true, Int.natCast_add, Int.cast_ofNat_Int, keepsD_nil]
  have d5 := ofDecF g5
  refine CodeT.skip ?_
  simp -implicitDefEqProofs (dsimp := false) only [go_sem, simprocAttr, hi, g4, g5]
  refine CodeT.seqR ?_
  simp -implicitDefEqProofs (dsimp := false) only [go_sem, simprocAttr, hi, g4, g5]
  refine CodeT.block ?_
  refine CodeT.whileS (fun k : Nat => [(10, .val (.int .i64 (k : Nat)))]) [9, 8, 7, 6, 4, 2, 1] (fun k : Nat => [.dead, .cells [.sl true [], .sl true []], .row true 1 1 (bs (putB S (d.queue.getD i op0).at_.toNat ((d.queue.getD i op0).bytes.take k))), .cells [.hsl 2 1 0 d.bytes.length, .sl true []], .dead]) (fun k : Nat => k ≤ farC cuts d i) (fun k : Nat => farC cuts d i - k) (0) ?_ rfl ?_ ?_
  omega
  refine ⟨rfl, ?_, ?_, rfl, ?_⟩
  simp -implicitDefEqProofs (dsimp := false) only [go_sem, simprocAttr, hi, g4, g5, or_true, true_or, false_or, or_false, implies_true, Int.natCast_add, Int.cast_ofNat_Int, keepsD_nil]
  refine And.intro ?_ ?_
  trivial
  trivial
  simp -implicitDefEqProofs (dsimp := false) only [go_sem, simprocAttr, hi, g4, g5, or_true, true_or, false_or, or_false, implies_true, Int.natCast_add, Int.cast_ofNat_Int, keepsD_nil]
  refine And.intro ?_ ?_
  rotate_left
  trivial
  simp -implicitDefEqProofs (dsimp := false) only [go_sem, simprocAttr, hi, g4, g5, or_true, true_or, false_or, or_false, implies_true, Int.natCast_add, Int.cast_ofNat_Int, keepsD_nil]
  rintro k hk
  have f4 : (putB S (d.queue.getD i op0).at_.toNat ((d.queue.getD i op0).bytes.take k)).length = d.bytes.length := by rw [putB_length (by have := f1 (by omega); rw [List.length_take]; omega), f2]
  obtain ⟨f5, f6⟩ := f1 (by omega)
  simp -implicitDefEqProofs (dsimp := false) only [go_sem, simprocAttr, hi, g4, g5]
  refine CodeT.seq ?_
  refine CodeT.seqR ?_
  simp -implicitDefEqProofs (dsimp := false) only [go_sem, simprocAttr, hi, g4, g5]
  refine CodeT.condF rfl ?_
  refine CodeT.exit ?_
  simp -implicitDefEqProofs (dsimp := false) only [go_sem, simprocAttr, hi, g4, g5]
  refine CodeT.region ?_
  simp -implicitDefEqProofs (dsimp := false) only [go_sem, simprocAttr, hi, g4, g5]
  simp -implicitDefEqProofs (dsimp := false) (disch := omega) only [i64_in, bs_getD, opvs_getD, is64_getD, bss_getD]
  refine ⟨i + 1, ?_⟩
  refine And.intro ?_ ?_
  omega
  refine And.intro ?_ ?_
  omega
  refine ⟨rfl, ?_, ?_, rfl, ?_⟩
  simp -implicitDefEqProofs (dsimp := false) only [go_sem, simprocAttr, hi, g4, g5, or_true, true_or, false_or, or_false, implies_true, Int.natCast_add, Int.cast_ofNat_Int, keepsD_nil]
  refine And.intro ?_ ?_
  trivial
  trivial
  simp -implicitDefEqProofs (dsimp := false) only [go_sem, simprocAttr, hi, g4, g5, or_true, true_or, false_or, or_false, implies_true, Int.natCast_add, Int.cast_ofNat_Int, keepsD_nil]
  refine And.intro ?_ ?_
  rotate_left
  trivial
  simp -implicitDefEqProofs (dsimp := false) only [go_sem, simprocAttr, hi, g4, g5, or_true, true_or, false_or, or_false, implies_true, Int.natCast_add, Int.cast_ofNat_Int, keepsD_nil]
  have d4 := ofDecF g4
  refine CodeT.exit ?_
  simp -implicitDefEqProofs (dsimp := false) only [go_sem, simprocAttr, hi, g4]
  refine CodeT.seqR ?_
  simp -implicitDefEqProofs (dsimp := false) only [go_sem, simprocAttr, hi, g4]
  refine CodeT.ret ?_
  simp -implicitDefEqProofs (dsimp := false) only [go_sem, simprocAttr, hi, g4]
  refine And.intro (by omega) ?_
  refine pureEnd rfl ?_
  rotate_left
  · rw [putB_nil]
  · rw [show ((d.queue.getD i op0).at_ + (k : Int)).toNat = (d.queue.getD i op0).at_.toNat + k by omega, ← putB_set (by omega) (by omega), ← bs_set]
    rfl
  · rw [f3, show farC cuts d i = k by have := of_decide_eq_false g6; have := f9 (by omega); omega]
  · rw [putB_nil]
  · rw [f3, show farC cuts d i = k by have := f8 (by omega); omega]
  · have hi' : i = d.queue.length := by omega
    rw [List.take_of_length_le (by omega), ← hS, hi']
    unfold crashV
    rw [hi]
    rfl
end Go.Proofs.Try

namespace Go.Proofs.Try
set_option linter.unusedSimpArgs false
set_option linter.unusedVariables false
open Go.PM
set_option maxHeartbeats 4000000
set_option maxRecDepth 100000
theorem newV_eq (n : Int) : ∃ (d : Dsk) (e : Int), newV n = .tup [dkv d, er e] ∧ d.queue.length = 0 := by
  unfold newV
  split
  · exact ⟨⟨[], []⟩, _, rfl, rfl⟩
  · exact ⟨_, _, rfl, rfl⟩
theorem doV_eq (d : Dsk) (ops : List DOp) : ∃ (d' : Dsk) (e : Int), doV d ops = .tup [dkv d', er e] ∧ d'.queue.length ≤ d.queue.length + ops.length := by
  unfold doV
  cases hi : isDiskB d
  · exact ⟨⟨[], []⟩, _, rfl, by simp⟩
  cases hb : badArg d ops
  · exact ⟨_, _, rfl, (doB_disk ops hi hb).2.2⟩
  · exact ⟨⟨[], []⟩, _, rfl, by simp⟩
theorem crashV_eq (d : Dsk) (cuts : List Int) : ∃ (d' : Dsk) (e : Int), crashV d cuts = .tup [dkv d', er e] ∧ d'.queue.length = 0 := by
  unfold crashV
  split
  · exact ⟨⟨[], []⟩, _, rfl, rfl⟩
  · exact ⟨_, _, rfl, rfl⟩
theorem checkV_eq (d : Dsk) : ∃ (a b : Bool) (e : Int), checkV d = .tup [.val (.bool a), .val (.bool b), er e] := by
  unfold checkV
  split
  · exact ⟨_, _, _, rfl⟩
  · exact ⟨_, _, _, rfl⟩
theorem c9 (d : Dsk) (ops : List DOp) (cuts : List Int) (n : Int) (h1 : -9223372036854775808 ≤ n) (h2 : n ≤ 9223372036854775807) : PureT Try.prog 9 [dkv d, .sl false (opvs ops), .sl false (is64 cuts), .val (.int .i64 n)] (· = .val (.bool true)) := by
  cases hfb : fewB d
  · refine CallT.intro Try.func9 (by decide) rfl ?_
    simp -implicitDefEqProofs (dsimp := false) only [go_sem, simprocAttr, hfb, enterTm, Try.ntmps9, List.range'_succ, List.range'_zero, List.zip_cons_cons, List.zip_nil_left]
    refine CodeT.seqR ?_
    simp -implicitDefEqProofs (dsimp := false) only [go_sem, simprocAttr, hfb]
    refine CodeT.freeze 4 ?_
    simp -implicitDefEqProofs (dsimp := false) only [go_sem, simprocAttr, hfb]
    refine CodeT.seqR ?_
    simp -implicitDefEqProofs (dsimp := false) only [go_sem, simprocAttr, hfb]
    refine PureT.eq (c12) rfl ?_
    simp -implicitDefEqProofs (dsimp := false) only [go_sem, simprocAttr, hfb]
    refine CodeT.seq ?_
    refine CodeT.seqR ?_
    simp -implicitDefEqProofs (dsimp := false) only [go_sem, simprocAttr, hfb]
    refine PureT.eq (c15 _) rfl ?_
    simp -implicitDefEqProofs (dsimp := false) only [go_sem, simprocAttr, hfb]
    refine CodeT.condT rfl ?_
    refine CodeT.seqR ?_
    simp -implicitDefEqProofs (dsimp := false) only [go_sem, simprocAttr, hfb]
    refine CodeT.ret ?_
    simp -implicitDefEqProofs (dsimp := false) only [go_sem, simprocAttr, hfb]
    refine pureEnd rfl ?_
    simp -implicitDefEqProofs (dsimp := false) only [go_sem, simprocAttr, hfb]
  cases hso : shortB ops
  · refine CallT.intro Try.func9 (by decide) rfl ?_
    simp -implicitDefEqProofs (dsimp := false) only [go_sem, simprocAttr, hfb, hso, enterTm, Try.ntmps9, List.range'_succ, List.range'_zero, List.zip_cons_cons, List.zip_nil_left]
    refine CodeT.seqR ?_
    simp -implicitDefEqProofs (dsimp := false) only [go_sem, simprocAttr, hfb, hso]
    refine CodeT.freeze 4 ?_
    simp -implicitDefEqProofs (dsimp := false) only [go_sem, simprocAttr, hfb, hso]
    refine CodeT.seqR ?_
    simp -implicitDefEqProofs (dsimp := false) only [go_sem, simprocAttr, hfb, hso]
    refine PureT.eq (c12) rfl ?_
    simp -implicitDefEqProofs (dsimp := false) only [go_sem, simprocAttr, hfb, hso]
    refine CodeT.seq ?_
    refine CodeT.seqR ?_
    simp -implicitDefEqProofs (dsimp := false) only [go_sem, simprocAttr, hfb, hso]
    refine PureT.eq (c15 _) rfl ?_
    simp -implicitDefEqProofs (dsimp := false) only [go_sem, simprocAttr, hfb, hso]
    refine PureT.eq (c16 _) rfl ?_
    simp -implicitDefEqProofs (dsimp := false) only [go_sem, simprocAttr, hfb, hso]
    refine CodeT.condT rfl ?_
    refine CodeT.seqR ?_
    simp -implicitDefEqProofs (dsimp := false) only [go_sem, simprocAttr, hfb, hso]
    refine CodeT.ret ?_
    simp -implicitDefEqProofs (dsimp := false) only [go_sem, simprocAttr, hfb, hso]
    refine pureEnd rfl ?_
    simp -implicitDefEqProofs (dsimp := false) only [go_sem, simprocAttr, hfb, hso]
  obtain ⟨hf, -, hq⟩ := fewB_few hfb
  have lo := shortB_short hso
  obtain ⟨d1, e1, v1, q1⟩ := newV_eq n
  obtain ⟨d2, e2, v2, q2⟩ := doV_eq d ops
  obtain ⟨d3, e3, v3, q3⟩ := crashV_eq d cuts
  obtain ⟨a4, b4, e4, v4⟩ := checkV_eq d
  have r1 : ∀ x : Dsk, (x == x) = true := fun x => by simp
  have r4 : ∀ x : Int, (x == x) = true := fun x => by simp
  have r5 : ∀ x : Int, (x != x) = false := fun x => by simp
  have r6 : ∀ x : Bool, (x == x) = true := fun x => by simp
  have r7 : ∀ x : Bool, (!(x == x)) = false := fun x => by simp
  refine CallT.intro Try.func9 (by decide) rfl ?_
  simp -implicitDefEqProofs (dsimp := false) only [go_sem, simprocAttr, hfb, hso, v1, v2, v3, v4, r1, r4, r5, r6, r7, enterTm, Try.ntmps9, List.range'_succ, List.range'_zero, List.zip_cons_cons, List.zip_nil_left]
  refine CodeT.seqR ?_
  simp -implicitDefEqProofs (dsimp := false) only [go_sem, simprocAttr, hfb, hso, v1, v2, v3, v4, r1, r4, r5, r6, r7]
  refine CodeT.freeze 4 ?_
  simp -implicitDefEqProofs (dsimp := false) only [go_sem, simprocAttr, hfb, hso, v1, v2, v3, v4, r1, r4, r5, r6, r7]
  refine CodeT.seqR ?_
  simp -implicitDefEqProofs (dsimp := false) only [go_sem, simprocAttr, hfb, hso, v1, v2, v3, v4, r1, r4, r5, r6, r7]
  refine PureT.eq (c12) rfl ?_
  simp -implicitDefEqProofs (dsimp := false) only [go_sem, simprocAttr, hfb, hso, v1, v2, v3, v4, r1, r4, r5, r6, r7]
  refine CodeT.seq ?_
  refine CodeT.seqR ?_
  simp -implicitDefEqProofs (dsimp := false) only [go_sem, simprocAttr, hfb, hso, v1, v2, v3, v4, r1, r4, r5, r6, r7]
  refine PureT.eq (c15 _) rfl ?_
  simp -implicitDefEqProofs (dsimp := false) only [go_sem, simprocAttr, hfb, hso, v1, v2, v3, v4, r1, r4, r5, r6, r7]
  refine PureT.eq (c16 _) rfl ?_
  simp -implicitDefEqProofs (dsimp := false) only [go_sem, simprocAttr, hfb, hso, v1, v2, v3, v4, r1, r4, r5, r6, r7]
  refine gif_i (fun g11 => ?_) (fun g11 => ?_)
  have d11 := ofDec g11
  simp -implicitDefEqProofs (dsimp := false) only [go_sem, simprocAttr, hfb, hso, v1, v2, v3, v4, r1, r4, r5, r6, r7, g11]
  refine CodeT.condT rfl ?_
  refine CodeT.seqR ?_
  simp -implicitDefEqProofs (dsimp := false) only [go_sem, simprocAttr, hfb, hso, v1, v2, v3, v4, r1, r4, r5, r6, r7, g11]
  refine CodeT.ret ?_
  simp -implicitDefEqProofs (dsimp := false) only [go_sem, simprocAttr, hfb, hso, v1, v2, v3, v4, r1, r4, r5, r6, r7, g11]
  refine pureEnd rfl ?_
  simp -implicitDefEqProofs (dsimp := false) only [go_sem, simprocAttr, hfb, hso, v1, v2, v3, v4, r1, r4, r5, r6, r7, g11]
  have d11 := ofDecF g11
  simp -implicitDefEqProofs (dsimp := false) only [go_sem, simprocAttr, hfb, hso, v1, v2, v3, v4, r1, r4, r5, r6, r7, g11]
  refine gif_i (fun g12 => ?_) (fun g12 => ?_)
  have d12 := ofDec g12
  simp -implicitDefEqProofs (dsimp := false) only [go_sem, simprocAttr, hfb, hso, v1, v2, v3, v4, r1, r4, r5, r6, r7, g11, g12]
  refine CodeT.cond rfl (fun g13 => ?_) (fun g13 => ?_)
  have d13 := ofDec g13
  refine CodeT.seqR ?_
  simp -implicitDefEqProofs (dsimp := false) only [go_sem, simprocAttr, hfb, hso, v1, v2, v3, v4, r1, r4, r5, r6, r7, g11, g12, g13]
  refine CodeT.ret ?_
  simp -implicitDefEqProofs (dsimp := false) only [go_sem, simprocAttr, hfb, hso, v1, v2, v3, v4, r1, r4, r5, r6, r7, g11, g12, g13]
  refine pureEnd rfl ?_
  simp -implicitDefEqProofs (dsimp := false) only [go_sem, simprocAttr, hfb, hso, v1, v2, v3, v4, r1, r4, r5, r6, r7, g11, g12, g13]
  have d13 := ofDecF g13
  refine CodeT.skip ?_
  simp -implicitDefEqProofs (dsimp := false) only [go_sem, simprocAttr, hfb, hso, v1, v2, v3, v4, r1, r4, r5, r6, r7, g11, g12, g13]
  refine CodeT.seqR ?_
  simp -implicitDefEqProofs (dsimp := false) only [go_sem, simprocAttr, hfb, hso, v1, v2, v3, v4, r1, r4, r5, r6, r7, g11, g12, g13]
  refine PureT.eq (c38 _ ?_ ?_) rfl ?_
  assumption
  assumption
  simp -implicitDefEqProofs (dsimp := false) only [go_sem, simprocAttr, hfb, hso, v1, v2, v3, v4, r1, r4, r5, r6, r7, g11, g12, g13]
  refine CodeT.seqR ?_
  simp -implicitDefEqProofs (dsimp := false) only [go_sem, simprocAttr, hfb, hso, v1, v2, v3, v4, r1, r4, r5, r6, r7, g11, g12, g13]
  refine PureT.eq (c39 _ ?_ ?_) rfl ?_
  assumption
  assumption
  simp -implicitDefEqProofs (dsimp := false) only [go_sem, simprocAttr, hfb, hso, v1, v2, v3, v4, r1, r4, r5, r6, r7, g11, g12, g13]
  refine CodeT.seqR ?_
  simp -implicitDefEqProofs (dsimp := false) only [go_sem, simprocAttr, hfb, hso, v1, v2, v3, v4, r1, r4, r5, r6, r7, g11, g12, g13]
  refine PureT.eq (c17u d ops hf ?_ ?_) rfl ?_
  omega
  omega
  simp -implicitDefEqProofs (dsimp := false) only [go_sem, simprocAttr, hfb, hso, v1, v2, v3, v4, r1, r4, r5, r6, r7, g11, g12, g13]
  refine CodeT.seqR ?_
  simp -implicitDefEqProofs (dsimp := false) only [go_sem, simprocAttr, hfb, hso, v1, v2, v3, v4, r1, r4, r5, r6, r7, g11, g12, g13]
  refine PureT.eq (c40 _ _ ?_ ?_ ?_) rfl ?_
  assumption
  omega
  omega
  simp -implicitDefEqProofs (dsimp := false) only [go_sem, simprocAttr, hfb, hso, v1, v2, v3, v4, r1, r4, r5, r6, r7, g11, g12, g13]
  refine CodeT.seq ?_
  refine CodeT.seqD [(0, .read), (1, .read), (2, .free), (3, .free), (4, .free), (5, .free), (6, .free), (7, .free), (8, .free), (9, .free), (10, .read), (11, .read), (12, .free), (13, .free), (14, .free), (15, .free), (16, .free), (17, .free), (18, .free), (19, .free), (20, .free), (21, .read), (22, .read), (23, .free), (24, .read), (25, .read), (26, .free), (27, .free), (28, .free), (29, .free), (30, .read), (31, .read), (32, .free), (33, .free), (34, .free)] mixed (by kernel_rfl) ?_
  simp -implicitDefEqProofs (dsimp := false) only [go_sem, simprocAttr, hfb, hso, v1, v2, v3, v4, r1, r4, r5, r6, r7, g11, g12, g13]
  refine CallF.go (c19 _ _ ?_) rfl ?_
  omega
  simp -implicitDefEqProofs (dsimp := false) only [go_sem, simprocAttr, hfb, hso, v1, v2, v3, v4, r1, r4, r5, r6, r7, g11, g12, g13]
  refine CallF.go (c19 _ _ ?_) rfl ?_
  omega
  simp -implicitDefEqProofs (dsimp := false) only [go_sem, simprocAttr, hfb, hso, v1, v2, v3, v4, r1, r4, r5, r6, r7, g11, g12, g13]
  refine CallF.go (c41 _ _ ?_) rfl ?_
  omega
  simp -implicitDefEqProofs (dsimp := false) only [go_sem, simprocAttr, hfb, hso, v1, v2, v3, v4, r1, r4, r5, r6, r7, g11, g12, g13]
  refine CallF.go (c19 _ _ ?_) rfl ?_
  omega
  simp -implicitDefEqProofs (dsimp := false) only [go_sem, simprocAttr, hfb, hso, v1, v2, v3, v4, r1, r4, r5, r6, r7, g11, g12, g13]
  refine CallF.go (c41 _ _ ?_) rfl ?_
  omega
  simp -implicitDefEqProofs (dsimp := false) only [go_sem, simprocAttr, hfb, hso, v1, v2, v3, v4, r1, r4, r5, r6, r7, g11, g12, g13]
  refine CodeT.condF rfl ?_
  refine CodeT.skip ?_
  simp -implicitDefEqProofs (dsimp := false) only [go_sem, simprocAttr, hfb, hso, v1, v2, v3, v4, r1, r4, r5, r6, r7, g11, g12, g13]
  refine CodeT.seqR ?_
  simp -implicitDefEqProofs (dsimp := false) only [go_sem, simprocAttr, hfb, hso, v1, v2, v3, v4, r1, r4, r5, r6, r7, g11, g12, g13]
  refine PureT.eq (c18 _ _ ?_ ?_) rfl ?_
  assumption
  omega
  simp -implicitDefEqProofs (dsimp := false) only [go_sem, simprocAttr, hfb, hso, v1, v2, v3, v4, r1, r4, r5, r6, r7, g11, g12, g13]
  refine CodeT.seqR ?_
  simp -implicitDefEqProofs (dsimp := false) only [go_sem, simprocAttr, hfb, hso, v1, v2, v3, v4, r1, r4, r5, r6, r7, g11, g12, g13]
  refine PureT.eq (c42 _ _ ?_ ?_) rfl ?_
  assumption
  omega
  simp -implicitDefEqProofs (dsimp := false) only [go_sem, simprocAttr, hfb, hso, v1, v2, v3, v4, r1, r4, r5, r6, r7, g11, g12, g13]
  refine CodeT.seqR ?_
  simp -implicitDefEqProofs (dsimp := false) only [go_sem, simprocAttr, hfb, hso, v1, v2, v3, v4, r1, r4, r5, r6, r7, g11, g12, g13]
  refine PureT.eq (c22 _ ?_) rfl ?_
  assumption
  simp -implicitDefEqProofs (dsimp := false) only [go_sem, simprocAttr, hfb, hso, v1, v2, v3, v4, r1, r4, r5, r6, r7, g11, g12, g13]
  refine CodeT.seqR ?_
  simp -implicitDefEqProofs (dsimp := false) only [go_sem, simprocAttr, hfb, hso, v1, v2, v3, v4, r1, r4, r5, r6, r7, g11, g12, g13]
  refine PureT.eq (c43 _ ?_) rfl ?_
  assumption
  simp -implicitDefEqProofs (dsimp := false) only [go_sem, simprocAttr, hfb, hso, v1, v2, v3, v4, r1, r4, r5, r6, r7, g11, g12, g13]
  refine CodeT.seqR ?_
  simp -implicitDefEqProofs (dsimp := false) only [go_sem, simprocAttr, hfb, hso, v1, v2, v3, v4, r1, r4, r5, r6, r7, g11, g12, g13]
  refine PureT.eq (c19 _ _ ?_) rfl ?_
  omega
  simp -implicitDefEqProofs (dsimp := false) only [go_sem, simprocAttr, hfb, hso, v1, v2, v3, v4, r1, r4, r5, r6, r7, g11, g12, g13]
  refine CodeT.ret ?_
  simp -implicitDefEqProofs (dsimp := false) only [go_sem, simprocAttr, hfb, hso, v1, v2, v3, v4, r1, r4, r5, r6, r7, g11, g12, g13]
  refine pureEnd rfl ?_
  simp -implicitDefEqProofs (dsimp := false) only [go_sem, simprocAttr, hfb, hso, v1, v2, v3, v4, r1, r4, r5, r6, r7, g11, g12, g13]
  have d12 := ofDecF g12
  simp -implicitDefEqProofs (dsimp := false) only [go_sem, simprocAttr, hfb, hso, v1, v2, v3, v4, r1, r4, r5, r6, r7, g11, g12]
  refine CodeT.condF rfl ?_
  refine CodeT.skip ?_
  simp -implicitDefEqProofs (dsimp := false) only [go_sem, simprocAttr, hfb, hso, v1, v2, v3, v4, r1, r4, r5, r6, r7, g11, g12]
  refine CodeT.seqR ?_
  simp -implicitDefEqProofs (dsimp := false) only [go_sem, simprocAttr, hfb, hso, v1, v2, v3, v4, r1, r4, r5, r6, r7, g11, g12]
  refine PureT.eq (c38 _ ?_ ?_) rfl ?_
  assumption
  assumption
  simp -implicitDefEqProofs (dsimp := false) only [go_sem, simprocAttr, hfb, hso, v1, v2, v3, v4, r1, r4, r5, r6, r7, g11, g12]
  refine CodeT.seqR ?_
  simp -implicitDefEqProofs (dsimp := false) only [go_sem, simprocAttr, hfb, hso, v1, v2, v3, v4, r1, r4, r5, r6, r7, g11, g12]
  refine PureT.eq (c39 _ ?_ ?_) rfl ?_
  assumption
  assumption
  simp -implicitDefEqProofs (dsimp := false) only [go_sem, simprocAttr, hfb, hso, v1, v2, v3, v4, r1, r4, r5, r6, r7, g11, g12]
  refine CodeT.seqR ?_
  simp -implicitDefEqProofs (dsimp := false) only [go_sem, simprocAttr, hfb, hso, v1, v2, v3, v4, r1, r4, r5, r6, r7, g11, g12]
  refine PureT.eq (c17u d ops hf ?_ ?_) rfl ?_
  omega
  omega
  simp -implicitDefEqProofs (dsimp := false) only [go_sem, simprocAttr, hfb, hso, v1, v2, v3, v4, r1, r4, r5, r6, r7, g11, g12]
  refine CodeT.seqR ?_
  simp -implicitDefEqProofs (dsimp := false) only [go_sem, simprocAttr, hfb, hso, v1, v2, v3, v4, r1, r4, r5, r6, r7, g11, g12]
  refine PureT.eq (c40 _ _ ?_ ?_ ?_) rfl ?_
  assumption
  omega
  omega
  simp -implicitDefEqProofs (dsimp := false) only [go_sem, simprocAttr, hfb, hso, v1, v2, v3, v4, r1, r4, r5, r6, r7, g11, g12]
  refine CodeT.seq ?_
  refine CodeT.seqD [(0, .read), (1, .read), (2, .free), (3, .free), (4, .free), (5, .free), (6, .free), (7, .free), (8, .free), (9, .free), (10, .read), (11, .read), (12, .free), (13, .free), (14, .free), (15, .free), (16, .free), (17, .free), (18, .free), (19, .free), (20, .free), (21, .read), (22, .read), (23, .free), (24, .read), (25, .read), (26, .free), (27, .free), (28, .free), (29, .free), (30, .read), (31, .read), (32, .free), (33, .free), (34, .free)] mixed (by kernel_rfl) ?_
  simp -implicitDefEqProofs (dsimp := false) only [go_sem, simprocAttr, hfb, hso, v1, v2, v3, v4, r1, r4, r5, r6, r7, g11, g12]
  refine CallF.go (c19 _ _ ?_) rfl ?_
  omega
  simp -implicitDefEqProofs (dsimp := false) only [go_sem, simprocAttr, hfb, hso, v1, v2, v3, v4, r1, r4, r5, r6, r7, g11, g12]
  refine CallF.go (c19 _ _ ?_) rfl ?_
  omega
  simp -implicitDefEqProofs (dsimp := false) only [go_sem, simprocAttr, hfb, hso, v1, v2, v3, v4, r1, r4, r5, r6, r7, g11, g12]
  refine CallF.go (c41 _ _ ?_) rfl ?_
  omega
  simp -implicitDefEqProofs (dsimp := false) only [go_sem, simprocAttr, hfb, hso, v1, v2, v3, v4, r1, r4, r5, r6, r7, g11, g12]
  refine CallF.go (c19 _ _ ?_) rfl ?_
  omega
  simp -implicitDefEqProofs (dsimp := false) only [go_sem, simprocAttr, hfb, hso, v1, v2, v3, v4, r1, r4, r5, r6, r7, g11, g12]
  refine CallF.go (c41 _ _ ?_) rfl ?_
  omega
  simp -implicitDefEqProofs (dsimp := false) only [go_sem, simprocAttr, hfb, hso, v1, v2, v3, v4, r1, r4, r5, r6, r7, g11, g12]
  refine CodeT.condF rfl ?_
  refine CodeT.skip ?_
  simp -implicitDefEqProofs (dsimp := false) only [go_sem, simprocAttr, hfb, hso, v1, v2, v3, v4, r1, r4, r5, r6, r7, g11, g12]
  refine CodeT.seqR ?_
  simp -implicitDefEqProofs (dsimp := false) only [go_sem, simprocAttr, hfb, hso, v1, v2, v3, v4, r1, r4, r5, r6, r7, g11, g12]
  refine PureT.eq (c18 _ _ ?_ ?_) rfl ?_
  assumption
  omega
  simp -implicitDefEqProofs (dsimp := false) only [go_sem, simprocAttr, hfb, hso, v1, v2, v3, v4, r1, r4, r5, r6, r7, g11, g12]
  refine CodeT.seqR ?_
  simp -implicitDefEqProofs (dsimp := false) only [go_sem, simprocAttr, hfb, hso, v1, v2, v3, v4, r1, r4, r5, r6, r7, g11, g12]
  refine PureT.eq (c42 _ _ ?_ ?_) rfl ?_
  assumption
  omega
  simp -implicitDefEqProofs (dsimp := false) only [go_sem, simprocAttr, hfb, hso, v1, v2, v3, v4, r1, r4, r5, r6, r7, g11, g12]
  refine CodeT.seqR ?_
  simp -implicitDefEqProofs (dsimp := false) only [go_sem, simprocAttr, hfb, hso, v1, v2, v3, v4, r1, r4, r5, r6, r7, g11, g12]
  refine PureT.eq (c22 _ ?_) rfl ?_
  assumption
  simp -implicitDefEqProofs (dsimp := false) only [go_sem, simprocAttr, hfb, hso, v1, v2, v3, v4, r1, r4, r5, r6, r7, g11, g12]
  refine CodeT.seqR ?_
  simp -implicitDefEqProofs (dsimp := false) only [go_sem, simprocAttr, hfb, hso, v1, v2, v3, v4, r1, r4, r5, r6, r7, g11, g12]
  refine PureT.eq (c43 _ ?_) rfl ?_
  assumption
  simp -implicitDefEqProofs (dsimp := false) only [go_sem, simprocAttr, hfb, hso, v1, v2, v3, v4, r1, r4, r5, r6, r7, g11, g12]
  refine CodeT.seqR ?_
  simp -implicitDefEqProofs (dsimp := false) only [go_sem, simprocAttr, hfb, hso, v1, v2, v3, v4, r1, r4, r5, r6, r7, g11, g12]
  refine PureT.eq (c19 _ _ ?_) rfl ?_
  omega
  simp -implicitDefEqProofs (dsimp := false) only [go_sem, simprocAttr, hfb, hso, v1, v2, v3, v4, r1, r4, r5, r6, r7, g11, g12]
  refine CodeT.ret ?_
  simp -implicitDefEqProofs (dsimp := false) only [go_sem, simprocAttr, hfb, hso, v1, v2, v3, v4, r1, r4, r5, r6, r7, g11, g12]
  refine pureEnd rfl ?_
  simp -implicitDefEqProofs (dsimp := false) only [go_sem, simprocAttr, hfb, hso, v1, v2, v3, v4, r1, r4, r5, r6, r7, g11, g12]
end Go.Proofs.Try

namespace Go.PM
/-- A call that looks at one box alone. -/
theorem CallT.ext1 {P : Program} {f : FuncId} {args cs cs' : List AV} {v : AV} (hc : CallT P f args [.dead, .cells cs] (fun r h' => r = .ret v ∧ h' = [.dead, .cells cs'])) (ha : underL 2 args = true) (hu : underL 2 cs = true) (ext : List Box) :
    CallT P f args (.dead :: .cells cs :: ext) (fun r h' => r = .ret v ∧ h' = .dead :: .cells cs' :: ext) := by
  refine (CallT.pre ext (h := [.dead, .cells cs]) ?_ ha (fun r h' hh => by rw [hh.2]; rfl) hc).mono ?_
  · intro b hb
    simp only [List.mem_cons, List.not_mem_nil, or_false] at hb
    rcases hb with rfl | rfl
    · rfl
    · exact hu
  · rintro r h' ⟨h0, ⟨rfl, rfl⟩, rfl⟩
    exact ⟨rfl, rfl⟩
end Go.PM
namespace Go.Proofs.Try
set_option linter.unusedSimpArgs false
set_option linter.unusedVariables false
open Go.PM
set_option maxHeartbeats 4000000
set_option maxRecDepth 100000

structure Sto where
  d : Dsk
  base : List UInt8
  recs : List (List UInt8)
  fl : Int
  other : List UInt8
  doubt : Bool
def stv (s : Sto) : List AV := [.sl false (bs s.d.bytes), .sl false (opvs s.d.queue), .sl false (bs s.base), .sl false (bss s.recs), .val (.int .i64 s.fl), .sl false (bs s.other), .val (.bool s.doubt)]
theorem endLess {cs cs' : List AV} {ext : List Box} (hu : underL 2 cs = true) (hc : cs = cs') : ∃ h'' : List Box, keepsH h''.length (.dead :: .cells cs :: ext) h'' ∧ 2 ≤ h''.length ∧ AE.under h''.length (AE.ret (.val (.bool true))) = true ∧ h'' = [.dead, .cells cs'] := by
  subst hc
  exact ⟨[.dead, .cells cs], ⟨.inl rfl, .inr ⟨rfl, hu⟩, by rw [keepsH_nil]; trivial⟩, Nat.le_refl _, rfl, rfl⟩
theorem c107a (ops : List DOp) (m : Int) (h : (decide (m < 0) || decide (m ≥ ops.length)) = true) : PureT Try.prog 107 [.sl false (opvs ops), .val (.int .i64 m)] (· = .tup [.sl false (opvs ops), .val (.bool true)]) := by
  refine CallT.intro Try.func107 (by decide) rfl ?_
  simp -implicitDefEqProofs (dsimp := false) only [go_sem, simprocAttr, enterTm, Try.ntmps107, List.range'_succ, List.range'_zero, List.zip_cons_cons, List.zip_nil_left]
  refine CodeT.seqR ?_
  simp -implicitDefEqProofs (dsimp := false) only [go_sem, simprocAttr]
  refine CodeT.seq ?_
  refine CodeT.seqR ?_
  simp -implicitDefEqProofs (dsimp := false) only [go_sem, simprocAttr]
  refine gif_i (fun g1 => ?_) (fun g1 => ?_)
  have d1 := ofDec g1
  simp -implicitDefEqProofs (dsimp := false) only [go_sem, simprocAttr, g1]
  refine CodeT.condT rfl ?_
  refine CodeT.seqR ?_
  simp -implicitDefEqProofs (dsimp := false) only [go_sem, simprocAttr, g1]
  refine CodeT.ret ?_
  simp -implicitDefEqProofs (dsimp := false) only [go_sem, simprocAttr, g1]
  refine pureEnd rfl ?_
  simp -implicitDefEqProofs (dsimp := false) only [go_sem, simprocAttr, g1]
  have d1 := ofDecF g1
  simp -implicitDefEqProofs (dsimp := false) only [go_sem, simprocAttr, g1]
  refine CodeT.cond rfl (fun g2 => ?_) (fun g2 => ?_)
  have d2 := ofDec g2
  refine CodeT.seqR ?_
  simp -implicitDefEqProofs (dsimp := false) only [go_sem, simprocAttr, g1, g2]
  refine CodeT.ret ?_
  simp -implicitDefEqProofs (dsimp := false) only [go_sem, simprocAttr, g1, g2]
  refine pureEnd rfl ?_
  simp -implicitDefEqProofs (dsimp := false) only [go_sem, simprocAttr, g1, g2]
  have d2 := ofDecF g2
  refine CodeT.skip ?_
  simp -implicitDefEqProofs (dsimp := false) only [go_sem, simprocAttr, g1, g2]
  refine CodeT.seqR ?_
  simp -implicitDefEqProofs (dsimp := false) only [go_sem, simprocAttr, g1, g2]
  refine And.intro (by exact uni_opvs _) ?_
  refine And.intro (by omega) ?_
  refine And.intro (by omega) ?_
  refine CodeT.ret ?_
  simp -implicitDefEqProofs (dsimp := false) only [go_sem, simprocAttr, g1, g2]
  refine pureEnd rfl ?_
  rotate_left
  rw [g1, g2] at h
  cases h
theorem c107b (ops : List DOp) (m : Int) (h : (decide (m < 0) || decide (m ≥ ops.length)) = false) : PureT Try.prog 107 [.sl false (opvs ops), .val (.int .i64 m)] (· = .tup [.sl false (opvs (ops.take m.toNat)), .val (.bool false)]) := by
  refine CallT.intro Try.func107 (by decide) rfl ?_
  simp -implicitDefEqProofs (dsimp := false) only [go_sem, simprocAttr, enterTm, Try.ntmps107, List.range'_succ, List.range'_zero, List.zip_cons_cons, List.zip_nil_left]
  refine CodeT.seqR ?_
  simp -implicitDefEqProofs (dsimp := false) only [go_sem, simprocAttr]
  refine CodeT.seq ?_
  refine CodeT.seqR ?_
  simp -implicitDefEqProofs (dsimp := false) only [go_sem, simprocAttr]
  refine gif_i (fun g1 => ?_) (fun g1 => ?_)
  have d1 := ofDec g1
  simp -implicitDefEqProofs (dsimp := false) only [go_sem, simprocAttr, g1]
  refine CodeT.condT rfl ?_
  refine CodeT.seqR ?_
  simp -implicitDefEqProofs (dsimp := false) only [go_sem, simprocAttr, g1]
  refine CodeT.ret ?_
  simp -implicitDefEqProofs (dsimp := false) only [go_sem, simprocAttr, g1]
  refine pureEnd rfl ?_
  rotate_left
  have d1 := ofDecF g1
  simp -implicitDefEqProofs (dsimp := false) only [go_sem, simprocAttr, g1]
  refine CodeT.cond rfl (fun g2 => ?_) (fun g2 => ?_)
  have d2 := ofDec g2
  refine CodeT.seqR ?_
  simp -implicitDefEqProofs (dsimp := false) only [go_sem, simprocAttr, g1, g2]
  refine CodeT.ret ?_
  simp -implicitDefEqProofs (dsimp := false) only [go_sem, simprocAttr, g1, g2]
  refine pureEnd rfl ?_
  rotate_left
  have d2 := ofDecF g2
  refine CodeT.skip ?_
  simp -implicitDefEqProofs (dsimp := false) only [go_sem, simprocAttr, g1, g2]
  refine CodeT.seqR ?_
  simp -implicitDefEqProofs (dsimp := false) only [go_sem, simprocAttr, g1, g2]
  refine And.intro (by exact uni_opvs _) ?_
  refine And.intro (by omega) ?_
  refine And.intro (by omega) ?_
  refine CodeT.ret ?_
  simp -implicitDefEqProofs (dsimp := false) only [go_sem, simprocAttr, g1, g2]
  refine pureEnd rfl ?_
  simp -implicitDefEqProofs (dsimp := false) only [go_sem, simprocAttr, g1, g2]
  · rw [g1] at h
    cases h
  · rw [g1, g2] at h
    cases h
theorem c71o (s : Sto) (cuts : List Int) (d' : Dsk) (b : List UInt8) (l : List (List UInt8)) (hf : Few s.d) (hf' : Few d') (hc : cuts.length ≤ 1000000) (hl : l.length ≤ 4000000) (hr : s.recs.length ≤ 4000000)
    (e1 : crashV s.d cuts = .tup [dkv d', er 0]) (e2 : readV d' = .tup [.sl false (bs b), .sl false (bss l), er 0])
    (o1 : (b == s.base) = true) (o2 : decide ((l.length : Int) ≥ s.fl) = true) (o3 : decide ((l.length : Int) ≤ s.recs.length) = true) (o4 : (l == s.recs.take l.length) = true) :
    CallT Try.prog 71 [.ptr 1 0, .sl false (is64 cuts)] [.dead, .cells (stv s)] (fun r h' => r = .ret (.val (.bool true)) ∧ h' = [.dead, .cells (stv ⟨d', b, l, l.length, [], false⟩)]) := by
  refine CallT.less ?_
  have d3 := of_decide_eq_true o3
  refine CallT.intro Try.func71 (by decide) rfl ?_
  simp -implicitDefEqProofs (dsimp := false) only [go_sem, simprocAttr, stv, strOf_bs, strB_beq, o1, o2, o3, o4, enterTm, Try.ntmps71, List.range'_succ, List.range'_zero, List.zip_cons_cons, List.zip_nil_left]
  refine CodeT.seqR ?_
  simp -implicitDefEqProofs (dsimp := false) only [go_sem, simprocAttr, stv, strOf_bs, strB_beq, o1, o2, o3, o4]
  refine CodeT.seqR ?_
  simp -implicitDefEqProofs (dsimp := false) only [go_sem, simprocAttr, stv, strOf_bs, strB_beq, o1, o2, o3, o4]
  refine PureT.eq (c18k s.d cuts hf hc e1) rfl ?_
  simp -implicitDefEqProofs (dsimp := false) only [go_sem, simprocAttr, stv, strOf_bs, strB_beq, o1, o2, o3, o4]
  refine CodeT.freeze 5 ?_
  simp -implicitDefEqProofs (dsimp := false) only [go_sem, simprocAttr, stv, strOf_bs, strB_beq, o1, o2, o3, o4]
  refine CodeT.seqR ?_
  simp -implicitDefEqProofs (dsimp := false) only [go_sem, simprocAttr, stv, strOf_bs, strB_beq, o1, o2, o3, o4]
  refine PureT.eq (c21k d' hf' e2) rfl ?_
  simp -implicitDefEqProofs (dsimp := false) only [go_sem, simprocAttr, stv, strOf_bs, strB_beq, o1, o2, o3, o4]
  refine CodeT.seq ?_
  refine CodeT.seqR ?_
  simp -implicitDefEqProofs (dsimp := false) only [go_sem, simprocAttr, stv, strOf_bs, strB_beq, o1, o2, o3, o4]
  refine CodeT.condF rfl ?_
  refine CodeT.skip ?_
  simp -implicitDefEqProofs (dsimp := false) only [go_sem, simprocAttr, stv, strOf_bs, strB_beq, o1, o2, o3, o4]
  refine CodeT.seqD [(0, .free), (1, .free), (2, .free), (3, .read), (4, .free), (5, .free), (6, .free), (7, .free), (8, .free), (9, .free), (10, .read), (11, .free), (12, .free), (13, .free), (14, .free), (15, .free), (16, .read), (17, .free), (18, .free), (19, .free)] mixed (by kernel_rfl) ?_
  simp -implicitDefEqProofs (dsimp := false) only [go_sem, simprocAttr, stv, strOf_bs, strB_beq, o1, o2, o3, o4]
  refine gif_i (fun g6 => ?_) (fun g6 => ?_)
  simp -implicitDefEqProofs (dsimp := false) only [go_sem, simprocAttr, stv, strOf_bs, strB_beq, o1, o2, o3, o4, g6]
  refine And.intro (by exact bs_byte _) ?_
  refine And.intro (by exact bs_byte _) ?_
  refine gif_i (fun g7 => ?_) (fun g7 => ?_)
  simp -implicitDefEqProofs (dsimp := false) only [go_sem, simprocAttr, stv, strOf_bs, strB_beq, o1, o2, o3, o4, g6, g7]
  refine And.intro (by trivial) ?_
  refine CodeT.seqD [(0, .free), (1, .free), (2, .free), (3, .free), (4, .free), (5, .read), (6, .free), (7, .free), (8, .free), (9, .free), (11, .free), (12, .free), (13, .free), (10, .read), (14, .read), (15, .free), (16, .free), (17, .free), (18, .free), (20, .free), (21, .free), (22, .free), (19, .read), (23, .read), (24, .read), (25, .free), (26, .free), (27, .free), (28, .free), (29, .free), (30, .free), (31, .free), (33, .free), (32, .read), (34, .read), (35, .read), (36, .free), (37, .free), (38, .free)] mixed (by kernel_rfl) ?_
  simp -implicitDefEqProofs (dsimp := false) only [go_sem, simprocAttr, stv, strOf_bs, strB_beq, o1, o2, o3, o4, g6, g7]
  refine And.intro (by exact bs_byte _) ?_
  refine And.intro (by exact bs_byte _) ?_
  refine And.intro (by trivial) ?_
  refine And.intro (by trivial) ?_
  refine And.intro (by trivial) ?_
  refine And.intro (by trivial) ?_
  refine And.intro (by trivial) ?_
  refine And.intro (by exact uni_bss _) ?_
  refine And.intro (by omega) ?_
  refine And.intro (by assumption) ?_
  refine CallF.go (c23 _ _ ?_) rfl ?_
  assumption
  simp -implicitDefEqProofs (dsimp := false) only [go_sem, simprocAttr, stv, strOf_bs, strB_beq, o1, o2, o3, o4, g6, g7]
  refine CodeT.seq ?_
  refine CodeT.seqR ?_
  simp -implicitDefEqProofs (dsimp := false) only [go_sem, simprocAttr, stv, strOf_bs, strB_beq, o1, o2, o3, o4, g6, g7]
  refine gif_i (fun g8 => ?_) (fun g8 => ?_)
  simp -implicitDefEqProofs (dsimp := false) only [go_sem, simprocAttr, stv, strOf_bs, strB_beq, o1, o2, o3, o4, g6, g7, g8]
  refine CodeT.condF rfl ?_
  refine CodeT.skip ?_
  simp -implicitDefEqProofs (dsimp := false) only [go_sem, simprocAttr, stv, strOf_bs, strB_beq, o1, o2, o3, o4, g6, g7, g8]
  refine CodeT.seqR ?_
  simp -implicitDefEqProofs (dsimp := false) only [go_sem, simprocAttr, stv, strOf_bs, strB_beq, o1, o2, o3, o4, g6, g7, g8]
  refine CodeT.seqR ?_
  simp -implicitDefEqProofs (dsimp := false) only [go_sem, simprocAttr, stv, strOf_bs, strB_beq, o1, o2, o3, o4, g6, g7, g8]
  refine CodeT.laxCell 1 5 rfl rfl rfl ?_
  refine CodeT.ret ?_
  simp -implicitDefEqProofs (dsimp := false) only [go_sem, simprocAttr, stv, strOf_bs, strB_beq, o1, o2, o3, o4, g6, g7, g8]
  rotate_left
  simp -implicitDefEqProofs (dsimp := false) only [go_sem, simprocAttr, stv, strOf_bs, strB_beq, o1, o2, o3, o4, g6, g7, g8]
  refine CodeT.condF rfl ?_
  refine CodeT.skip ?_
  simp -implicitDefEqProofs (dsimp := false) only [go_sem, simprocAttr, stv, strOf_bs, strB_beq, o1, o2, o3, o4, g6, g7, g8]
  refine CodeT.seqR ?_
  simp -implicitDefEqProofs (dsimp := false) only [go_sem, simprocAttr, stv, strOf_bs, strB_beq, o1, o2, o3, o4, g6, g7, g8]
  refine CodeT.seqR ?_
  simp -implicitDefEqProofs (dsimp := false) only [go_sem, simprocAttr, stv, strOf_bs, strB_beq, o1, o2, o3, o4, g6, g7, g8]
  refine CodeT.laxCell 1 5 rfl rfl rfl ?_
  refine CodeT.ret ?_
  simp -implicitDefEqProofs (dsimp := false) only [go_sem, simprocAttr, stv, strOf_bs, strB_beq, o1, o2, o3, o4, g6, g7, g8]
  rotate_left
  simp -implicitDefEqProofs (dsimp := false) only [go_sem, simprocAttr, stv, strOf_bs, strB_beq, o1, o2, o3, o4, g6, g7]
  refine CodeT.seqD [(0, .free), (1, .free), (2, .free), (3, .free), (4, .free), (5, .read), (6, .free), (7, .free), (8, .free), (9, .free), (11, .free), (12, .free), (13, .free), (10, .read), (14, .read), (15, .free), (16, .free), (17, .free), (18, .free), (20, .free), (21, .free), (22, .free), (19, .read), (23, .read), (24, .read), (25, .free), (26, .free), (27, .free), (28, .free), (29, .free), (30, .free), (31, .free), (33, .free), (32, .read), (34, .read), (35, .read), (36, .free), (37, .free), (38, .free)] mixed (by kernel_rfl) ?_
  simp -implicitDefEqProofs (dsimp := false) only [go_sem, simprocAttr, stv, strOf_bs, strB_beq, o1, o2, o3, o4, g6, g7]
  refine And.intro (by exact bs_byte _) ?_
  refine And.intro (by exact bs_byte _) ?_
  refine And.intro (by trivial) ?_
  refine And.intro (by trivial) ?_
  refine And.intro (by trivial) ?_
  refine And.intro (by trivial) ?_
  refine And.intro (by trivial) ?_
  refine And.intro (by exact uni_bss _) ?_
  refine And.intro (by omega) ?_
  refine And.intro (by assumption) ?_
  refine CallF.go (c23 _ _ ?_) rfl ?_
  assumption
  simp -implicitDefEqProofs (dsimp := false) only [go_sem, simprocAttr, stv, strOf_bs, strB_beq, o1, o2, o3, o4, g6, g7]
  refine CodeT.seq ?_
  refine CodeT.seqR ?_
  simp -implicitDefEqProofs (dsimp := false) only [go_sem, simprocAttr, stv, strOf_bs, strB_beq, o1, o2, o3, o4, g6, g7]
  refine CodeT.condF rfl ?_
  refine CodeT.skip ?_
  simp -implicitDefEqProofs (dsimp := false) only [go_sem, simprocAttr, stv, strOf_bs, strB_beq, o1, o2, o3, o4, g6, g7]
  refine CodeT.seqR ?_
  simp -implicitDefEqProofs (dsimp := false) only [go_sem, simprocAttr, stv, strOf_bs, strB_beq, o1, o2, o3, o4, g6, g7]
  refine CodeT.seqR ?_
  simp -implicitDefEqProofs (dsimp := false) only [go_sem, simprocAttr, stv, strOf_bs, strB_beq, o1, o2, o3, o4, g6, g7]
  refine CodeT.laxCell 1 5 rfl rfl rfl ?_
  refine CodeT.ret ?_
  simp -implicitDefEqProofs (dsimp := false) only [go_sem, simprocAttr, stv, strOf_bs, strB_beq, o1, o2, o3, o4, g6, g7]
  rotate_left
  simp -implicitDefEqProofs (dsimp := false) only [go_sem, simprocAttr, stv, strOf_bs, strB_beq, o1, o2, o3, o4, g6]
  refine CodeT.seqD [(0, .free), (1, .free), (2, .free), (3, .free), (4, .free), (5, .read), (6, .free), (7, .free), (8, .free), (9, .free), (11, .free), (12, .free), (13, .free), (10, .read), (14, .read), (15, .free), (16, .free), (17, .free), (18, .free), (20, .free), (21, .free), (22, .free), (19, .read), (23, .read), (24, .read), (25, .free), (26, .free), (27, .free), (28, .free), (29, .free), (30, .free), (31, .free), (33, .free), (32, .read), (34, .read), (35, .read), (36, .free), (37, .free), (38, .free)] mixed (by kernel_rfl) ?_
  simp -implicitDefEqProofs (dsimp := false) only [go_sem, simprocAttr, stv, strOf_bs, strB_beq, o1, o2, o3, o4, g6]
  refine And.intro (by exact bs_byte _) ?_
  refine And.intro (by exact bs_byte _) ?_
  refine And.intro (by trivial) ?_
  refine And.intro (by trivial) ?_
  refine And.intro (by trivial) ?_
  refine And.intro (by trivial) ?_
  refine And.intro (by trivial) ?_
  refine And.intro (by exact uni_bss _) ?_
  refine And.intro (by omega) ?_
  refine And.intro (by assumption) ?_
  refine CallF.go (c23 _ _ ?_) rfl ?_
  assumption
  simp -implicitDefEqProofs (dsimp := false) only [go_sem, simprocAttr, stv, strOf_bs, strB_beq, o1, o2, o3, o4, g6]
  refine CodeT.seq ?_
  refine CodeT.seqR ?_
  simp -implicitDefEqProofs (dsimp := false) only [go_sem, simprocAttr, stv, strOf_bs, strB_beq, o1, o2, o3, o4, g6]
  refine CodeT.condF rfl ?_
  refine CodeT.skip ?_
  simp -implicitDefEqProofs (dsimp := false) only [go_sem, simprocAttr, stv, strOf_bs, strB_beq, o1, o2, o3, o4, g6]
  refine CodeT.seqR ?_
  simp -implicitDefEqProofs (dsimp := false) only [go_sem, simprocAttr, stv, strOf_bs, strB_beq, o1, o2, o3, o4, g6]
  refine CodeT.seqR ?_
  simp -implicitDefEqProofs (dsimp := false) only [go_sem, simprocAttr, stv, strOf_bs, strB_beq, o1, o2, o3, o4, g6]
  refine CodeT.laxCell 1 5 rfl rfl rfl ?_
  refine CodeT.ret ?_
  simp -implicitDefEqProofs (dsimp := false) only [go_sem, simprocAttr, stv, strOf_bs, strB_beq, o1, o2, o3, o4, g6]
  rotate_left
  all_goals exact endLess rfl rfl
theorem c71f (s : Sto) (cuts : List Int) (d' : Dsk) (b : List UInt8) (l : List (List UInt8)) (hf : Few s.d) (hf' : Few d') (hc : cuts.length ≤ 1000000) (hl : l.length ≤ 4000000) (hr : s.recs.length ≤ 4000000)
    (e1 : crashV s.d cuts = .tup [dkv d', er 0]) (e2 : readV d' = .tup [.sl false (bs b), .sl false (bss l), er 0])
    (o1 : s.doubt = true) (o2 : (b == s.other) = true) (o3 : ((l.length : Int) == 0) = true) :
    CallT Try.prog 71 [.ptr 1 0, .sl false (is64 cuts)] [.dead, .cells (stv s)] (fun r h' => r = .ret (.val (.bool true)) ∧ h' = [.dead, .cells (stv ⟨d', b, l, l.length, [], false⟩)]) := by
  refine CallT.less ?_
  refine CallT.intro Try.func71 (by decide) rfl ?_
  simp -implicitDefEqProofs (dsimp := false) only [go_sem, simprocAttr, stv, strOf_bs, strB_beq, o1, o2, o3, enterTm, Try.ntmps71, List.range'_succ, List.range'_zero, List.zip_cons_cons, List.zip_nil_left]
  refine CodeT.seqR ?_
  simp -implicitDefEqProofs (dsimp := false) only [go_sem, simprocAttr, stv, strOf_bs, strB_beq, o1, o2, o3]
  refine CodeT.seqR ?_
  simp -implicitDefEqProofs (dsimp := false) only [go_sem, simprocAttr, stv, strOf_bs, strB_beq, o1, o2, o3]
  refine PureT.eq (c18k s.d cuts hf hc e1) rfl ?_
  simp -implicitDefEqProofs (dsimp := false) only [go_sem, simprocAttr, stv, strOf_bs, strB_beq, o1, o2, o3]
  refine CodeT.freeze 5 ?_
  simp -implicitDefEqProofs (dsimp := false) only [go_sem, simprocAttr, stv, strOf_bs, strB_beq, o1, o2, o3]
  refine CodeT.seqR ?_
  simp -implicitDefEqProofs (dsimp := false) only [go_sem, simprocAttr, stv, strOf_bs, strB_beq, o1, o2, o3]
  refine PureT.eq (c21k d' hf' e2) rfl ?_
  simp -implicitDefEqProofs (dsimp := false) only [go_sem, simprocAttr, stv, strOf_bs, strB_beq, o1, o2, o3]
  refine CodeT.seq ?_
  refine CodeT.seqR ?_
  simp -implicitDefEqProofs (dsimp := false) only [go_sem, simprocAttr, stv, strOf_bs, strB_beq, o1, o2, o3]
  refine CodeT.condF rfl ?_
  refine CodeT.skip ?_
  simp -implicitDefEqProofs (dsimp := false) only [go_sem, simprocAttr, stv, strOf_bs, strB_beq, o1, o2, o3]
  refine CodeT.seqD [(0, .free), (1, .free), (2, .free), (3, .read), (4, .free), (5, .free), (6, .free), (7, .free), (8, .free), (9, .free), (10, .read), (11, .free), (12, .free), (13, .free), (14, .free), (15, .free), (16, .read), (17, .free), (18, .free), (19, .free)] mixed (by kernel_rfl) ?_
  simp -implicitDefEqProofs (dsimp := false) only [go_sem, simprocAttr, stv, strOf_bs, strB_beq, o1, o2, o3]
  refine And.intro (by exact bs_byte _) ?_
  refine And.intro (by exact bs_byte _) ?_
  refine And.intro (by trivial) ?_
  refine CodeT.seqD [(0, .free), (1, .free), (2, .free), (3, .free), (4, .free), (5, .read), (6, .free), (7, .free), (8, .free), (9, .free), (11, .free), (12, .free), (13, .free), (10, .read), (14, .read), (15, .free), (16, .free), (17, .free), (18, .free), (20, .free), (21, .free), (22, .free), (19, .read), (23, .read), (24, .read), (25, .free), (26, .free), (27, .free), (28, .free), (29, .free), (30, .free), (31, .free), (33, .free), (32, .read), (34, .read), (35, .read), (36, .free), (37, .free), (38, .free)] mixed (by kernel_rfl) ?_
  simp -implicitDefEqProofs (dsimp := false) only [go_sem, simprocAttr, stv, strOf_bs, strB_beq, o1, o2, o3]
  refine And.intro (by exact bs_byte _) ?_
  refine And.intro (by exact bs_byte _) ?_
  refine gif_i (fun g3 => ?_) (fun g3 => ?_)
  simp -implicitDefEqProofs (dsimp := false) only [go_sem, simprocAttr, stv, strOf_bs, strB_beq, o1, o2, o3, g3]
  refine And.intro (by trivial) ?_
  refine gif_i (fun g4 => ?_) (fun g4 => ?_)
  have d4 := ofDec g4
  simp -implicitDefEqProofs (dsimp := false) only [go_sem, simprocAttr, stv, strOf_bs, strB_beq, o1, o2, o3, g3, g4]
  refine And.intro (by trivial) ?_
  refine And.intro (by trivial) ?_
  refine gif_i (fun g5 => ?_) (fun g5 => ?_)
  have d5 := ofDec g5
  simp -implicitDefEqProofs (dsimp := false) only [go_sem, simprocAttr, stv, strOf_bs, strB_beq, o1, o2, o3, g3, g4, g5]
  refine And.intro (by trivial) ?_
  refine And.intro (by trivial) ?_
  refine And.intro (by exact uni_bss _) ?_
  refine And.intro (by omega) ?_
  refine And.intro (by assumption) ?_
  refine CallF.go (c23 _ _ ?_) rfl ?_
  assumption
  simp -implicitDefEqProofs (dsimp := false) only [go_sem, simprocAttr, stv, strOf_bs, strB_beq, o1, o2, o3, g3, g4, g5]
  refine CodeT.seq ?_
  refine CodeT.seqR ?_
  simp -implicitDefEqProofs (dsimp := false) only [go_sem, simprocAttr, stv, strOf_bs, strB_beq, o1, o2, o3, g3, g4, g5]
  refine CodeT.condF rfl ?_
  refine CodeT.skip ?_
  simp -implicitDefEqProofs (dsimp := false) only [go_sem, simprocAttr, stv, strOf_bs, strB_beq, o1, o2, o3, g3, g4, g5]
  refine CodeT.seqR ?_
  simp -implicitDefEqProofs (dsimp := false) only [go_sem, simprocAttr, stv, strOf_bs, strB_beq, o1, o2, o3, g3, g4, g5]
  refine CodeT.seqR ?_
  simp -implicitDefEqProofs (dsimp := false) only [go_sem, simprocAttr, stv, strOf_bs, strB_beq, o1, o2, o3, g3, g4, g5]
  refine CodeT.laxCell 1 5 rfl rfl rfl ?_
  refine CodeT.ret ?_
  simp -implicitDefEqProofs (dsimp := false) only [go_sem, simprocAttr, stv, strOf_bs, strB_beq, o1, o2, o3, g3, g4, g5]
  rotate_left
  have d5 := ofDecF g5
  simp -implicitDefEqProofs (dsimp := false) only [go_sem, simprocAttr, stv, strOf_bs, strB_beq, o1, o2, o3, g3, g4, g5]
  refine CodeT.seq ?_
  refine CodeT.seqR ?_
  simp -implicitDefEqProofs (dsimp := false) only [go_sem, simprocAttr, stv, strOf_bs, strB_beq, o1, o2, o3, g3, g4, g5]
  refine CodeT.condF rfl ?_
  refine CodeT.skip ?_
  simp -implicitDefEqProofs (dsimp := false) only [go_sem, simprocAttr, stv, strOf_bs, strB_beq, o1, o2, o3, g3, g4, g5]
  refine CodeT.seqR ?_
  simp -implicitDefEqProofs (dsimp := false) only [go_sem, simprocAttr, stv, strOf_bs, strB_beq, o1, o2, o3, g3, g4, g5]
  refine CodeT.seqR ?_
  simp -implicitDefEqProofs (dsimp := false) only [go_sem, simprocAttr, stv, strOf_bs, strB_beq, o1, o2, o3, g3, g4, g5]
  refine CodeT.laxCell 1 5 rfl rfl rfl ?_
  refine CodeT.ret ?_
  simp -implicitDefEqProofs (dsimp := false) only [go_sem, simprocAttr, stv, strOf_bs, strB_beq, o1, o2, o3, g3, g4, g5]
  rotate_left
  have d4 := ofDecF g4
  simp -implicitDefEqProofs (dsimp := false) only [go_sem, simprocAttr, stv, strOf_bs, strB_beq, o1, o2, o3, g3, g4]
  refine CodeT.seq ?_
  refine CodeT.seqR ?_
  simp -implicitDefEqProofs (dsimp := false) only [go_sem, simprocAttr, stv, strOf_bs, strB_beq, o1, o2, o3, g3, g4]
  refine CodeT.condF rfl ?_
  refine CodeT.skip ?_
  simp -implicitDefEqProofs (dsimp := false) only [go_sem, simprocAttr, stv, strOf_bs, strB_beq, o1, o2, o3, g3, g4]
  refine CodeT.seqR ?_
  simp -implicitDefEqProofs (dsimp := false) only [go_sem, simprocAttr, stv, strOf_bs, strB_beq, o1, o2, o3, g3, g4]
  refine CodeT.seqR ?_
  simp -implicitDefEqProofs (dsimp := false) only [go_sem, simprocAttr, stv, strOf_bs, strB_beq, o1, o2, o3, g3, g4]
  refine CodeT.laxCell 1 5 rfl rfl rfl ?_
  refine CodeT.ret ?_
  simp -implicitDefEqProofs (dsimp := false) only [go_sem, simprocAttr, stv, strOf_bs, strB_beq, o1, o2, o3, g3, g4]
  rotate_left
  simp -implicitDefEqProofs (dsimp := false) only [go_sem, simprocAttr, stv, strOf_bs, strB_beq, o1, o2, o3, g3]
  refine CodeT.seq ?_
  refine CodeT.seqR ?_
  simp -implicitDefEqProofs (dsimp := false) only [go_sem, simprocAttr, stv, strOf_bs, strB_beq, o1, o2, o3, g3]
  refine CodeT.condF rfl ?_
  refine CodeT.skip ?_
  simp -implicitDefEqProofs (dsimp := false) only [go_sem, simprocAttr, stv, strOf_bs, strB_beq, o1, o2, o3, g3]
  refine CodeT.seqR ?_
  simp -implicitDefEqProofs (dsimp := false) only [go_sem, simprocAttr, stv, strOf_bs, strB_beq, o1, o2, o3, g3]
  refine CodeT.seqR ?_
  simp -implicitDefEqProofs (dsimp := false) only [go_sem, simprocAttr, stv, strOf_bs, strB_beq, o1, o2, o3, g3]
  refine CodeT.laxCell 1 5 rfl rfl rfl ?_
  refine CodeT.ret ?_
  simp -implicitDefEqProofs (dsimp := false) only [go_sem, simprocAttr, stv, strOf_bs, strB_beq, o1, o2, o3, g3]
  rotate_left
  all_goals exact endLess rfl rfl
theorem ext1 {f : FuncId} {args cs cs' : List AV} {v : AV} (hc : CallT Try.prog f args [.dead, .cells cs] (fun r h' => r = .ret v ∧ h' = [.dead, .cells cs'])) (ha : underL 2 args = true) (hu : underL 2 cs = true) (ext : List Box) :
    CallT Try.prog f args (.dead :: .cells cs :: ext) (fun r h' => r = .ret v ∧ h' = .dead :: .cells cs' :: ext) := CallT.ext1 hc ha hu ext
/-- What a call of the story leads to. -/
abbrev Leads (f : FuncId) (args : List AV) (s s' : Sto) : Prop := CallT Try.prog f (.ptr 1 0 :: args) [.dead, .cells (stv s)] (fun r h' => r = .ret (.val (.bool true)) ∧ h' = [.dead, .cells (stv s')])
theorem c72a (s : Sto) (m : Int) (x : AV) (ops : List DOp) (d' : Dsk) (hf : Few s.d) (ho : ops.length ≤ 1000000) (hq : s.d.queue.length ≤ 1000000)
    (e1 : openV s.d = .tup [.sl false (opvs ops), er 0]) (h : (decide (m < 0) || decide (m ≥ ops.length)) = true) (e2 : doV s.d ops = .tup [dkv d', er 0]) : Leads 72 [.val (.int .i64 m), x] s ⟨d', s.base, s.recs, s.fl, s.other, s.doubt⟩ := by
  refine CallT.less ?_
  refine CallT.intro Try.func72 (by decide) rfl ?_
  simp -implicitDefEqProofs (dsimp := false) only [go_sem, simprocAttr, stv, enterTm, Try.ntmps72, List.range'_succ, List.range'_zero, List.zip_cons_cons, List.zip_nil_left]
  refine CodeT.seqR ?_
  simp -implicitDefEqProofs (dsimp := false) only [go_sem, simprocAttr, stv]
  refine CodeT.seqR ?_
  simp -implicitDefEqProofs (dsimp := false) only [go_sem, simprocAttr, stv]
  refine PureT.eq (c20k s.d hf e1) rfl ?_
  simp -implicitDefEqProofs (dsimp := false) only [go_sem, simprocAttr, stv]
  refine CodeT.seq ?_
  refine CodeT.seqR ?_
  simp -implicitDefEqProofs (dsimp := false) only [go_sem, simprocAttr, stv]
  refine CodeT.condF rfl ?_
  refine CodeT.skip ?_
  simp -implicitDefEqProofs (dsimp := false) only [go_sem, simprocAttr, stv]
  refine CodeT.seqR ?_
  simp -implicitDefEqProofs (dsimp := false) only [go_sem, simprocAttr, stv]
  refine PureT.eq (c107a ops m h) rfl ?_
  simp -implicitDefEqProofs (dsimp := false) only [go_sem, simprocAttr, stv]
  refine CodeT.seqR ?_
  simp -implicitDefEqProofs (dsimp := false) only [go_sem, simprocAttr, stv]
  refine PureT.eq (c17k s.d ops hf ho hq e2) rfl ?_
  simp -implicitDefEqProofs (dsimp := false) only [go_sem, simprocAttr, stv]
  refine CodeT.seq ?_
  refine CodeT.freeze 11 ?_
  simp -implicitDefEqProofs (dsimp := false) only [go_sem, simprocAttr, stv]
  refine CodeT.seqR ?_
  simp -implicitDefEqProofs (dsimp := false) only [go_sem, simprocAttr, stv]
  refine CodeT.condF rfl ?_
  refine CodeT.skip ?_
  simp -implicitDefEqProofs (dsimp := false) only [go_sem, simprocAttr, stv]
  refine CodeT.seqR ?_
  simp -implicitDefEqProofs (dsimp := false) only [go_sem, simprocAttr, stv]
  refine CodeT.seq ?_
  refine CodeT.seqR ?_
  simp -implicitDefEqProofs (dsimp := false) only [go_sem, simprocAttr, stv]
  refine CodeT.condT rfl ?_
  refine CodeT.seqR ?_
  simp -implicitDefEqProofs (dsimp := false) only [go_sem, simprocAttr, stv]
  refine CodeT.ret ?_
  simp -implicitDefEqProofs (dsimp := false) only [go_sem, simprocAttr, stv]
  rotate_left
  all_goals exact endLess rfl rfl
theorem c72b (s s2 s3 : Sto) (m : Int) (cuts : List Int) (ops : List DOp) (d' : Dsk) (hf : Few s.d) (ho : ops.length ≤ 1000000) (hq : s.d.queue.length ≤ 1000000)
    (e1 : openV s.d = .tup [.sl false (opvs ops), er 0]) (h : (decide (m < 0) || decide (m ≥ ops.length)) = false) (e2 : doV s.d (ops.take m.toNat) = .tup [dkv d', er 0])
    (e3 : Leads 71 [.sl false (is64 cuts)] ⟨d', s.base, s.recs, s.fl, s.other, s.doubt⟩ s2) (e4 : Leads 72 [.val (.int .i64 (-1)), .sl true []] s2 s3) : Leads 72 [.val (.int .i64 m), .sl false (is64 cuts)] s s3 := by
  refine CallT.less ?_
  refine CallT.intro Try.func72 (by decide) rfl ?_
  simp -implicitDefEqProofs (dsimp := false) only [go_sem, simprocAttr, stv, enterTm, Try.ntmps72, List.range'_succ, List.range'_zero, List.zip_cons_cons, List.zip_nil_left]
  refine CodeT.seqR ?_
  simp -implicitDefEqProofs (dsimp := false) only [go_sem, simprocAttr, stv]
  refine CodeT.seqR ?_
  simp -implicitDefEqProofs (dsimp := false) only [go_sem, simprocAttr, stv]
  refine PureT.eq (c20k s.d hf e1) rfl ?_
  simp -implicitDefEqProofs (dsimp := false) only [go_sem, simprocAttr, stv]
  refine CodeT.seq ?_
  refine CodeT.seqR ?_
  simp -implicitDefEqProofs (dsimp := false) only [go_sem, simprocAttr, stv]
  refine CodeT.condF rfl ?_
  refine CodeT.skip ?_
  simp -implicitDefEqProofs (dsimp := false) only [go_sem, simprocAttr, stv]
  refine CodeT.seqR ?_
  simp -implicitDefEqProofs (dsimp := false) only [go_sem, simprocAttr, stv]
  refine PureT.eq (c107b ops m h) rfl ?_
  simp -implicitDefEqProofs (dsimp := false) only [go_sem, simprocAttr, stv]
  refine CodeT.seqR ?_
  simp -implicitDefEqProofs (dsimp := false) only [go_sem, simprocAttr, stv]
  refine PureT.eq (c17k s.d (ops.take m.toNat) hf ?_ hq e2) rfl ?_
  rotate_left
  simp -implicitDefEqProofs (dsimp := false) only [go_sem, simprocAttr, stv]
  refine CodeT.seq ?_
  refine CodeT.freeze 11 ?_
  simp -implicitDefEqProofs (dsimp := false) only [go_sem, simprocAttr, stv]
  refine CodeT.seqR ?_
  simp -implicitDefEqProofs (dsimp := false) only [go_sem, simprocAttr, stv]
  refine CodeT.condF rfl ?_
  refine CodeT.skip ?_
  simp -implicitDefEqProofs (dsimp := false) only [go_sem, simprocAttr, stv]
  refine CodeT.seqR ?_
  simp -implicitDefEqProofs (dsimp := false) only [go_sem, simprocAttr, stv]
  refine CodeT.seq ?_
  refine CodeT.seqR ?_
  simp -implicitDefEqProofs (dsimp := false) only [go_sem, simprocAttr, stv]
  refine CodeT.condF rfl ?_
  refine CodeT.skip ?_
  simp -implicitDefEqProofs (dsimp := false) only [go_sem, simprocAttr, stv]
  refine CodeT.seqR ?_
  simp -implicitDefEqProofs (dsimp := false) only [go_sem, simprocAttr, stv]
  refine CallT.eq (ext1 e3 rfl rfl _) ?_
  simp -implicitDefEqProofs (dsimp := false) only [go_sem, simprocAttr, stv]
  refine CallT.eq (ext1 e4 rfl rfl _) ?_
  simp -implicitDefEqProofs (dsimp := false) only [go_sem, simprocAttr, stv]
  refine CodeT.ret ?_
  simp -implicitDefEqProofs (dsimp := false) only [go_sem, simprocAttr, stv]
  rotate_left
  · rw [List.length_take]; omega
  · exact endLess rfl rfl
theorem c33k (d : Dsk) (hf : Few d) (r : List UInt8) (hb : r.length ≤ 1000000) {v : AV} (h : checkinV d r = v) : PureT Try.prog 33 [dkv d, .sl false (bs r)] (· = v) := h ▸ c33 d hf r hb
structure Deed where
  what : Int
  bytes : List UInt8
  most : Int
  cuts : List Int
def dev (x : Deed) : AV := .agg [.val (.int .i64 x.what), .sl false (bs x.bytes), .val (.int .i64 x.most), .sl false (is64 x.cuts)]
/-- A check-in that is refused. -/
theorem c70n (s : Sto) (x : Deed) (hf : Few s.d) (hb : x.bytes.length ≤ 1000000) (e1 : checkinV s.d x.bytes = .tup [.sl false [], er 2]) : Leads 70 [dev x] s s := by
  refine CallT.less ?_
  refine CallT.intro Try.func70 (by decide) rfl ?_
  simp -implicitDefEqProofs (dsimp := false) only [go_sem, simprocAttr, stv, dev, enterTm, Try.ntmps70, List.range'_succ, List.range'_zero, List.zip_cons_cons, List.zip_nil_left]
  refine CodeT.seqR ?_
  simp -implicitDefEqProofs (dsimp := false) only [go_sem, simprocAttr, stv, dev]
  refine CodeT.freeze 3 ?_
  simp -implicitDefEqProofs (dsimp := false) only [go_sem, simprocAttr, stv, dev]
  refine CodeT.seqD [(0, .free), (1, .free), (2, .free), (4, .free), (3, .read), (5, .read), (6, .free), (7, .free), (8, .free), (9, .free), (10, .free), (11, .free)] mixed (by kernel_rfl) ?_
  simp -implicitDefEqProofs (dsimp := false) only [go_sem, simprocAttr, stv, dev]
  refine CallF.go (c33k s.d hf x.bytes hb e1) rfl ?_
  simp -implicitDefEqProofs (dsimp := false) only [go_sem, simprocAttr, stv, dev]
  refine CodeT.seq ?_
  refine CodeT.seqR ?_
  simp -implicitDefEqProofs (dsimp := false) only [go_sem, simprocAttr, stv, dev]
  refine CodeT.condT rfl ?_
  refine CodeT.seqR ?_
  simp -implicitDefEqProofs (dsimp := false) only [go_sem, simprocAttr, stv, dev]
  refine CodeT.ret ?_
  simp -implicitDefEqProofs (dsimp := false) only [go_sem, simprocAttr, stv, dev]
  rotate_left
  exact endLess rfl rfl
/-- A check-in that is done. -/
theorem c70a (s : Sto) (x : Deed) (ops : List DOp) (d' : Dsk) (hf : Few s.d) (hb : x.bytes.length ≤ 1000000) (ho : ops.length = 6) (hq : s.d.queue.length ≤ 1000000) (e1 : checkinV s.d x.bytes = .tup [.sl false (opvs ops), er 0])
    (h : (decide (x.most < 0) || decide (x.most ≥ ops.length)) = true) (e2 : doV s.d ops = .tup [dkv d', er 0]) : Leads 70 [dev x] s ⟨d', x.bytes, [], 0, [], false⟩ := by
  refine CallT.less ?_
  refine CallT.intro Try.func70 (by decide) rfl ?_
  simp -implicitDefEqProofs (dsimp := false) only [go_sem, simprocAttr, stv, dev, enterTm, Try.ntmps70, List.range'_succ, List.range'_zero, List.zip_cons_cons, List.zip_nil_left]
  refine CodeT.seqR ?_
  simp -implicitDefEqProofs (dsimp := false) only [go_sem, simprocAttr, stv, dev]
  refine CodeT.freeze 3 ?_
  simp -implicitDefEqProofs (dsimp := false) only [go_sem, simprocAttr, stv, dev]
  refine CodeT.seqD [(0, .free), (1, .free), (2, .free), (4, .free), (3, .read), (5, .read), (6, .free), (7, .free), (8, .free), (9, .free), (10, .free), (11, .free)] mixed (by kernel_rfl) ?_
  simp -implicitDefEqProofs (dsimp := false) only [go_sem, simprocAttr, stv, dev]
  refine CallF.go (c33k s.d hf x.bytes hb e1) rfl ?_
  simp -implicitDefEqProofs (dsimp := false) only [go_sem, simprocAttr, stv, dev]
  refine CodeT.seq ?_
  refine CodeT.seqR ?_
  simp -implicitDefEqProofs (dsimp := false) only [go_sem, simprocAttr, stv, dev]
  refine CodeT.condF rfl ?_
  refine CodeT.skip ?_
  simp -implicitDefEqProofs (dsimp := false) only [go_sem, simprocAttr, stv, dev]
  refine CodeT.seqR ?_
  simp -implicitDefEqProofs (dsimp := false) only [go_sem, simprocAttr, stv, dev]
  refine PureT.eq (c107a ops x.most h) rfl ?_
  simp -implicitDefEqProofs (dsimp := false) only [go_sem, simprocAttr, stv, dev]
  refine CodeT.seqR ?_
  simp -implicitDefEqProofs (dsimp := false) only [go_sem, simprocAttr, stv, dev]
  refine PureT.eq (c17k s.d ops hf ?_ hq e2) rfl ?_
  omega
  simp -implicitDefEqProofs (dsimp := false) only [go_sem, simprocAttr, stv, dev]
  refine CodeT.seq ?_
  refine CodeT.seqR ?_
  simp -implicitDefEqProofs (dsimp := false) only [go_sem, simprocAttr, stv, dev]
  refine CodeT.condF rfl ?_
  refine CodeT.skip ?_
  simp -implicitDefEqProofs (dsimp := false) only [go_sem, simprocAttr, stv, dev]
  refine CodeT.freeze 9 ?_
  simp -implicitDefEqProofs (dsimp := false) only [go_sem, simprocAttr, stv, dev]
  refine CodeT.seqR ?_
  simp -implicitDefEqProofs (dsimp := false) only [go_sem, simprocAttr, stv, dev]
  refine CodeT.seq ?_
  refine CodeT.seqR ?_
  simp -implicitDefEqProofs (dsimp := false) only [go_sem, simprocAttr, stv, dev]
  refine CodeT.cond rfl (fun g3 => ?_) (fun g3 => ?_)
  have d3 := ofDec g3
  refine CodeT.region ?_
  simp -implicitDefEqProofs (dsimp := false) only [go_sem, simprocAttr, stv, dev, g3]
  refine CodeT.seq ?_
  refine CodeT.seqR ?_
  simp -implicitDefEqProofs (dsimp := false) only [go_sem, simprocAttr, stv, dev, g3]
  refine CodeT.condT rfl ?_
  refine CodeT.seqR ?_
  simp -implicitDefEqProofs (dsimp := false) only [go_sem, simprocAttr, stv, dev, g3]
  refine CodeT.seqR ?_
  simp -implicitDefEqProofs (dsimp := false) only [go_sem, simprocAttr, stv, dev, g3]
  refine CodeT.laxCell 1 3 rfl rfl rfl ?_
  refine CodeT.laxCell 1 5 rfl rfl rfl ?_
  refine CodeT.ret ?_
  simp -implicitDefEqProofs (dsimp := false) only [go_sem, simprocAttr, stv, dev, g3]
  rotate_left
  have d3 := ofDecF g3
  (exfalso; omega)
  exact endLess rfl rfl
/-- A check-in that is cut off. -/
theorem c70b (s s2 s3 : Sto) (x : Deed) (ops : List DOp) (d' : Dsk) (hf : Few s.d) (hb : x.bytes.length ≤ 1000000) (ho : ops.length = 6) (hr : s.recs.length ≤ 4000000) (hq : s.d.queue.length ≤ 1000000) (e1 : checkinV s.d x.bytes = .tup [.sl false (opvs ops), er 0])
    (h : (decide (x.most < 0) || decide (x.most ≥ ops.length)) = false) (e2 : doV s.d (ops.take x.most.toNat) = .tup [dkv d', er 0]) (a c : Bool) (ha : decide (((min x.most.toNat ops.length : Nat) : Int) ≥ 2) = a) (hc : decide (((min x.most.toNat ops.length : Nat) : Int) ≥ 5) = c)
    (e3 : Leads 71 [.sl false (is64 x.cuts)] ⟨d', s.base, s.recs, if a = true then (s.recs.length : Int) else s.fl, if c = true then x.bytes else s.other, if c = true then true else s.doubt⟩ s2) (e4 : Leads 72 [.val (.int .i64 (-1)), .sl true []] s2 s3) : Leads 70 [dev x] s s3 := by
  refine CallT.less ?_
  cases a
  · cases c
    · simp only [Bool.false_eq_true, if_false] at e3
      refine CallT.intro Try.func70 (by decide) rfl ?_
      simp -implicitDefEqProofs (dsimp := false) only [go_sem, simprocAttr, stv, dev, ha, hc, enterTm, Try.ntmps70, List.range'_succ, List.range'_zero, List.zip_cons_cons, List.zip_nil_left]
      refine CodeT.seqR ?_
      simp -implicitDefEqProofs (dsimp := false) only [go_sem, simprocAttr, stv, dev, ha, hc]
      refine CodeT.freeze 3 ?_
      simp -implicitDefEqProofs (dsimp := false) only [go_sem, simprocAttr, stv, dev, ha, hc]
      refine CodeT.seqD [(0, .free), (1, .free), (2, .free), (4, .free), (3, .read), (5, .read), (6, .free), (7, .free), (8, .free), (9, .free), (10, .free), (11, .free)] mixed (by kernel_rfl) ?_
      simp -implicitDefEqProofs (dsimp := false) only [go_sem, simprocAttr, stv, dev, ha, hc]
      refine CallF.go (c33k s.d hf x.bytes hb e1) rfl ?_
      simp -implicitDefEqProofs (dsimp := false) only [go_sem, simprocAttr, stv, dev, ha, hc]
      refine CodeT.seq ?_
      refine CodeT.seqR ?_
      simp -implicitDefEqProofs (dsimp := false) only [go_sem, simprocAttr, stv, dev, ha, hc]
      refine CodeT.condF rfl ?_
      refine CodeT.skip ?_
      simp -implicitDefEqProofs (dsimp := false) only [go_sem, simprocAttr, stv, dev, ha, hc]
      refine CodeT.seqR ?_
      simp -implicitDefEqProofs (dsimp := false) only [go_sem, simprocAttr, stv, dev, ha, hc]
      refine PureT.eq (c107b ops x.most h) rfl ?_
      simp -implicitDefEqProofs (dsimp := false) only [go_sem, simprocAttr, stv, dev, ha, hc]
      refine CodeT.seqR ?_
      simp -implicitDefEqProofs (dsimp := false) only [go_sem, simprocAttr, stv, dev, ha, hc]
      refine PureT.eq (c17k s.d (ops.take x.most.toNat) hf ?_ hq e2) rfl ?_
      rotate_left
      simp -implicitDefEqProofs (dsimp := false) only [go_sem, simprocAttr, stv, dev, ha, hc]
      refine CodeT.seq ?_
      refine CodeT.seqR ?_
      simp -implicitDefEqProofs (dsimp := false) only [go_sem, simprocAttr, stv, dev, ha, hc]
      refine CodeT.condF rfl ?_
      refine CodeT.skip ?_
      simp -implicitDefEqProofs (dsimp := false) only [go_sem, simprocAttr, stv, dev, ha, hc]
      refine CodeT.freeze 9 ?_
      simp -implicitDefEqProofs (dsimp := false) only [go_sem, simprocAttr, stv, dev, ha, hc]
      refine CodeT.seqR ?_
      simp -implicitDefEqProofs (dsimp := false) only [go_sem, simprocAttr, stv, dev, ha, hc]
      refine CodeT.seq ?_
      refine CodeT.seqR ?_
      simp -implicitDefEqProofs (dsimp := false) only [go_sem, simprocAttr, stv, dev, ha, hc]
      refine CodeT.condF rfl ?_
      refine CodeT.skip ?_
      simp -implicitDefEqProofs (dsimp := false) only [go_sem, simprocAttr, stv, dev, ha, hc]
      refine CodeT.seq ?_
      refine CodeT.seqR ?_
      simp -implicitDefEqProofs (dsimp := false) only [go_sem, simprocAttr, stv, dev, ha, hc]
      refine CodeT.condF rfl ?_
      refine CodeT.skip ?_
      simp -implicitDefEqProofs (dsimp := false) only [go_sem, simprocAttr, stv, dev, ha, hc]
      refine CodeT.seq ?_
      refine CodeT.seqR ?_
      simp -implicitDefEqProofs (dsimp := false) only [go_sem, simprocAttr, stv, dev, ha, hc]
      refine CodeT.condF rfl ?_
      refine CodeT.skip ?_
      simp -implicitDefEqProofs (dsimp := false) only [go_sem, simprocAttr, stv, dev, ha, hc]
      refine CodeT.seqR ?_
      simp -implicitDefEqProofs (dsimp := false) only [go_sem, simprocAttr, stv, dev, ha, hc]
      refine CallT.eq (ext1 e3 rfl rfl _) ?_
      simp -implicitDefEqProofs (dsimp := false) only [go_sem, simprocAttr, stv, dev, ha, hc]
      refine CallT.eq (ext1 e4 rfl rfl _) ?_
      simp -implicitDefEqProofs (dsimp := false) only [go_sem, simprocAttr, stv, dev, ha, hc]
      refine CodeT.ret ?_
      simp -implicitDefEqProofs (dsimp := false) only [go_sem, simprocAttr, stv, dev, ha, hc]
      rotate_left
      · rw [List.length_take]; omega
      · exact endLess rfl rfl
    · exfalso
      have := of_decide_eq_false ha
      have := of_decide_eq_true hc
      omega
  · cases c
    · simp only [Bool.false_eq_true, if_false, if_true] at e3
      refine CallT.intro Try.func70 (by decide) rfl ?_
      simp -implicitDefEqProofs (dsimp := false) only [go_sem, simprocAttr, stv, dev, ha, hc, enterTm, Try.ntmps70, List.range'_succ, List.range'_zero, List.zip_cons_cons, List.zip_nil_left]
      refine CodeT.seqR ?_
      simp -implicitDefEqProofs (dsimp := false) only [go_sem, simprocAttr, stv, dev, ha, hc]
      refine CodeT.freeze 3 ?_
      simp -implicitDefEqProofs (dsimp := false) only [go_sem, simprocAttr, stv, dev, ha, hc]
      refine CodeT.seqD [(0, .free), (1, .free), (2, .free), (4, .free), (3, .read), (5, .read), (6, .free), (7, .free), (8, .free), (9, .free), (10, .free), (11, .free)] mixed (by kernel_rfl) ?_
      simp -implicitDefEqProofs (dsimp := false) only [go_sem, simprocAttr, stv, dev, ha, hc]
      refine CallF.go (c33k s.d hf x.bytes hb e1) rfl ?_
      simp -implicitDefEqProofs (dsimp := false) only [go_sem, simprocAttr, stv, dev, ha, hc]
      refine CodeT.seq ?_
      refine CodeT.seqR ?_
      simp -implicitDefEqProofs (dsimp := false) only [go_sem, simprocAttr, stv, dev, ha, hc]
      refine CodeT.condF rfl ?_
      refine CodeT.skip ?_
      simp -implicitDefEqProofs (dsimp := false) only [go_sem, simprocAttr, stv, dev, ha, hc]
      refine CodeT.seqR ?_
      simp -implicitDefEqProofs (dsimp := false) only [go_sem, simprocAttr, stv, dev, ha, hc]
      refine PureT.eq (c107b ops x.most h) rfl ?_
      simp -implicitDefEqProofs (dsimp := false) only [go_sem, simprocAttr, stv, dev, ha, hc]
      refine CodeT.seqR ?_
      simp -implicitDefEqProofs (dsimp := false) only [go_sem, simprocAttr, stv, dev, ha, hc]
      refine PureT.eq (c17k s.d (ops.take x.most.toNat) hf ?_ hq e2) rfl ?_
      rotate_left
      simp -implicitDefEqProofs (dsimp := false) only [go_sem, simprocAttr, stv, dev, ha, hc]
      refine CodeT.seq ?_
      refine CodeT.seqR ?_
      simp -implicitDefEqProofs (dsimp := false) only [go_sem, simprocAttr, stv, dev, ha, hc]
      refine CodeT.condF rfl ?_
      refine CodeT.skip ?_
      simp -implicitDefEqProofs (dsimp := false) only [go_sem, simprocAttr, stv, dev, ha, hc]
      refine CodeT.freeze 9 ?_
      simp -implicitDefEqProofs (dsimp := false) only [go_sem, simprocAttr, stv, dev, ha, hc]
      refine CodeT.seqR ?_
      simp -implicitDefEqProofs (dsimp := false) only [go_sem, simprocAttr, stv, dev, ha, hc]
      refine CodeT.seq ?_
      refine CodeT.seqR ?_
      simp -implicitDefEqProofs (dsimp := false) only [go_sem, simprocAttr, stv, dev, ha, hc]
      refine CodeT.condT rfl ?_
      refine CodeT.region ?_
      simp -implicitDefEqProofs (dsimp := false) only [go_sem, simprocAttr, stv, dev, ha, hc]
      refine CodeT.seq ?_
      refine CodeT.seqR ?_
      simp -implicitDefEqProofs (dsimp := false) only [go_sem, simprocAttr, stv, dev, ha, hc]
      refine CodeT.condF rfl ?_
      refine CodeT.skip ?_
      simp -implicitDefEqProofs (dsimp := false) only [go_sem, simprocAttr, stv, dev, ha, hc]
      refine CodeT.seq ?_
      refine CodeT.seqR ?_
      simp -implicitDefEqProofs (dsimp := false) only [go_sem, simprocAttr, stv, dev, ha, hc]
      refine CodeT.condF rfl ?_
      refine CodeT.skip ?_
      simp -implicitDefEqProofs (dsimp := false) only [go_sem, simprocAttr, stv, dev, ha, hc]
      refine CodeT.seqR ?_
      simp -implicitDefEqProofs (dsimp := false) only [go_sem, simprocAttr, stv, dev, ha, hc]
      refine CallT.eq (ext1 e3 rfl rfl _) ?_
      simp -implicitDefEqProofs (dsimp := false) only [go_sem, simprocAttr, stv, dev, ha, hc]
      refine CallT.eq (ext1 e4 rfl rfl _) ?_
      simp -implicitDefEqProofs (dsimp := false) only [go_sem, simprocAttr, stv, dev, ha, hc]
      refine CodeT.ret ?_
      simp -implicitDefEqProofs (dsimp := false) only [go_sem, simprocAttr, stv, dev, ha, hc]
      rotate_left
      · rw [List.length_take]; omega
      · exact endLess rfl rfl
    · simp only [if_true] at e3
      refine CallT.intro Try.func70 (by decide) rfl ?_
      simp -implicitDefEqProofs (dsimp := false) only [go_sem, simprocAttr, stv, dev, ha, hc, enterTm, Try.ntmps70, List.range'_succ, List.range'_zero, List.zip_cons_cons, List.zip_nil_left]
      refine CodeT.seqR ?_
      simp -implicitDefEqProofs (dsimp := false) only [go_sem, simprocAttr, stv, dev, ha, hc]
      refine CodeT.freeze 3 ?_
      simp -implicitDefEqProofs (dsimp := false) only [go_sem, simprocAttr, stv, dev, ha, hc]
      refine CodeT.seqD [(0, .free), (1, .free), (2, .free), (4, .free), (3, .read), (5, .read), (6, .free), (7, .free), (8, .free), (9, .free), (10, .free), (11, .free)] mixed (by kernel_rfl) ?_
      simp -implicitDefEqProofs (dsimp := false) only [go_sem, simprocAttr, stv, dev, ha, hc]
      refine CallF.go (c33k s.d hf x.bytes hb e1) rfl ?_
      simp -implicitDefEqProofs (dsimp := false) only [go_sem, simprocAttr, stv, dev, ha, hc]
      refine CodeT.seq ?_
      refine CodeT.seqR ?_
      simp -implicitDefEqProofs (dsimp := false) only [go_sem, simprocAttr, stv, dev, ha, hc]
      refine CodeT.condF rfl ?_
      refine CodeT.skip ?_
      simp -implicitDefEqProofs (dsimp := false) only [go_sem, simprocAttr, stv, dev, ha, hc]
      refine CodeT.seqR ?_
      simp -implicitDefEqProofs (dsimp := false) only [go_sem, simprocAttr, stv, dev, ha, hc]
      refine PureT.eq (c107b ops x.most h) rfl ?_
      simp -implicitDefEqProofs (dsimp := false) only [go_sem, simprocAttr, stv, dev, ha, hc]
      refine CodeT.seqR ?_
      simp -implicitDefEqProofs (dsimp := false) only [go_sem, simprocAttr, stv, dev, ha, hc]
      refine PureT.eq (c17k s.d (ops.take x.most.toNat) hf ?_ hq e2) rfl ?_
      rotate_left
      simp -implicitDefEqProofs (dsimp := false) only [go_sem, simprocAttr, stv, dev, ha, hc]
      refine CodeT.seq ?_
      refine CodeT.seqR ?_
      simp -implicitDefEqProofs (dsimp := false) only [go_sem, simprocAttr, stv, dev, ha, hc]
      refine CodeT.condF rfl ?_
      refine CodeT.skip ?_
      simp -implicitDefEqProofs (dsimp := false) only [go_sem, simprocAttr, stv, dev, ha, hc]
      refine CodeT.freeze 9 ?_
      simp -implicitDefEqProofs (dsimp := false) only [go_sem, simprocAttr, stv, dev, ha, hc]
      refine CodeT.seqR ?_
      simp -implicitDefEqProofs (dsimp := false) only [go_sem, simprocAttr, stv, dev, ha, hc]
      refine CodeT.seq ?_
      refine CodeT.seqR ?_
      simp -implicitDefEqProofs (dsimp := false) only [go_sem, simprocAttr, stv, dev, ha, hc]
      refine CodeT.condT rfl ?_
      refine CodeT.region ?_
      simp -implicitDefEqProofs (dsimp := false) only [go_sem, simprocAttr, stv, dev, ha, hc]
      refine CodeT.seq ?_
      refine CodeT.seqR ?_
      simp -implicitDefEqProofs (dsimp := false) only [go_sem, simprocAttr, stv, dev, ha, hc]
      refine CodeT.condF rfl ?_
      refine CodeT.skip ?_
      simp -implicitDefEqProofs (dsimp := false) only [go_sem, simprocAttr, stv, dev, ha, hc]
      refine CodeT.seq ?_
      refine CodeT.seqR ?_
      simp -implicitDefEqProofs (dsimp := false) only [go_sem, simprocAttr, stv, dev, ha, hc]
      refine CodeT.condT rfl ?_
      refine CodeT.seqR ?_
      simp -implicitDefEqProofs (dsimp := false) only [go_sem, simprocAttr, stv, dev, ha, hc]
      refine CodeT.region ?_
      simp -implicitDefEqProofs (dsimp := false) only [go_sem, simprocAttr, stv, dev, ha, hc]
      refine CodeT.seqR ?_
      simp -implicitDefEqProofs (dsimp := false) only [go_sem, simprocAttr, stv, dev, ha, hc]
      refine CallT.eq (ext1 e3 rfl rfl _) ?_
      simp -implicitDefEqProofs (dsimp := false) only [go_sem, simprocAttr, stv, dev, ha, hc]
      refine CallT.eq (ext1 e4 rfl rfl _) ?_
      simp -implicitDefEqProofs (dsimp := false) only [go_sem, simprocAttr, stv, dev, ha, hc]
      refine CodeT.ret ?_
      simp -implicitDefEqProofs (dsimp := false) only [go_sem, simprocAttr, stv, dev, ha, hc]
      rotate_left
      · rw [List.length_take]; omega
      · exact endLess rfl rfl
theorem c28n (s : Sto) (x : Deed) (h0 : x.what ≠ 0) (h1 : x.what ≠ 1) (h2 : x.what ≠ 2) (h3 : x.what ≠ 3) : Leads 28 [dev x] s s := by
  refine CallT.less ?_
  refine CallT.intro Try.func28 (by decide) rfl ?_
  simp -implicitDefEqProofs (dsimp := false) only [go_sem, simprocAttr, stv, dev, enterTm, Try.ntmps28, List.range'_succ, List.range'_zero, List.zip_cons_cons, List.zip_nil_left]
  refine CodeT.seqR ?_
  simp -implicitDefEqProofs (dsimp := false) only [go_sem, simprocAttr, stv, dev]
  refine CodeT.seq ?_
  refine CodeT.freeze 3 ?_
  simp -implicitDefEqProofs (dsimp := false) only [go_sem, simprocAttr, stv, dev]
  refine CodeT.seqR ?_
  simp -implicitDefEqProofs (dsimp := false) only [go_sem, simprocAttr, stv, dev]
  refine CodeT.block ?_
  refine CodeT.seqR ?_
  simp -implicitDefEqProofs (dsimp := false) only [go_sem, simprocAttr, stv, dev]
  refine CodeT.cond rfl (fun g4 => ?_) (fun g4 => ?_)
  have d4 := ofBeq g4
  (exfalso; omega)
  have d4 := ofBeqF g4
  refine CodeT.seqR ?_
  simp -implicitDefEqProofs (dsimp := false) only [go_sem, simprocAttr, stv, dev, g4]
  refine CodeT.cond rfl (fun g5 => ?_) (fun g5 => ?_)
  have d5 := ofBeq g5
  (exfalso; omega)
  have d5 := ofBeqF g5
  refine CodeT.seqR ?_
  simp -implicitDefEqProofs (dsimp := false) only [go_sem, simprocAttr, stv, dev, g4, g5]
  refine CodeT.cond rfl (fun g6 => ?_) (fun g6 => ?_)
  have d6 := ofBeq g6
  (exfalso; omega)
  have d6 := ofBeqF g6
  refine CodeT.seqR ?_
  simp -implicitDefEqProofs (dsimp := false) only [go_sem, simprocAttr, stv, dev, g4, g5, g6]
  refine CodeT.cond rfl (fun g7 => ?_) (fun g7 => ?_)
  have d7 := ofBeq g7
  (exfalso; omega)
  have d7 := ofBeqF g7
  refine CodeT.skip ?_
  simp -implicitDefEqProofs (dsimp := false) only [go_sem, simprocAttr, stv, dev, g4, g5, g6, g7]
  refine CodeT.seqR ?_
  simp -implicitDefEqProofs (dsimp := false) only [go_sem, simprocAttr, stv, dev, g4, g5, g6, g7]
  refine CodeT.ret ?_
  simp -implicitDefEqProofs (dsimp := false) only [go_sem, simprocAttr, stv, dev, g4, g5, g6, g7]
  rotate_left
  exact endLess rfl rfl
theorem c28c (s s' : Sto) (x : Deed) (h2 : x.what = 2) (hc : Leads 70 [dev x] s s') : Leads 28 [dev x] s s' := by
  refine CallT.less ?_
  refine CallT.intro Try.func28 (by decide) rfl ?_
  simp -implicitDefEqProofs (dsimp := false) only [go_sem, simprocAttr, stv, dev, enterTm, Try.ntmps28, List.range'_succ, List.range'_zero, List.zip_cons_cons, List.zip_nil_left]
  refine CodeT.seqR ?_
  simp -implicitDefEqProofs (dsimp := false) only [go_sem, simprocAttr, stv, dev]
  refine CodeT.seq ?_
  refine CodeT.freeze 3 ?_
  simp -implicitDefEqProofs (dsimp := false) only [go_sem, simprocAttr, stv, dev]
  refine CodeT.seqR ?_
  simp -implicitDefEqProofs (dsimp := false) only [go_sem, simprocAttr, stv, dev]
  refine CodeT.block ?_
  refine CodeT.seqR ?_
  simp -implicitDefEqProofs (dsimp := false) only [go_sem, simprocAttr, stv, dev]
  refine CodeT.cond rfl (fun g3 => ?_) (fun g3 => ?_)
  have d3 := ofBeq g3
  (exfalso; omega)
  have d3 := ofBeqF g3
  refine CodeT.seqR ?_
  simp -implicitDefEqProofs (dsimp := false) only [go_sem, simprocAttr, stv, dev, g3]
  refine CodeT.cond rfl (fun g4 => ?_) (fun g4 => ?_)
  have d4 := ofBeq g4
  (exfalso; omega)
  have d4 := ofBeqF g4
  refine CodeT.seqR ?_
  simp -implicitDefEqProofs (dsimp := false) only [go_sem, simprocAttr, stv, dev, g3, g4]
  refine CodeT.cond rfl (fun g5 => ?_) (fun g5 => ?_)
  have d5 := ofBeq g5
  refine CodeT.seqR ?_
  simp -implicitDefEqProofs (dsimp := false) only [go_sem, simprocAttr, stv, dev, g3, g4, g5]
  refine CallT.eq (ext1 hc rfl rfl _) ?_
  simp -implicitDefEqProofs (dsimp := false) only [go_sem, simprocAttr, stv, dev, g3, g4, g5]
  refine CodeT.ret ?_
  simp -implicitDefEqProofs (dsimp := false) only [go_sem, simprocAttr, stv, dev, g3, g4, g5]
  rotate_left
  have d5 := ofBeqF g5
  (exfalso; omega)
  exact endLess rfl rfl
theorem c28d (s s1 s' : Sto) (x : Deed) (h2 : x.what = 3) (hc : Leads 71 [.sl false (is64 x.cuts)] s s1) (ho : Leads 72 [.val (.int .i64 x.most), .sl false (is64 x.cuts)] s1 s') : Leads 28 [dev x] s s' := by
  refine CallT.less ?_
  refine CallT.intro Try.func28 (by decide) rfl ?_
  simp -implicitDefEqProofs (dsimp := false) only [go_sem, simprocAttr, stv, dev, enterTm, Try.ntmps28, List.range'_succ, List.range'_zero, List.zip_cons_cons, List.zip_nil_left]
  refine CodeT.seqR ?_
  simp -implicitDefEqProofs (dsimp := false) only [go_sem, simprocAttr, stv, dev]
  refine CodeT.seq ?_
  refine CodeT.freeze 3 ?_
  simp -implicitDefEqProofs (dsimp := false) only [go_sem, simprocAttr, stv, dev]
  refine CodeT.seqR ?_
  simp -implicitDefEqProofs (dsimp := false) only [go_sem, simprocAttr, stv, dev]
  refine CodeT.block ?_
  refine CodeT.seqR ?_
  simp -implicitDefEqProofs (dsimp := false) only [go_sem, simprocAttr, stv, dev]
  refine CodeT.cond rfl (fun g3 => ?_) (fun g3 => ?_)
  have d3 := ofBeq g3
  (exfalso; omega)
  have d3 := ofBeqF g3
  refine CodeT.seqR ?_
  simp -implicitDefEqProofs (dsimp := false) only [go_sem, simprocAttr, stv, dev, g3]
  refine CodeT.cond rfl (fun g4 => ?_) (fun g4 => ?_)
  have d4 := ofBeq g4
  (exfalso; omega)
  have d4 := ofBeqF g4
  refine CodeT.seqR ?_
  simp -implicitDefEqProofs (dsimp := false) only [go_sem, simprocAttr, stv, dev, g3, g4]
  refine CodeT.cond rfl (fun g5 => ?_) (fun g5 => ?_)
  have d5 := ofBeq g5
  (exfalso; omega)
  have d5 := ofBeqF g5
  refine CodeT.seqR ?_
  simp -implicitDefEqProofs (dsimp := false) only [go_sem, simprocAttr, stv, dev, g3, g4, g5]
  refine CodeT.cond rfl (fun g6 => ?_) (fun g6 => ?_)
  have d6 := ofBeq g6
  refine CodeT.seqR ?_
  simp -implicitDefEqProofs (dsimp := false) only [go_sem, simprocAttr, stv, dev, g3, g4, g5, g6]
  refine CallT.eq (ext1 hc rfl rfl _) ?_
  simp -implicitDefEqProofs (dsimp := false) only [go_sem, simprocAttr, stv, dev, g3, g4, g5, g6]
  refine CallT.eq (ext1 ho rfl rfl _) ?_
  simp -implicitDefEqProofs (dsimp := false) only [go_sem, simprocAttr, stv, dev, g3, g4, g5, g6]
  refine CodeT.ret ?_
  simp -implicitDefEqProofs (dsimp := false) only [go_sem, simprocAttr, stv, dev, g3, g4, g5, g6]
  rotate_left
  have d6 := ofBeqF g6
  (exfalso; omega)
  exact endLess rfl rfl
theorem c28f (s : Sto) (x : Deed) (d' : Dsk) (hf : Few s.d) (hq : s.d.queue.length ≤ 1000000) (h2 : x.what = 1) (e : doV s.d [fl] = .tup [dkv d', er 0]) (hr : s.recs.length ≤ 4000000) : Leads 28 [dev x] s ⟨d', s.base, s.recs, s.recs.length, s.other, s.doubt⟩ := by
  refine CallT.less ?_
  refine CallT.intro Try.func28 (by decide) rfl ?_
  simp -implicitDefEqProofs (dsimp := false) only [go_sem, simprocAttr, stv, dev, fld6, enterTm, Try.ntmps28, List.range'_succ, List.range'_zero, List.zip_cons_cons, List.zip_nil_left]
  refine CodeT.seqR ?_
  simp -implicitDefEqProofs (dsimp := false) only [go_sem, simprocAttr, stv, dev, fld6]
  refine CodeT.seq ?_
  refine CodeT.freeze 3 ?_
  simp -implicitDefEqProofs (dsimp := false) only [go_sem, simprocAttr, stv, dev, fld6]
  refine CodeT.seqR ?_
  simp -implicitDefEqProofs (dsimp := false) only [go_sem, simprocAttr, stv, dev, fld6]
  refine CodeT.block ?_
  refine CodeT.seqR ?_
  simp -implicitDefEqProofs (dsimp := false) only [go_sem, simprocAttr, stv, dev, fld6]
  refine CodeT.cond rfl (fun g3 => ?_) (fun g3 => ?_)
  have d3 := ofBeq g3
  (exfalso; omega)
  have d3 := ofBeqF g3
  refine CodeT.seqR ?_
  simp -implicitDefEqProofs (dsimp := false) only [go_sem, simprocAttr, stv, dev, fld6, g3]
  refine CodeT.cond rfl (fun g4 => ?_) (fun g4 => ?_)
  have d4 := ofBeq g4
  refine CodeT.seqR ?_
  simp -implicitDefEqProofs (dsimp := false) only [go_sem, simprocAttr, stv, dev, fld6, g3, g4]
  refine And.intro (by trivial) ?_
  refine CallT.laxA ?_
  simp -implicitDefEqProofs (dsimp := false) only [go_sem, simprocAttr, stv, dev, fld6, g3, g4]
  refine PureT.eq (c17k s.d [fl] hf ?_ hq e) rfl ?_
  trivial
  simp -implicitDefEqProofs (dsimp := false) only [go_sem, simprocAttr, stv, dev, fld6, g3, g4]
  refine CodeT.freeze 9 ?_
  simp -implicitDefEqProofs (dsimp := false) only [go_sem, simprocAttr, stv, dev, fld6, g3, g4]
  refine CodeT.seqR ?_
  simp -implicitDefEqProofs (dsimp := false) only [go_sem, simprocAttr, stv, dev, fld6, g3, g4]
  refine CodeT.seqR ?_
  simp -implicitDefEqProofs (dsimp := false) only [go_sem, simprocAttr, stv, dev, fld6, g3, g4]
  refine CodeT.seqR ?_
  simp -implicitDefEqProofs (dsimp := false) only [go_sem, simprocAttr, stv, dev, fld6, g3, g4]
  refine CodeT.ret ?_
  simp -implicitDefEqProofs (dsimp := false) only [go_sem, simprocAttr, stv, dev, fld6, g3, g4]
  rotate_left
  have d4 := ofBeqF g4
  (exfalso; omega)
  exact endLess rfl rfl
theorem c28r (s : Sto) (x : Deed) (hf : Few s.d) (hb : x.bytes.length ≤ 1000000) (h2 : x.what = 0) (e : appendV s.d x.bytes = .tup [.sl false [], er 2]) : Leads 28 [dev x] s s := by
  refine CallT.less ?_
  refine CallT.intro Try.func28 (by decide) rfl ?_
  simp -implicitDefEqProofs (dsimp := false) only [go_sem, simprocAttr, stv, dev, enterTm, Try.ntmps28, List.range'_succ, List.range'_zero, List.zip_cons_cons, List.zip_nil_left]
  refine CodeT.seqR ?_
  simp -implicitDefEqProofs (dsimp := false) only [go_sem, simprocAttr, stv, dev]
  refine CodeT.seq ?_
  refine CodeT.freeze 3 ?_
  simp -implicitDefEqProofs (dsimp := false) only [go_sem, simprocAttr, stv, dev]
  refine CodeT.seqR ?_
  simp -implicitDefEqProofs (dsimp := false) only [go_sem, simprocAttr, stv, dev]
  refine CodeT.block ?_
  refine CodeT.seqR ?_
  simp -implicitDefEqProofs (dsimp := false) only [go_sem, simprocAttr, stv, dev]
  refine CodeT.cond rfl (fun g3 => ?_) (fun g3 => ?_)
  have d3 := ofBeq g3
  refine CodeT.seqD [(0, .free), (1, .free), (2, .free), (4, .free), (3, .read), (5, .read), (6, .free), (7, .free), (8, .free), (9, .free), (10, .free), (11, .free)] mixed (by kernel_rfl) ?_
  simp -implicitDefEqProofs (dsimp := false) only [go_sem, simprocAttr, stv, dev, g3]
  refine CallF.go (c25k s.d hf x.bytes hb e) rfl ?_
  simp -implicitDefEqProofs (dsimp := false) only [go_sem, simprocAttr, stv, dev, g3]
  refine CodeT.seq ?_
  refine CodeT.seqR ?_
  simp -implicitDefEqProofs (dsimp := false) only [go_sem, simprocAttr, stv, dev, g3]
  refine CodeT.condT rfl ?_
  refine CodeT.seqR ?_
  simp -implicitDefEqProofs (dsimp := false) only [go_sem, simprocAttr, stv, dev, g3]
  refine CodeT.ret ?_
  simp -implicitDefEqProofs (dsimp := false) only [go_sem, simprocAttr, stv, dev, g3]
  rotate_left
  have d3 := ofBeqF g3
  (exfalso; omega)
  exact endLess rfl rfl
theorem c28a (s : Sto) (x : Deed) (ops : List DOp) (d' : Dsk) (hf : Few s.d) (hb : x.bytes.length ≤ 1000000) (ho : ops.length ≤ 10) (hq : s.d.queue.length ≤ 1000000) (hr : s.recs.length ≤ 1000000) (h2 : x.what = 0) (e : appendV s.d x.bytes = .tup [.sl false (opvs ops), er 0]) (e2 : doV s.d ops = .tup [dkv d', er 0]) :
    Leads 28 [dev x] s ⟨d', s.base, s.recs ++ [x.bytes], s.fl, s.other, s.doubt⟩ := by
  refine CallT.less ?_
  refine CallT.intro Try.func28 (by decide) rfl ?_
  simp -implicitDefEqProofs (dsimp := false) only [go_sem, simprocAttr, stv, dev, enterTm, Try.ntmps28, List.range'_succ, List.range'_zero, List.zip_cons_cons, List.zip_nil_left]
  refine CodeT.seqR ?_
  simp -implicitDefEqProofs (dsimp := false) only [go_sem, simprocAttr, stv, dev]
  refine CodeT.seq ?_
  refine CodeT.freeze 3 ?_
  simp -implicitDefEqProofs (dsimp := false) only [go_sem, simprocAttr, stv, dev]
  refine CodeT.seqR ?_
  simp -implicitDefEqProofs (dsimp := false) only [go_sem, simprocAttr, stv, dev]
  refine CodeT.block ?_
  refine CodeT.seqR ?_
  simp -implicitDefEqProofs (dsimp := false) only [go_sem, simprocAttr, stv, dev]
  refine CodeT.cond rfl (fun g3 => ?_) (fun g3 => ?_)
  have d3 := ofBeq g3
  refine CodeT.seqD [(0, .free), (1, .free), (2, .free), (4, .free), (3, .read), (5, .read), (6, .free), (7, .free), (8, .free), (9, .free), (10, .free), (11, .free)] mixed (by kernel_rfl) ?_
  simp -implicitDefEqProofs (dsimp := false) only [go_sem, simprocAttr, stv, dev, g3]
  refine CallF.go (c25k s.d hf x.bytes hb e) rfl ?_
  simp -implicitDefEqProofs (dsimp := false) only [go_sem, simprocAttr, stv, dev, g3]
  refine CodeT.seq ?_
  refine CodeT.seqR ?_
  simp -implicitDefEqProofs (dsimp := false) only [go_sem, simprocAttr, stv, dev, g3]
  refine CodeT.condF rfl ?_
  refine CodeT.skip ?_
  simp -implicitDefEqProofs (dsimp := false) only [go_sem, simprocAttr, stv, dev, g3]
  refine CodeT.seqR ?_
  simp -implicitDefEqProofs (dsimp := false) only [go_sem, simprocAttr, stv, dev, g3]
  refine PureT.eq (c17k s.d ops hf ?_ hq e2) rfl ?_
  omega
  simp -implicitDefEqProofs (dsimp := false) only [go_sem, simprocAttr, stv, dev, g3]
  refine CodeT.freeze 7 ?_
  simp -implicitDefEqProofs (dsimp := false) only [go_sem, simprocAttr, stv, dev, g3]
  refine CodeT.seqR ?_
  simp -implicitDefEqProofs (dsimp := false) only [go_sem, simprocAttr, stv, dev, g3]
  refine CodeT.seqD [(0, .free), (1, .free), (2, .free), (3, .free), (4, .free), (7, .free), (5, .read), (8, .read), (9, .free), (6, .upd), (10, .upd), (11, .free), (12, .free), (13, .set)] mixed (by kernel_rfl) ?_
  simp -implicitDefEqProofs (dsimp := false) only [go_sem, simprocAttr, stv, dev, g3]
  refine And.intro (by trivial) ?_
  refine And.intro (by trivial) ?_
  refine And.intro (by exact uni_bss _) ?_
  refine And.intro (by omega) ?_
  refine And.intro (by exact Stable.append [_, _, _, _] [_]) ?_
  refine And.intro (by exact uni_bss [_]) ?_
  refine And.intro (by omega) ?_
  refine And.intro (by exact Stable.same (Stable.same (Stable.same (Stable.same (Stable.row (Stable.refl _)))))) ?_
  refine CodeT.seqR ?_
  simp -implicitDefEqProofs (dsimp := false) only [go_sem, simprocAttr, stv, dev, g3]
  refine CodeT.freezeCell 1 3 4 rfl rfl rfl (by simp [bss_length]) ?_
  refine CodeT.ret ?_
  simp -implicitDefEqProofs (dsimp := false) only [go_sem, simprocAttr, stv, dev, g3]
  rotate_left
  have d3 := ofBeqF g3
  (exfalso; omega)
  exact endLess rfl (by rw [List.take_of_length_le (by simp)])
/-- Deeds that are few and small. -/
def modestB (l : List Deed) : Bool := if decide ((l.length : Int) > 40) then false else l.all fun x => !(decide ((x.bytes.length : Int) > 300) || decide ((x.cuts.length : Int) > 60))
def devs (l : List Deed) : List AV := l.map dev
def deed0 : Deed := ⟨0, [], 0, []⟩
theorem devs_length (l : List Deed) : (devs l).length = l.length := by simp [devs]
theorem devs_getD {l : List Deed} {i : Nat} (h : i < l.length) : (devs l).getD i .dead = dev (l.getD i deed0) := by
  simp [devs, List.getD_eq_getElem?_getD, h]
theorem dev_cells (x : Deed) : (dev x).cells = [.val (.int .i64 x.what), .sl false (bs x.bytes), .val (.int .i64 x.most), .sl false (is64 x.cuts)] := rfl
theorem dev_fold (a : Int) (b : List UInt8) (c : Int) (e : List Int) : AV.agg [.val (.int .i64 a), .sl false (bs b), .val (.int .i64 c), .sl false (is64 e)] = dev ⟨a, b, c, e⟩ := rfl
theorem dev_eta (x : Deed) : (⟨x.what, x.bytes, x.most, x.cuts⟩ : Deed) = x := rfl
theorem all_take (p : Deed → Bool) (q : List Deed) (i : Nat) (h : i < q.length) : (q.take (i + 1)).all p = ((q.take i).all p && p (q.getD i deed0)) := by
  rw [List.take_add_one, List.getElem?_eq_getElem h, List.all_append]
  simp [List.getD_eq_getElem?_getD, h]
theorem all_no (p : Deed → Bool) (q : List Deed) (i : Nat) (h : i < q.length) (hp : p (q.getD i deed0) = false) : q.all p = false := by
  rw [List.all_eq_false]
  refine ⟨q.getD i deed0, ?_, by rw [hp]; simp⟩
  rw [List.getD_eq_getElem?_getD, List.getElem?_eq_getElem h]
  exact List.getElem_mem h
theorem c26 (l : List Deed) : PureT Try.prog 26 [.sl false (devs l)] (· = .val (.bool (modestB l))) := by
  refine CallT.intro Try.func26 (by decide) rfl ?_
  simp -implicitDefEqProofs (dsimp := false) only [go_sem, simprocAttr, devs_length, dev_cells, enterTm, Try.ntmps26, List.range'_succ, List.range'_zero, List.zip_cons_cons, List.zip_nil_left]
  refine CodeT.seqR ?_
  simp -implicitDefEqProofs (dsimp := false) only [go_sem, simprocAttr, devs_length, dev_cells]
  refine CodeT.seq ?_
  refine CodeT.seqR ?_
  simp -implicitDefEqProofs (dsimp := false) only [go_sem, simprocAttr, devs_length, dev_cells]
  refine CodeT.cond rfl (fun g1 => ?_) (fun g1 => ?_)
  have d1 := ofDec g1
  refine CodeT.seqR ?_
  simp -implicitDefEqProofs (dsimp := false) only [go_sem, simprocAttr, devs_length, dev_cells, g1]
  refine CodeT.ret ?_
  simp -implicitDefEqProofs (dsimp := false) only [go_sem, simprocAttr, devs_length, dev_cells, g1]
  refine pureEnd rfl ?_
  simp only [modestB, g1, Bool.true_and, Bool.false_and, Bool.and_true, Bool.and_false, Bool.true_or, Bool.false_or, Bool.or_true, Bool.or_false, Bool.not_true, Bool.not_false, Bool.false_eq_true, ↓reduceIte]
  have d1 := ofDecF g1
  refine CodeT.skip ?_
  simp -implicitDefEqProofs (dsimp := false) only [go_sem, simprocAttr, devs_length, dev_cells, g1]
  refine CodeT.seq ?_
  refine CodeT.seqR ?_
  simp -implicitDefEqProofs (dsimp := false) only [go_sem, simprocAttr, devs_length, dev_cells, g1]
  refine CodeT.block ?_
  refine CodeT.whileS (fun i : Nat => [(3, .val (.int .i64 (i : Nat)))]) [0] (fun i : Nat => []) (fun i : Nat => i ≤ l.length ∧ (l.take i).all (fun x => !(decide ((x.bytes.length : Int) > 300) || decide ((x.cuts.length : Int) > 60))) = true) (fun i : Nat => l.length - i) (0) ?_ rfl ?_ ?_
  simp -implicitDefEqProofs (dsimp := false) only [go_sem, simprocAttr, devs_length, dev_cells, g1]
  omega
  refine ⟨rfl, ?_, ?_, rfl, ?_⟩
  simp -implicitDefEqProofs (dsimp := false) only [go_sem, simprocAttr, devs_length, dev_cells, g1, or_true, true_or, false_or, or_false, implies_true, Int.natCast_add, Int.cast_ofNat_Int, keepsD_nil]
  simp -implicitDefEqProofs (dsimp := false) only [go_sem, simprocAttr, devs_length, dev_cells, g1, or_true, true_or, false_or, or_false, implies_true, Int.natCast_add, Int.cast_ofNat_Int, keepsD_nil]
  simp -implicitDefEqProofs (dsimp := false) only [go_sem, simprocAttr, devs_length, dev_cells, g1, or_true, true_or, false_or, or_false, implies_true, Int.natCast_add, Int.cast_ofNat_Int, keepsD_nil]
  rintro i hi
  obtain ⟨f1, f2⟩ := hi
  simp -implicitDefEqProofs (dsimp := false) only [go_sem, simprocAttr, devs_length, dev_cells, g1]
  refine CodeT.seq ?_
  refine CodeT.seqR ?_
  simp -implicitDefEqProofs (dsimp := false) only [go_sem, simprocAttr, devs_length, dev_cells, g1]
  refine CodeT.cond rfl (fun g2 => ?_) (fun g2 => ?_)
  have d2 := ofDec g2
  refine CodeT.skip ?_
  simp -implicitDefEqProofs (dsimp := false) only [go_sem, simprocAttr, devs_length, dev_cells, g1, g2]
  refine CodeT.seq (CodeT.block ?_)
  refine CodeT.seqR ?_
  simp -implicitDefEqProofs (dsimp := false) only [go_sem, simprocAttr, devs_length, dev_cells, g1, g2]
  refine gate_i ?_ ?_
  omega
  simp -implicitDefEqProofs (dsimp := false) (disch := omega) only [Int.toNat_natCast, i64_in, bs_getD, opvs_getD, is64_getD, bss_getD, devs_getD]
  simp -implicitDefEqProofs (dsimp := false) only [go_sem, simprocAttr, devs_length, dev_cells, g1, g2]
  refine gif_i (fun g3 => ?_) (fun g3 => ?_)
  have d3 := ofDec g3
  simp -implicitDefEqProofs (dsimp := false) only [go_sem, simprocAttr, devs_length, dev_cells, g1, g2, g3]
  refine CodeT.condT rfl ?_
  refine CodeT.seqR ?_
  simp -implicitDefEqProofs (dsimp := false) only [go_sem, simprocAttr, devs_length, dev_cells, g1, g2, g3]
  refine CodeT.ret ?_
  simp -implicitDefEqProofs (dsimp := false) only [go_sem, simprocAttr, devs_length, dev_cells, g1, g2, g3]
  refine pureEnd rfl ?_
  rotate_left
  have d3 := ofDecF g3
  simp -implicitDefEqProofs (dsimp := false) only [go_sem, simprocAttr, devs_length, dev_cells, g1, g2, g3]
  refine gate_i ?_ ?_
  omega
  simp -implicitDefEqProofs (dsimp := false) (disch := omega) only [Int.toNat_natCast, i64_in, bs_getD, opvs_getD, is64_getD, bss_getD, devs_getD]
  simp -implicitDefEqProofs (dsimp := false) only [go_sem, simprocAttr, devs_length, dev_cells, g1, g2, g3]
  refine CodeT.cond rfl (fun g4 => ?_) (fun g4 => ?_)
  have d4 := ofDec g4
  refine CodeT.seqR ?_
  simp -implicitDefEqProofs (dsimp := false) only [go_sem, simprocAttr, devs_length, dev_cells, g1, g2, g3, g4]
  refine CodeT.ret ?_
  simp -implicitDefEqProofs (dsimp := false) only [go_sem, simprocAttr, devs_length, dev_cells, g1, g2, g3, g4]
  refine pureEnd rfl ?_
  rotate_left
  have d4 := ofDecF g4
  refine CodeT.skip ?_
  simp -implicitDefEqProofs (dsimp := false) only [go_sem, simprocAttr, devs_length, dev_cells, g1, g2, g3, g4]
  refine CodeT.region ?_
  simp -implicitDefEqProofs (dsimp := false) only [go_sem, simprocAttr, devs_length, dev_cells, g1, g2, g3, g4]
  simp -implicitDefEqProofs (dsimp := false) (disch := omega) only [i64_in, bs_getD, opvs_getD, is64_getD, bss_getD, devs_getD]
  refine ⟨i + 1, ?_⟩
  refine And.intro ?_ ?_
  refine And.intro ?_ ?_
  omega
  rotate_left
  refine And.intro ?_ ?_
  omega
  refine ⟨rfl, ?_, ?_, rfl, ?_⟩
  simp -implicitDefEqProofs (dsimp := false) only [go_sem, simprocAttr, devs_length, dev_cells, g1, g2, g3, g4, or_true, true_or, false_or, or_false, implies_true, Int.natCast_add, Int.cast_ofNat_Int, keepsD_nil]
  simp -implicitDefEqProofs (dsimp := false) only [go_sem, simprocAttr, devs_length, dev_cells, g1, g2, g3, g4, or_true, true_or, false_or, or_false, implies_true, Int.natCast_add, Int.cast_ofNat_Int, keepsD_nil]
  simp -implicitDefEqProofs (dsimp := false) only [go_sem, simprocAttr, devs_length, dev_cells, g1, g2, g3, g4, or_true, true_or, false_or, or_false, implies_true, Int.natCast_add, Int.cast_ofNat_Int, keepsD_nil]
  have d2 := ofDecF g2
  refine CodeT.exit ?_
  simp -implicitDefEqProofs (dsimp := false) only [go_sem, simprocAttr, devs_length, dev_cells, g1, g2]
  refine CodeT.seqR ?_
  simp -implicitDefEqProofs (dsimp := false) only [go_sem, simprocAttr, devs_length, dev_cells, g1, g2]
  refine CodeT.ret ?_
  simp -implicitDefEqProofs (dsimp := false) only [go_sem, simprocAttr, devs_length, dev_cells, g1, g2]
  refine pureEnd rfl ?_
  rotate_left
  · rw [modestB, g1]
    simp only [Bool.false_eq_true, if_false]
    rw [all_no _ l i (by omega) (by rw [g3]; rfl)]
  · rw [modestB, g1]
    simp only [Bool.false_eq_true, if_false]
    rw [all_no _ l i (by omega) (by rw [g3, g4]; rfl)]
  · rw [all_take _ l i (by omega), f2, g3, g4]; rfl
  · rw [List.take_of_length_le (by omega)] at f2
    rw [modestB, g1, f2]; rfl
end Go.Proofs.Try
