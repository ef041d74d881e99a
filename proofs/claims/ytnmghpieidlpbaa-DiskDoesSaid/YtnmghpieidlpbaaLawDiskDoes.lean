/-
  The statement DiskDoes: for all disks, operations and crashes, new disks, which are written and clean, and what they lead to, are asg specified. No condition.
-/
import Derived.Test.YtnmghpieidlpbaaD4
import Derived.ChangeOld
import Derived.OpenShut
import Derived.ProofKit
import Derived.SizedLaws
import Derived.Test.YtnmghpieidlpbaaRows
import Derived.WalkKit
set_option linter.unusedVariables false
set_option linter.unusedSimpArgs false
namespace Go.Proofs.Ytnmghpieidlpbaa.diskDoes
open Go.ChangeShapes Go.WideShapes Go.ChangeAt Go.RowKit Go.PM Go.Proofs.Try
set_option linter.unusedVariables false
theorem own : ownKnob Try.prog.godebug = none := by kernel_rfl
theorem laidOut : laidOutB Try.prog = true := by kernel_rfl
set_option maxRecDepth 100000 in
theorem lifted (os : Os) (started : os.Started) (H : Type) (enc : TypeId × Value → H) :
    ReturnsInHanded {} Try.checked os 9 .any (Rows.diskDoesSpec.pre6 enc Try.prog Try.f9 Rows.diskDoesRow.domain false) (Rows.diskDoesSpec.post enc Try.prog Try.f9 false true false false) := by
  refine returnsInHanded_of_change_sized (C := Try.checked) own started (by kernel_rfl) Try.func9
    (ChangeSpec.witness6 (enc := enc) (C := Try.checked) false ⟨#[], #[.agg #[.slice none 0 0, .slice none 0 0], .slice none 0 0, .slice none 0 0, .int .i64 0], []⟩ 8 (by kernel_rfl) (by kernel_rfl) (by kernel_rfl) (by kernel_rfl)) ?_
  intro W base args ds gs before hval0 hW hcnd hsz0 _
  have hval : ∀ (j : Nat) t v, Try.f9.params[j]? = some t → args[j]? = some v → Value.okWide Try.prog W .any base t v := hval0
  have hW' := hW
  obtain ⟨p, q, hA0, hV, rfl, hfz, hnd⟩ := hW
  have hA : DataW.TrodAll enc Try.prog W 0 (fun _ => true) true Try.f9.params.toList args.toList ds p := hA0
  rw [Try.params9] at hA hval
  obtain ⟨v0, vs0, d0, ds0, p0, q0, hargs, rfl, rfl, h0, r0⟩ := trodAll_cons hA
  obtain ⟨v1, vs1, d1, ds1, p1, q1, rfl, rfl, rfl, h1, r1⟩ := trodAll_cons r0
  obtain ⟨v2, vs2, d2, ds2, p2, q2, rfl, rfl, rfl, h2, r2⟩ := trodAll_cons r1
  obtain ⟨v3, vs3, d3, ds3, p3, q3, rfl, rfl, rfl, h3, r3⟩ := trodAll_cons r2
  obtain ⟨rfl, rfl, rfl⟩ := trodAll_nil r3
  obtain rfl : args = #[v0, v1, v2, v3] := by cases args; simp_all
  obtain ⟨rfl, rfl⟩ := trodVars_none hV
  have lt0 : ∀ x ∈ p0, x.block < W.heap.size := by obtain ⟨m, hm⟩ := h0; exact DataW.trod_lt m _ _ _ hm
  have lt1 : ∀ x ∈ p1, x.block < W.heap.size := by obtain ⟨m, hm⟩ := h1; exact DataW.trod_lt m _ _ _ hm
  have lt2 : ∀ x ∈ p2, x.block < W.heap.size := by obtain ⟨m, hm⟩ := h2; exact DataW.trod_lt m _ _ _ hm
  have lt3 : ∀ x ∈ p3, x.block < W.heap.size := by obtain ⟨m, hm⟩ := h3; exact DataW.trod_lt m _ _ _ hm
  obtain ⟨x0, w0, g0⟩ : ∃ x : Dsk, (DskW x) ∧ VRel (Mem.of W) [] (dkv x) v0 := by
    obtain ⟨cs, rfl, _⟩ := okWide_struct Try.underlying31 (hval 0 31 v0 rfl rfl)
    exact opensDsk.whole (fun _ => rfl) h0
  obtain ⟨x1, w1, g1⟩ : ∃ x : List DOp, ((∀ o ∈ x, OpW o) ∧ x.length ≤ maxLen) ∧ VRel (Mem.of W) [] (.sl false (opvs x)) v1 := by
    obtain ⟨a, len, cap, rfl⟩ := okWide_slice Try.underlying29 (hval 1 29 v1 rfl rfl)
    exact opensOps.single (fun _ => rfl) h1 rfl
  obtain ⟨x2, w2, g2⟩ : ∃ x : List Int, ((∀ n ∈ x, -9223372036854775808 ≤ n ∧ n ≤ 9223372036854775807) ∧ x.length ≤ maxLen) ∧ VRel (Mem.of W) [] (.sl false (is64 x)) v2 := by
    obtain ⟨a, len, cap, rfl⟩ := okWide_slice Try.underlying32 (hval 2 32 v2 rfl rfl)
    exact opensInts.single (fun _ => rfl) h2 rfl
  obtain ⟨x3, w3, g3⟩ : ∃ x : Int, (-9223372036854775808 ≤ x ∧ x ≤ 9223372036854775807) ∧ VRel (Mem.of W) [] (.val (.int .i64 x)) v3 := by
    obtain ⟨y, rfl, _⟩ := open_int Try.underlying3 (hval 3 3 v3 rfl rfl) h3
    exact (opens_i64 Try.underlying3).single (fun _ => rfl) h3 rfl
  have hl : ListRel (Mem.of W) [] [dkv x0, .sl false (opvs x1), .sl false (is64 x2), .val (.int .i64 x3)] #[v0, v1, v2, v3] := by
    refine ⟨rfl, fun i y hy => ?_⟩
    match i, hy with
    | 0, hy => cases hy; exact g0
    | 1, hy => cases hy; exact g1
    | 2, hy => cases hy; exact g2
    | 3, hy => cases hy; exact g3
  clear hA0 hval0 hsz0
  refine (law_calls (c9 x0 x1 x2 x3 w3.1 w3.2) hl).mono fun e W' ⟨he, bel⟩ => ?_
  subst he
  exact ⟨_, rfl, _, _, _, [], _, [], hW', trodAll_mk1 (shut_bool Try.underlying4 _),
    (trodAll_cons_mk (Below.trod laidOut (by kernel_rfl) (of_decide_eq_true (by kernel_rfl)) h0 bel lt0) (trodAll_cons_mk (Below.trod laidOut (by kernel_rfl) (of_decide_eq_true (by kernel_rfl)) h1 bel lt1) (trodAll_cons_mk (Below.trod laidOut (by kernel_rfl) (of_decide_eq_true (by kernel_rfl)) h2 bel lt2) (trodAll_cons_mk (Below.trod laidOut (by kernel_rfl) (of_decide_eq_true (by kernel_rfl)) h3 bel lt3) trodAll_mk0)))), rfl, bel.frame _, fun h => by cases h⟩
theorem over : Rows.diskDoesRow.holds Try.pinned (OpenSpec.ofChange Rows.diskDoesSpec) :=
  OpenClaim.holds_of_wide 9 Try.f9 rfl rfl rfl rfl rfl rfl rfl ⟨rfl, rfl, rfl, rfl, rfl⟩ rfl rfl rfl rfl rfl (by kernel_rfl) Try.func9 (by kernel_rfl)
    (of_decide_eq_true (by kernel_rfl)) (by unfold Func.isWrapper; first | (rw [if_pos (by decide +kernel)]; kernel_rfl) | (rw [if_neg (by decide +kernel)]; exact ⟨rfl, rfl⟩))
    (fun os started H enc _ => lifted os started H enc)
theorem proved : Rows.DiskDoesSaid := over
#print axioms proved
end Go.Proofs.Ytnmghpieidlpbaa.diskDoes
namespace Go.Proofs.Ytnmghpieidlpbaa
theorem diskDoes_holds : Rows.DiskDoesSaid := diskDoes.proved
end Go.Proofs.Ytnmghpieidlpbaa
