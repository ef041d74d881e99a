/-
  The statement DiskSurvives: whatever is appended, flushed and checked in, wherever it crashes, what is read is the base that was checked in last, and a beginning of the records behind it, no shorter than what was flushed; or the new base alone. No condition.
-/
import Derived.Test.YtnmghpieidlpbaaD5
import Derived.ChangeOld
import Derived.OpenShut
import Derived.ProofKit
import Derived.SizedLaws
import Derived.Test.YtnmghpieidlpbaaRows
import Derived.WalkKit
set_option linter.unusedVariables false
set_option linter.unusedSimpArgs false
namespace Go.Proofs.Ytnmghpieidlpbaa.diskSurvives
open Go.ChangeShapes Go.WideShapes Go.ChangeAt Go.RowKit Go.PM Go.Proofs.Try
set_option linter.unusedVariables false
theorem own : ownKnob Try.prog.godebug = none := by kernel_rfl
theorem laidOut : laidOutB Try.prog = true := by kernel_rfl
set_option maxRecDepth 100000 in
theorem lifted (os : Os) (started : os.Started) (H : Type) (enc : TypeId × Value → H) :
    ReturnsInHanded {} Try.checked os 7 .any (Rows.diskSurvivesSpec.pre6 enc Try.prog Try.f7 Rows.diskSurvivesRow.domain false) (Rows.diskSurvivesSpec.post enc Try.prog Try.f7 false true false false) := by
  refine returnsInHanded_of_change_sized (C := Try.checked) own started (by kernel_rfl) Try.func7
    (ChangeSpec.witness6 (enc := enc) (C := Try.checked) false ⟨#[], #[.int .i64 0, .slice none 0 0, .slice none 0 0], []⟩ 8 (by kernel_rfl) (by kernel_rfl) (by kernel_rfl) (by kernel_rfl)) ?_
  intro W base args ds gs before hval0 hW hcnd hsz0 _
  have hval : ∀ (j : Nat) t v, Try.f7.params[j]? = some t → args[j]? = some v → Value.okWide Try.prog W .any base t v := hval0
  have hW' := hW
  obtain ⟨p, q, hA0, hV, rfl, hfz, hnd⟩ := hW
  have hA : DataW.TrodAll enc Try.prog W 0 (fun _ => true) true Try.f7.params.toList args.toList ds p := hA0
  rw [Try.params7] at hA hval
  obtain ⟨v0, vs0, d0, ds0, p0, q0, hargs, rfl, rfl, h0, r0⟩ := trodAll_cons hA
  obtain ⟨v1, vs1, d1, ds1, p1, q1, rfl, rfl, rfl, h1, r1⟩ := trodAll_cons r0
  obtain ⟨v2, vs2, d2, ds2, p2, q2, rfl, rfl, rfl, h2, r2⟩ := trodAll_cons r1
  obtain ⟨rfl, rfl, rfl⟩ := trodAll_nil r2
  obtain rfl : args = #[v0, v1, v2] := by cases args; simp_all
  obtain ⟨rfl, rfl⟩ := trodVars_none hV
  have lt0 : ∀ x ∈ p0, x.block < W.heap.size := by obtain ⟨m, hm⟩ := h0; exact DataW.trod_lt m _ _ _ hm
  have lt1 : ∀ x ∈ p1, x.block < W.heap.size := by obtain ⟨m, hm⟩ := h1; exact DataW.trod_lt m _ _ _ hm
  have lt2 : ∀ x ∈ p2, x.block < W.heap.size := by obtain ⟨m, hm⟩ := h2; exact DataW.trod_lt m _ _ _ hm
  obtain ⟨x0, w0, g0⟩ : ∃ x : Int, (-9223372036854775808 ≤ x ∧ x ≤ 9223372036854775807) ∧ VRel (Mem.of W) [] (.val (.int .i64 x)) v0 := by
    obtain ⟨y, rfl, _⟩ := open_int Try.underlying3 (hval 0 3 v0 rfl rfl) h0
    exact (opens_i64 Try.underlying3).single (fun _ => rfl) h0 rfl
  obtain ⟨x1, w1, g1⟩ : ∃ x : List UInt8, (x.length ≤ maxLen) ∧ VRel (Mem.of W) [] (.sl false (bs x)) v1 := by
    obtain ⟨a, len, cap, rfl⟩ := okWide_slice Try.underlying22 (hval 1 22 v1 rfl rfl)
    exact opensBytes.single (fun _ => rfl) h1 rfl
  obtain ⟨x2, w2, g2⟩ : ∃ x : List Deed, (True) ∧ VRel (Mem.of W) [] (.sl false (devs x)) v2 := by
    obtain ⟨a, len, cap, rfl⟩ := okWide_slice Try.underlying54 (hval 2 54 v2 rfl rfl)
    exact opensDeeds.single (fun _ => rfl) h2 rfl
  have hl : ListRel (Mem.of W) [] [.val (.int .i64 x0), .sl false (bs x1), .sl false (devs x2)] #[v0, v1, v2] := by
    refine ⟨rfl, fun i y hy => ?_⟩
    match i, hy with
    | 0, hy => cases hy; exact g0
    | 1, hy => cases hy; exact g1
    | 2, hy => cases hy; exact g2
  clear hA0 hval0 hsz0
  refine (law_calls (c7 x0 w0.1 w0.2 x1 x2) hl).mono fun e W' ⟨he, bel⟩ => ?_
  subst he
  exact ⟨_, rfl, _, _, _, [], _, [], hW', trodAll_mk1 (shut_bool Try.underlying4 _),
    (trodAll_cons_mk (Below.trod laidOut (by kernel_rfl) (of_decide_eq_true (by kernel_rfl)) h0 bel lt0) (trodAll_cons_mk (Below.trod laidOut (by kernel_rfl) (of_decide_eq_true (by kernel_rfl)) h1 bel lt1) (trodAll_cons_mk (Below.trod laidOut (by kernel_rfl) (of_decide_eq_true (by kernel_rfl)) h2 bel lt2) trodAll_mk0))), rfl, bel.frame _, fun h => by cases h⟩
theorem over : Rows.diskSurvivesRow.holds Try.pinned (OpenSpec.ofChange Rows.diskSurvivesSpec) :=
  OpenClaim.holds_of_wide 7 Try.f7 rfl rfl rfl rfl rfl rfl rfl ⟨rfl, rfl, rfl, rfl, rfl⟩ rfl rfl rfl rfl rfl (by kernel_rfl) Try.func7 (by kernel_rfl)
    (of_decide_eq_true (by kernel_rfl)) (by unfold Func.isWrapper; first | (rw [if_pos (by decide +kernel)]; kernel_rfl) | (rw [if_neg (by decide +kernel)]; exact ⟨rfl, rfl⟩))
    (fun os started H enc _ => lifted os started H enc)
theorem proved : Rows.DiskSurvivesSaid := over
#print axioms proved
end Go.Proofs.Ytnmghpieidlpbaa.diskSurvives
namespace Go.Proofs.Ytnmghpieidlpbaa
theorem diskSurvives_holds : Rows.DiskSurvivesSaid := diskSurvives.proved
end Go.Proofs.Ytnmghpieidlpbaa
