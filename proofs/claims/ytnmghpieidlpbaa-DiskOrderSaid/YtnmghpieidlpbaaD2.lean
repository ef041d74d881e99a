/-
  disk.Parse.
-/
import Derived.Test.YtnmghpieidlpbaaD1
set_option linter.unusedVariables false
set_option linter.unusedSimpArgs false
namespace Go.Proofs.Try
set_option linter.unusedSimpArgs false
open Go.PM

def parseAll (b : List UInt8) : List (List UInt8 × Nat) := recs (b.length + 1) b 0
def parseR (b : List UInt8) : List (List UInt8) := (parseAll b).map (·.1)
def endAt (l : List (List UInt8 × Nat)) : Nat := (l.getLast?.map (·.2)).getD 0
def parseE (b : List UInt8) : Nat := endAt (parseAll b)

theorem seq98 (b : List UInt8) (c : Nat) (hb : b.length ≤ 4000000) : SeqT Try.prog 98 [.ptr c 0] (fun hc => hc[c]? = some (.cells [.sl false (bs b)])) ((parseAll b).map fun p => [.sl false (bs p.1), .val (.int .i64 (p.2 : Nat))]) := by
  intro l J hc0 hJ hl hy h0
  rw [List.length_map]
  refine c98 b l c hb J hc0 hJ hl (fun k hc p m hj hk => hy k hc _ hj ?_) h0
  rw [List.getElem?_map, show (parseAll b)[k]? = some (p, m) from hk]
  rfl

theorem parse_take {b : List UInt8} {k : Nat} {p : List UInt8} {m : Nat} (h : (parseAll b)[k]? = some (p, m)) :
    (parseR b).take (k + 1) = (parseR b).take k ++ [p] ∧ endAt ((parseAll b).take (k + 1)) = m ∧ k < (parseAll b).length := by
  refine ⟨?_, ?_, (List.getElem?_eq_some_iff.1 h).1⟩
  · rw [List.take_add_one, parseR, List.getElem?_map, h]; rfl
  · rw [List.take_add_one, h]; simp [endAt]
theorem parse_len (b : List UInt8) : (parseAll b).length ≤ b.length + 1 := recs_len _ _ _
theorem parseR_len (b : List UInt8) : (parseR b).length = (parseAll b).length := by simp [parseR]

theorem c14 (b : List UInt8) (hb : b.length ≤ 4000000) : PureT Try.prog 14 [.sl false (bs b)] (· = .tup [.sl false (bss (parseR b)), .val (.int .i64 (parseE b : Nat))]) := by
  refine CallT.res ?_
  refine CallT.intro Try.func14 (by decide) rfl ?_
  simp -implicitDefEqProofs only [go_sem, ↓reduceIte, Nat.reduceLT, Nat.reduceEqDiff, Nat.reduceAdd, Nat.reduceSub, Nat.reduceBEq, reduceCtorEq, enterTm, Try.ntmps14, List.range'_succ, List.range'_zero, List.zip_cons_cons, List.zip_nil_left]
  refine CodeT.seqK fun K hK => CodeT.region ?_
  simp -implicitDefEqProofs only [go_sem, ↓reduceIte, Nat.reduceLT, Nat.reduceEqDiff, Nat.reduceAdd, Nat.reduceSub, Nat.reduceBEq, reduceCtorEq]
  repeat refine And.intro (by first | with_reducible rfl | assumption | omega | exact uni_bs _ | exact uni_bs [_] | exact uni_bs [_, _] | exact bs_byte _ | exact uni_bss _ | exact uni_bss [_] | exact Stable.refl _ | exact stable_last _ _ _ _ _ _ | trivial | rfl) ?_
  refine hK _ ?_; clear hK K
  refine CodeT.seqK fun K hK => CodeT.region ?_
  simp -implicitDefEqProofs only [go_sem, ↓reduceIte, Nat.reduceLT, Nat.reduceEqDiff, Nat.reduceAdd, Nat.reduceSub, Nat.reduceBEq, reduceCtorEq]
  repeat refine And.intro (by first | with_reducible rfl | assumption | omega | exact uni_bs _ | exact uni_bs [_] | exact uni_bs [_, _] | exact bs_byte _ | exact uni_bss _ | exact uni_bss [_] | exact Stable.refl _ | exact stable_last _ _ _ _ _ _ | trivial | rfl) ?_
  refine hK _ ?_; clear hK K
  refine CodeT.seqK fun K hK => CodeT.region ?_
  simp -implicitDefEqProofs only [go_sem, ↓reduceIte, Nat.reduceLT, Nat.reduceEqDiff, Nat.reduceAdd, Nat.reduceSub, Nat.reduceBEq, reduceCtorEq]
  repeat refine And.intro (by first | with_reducible rfl | assumption | omega | exact uni_bs _ | exact uni_bs [_] | exact uni_bs [_, _] | exact bs_byte _ | exact uni_bss _ | exact uni_bss [_] | exact Stable.refl _ | exact stable_last _ _ _ _ _ _ | trivial | rfl) ?_
  refine hK _ ?_; clear hK K
  refine CodeT.promoteBox 0 0 1 rfl rfl ?_
  refine CodeT.seqK fun K hK => CodeT.seqK fun K1 hK1 => CodeT.region ?_
  simp -implicitDefEqProofs only [go_sem, ↓reduceIte, Nat.reduceLT, Nat.reduceEqDiff, Nat.reduceAdd, Nat.reduceSub, Nat.reduceBEq, reduceCtorEq]
  refine (c50 _ _).mono ?_
  rintro r h' ⟨rfl, rfl⟩
  simp -implicitDefEqProofs only [go_sem, ↓reduceIte, Nat.reduceLT, Nat.reduceEqDiff, Nat.reduceAdd, Nat.reduceSub, Nat.reduceBEq, reduceCtorEq]
  repeat refine And.intro (by first | with_reducible rfl | assumption | omega | exact uni_bs _ | exact uni_bs [_] | exact uni_bs [_, _] | exact bs_byte _ | exact uni_bss _ | exact uni_bss [_] | exact Stable.refl _ | exact stable_last _ _ _ _ _ _ | trivial | rfl) ?_
  refine hK1 _ ?_; clear hK1 K1
  refine CodeT.block ?_
  refine CodeT.rangeAll rfl (seq98 b 3 hb) (fun k => [.cells [.hsl 2 k 0 k], .cells [.val (.int .i64 (endAt ((parseAll b).take k) : Nat))], .row true k 1 (bss ((parseR b).take k)), .cells [.sl false (bs b)]]) rfl (fun _ => rfl) (fun _ _ => rfl) (fun k x hx => ?_) rfl (fun args ha => ?_) (fun k args fn hk => ?_) (fun fn => ?_)
  · simp at hx
    rcases hx with rfl | rfl | rfl | rfl <;> rfl
  · obtain ⟨p, _, rfl⟩ := List.mem_map.1 ha
    rfl
  · rw [List.getElem?_map, Option.map_eq_some_iff] at hk
    obtain ⟨⟨p, m⟩, hk, rfl⟩ := hk
    simp -implicitDefEqProofs only [go_sem, ↓reduceIte, Nat.reduceLT, Nat.reduceEqDiff, Nat.reduceAdd, Nat.reduceSub, Nat.reduceBEq, reduceCtorEq]
    refine CodeT.seqK fun K hK => CodeT.region ?_
    simp -implicitDefEqProofs only [go_sem, ↓reduceIte, Nat.reduceLT, Nat.reduceEqDiff, Nat.reduceAdd, Nat.reduceSub, Nat.reduceBEq, reduceCtorEq]
    repeat refine And.intro (by first | with_reducible rfl | assumption | omega | exact uni_bs _ | exact uni_bs [_] | exact uni_bs [_, _] | exact bs_byte _ | exact uni_bss _ | exact uni_bss [_] | exact Stable.refl _ | exact stable_last _ _ _ _ _ _ | trivial | rfl) ?_
    refine hK _ ?_; clear hK K
    refine CodeT.region ?_
    simp -implicitDefEqProofs only [go_sem, ↓reduceIte, Nat.reduceLT, Nat.reduceEqDiff, Nat.reduceAdd, Nat.reduceSub, Nat.reduceBEq, reduceCtorEq]
    repeat refine And.intro (by first | with_reducible rfl | assumption | omega | exact uni_bs _ | exact uni_bs [_] | exact uni_bs [_, _] | exact bs_byte _ | exact uni_bss _ | exact uni_bss [_] | exact Stable.refl _ | exact stable_last _ _ _ _ _ _ | trivial | rfl) ?_
    obtain ⟨h1, h2, h3⟩ := parse_take hk
    have h4 := parse_len b
    refine CodeT.block ?_
    refine CodeT.seqK fun K hK => CodeT.region ?_
    simp -implicitDefEqProofs only [go_sem, ↓reduceIte, Nat.reduceLT, Nat.reduceEqDiff, Nat.reduceAdd, Nat.reduceSub, Nat.reduceBEq, reduceCtorEq, bss_length, List.length_take, parseR_len, Nat.min_eq_left (Nat.le_of_lt h3), bss_snoc, ← h1]
    repeat refine And.intro (by first | with_reducible rfl | assumption | omega | exact uni_bs _ | exact uni_bs [_] | exact uni_bs [_, _] | exact bs_byte _ | exact uni_bss _ | exact uni_bss [_] | exact Stable.refl _ | exact stable_last _ _ _ _ _ _ | trivial | rfl) ?_
    refine hK _ ?_; clear hK K
    refine CodeT.region ?_
    simp -implicitDefEqProofs only [go_sem, ↓reduceIte, Nat.reduceLT, Nat.reduceEqDiff, Nat.reduceAdd, Nat.reduceSub, Nat.reduceBEq, reduceCtorEq, h2]
    repeat refine And.intro (by first | with_reducible rfl | assumption | omega | exact uni_bs _ | exact uni_bs [_] | exact uni_bs [_, _] | exact bs_byte _ | exact uni_bss _ | exact uni_bss [_] | exact Stable.refl _ | exact stable_last _ _ _ _ _ _ | trivial | rfl) ?_
    exact Nat.le_refl _
  · simp -implicitDefEqProofs only [go_sem, ↓reduceIte, Nat.reduceLT, Nat.reduceEqDiff, Nat.reduceAdd, Nat.reduceSub, Nat.reduceBEq, reduceCtorEq, List.length_map]
    repeat refine And.intro (by first | with_reducible rfl | assumption | omega | exact uni_bs _ | exact uni_bs [_] | exact uni_bs [_, _] | exact bs_byte _ | exact uni_bss _ | exact uni_bss [_] | exact Stable.refl _ | exact stable_last _ _ _ _ _ _ | trivial | rfl) ?_
    refine hK _ ?_; clear hK K
    refine CodeT.seqK fun K hK => CodeT.drawnL [(0, .read), (1, .read), (2, .free), (3, .free)] mixed (by kernel_rfl) ?_
    simp -implicitDefEqProofs only [go_sem, ↓reduceIte, Nat.reduceLT, Nat.reduceEqDiff, Nat.reduceAdd, Nat.reduceSub, Nat.reduceBEq, reduceCtorEq]
    repeat refine And.intro (by first | with_reducible rfl | assumption | omega | exact uni_bs _ | exact uni_bs [_] | exact uni_bs [_, _] | exact bs_byte _ | exact uni_bss _ | exact uni_bss [_] | exact Stable.refl _ | exact stable_last _ _ _ _ _ _ | trivial | rfl) ?_
    refine hK _ ?_; clear hK K
    refine CodeT.ret ?_
    simp -implicitDefEqProofs only [go_sem, ↓reduceIte, Nat.reduceLT, Nat.reduceEqDiff, Nat.reduceAdd, Nat.reduceSub, Nat.reduceBEq, reduceCtorEq, Try.f14, List.take_length, bss_length, parseR_len]
    have h5 : List.take (parseAll b).length (parseR b) = parseR b := List.take_of_length_le (by rw [parseR_len]; exact Nat.le_refl _)
    rw [h5]
    refine ⟨by rw [parseR_len]; exact Nat.le_refl _, rfl, _, rfl, ?_⟩
    rw [List.take_of_length_le (by rw [bss_length, parseR_len]; exact Nat.le_refl _)]
    rfl
end Go.Proofs.Try

namespace Go.Proofs.Try
set_option linter.unusedSimpArgs false
open Go.PM

structure DOp where
  flush : Bool
  at_ : Int
  bytes : List UInt8
structure Dsk where
  bytes : List UInt8
  queue : List DOp
def opv (o : DOp) : AV := .agg [.val (.bool o.flush), .val (.int .i64 o.at_), .sl false (bs o.bytes)]
def opvs (l : List DOp) : List AV := l.map opv
def dkv (d : Dsk) : AV := .agg [.sl false (bs d.bytes), .sl false (opvs d.queue)]
def kpv (d : Dsk) (seen : List UInt8) (half : Int) : AV := .cptr [.sl false (bs d.bytes), .sl false (opvs d.queue), .sl false (bs seen), .val (.int .i64 half)]

theorem half_len {n : Nat} (h : n ≤ 4000000) : IntKind.i64.wrap ((n : Int).tdiv 2) = ((n / 2 : Nat) : Int) := by
  have : (n : Int).tdiv 2 = ((n / 2 : Nat) : Int) := (Int.ofNat_tdiv n 2).symm
  rw [this, i64_in] <;> omega

theorem c66 (d : Dsk) (seen : List UInt8) (half : Int) (hd : d.bytes.length ≤ 4000000) : PureT Try.prog 66 [kpv d seen half] (· = .val (.int .i64 ((d.bytes.length / 2 : Nat) : Int))) := by
  unfold kpv
  refine CallT.intro Try.func66 (by decide) rfl ?_
  simp -implicitDefEqProofs only [go_sem, ↓reduceIte, Nat.reduceLT, Nat.reduceEqDiff, Nat.reduceAdd, Nat.reduceSub, Nat.reduceBEq, reduceCtorEq, enterTm, Try.ntmps66, List.range'_succ, List.range'_zero, List.zip_cons_cons, List.zip_nil_left]
  refine CodeT.seqK fun K hK => CodeT.region ?_
  simp -implicitDefEqProofs only [go_sem, ↓reduceIte, Nat.reduceLT, Nat.reduceEqDiff, Nat.reduceAdd, Nat.reduceSub, Nat.reduceBEq, reduceCtorEq]
  repeat refine And.intro (by first | with_reducible rfl | assumption | omega | exact uni_bs _ | exact uni_bs [_] | exact uni_bs [_, _] | exact bs_byte _ | exact uni_bss _ | exact uni_bss [_] | exact Stable.refl _ | exact stable_last _ _ _ _ _ _ | trivial | rfl) ?_
  refine hK _ ?_; clear hK K
  refine CodeT.seqK fun K hK => CodeT.region ?_
  simp -implicitDefEqProofs only [go_sem, ↓reduceIte, Nat.reduceLT, Nat.reduceEqDiff, Nat.reduceAdd, Nat.reduceSub, Nat.reduceBEq, reduceCtorEq, bs_length, half_len hd]
  repeat refine And.intro (by first | with_reducible rfl | assumption | omega | exact uni_bs _ | exact uni_bs [_] | exact uni_bs [_, _] | exact bs_byte _ | exact uni_bss _ | exact uni_bss [_] | exact Stable.refl _ | exact stable_last _ _ _ _ _ _ | trivial | rfl) ?_
  refine hK _ ?_; clear hK K
  refine CodeT.ret ?_
  simp -implicitDefEqProofs only [go_sem, ↓reduceIte, Nat.reduceLT, Nat.reduceEqDiff, Nat.reduceAdd, Nat.reduceSub, Nat.reduceBEq, reduceCtorEq, Try.f66]
  exact ⟨rfl, _, rfl, rfl⟩

theorem c106 (x : UInt8) : PureT Try.prog 106 [b8 x] (· = .val (.bool (x != 0))) := by
  refine CallT.intro Try.func106 (by decide) rfl ?_
  simp -implicitDefEqProofs only [go_sem, ↓reduceIte, Nat.reduceLT, Nat.reduceEqDiff, Nat.reduceAdd, Nat.reduceSub, Nat.reduceBEq, reduceCtorEq, enterTm, Try.ntmps106, List.range'_succ, List.range'_zero, List.zip_cons_cons, List.zip_nil_left]
  refine CodeT.seqK fun K hK => CodeT.region ?_
  simp -implicitDefEqProofs only [go_sem, ↓reduceIte, Nat.reduceLT, Nat.reduceEqDiff, Nat.reduceAdd, Nat.reduceSub, Nat.reduceBEq, reduceCtorEq]
  repeat refine And.intro (by first | with_reducible rfl | assumption | omega | exact uni_bs _ | exact uni_bs [_] | exact uni_bs [_, _] | exact bs_byte _ | exact uni_bss _ | exact uni_bss [_] | exact Stable.refl _ | exact stable_last _ _ _ _ _ _ | trivial | rfl) ?_
  refine hK _ ?_; clear hK K
  refine CodeT.seqK fun K hK => CodeT.region ?_
  simp -implicitDefEqProofs only [go_sem, ↓reduceIte, Nat.reduceLT, Nat.reduceEqDiff, Nat.reduceAdd, Nat.reduceSub, Nat.reduceBEq, reduceCtorEq]
  repeat refine And.intro (by first | with_reducible rfl | assumption | omega | exact uni_bs _ | exact uni_bs [_] | exact uni_bs [_, _] | exact bs_byte _ | exact uni_bss _ | exact uni_bss [_] | exact Stable.refl _ | exact stable_last _ _ _ _ _ _ | trivial | rfl) ?_
  refine hK _ ?_; clear hK K
  refine CodeT.ret ?_
  simp -implicitDefEqProofs only [go_sem, ↓reduceIte, Nat.reduceLT, Nat.reduceEqDiff, Nat.reduceAdd, Nat.reduceSub, Nat.reduceBEq, reduceCtorEq, Try.f106]
  refine ⟨rfl, _, rfl, ?_⟩
  rw [u8_0, u8_ne]

def idxOf (p : UInt8 → Bool) (l : List UInt8) : Int := match l.findIdx? p with
  | some i => (i : Int)
  | none => -1

theorem idx_here {p : UInt8 → Bool} {l : List UInt8} {i : Nat} (hi : i < l.length) (hn : ∀ j, j < i → p (l.getD j 0) = false) (hp : p (l.getD i 0) = true) : idxOf p l = i := by
  have : l.findIdx? p = some i := by
    rw [List.findIdx?_eq_some_iff_getElem]
    refine ⟨hi, ?_, fun j hj => ?_⟩
    · simpa [List.getD_eq_getElem?_getD, hi] using hp
    · have := hn j hj
      have hj' : j < l.length := by omega
      simpa [List.getD_eq_getElem?_getD, hj'] using this
  simp [idxOf, this]
theorem idx_none {p : UInt8 → Bool} {l : List UInt8} (hn : ∀ j, j < l.length → p (l.getD j 0) = false) : idxOf p l = -1 := by
  have : l.findIdx? p = none := by
    rw [List.findIdx?_eq_none_iff]
    intro x hx
    obtain ⟨j, hj, rfl⟩ := List.mem_iff_getElem.1 hx
    have := hn j hj
    simpa [List.getD_eq_getElem?_getD, hj] using this
  simp [idxOf, this]

theorem c109 (l : List UInt8) (f : FuncId) (p : UInt8 → Bool) (hf : ∀ x, PureT Try.prog f [b8 x] (· = .val (.bool (p x)))) (hl : l.length ≤ 4000000) : PureT Try.prog 109 [.sl false (bs l), .fn f []] (· = .val (.int .i64 (idxOf p l))) := by
  refine CallT.intro Try.func109 (by decide) rfl ?_
  simp -implicitDefEqProofs only [go_sem, ↓reduceIte, Nat.reduceLT, Nat.reduceEqDiff, Nat.reduceAdd, Nat.reduceSub, Nat.reduceBEq, reduceCtorEq, enterTm, Try.ntmps109, List.range'_succ, List.range'_zero, List.zip_cons_cons, List.zip_nil_left]
  refine CodeT.seqK fun K hK => CodeT.region ?_
  simp -implicitDefEqProofs only [go_sem, ↓reduceIte, Nat.reduceLT, Nat.reduceEqDiff, Nat.reduceAdd, Nat.reduceSub, Nat.reduceBEq, reduceCtorEq]
  repeat refine And.intro (by first | with_reducible rfl | assumption | omega | exact uni_bs _ | exact uni_bs [_] | exact uni_bs [_, _] | exact bs_byte _ | exact uni_bss _ | exact uni_bss [_] | exact Stable.refl _ | exact stable_last _ _ _ _ _ _ | trivial | rfl) ?_
  refine hK _ ?_; clear hK K
  refine CodeT.seqK fun K hK => ?_
  refine CodeT.seqK fun K2 hK2 => CodeT.region ?_
  simp -implicitDefEqProofs only [go_sem, ↓reduceIte, Nat.reduceLT, Nat.reduceEqDiff, Nat.reduceAdd, Nat.reduceSub, Nat.reduceBEq, reduceCtorEq, bs_length]
  repeat refine And.intro (by first | with_reducible rfl | assumption | omega | exact uni_bs _ | exact uni_bs [_] | exact uni_bs [_, _] | exact bs_byte _ | exact uni_bss _ | exact uni_bss [_] | exact Stable.refl _ | exact stable_last _ _ _ _ _ _ | trivial | rfl) ?_
  refine hK2 _ ?_; clear hK2 K2
  refine CodeT.block ?_
  refine CodeT.weak (s' := ⟨⟨19, [(8, .val (.int .i64 0)), (7, .val (.int .i64 (l.length : Nat))), (0, .sl false (bs l)), (1, .fn f [])]⟩, [], []⟩) ⟨rfl, by simp [go_sem], trivial, rfl, keepsD_nil _⟩ rfl ?_
  refine CodeT.loop (fun n s => ∃ i, i ≤ l.length ∧ (∀ j, j < i → p (l.getD j 0) = false) ∧ n = l.length - i ∧ s = ⟨⟨19, [(8, .val (.int .i64 (i : Nat))), (7, .val (.int .i64 (l.length : Nat))), (0, .sl false (bs l)), (1, .fn f [])]⟩, [], []⟩) (n := l.length) ?_ ?_
  · exact ⟨0, Nat.zero_le _, fun j hj => absurd hj (Nat.not_lt_zero _), rfl, rfl⟩
  rintro n s ⟨i, hi, hn, rfl, rfl⟩
  refine CodeT.lessN ?_
  refine CodeT.seqK fun K2 hK2 => CodeT.region ?_
  simp -implicitDefEqProofs only [go_sem, ↓reduceIte, Nat.reduceLT, Nat.reduceEqDiff, Nat.reduceAdd, Nat.reduceSub, Nat.reduceBEq, reduceCtorEq]
  repeat refine And.intro (by first | with_reducible rfl | assumption | omega | exact uni_bs _ | exact uni_bs [_] | exact uni_bs [_, _] | exact bs_byte _ | exact uni_bss _ | exact uni_bss [_] | exact Stable.refl _ | exact stable_last _ _ _ _ _ _ | trivial | rfl) ?_
  refine hK2 _ ?_; clear hK2 K2
  refine CodeT.seqK fun K2 hK2 => CodeT.cond rfl (fun ht => CodeT.skip ?_) (fun hf' => CodeT.exit ?_)
  · simp -implicitDefEqProofs only [go_sem, ↓reduceIte, Nat.reduceLT, Nat.reduceEqDiff, Nat.reduceAdd, Nat.reduceSub, Nat.reduceBEq, reduceCtorEq]
    repeat refine And.intro (by first | with_reducible rfl | assumption | omega | exact uni_bs _ | exact uni_bs [_] | exact uni_bs [_, _] | exact bs_byte _ | exact uni_bss _ | exact uni_bss [_] | exact Stable.refl _ | exact stable_last _ _ _ _ _ _ | trivial | rfl) ?_
    refine hK2 _ ?_; clear hK2 K2
    have hlt : i < l.length := by simp at ht; exact ht
    have hw1 : IntKind.i64.wrap ((i : Int) + 1) = ((i + 1 : Nat) : Int) := by rw [i64_in] <;> omega
    refine CodeT.seqK fun K2 hK2 => ?_
    refine CodeT.block ?_
    refine CodeT.seqK fun K3 hK3 => CodeT.region ?_
    simp -implicitDefEqProofs only [go_sem, ↓reduceIte, Nat.reduceLT, Nat.reduceEqDiff, Nat.reduceAdd, Nat.reduceSub, Nat.reduceBEq, reduceCtorEq]
    repeat refine And.intro (by first | with_reducible rfl | assumption | omega | exact uni_bs _ | exact uni_bs [_] | exact uni_bs [_, _] | exact bs_byte _ | exact uni_bss _ | exact uni_bss [_] | exact Stable.refl _ | exact stable_last _ _ _ _ _ _ | trivial | rfl) ?_
    refine hK3 _ ?_; clear hK3 K3
    refine CodeT.seqK fun K3 hK3 => ?_
    refine CodeT.region ?_
    simp -implicitDefEqProofs only [go_sem, ↓reduceIte, Nat.reduceLT, Nat.reduceEqDiff, Nat.reduceAdd, Nat.reduceSub, Nat.reduceBEq, reduceCtorEq, Int.toNat_natCast, bs_getD hlt, bs_length]
    repeat refine And.intro (by first | with_reducible rfl | assumption | omega | exact uni_bs _ | exact uni_bs [_] | exact uni_bs [_, _] | exact bs_byte _ | exact uni_bss _ | exact uni_bss [_] | exact Stable.refl _ | exact stable_last _ _ _ _ _ _ | trivial | rfl) ?_
    refine PureT.go (hf _) rfl fun x hx => ?_
    subst hx
    simp -implicitDefEqProofs only [go_sem, ↓reduceIte, Nat.reduceLT, Nat.reduceEqDiff, Nat.reduceAdd, Nat.reduceSub, Nat.reduceBEq, reduceCtorEq]
    repeat refine And.intro (by first | with_reducible rfl | assumption | omega | exact uni_bs _ | exact uni_bs [_] | exact uni_bs [_, _] | exact bs_byte _ | exact uni_bss _ | exact uni_bss [_] | exact Stable.refl _ | exact stable_last _ _ _ _ _ _ | trivial | rfl) ?_
    refine hK3 _ ?_; clear hK3 K3
    cases hpx : p (l.getD i 0)
    · refine CodeT.cond rfl (fun ht => by cases ht) (fun hf' => CodeT.skip ?_)
      simp -implicitDefEqProofs only [go_sem, ↓reduceIte, Nat.reduceLT, Nat.reduceEqDiff, Nat.reduceAdd, Nat.reduceSub, Nat.reduceBEq, reduceCtorEq]
      repeat refine And.intro (by first | with_reducible rfl | assumption | omega | exact uni_bs _ | exact uni_bs [_] | exact uni_bs [_, _] | exact bs_byte _ | exact uni_bss _ | exact uni_bss [_] | exact Stable.refl _ | exact stable_last _ _ _ _ _ _ | trivial | rfl) ?_
      refine hK2 _ ?_; clear hK2 K2
      refine CodeT.region ?_
      simp -implicitDefEqProofs only [go_sem, ↓reduceIte, Nat.reduceLT, Nat.reduceEqDiff, Nat.reduceAdd, Nat.reduceSub, Nat.reduceBEq, reduceCtorEq, hw1]
      repeat refine And.intro (by first | with_reducible rfl | assumption | omega | exact uni_bs _ | exact uni_bs [_] | exact uni_bs [_, _] | exact bs_byte _ | exact uni_bss _ | exact uni_bss [_] | exact Stable.refl _ | exact stable_last _ _ _ _ _ _ | trivial | rfl) ?_
      refine ⟨⟨⟨19, [(8, .val (.int .i64 ((i + 1 : Nat) : Int))), (7, .val (.int .i64 (l.length : Nat))), (0, .sl false (bs l)), (1, .fn f [])]⟩, [], []⟩, ⟨rfl, ?_, trivial, rfl, keepsD_nil _⟩, Nat.le_refl _, l.length - (i + 1), by omega, i + 1, hlt, fun j hj => ?_, rfl, rfl⟩
      · simp [go_sem]
      · rcases Nat.lt_or_eq_of_le (Nat.le_of_lt_succ hj) with h | h
        · exact hn j h
        · rw [h]; exact hpx
    · refine CodeT.cond rfl (fun ht => ?_) (fun hf' => by cases hf')
      refine CodeT.seqK fun K4 hK4 => CodeT.region ?_
      simp -implicitDefEqProofs only [go_sem, ↓reduceIte, Nat.reduceLT, Nat.reduceEqDiff, Nat.reduceAdd, Nat.reduceSub, Nat.reduceBEq, reduceCtorEq]
      repeat refine And.intro (by first | with_reducible rfl | assumption | omega | exact uni_bs _ | exact uni_bs [_] | exact uni_bs [_, _] | exact bs_byte _ | exact uni_bss _ | exact uni_bss [_] | exact Stable.refl _ | exact stable_last _ _ _ _ _ _ | trivial | rfl) ?_
      refine hK4 _ ?_; clear hK4 K4
      refine CodeT.ret ?_
      simp -implicitDefEqProofs only [go_sem, ↓reduceIte, Nat.reduceLT, Nat.reduceEqDiff, Nat.reduceAdd, Nat.reduceSub, Nat.reduceBEq, reduceCtorEq, Try.f109]
      refine ⟨rfl, _, rfl, ?_⟩
      rw [idx_here hlt hn hpx]
  · simp -implicitDefEqProofs only [go_sem, ↓reduceIte, Nat.reduceLT, Nat.reduceEqDiff, Nat.reduceAdd, Nat.reduceSub, Nat.reduceBEq, reduceCtorEq]
    clear hK2 K2
    repeat refine And.intro (by first | with_reducible rfl | assumption | omega | exact uni_bs _ | exact uni_bs [_] | exact uni_bs [_, _] | exact bs_byte _ | exact uni_bss _ | exact uni_bss [_] | exact Stable.refl _ | exact stable_last _ _ _ _ _ _ | trivial | rfl) ?_
    refine hK _ ?_; clear hK K
    refine CodeT.seqK fun K hK => CodeT.region ?_
    simp -implicitDefEqProofs only [go_sem, ↓reduceIte, Nat.reduceLT, Nat.reduceEqDiff, Nat.reduceAdd, Nat.reduceSub, Nat.reduceBEq, reduceCtorEq]
    repeat refine And.intro (by first | with_reducible rfl | assumption | omega | exact uni_bs _ | exact uni_bs [_] | exact uni_bs [_, _] | exact bs_byte _ | exact uni_bss _ | exact uni_bss [_] | exact Stable.refl _ | exact stable_last _ _ _ _ _ _ | trivial | rfl) ?_
    refine hK _ ?_; clear hK K
    refine CodeT.ret ?_
    simp -implicitDefEqProofs only [go_sem, ↓reduceIte, Nat.reduceLT, Nat.reduceEqDiff, Nat.reduceAdd, Nat.reduceSub, Nat.reduceBEq, reduceCtorEq, Try.f109]
    refine ⟨rfl, _, rfl, ?_⟩
    have hil : i = l.length := by simp at hf'; omega
    subst hil
    rw [idx_none hn]

def anyB (p : UInt8 → Bool) (l : List UInt8) : Bool := l.any p

end Go.Proofs.Try

namespace Go.Proofs.Try
set_option linter.unusedSimpArgs false
open Go.PM

theorem idx_ge (p : UInt8 → Bool) (l : List UInt8) : decide (idxOf p l ≥ 0) = l.any p := by
  unfold idxOf
  cases h : l.findIdx? p with
  | none =>
    rw [List.findIdx?_eq_none_iff] at h
    have : l.any p = false := by rw [List.any_eq_false]; intro x hx; rw [h x hx]; simp
    rw [this]; rfl
  | some i =>
    have hi := List.findIdx?_eq_some_iff_getElem.1 h
    obtain ⟨h1, h2, _⟩ := hi
    have : l.any p = true := by rw [List.any_eq_true]; exact ⟨l[i], List.getElem_mem h1, h2⟩
    rw [this]; simp

theorem c105 (l : List UInt8) (f : FuncId) (p : UInt8 → Bool) (hf : ∀ x, PureT Try.prog f [b8 x] (· = .val (.bool (p x)))) (hl : l.length ≤ 4000000) : PureT Try.prog 105 [.sl false (bs l), .fn f []] (· = .val (.bool (l.any p))) := by
  refine CallT.intro Try.func105 (by decide) rfl ?_
  simp -implicitDefEqProofs only [go_sem, ↓reduceIte, Nat.reduceLT, Nat.reduceEqDiff, Nat.reduceAdd, Nat.reduceSub, Nat.reduceBEq, reduceCtorEq, enterTm, Try.ntmps105, List.range'_succ, List.range'_zero, List.zip_cons_cons, List.zip_nil_left]
  refine CodeT.seqK fun K hK => CodeT.region ?_
  simp -implicitDefEqProofs only [go_sem, ↓reduceIte, Nat.reduceLT, Nat.reduceEqDiff, Nat.reduceAdd, Nat.reduceSub, Nat.reduceBEq, reduceCtorEq]
  repeat refine And.intro (by first | with_reducible rfl | assumption | omega | exact uni_bs _ | exact uni_bs [_] | exact uni_bs [_, _] | exact bs_byte _ | exact uni_bss _ | exact uni_bss [_] | exact Stable.refl _ | exact stable_last _ _ _ _ _ _ | trivial | rfl) ?_
  refine hK _ ?_; clear hK K
  refine CodeT.seqK fun K hK => CodeT.region ?_
  simp -implicitDefEqProofs only [go_sem, ↓reduceIte, Nat.reduceLT, Nat.reduceEqDiff, Nat.reduceAdd, Nat.reduceSub, Nat.reduceBEq, reduceCtorEq]
  repeat refine And.intro (by first | with_reducible rfl | assumption | omega | exact uni_bs _ | exact uni_bs [_] | exact uni_bs [_, _] | exact bs_byte _ | exact uni_bss _ | exact uni_bss [_] | exact Stable.refl _ | exact stable_last _ _ _ _ _ _ | trivial | rfl) ?_
  refine PureT.go (c109 l f p hf hl) rfl fun x hx => ?_
  subst hx
  simp -implicitDefEqProofs only [go_sem, ↓reduceIte, Nat.reduceLT, Nat.reduceEqDiff, Nat.reduceAdd, Nat.reduceSub, Nat.reduceBEq, reduceCtorEq, idx_ge]
  repeat refine And.intro (by first | with_reducible rfl | assumption | omega | exact uni_bs _ | exact uni_bs [_] | exact uni_bs [_, _] | exact bs_byte _ | exact uni_bss _ | exact uni_bss [_] | exact Stable.refl _ | exact stable_last _ _ _ _ _ _ | trivial | rfl) ?_
  refine hK _ ?_; clear hK K
  refine CodeT.ret ?_
  simp -implicitDefEqProofs only [go_sem, ↓reduceIte, Nat.reduceLT, Nat.reduceEqDiff, Nat.reduceAdd, Nat.reduceSub, Nat.reduceBEq, reduceCtorEq, Try.f105]
  exact ⟨rfl, _, rfl, rfl⟩

def zerosB (l : List UInt8) : Bool := !l.any (· != 0)
theorem c63 (l : List UInt8) (hl : l.length ≤ 4000000) : PureT Try.prog 63 [.sl false (bs l)] (· = .val (.bool (zerosB l))) := by
  refine CallT.intro Try.func63 (by decide) rfl ?_
  simp -implicitDefEqProofs only [go_sem, ↓reduceIte, Nat.reduceLT, Nat.reduceEqDiff, Nat.reduceAdd, Nat.reduceSub, Nat.reduceBEq, reduceCtorEq, enterTm, Try.ntmps63, List.range'_succ, List.range'_zero, List.zip_cons_cons, List.zip_nil_left]
  refine CodeT.seqK fun K hK => CodeT.region ?_
  simp -implicitDefEqProofs only [go_sem, ↓reduceIte, Nat.reduceLT, Nat.reduceEqDiff, Nat.reduceAdd, Nat.reduceSub, Nat.reduceBEq, reduceCtorEq]
  repeat refine And.intro (by first | with_reducible rfl | assumption | omega | exact uni_bs _ | exact uni_bs [_] | exact uni_bs [_, _] | exact bs_byte _ | exact uni_bss _ | exact uni_bss [_] | exact Stable.refl _ | exact stable_last _ _ _ _ _ _ | trivial | rfl) ?_
  refine hK _ ?_; clear hK K
  refine CodeT.seqK fun K hK => CodeT.region ?_
  simp -implicitDefEqProofs only [go_sem, ↓reduceIte, Nat.reduceLT, Nat.reduceEqDiff, Nat.reduceAdd, Nat.reduceSub, Nat.reduceBEq, reduceCtorEq]
  repeat refine And.intro (by first | with_reducible rfl | assumption | omega | exact uni_bs _ | exact uni_bs [_] | exact uni_bs [_, _] | exact bs_byte _ | exact uni_bss _ | exact uni_bss [_] | exact Stable.refl _ | exact stable_last _ _ _ _ _ _ | trivial | rfl) ?_
  refine PureT.go (c105 l 106 _ c106 hl) rfl fun x hx => ?_
  subst hx
  simp -implicitDefEqProofs only [go_sem, ↓reduceIte, Nat.reduceLT, Nat.reduceEqDiff, Nat.reduceAdd, Nat.reduceSub, Nat.reduceBEq, reduceCtorEq]
  repeat refine And.intro (by first | with_reducible rfl | assumption | omega | exact uni_bs _ | exact uni_bs [_] | exact uni_bs [_, _] | exact bs_byte _ | exact uni_bss _ | exact uni_bss [_] | exact Stable.refl _ | exact stable_last _ _ _ _ _ _ | trivial | rfl) ?_
  refine hK _ ?_; clear hK K
  refine CodeT.ret ?_
  simp -implicitDefEqProofs only [go_sem, ↓reduceIte, Nat.reduceLT, Nat.reduceEqDiff, Nat.reduceAdd, Nat.reduceSub, Nat.reduceBEq, reduceCtorEq, Try.f63]
  exact ⟨rfl, _, rfl, rfl⟩

def halfAt (b : List UInt8) : Nat := if b.getD 0 0 = 0 then 1 else 1 + b.length / 2
theorem c103 (b : List UInt8) (h0 : 0 < b.length) (hb : b.length ≤ 4000000) : PureT Try.prog 103 [.sl false (bs b)] (· = .val (.int .i64 (halfAt b : Nat))) := by
  refine CallT.intro Try.func103 (by decide) rfl ?_
  simp -implicitDefEqProofs only [go_sem, ↓reduceIte, Nat.reduceLT, Nat.reduceEqDiff, Nat.reduceAdd, Nat.reduceSub, Nat.reduceBEq, reduceCtorEq, enterTm, Try.ntmps103, List.range'_succ, List.range'_zero, List.zip_cons_cons, List.zip_nil_left]
  refine CodeT.seqK fun K hK => CodeT.region ?_
  simp -implicitDefEqProofs only [go_sem, ↓reduceIte, Nat.reduceLT, Nat.reduceEqDiff, Nat.reduceAdd, Nat.reduceSub, Nat.reduceBEq, reduceCtorEq]
  repeat refine And.intro (by first | with_reducible rfl | assumption | omega | exact uni_bs _ | exact uni_bs [_] | exact uni_bs [_, _] | exact bs_byte _ | exact uni_bss _ | exact uni_bss [_] | exact Stable.refl _ | exact stable_last _ _ _ _ _ _ | trivial | rfl) ?_
  refine hK _ ?_; clear hK K
  refine CodeT.seqK fun K hK => ?_
  refine CodeT.seqK fun K1 hK1 => CodeT.region ?_
  simp -implicitDefEqProofs only [go_sem, ↓reduceIte, Nat.reduceLT, Nat.reduceEqDiff, Nat.reduceAdd, Nat.reduceSub, Nat.reduceBEq, reduceCtorEq, bs_getD h0, bs_length]
  repeat refine And.intro (by first | with_reducible rfl | assumption | omega | exact uni_bs _ | exact uni_bs [_] | exact uni_bs [_, _] | exact bs_byte _ | exact uni_bss _ | exact uni_bss [_] | exact Stable.refl _ | exact stable_last _ _ _ _ _ _ | trivial | rfl) ?_
  refine hK1 _ ?_; clear hK1 K1
  refine CodeT.cond rfl (fun ht => ?_) (fun hf => CodeT.skip ?_)
  · have hx : b.getD 0 0 = 0 := by rw [u8_0, u8_eq] at ht; simpa using ht
    refine CodeT.seqK fun K1 hK1 => CodeT.region ?_
    simp -implicitDefEqProofs only [go_sem, ↓reduceIte, Nat.reduceLT, Nat.reduceEqDiff, Nat.reduceAdd, Nat.reduceSub, Nat.reduceBEq, reduceCtorEq]
    repeat refine And.intro (by first | with_reducible rfl | assumption | omega | exact uni_bs _ | exact uni_bs [_] | exact uni_bs [_, _] | exact bs_byte _ | exact uni_bss _ | exact uni_bss [_] | exact Stable.refl _ | exact stable_last _ _ _ _ _ _ | trivial | rfl) ?_
    refine hK1 _ ?_; clear hK1 K1
    refine CodeT.ret ?_
    simp -implicitDefEqProofs only [go_sem, ↓reduceIte, Nat.reduceLT, Nat.reduceEqDiff, Nat.reduceAdd, Nat.reduceSub, Nat.reduceBEq, reduceCtorEq, Try.f103]
    refine ⟨rfl, _, rfl, ?_⟩
    rw [halfAt, if_pos hx]; rfl
  · have hx : ¬ b.getD 0 0 = 0 := by rw [u8_0, u8_eq] at hf; simpa using hf
    simp -implicitDefEqProofs only [go_sem, ↓reduceIte, Nat.reduceLT, Nat.reduceEqDiff, Nat.reduceAdd, Nat.reduceSub, Nat.reduceBEq, reduceCtorEq]
    repeat refine And.intro (by first | with_reducible rfl | assumption | omega | exact uni_bs _ | exact uni_bs [_] | exact uni_bs [_, _] | exact bs_byte _ | exact uni_bss _ | exact uni_bss [_] | exact Stable.refl _ | exact stable_last _ _ _ _ _ _ | trivial | rfl) ?_
    refine hK _ ?_; clear hK K
    have hw : IntKind.i64.wrap (1 + ((b.length / 2 : Nat) : Int)) = ((1 + b.length / 2 : Nat) : Int) := by rw [i64_in] <;> omega
    refine CodeT.seqK fun K hK => CodeT.region ?_
    simp -implicitDefEqProofs only [go_sem, ↓reduceIte, Nat.reduceLT, Nat.reduceEqDiff, Nat.reduceAdd, Nat.reduceSub, Nat.reduceBEq, reduceCtorEq, bs_length, half_len hb, hw]
    repeat refine And.intro (by first | with_reducible rfl | assumption | omega | exact uni_bs _ | exact uni_bs [_] | exact uni_bs [_, _] | exact bs_byte _ | exact uni_bss _ | exact uni_bss [_] | exact Stable.refl _ | exact stable_last _ _ _ _ _ _ | trivial | rfl) ?_
    refine hK _ ?_; clear hK K
    refine CodeT.ret ?_
    simp -implicitDefEqProofs only [go_sem, ↓reduceIte, Nat.reduceLT, Nat.reduceEqDiff, Nat.reduceAdd, Nat.reduceSub, Nat.reduceBEq, reduceCtorEq, Try.f103]
    refine ⟨rfl, _, rfl, ?_⟩
    rw [halfAt, if_neg hx]

theorem c104 (d : Dsk) (seen : List UInt8) (half : Int) (b : List UInt8) (h : Nat) (hd : d.bytes.length ≤ 4000000) (hb : b.length ≤ 4000000) (hh : h + d.bytes.length / 2 ≤ b.length) :
    PureT Try.prog 104 [kpv d seen half, .sl false (bs b), .val (.int .i64 (h : Nat))] (· = .sl false (bs ((b.drop h).take (d.bytes.length / 2)))) := by
  have hw : IntKind.i64.wrap ((h : Int) + ((d.bytes.length / 2 : Nat) : Int)) = ((h + d.bytes.length / 2 : Nat) : Int) := by rw [i64_in] <;> omega
  refine CallT.intro Try.func104 (by decide) rfl ?_
  simp -implicitDefEqProofs only [go_sem, ↓reduceIte, Nat.reduceLT, Nat.reduceEqDiff, Nat.reduceAdd, Nat.reduceSub, Nat.reduceBEq, reduceCtorEq, enterTm, Try.ntmps104, List.range'_succ, List.range'_zero, List.zip_cons_cons, List.zip_nil_left]
  refine CodeT.seqK fun K hK => CodeT.region ?_
  simp -implicitDefEqProofs only [go_sem, ↓reduceIte, Nat.reduceLT, Nat.reduceEqDiff, Nat.reduceAdd, Nat.reduceSub, Nat.reduceBEq, reduceCtorEq]
  repeat refine And.intro (by first | with_reducible rfl | assumption | omega | exact uni_bs _ | exact uni_bs [_] | exact uni_bs [_, _] | exact bs_byte _ | exact uni_bss _ | exact uni_bss [_] | exact Stable.refl _ | exact stable_last _ _ _ _ _ _ | trivial | rfl) ?_
  refine hK _ ?_; clear hK K
  refine CodeT.seqK fun K hK => CodeT.region ?_
  simp -implicitDefEqProofs only [go_sem, ↓reduceIte, Nat.reduceLT, Nat.reduceEqDiff, Nat.reduceAdd, Nat.reduceSub, Nat.reduceBEq, reduceCtorEq]
  repeat refine And.intro (by first | with_reducible rfl | assumption | omega | exact uni_bs _ | exact uni_bs [_] | exact uni_bs [_, _] | exact bs_byte _ | exact uni_bss _ | exact uni_bss [_] | exact Stable.refl _ | exact stable_last _ _ _ _ _ _ | trivial | rfl) ?_
  refine PureT.go (c66 d seen half hd) rfl fun x hx => ?_
  subst hx
  simp -implicitDefEqProofs only [go_sem, ↓reduceIte, Nat.reduceLT, Nat.reduceEqDiff, Nat.reduceAdd, Nat.reduceSub, Nat.reduceBEq, reduceCtorEq, bs_length, hw, bs_take, bs_drop]
  repeat refine And.intro (by first | with_reducible rfl | assumption | omega | exact uni_bs _ | exact uni_bs [_] | exact uni_bs [_, _] | exact bs_byte _ | exact uni_bss _ | exact uni_bss [_] | exact Stable.refl _ | exact stable_last _ _ _ _ _ _ | trivial | rfl) ?_
  refine hK _ ?_; clear hK K
  refine CodeT.ret ?_
  simp -implicitDefEqProofs only [go_sem, ↓reduceIte, Nat.reduceLT, Nat.reduceEqDiff, Nat.reduceAdd, Nat.reduceSub, Nat.reduceBEq, reduceCtorEq, Try.f104]
  refine ⟨rfl, _, rfl, ?_⟩
  rw [List.drop_take, show h + d.bytes.length / 2 - h = d.bytes.length / 2 by omega]

def usedB (d : Dsk) (seen : List UInt8) (half : Nat) : List UInt8 := (seen.drop half).take (d.bytes.length / 2)
theorem c62 (d : Dsk) (seen : List UInt8) (half : Nat) (hd : d.bytes.length ≤ 4000000) (hs : seen.length ≤ 4000000) (hh : half + d.bytes.length / 2 ≤ seen.length) :
    PureT Try.prog 62 [kpv d seen half] (· = .sl false (bs (usedB d seen half))) := by
  refine CallT.intro Try.func62 (by decide) rfl ?_
  simp -implicitDefEqProofs only [go_sem, ↓reduceIte, Nat.reduceLT, Nat.reduceEqDiff, Nat.reduceAdd, Nat.reduceSub, Nat.reduceBEq, reduceCtorEq, enterTm, Try.ntmps62, List.range'_succ, List.range'_zero, List.zip_cons_cons, List.zip_nil_left]
  refine CodeT.seqK fun K hK => CodeT.region ?_
  simp -implicitDefEqProofs only [go_sem, ↓reduceIte, Nat.reduceLT, Nat.reduceEqDiff, Nat.reduceAdd, Nat.reduceSub, Nat.reduceBEq, reduceCtorEq]
  repeat refine And.intro (by first | with_reducible rfl | assumption | omega | exact uni_bs _ | exact uni_bs [_] | exact uni_bs [_, _] | exact bs_byte _ | exact uni_bss _ | exact uni_bss [_] | exact Stable.refl _ | exact stable_last _ _ _ _ _ _ | trivial | rfl) ?_
  refine hK _ ?_; clear hK K
  refine CodeT.seqK fun K hK => CodeT.drawnL [(0, .free), (1, .free), (2, .free), (3, .free), (4, .read), (5, .free), (6, .free), (7, .free), (8, .read), (9, .free), (10, .free)] mixed (by kernel_rfl) ?_
  simp -implicitDefEqProofs only [go_sem, ↓reduceIte, Nat.reduceLT, Nat.reduceEqDiff, Nat.reduceAdd, Nat.reduceSub, Nat.reduceBEq, reduceCtorEq, kpv]
  repeat refine And.intro (by first | with_reducible rfl | omega) ?_
  refine CallF.go (c104 d seen half seen half hd hs hh) rfl ?_
  simp -implicitDefEqProofs only [go_sem, ↓reduceIte, Nat.reduceLT, Nat.reduceEqDiff, Nat.reduceAdd, Nat.reduceSub, Nat.reduceBEq, reduceCtorEq]
  repeat refine And.intro (by first | with_reducible rfl | assumption | omega | exact uni_bs _ | exact uni_bs [_] | exact uni_bs [_, _] | exact bs_byte _ | exact uni_bss _ | exact uni_bss [_] | exact Stable.refl _ | exact stable_last _ _ _ _ _ _ | trivial | rfl) ?_
  refine hK _ ?_; clear hK K
  refine CodeT.ret ?_
  simp -implicitDefEqProofs only [go_sem, ↓reduceIte, Nat.reduceLT, Nat.reduceEqDiff, Nat.reduceAdd, Nat.reduceSub, Nat.reduceBEq, reduceCtorEq, Try.f62]
  exact ⟨rfl, _, rfl, rfl⟩

theorem c78 (d : Dsk) (seen : List UInt8) (half : Nat) (hd : d.bytes.length ≤ 4000000) (hh : half ≤ 4000000) :
    PureT Try.prog 78 [kpv d seen half] (· = .val (.int .i64 (2 + ((d.bytes.length / 2 : Nat) : Int) - (half : Nat)))) := by
  have hw : IntKind.i64.wrap (2 + ((d.bytes.length / 2 : Nat) : Int)) = 2 + ((d.bytes.length / 2 : Nat) : Int) := by rw [i64_in] <;> omega
  have hw2 : IntKind.i64.wrap (2 + ((d.bytes.length / 2 : Nat) : Int) - (half : Nat)) = 2 + ((d.bytes.length / 2 : Nat) : Int) - (half : Nat) := by rw [i64_in] <;> omega
  refine CallT.intro Try.func78 (by decide) rfl ?_
  simp -implicitDefEqProofs only [go_sem, ↓reduceIte, Nat.reduceLT, Nat.reduceEqDiff, Nat.reduceAdd, Nat.reduceSub, Nat.reduceBEq, reduceCtorEq, enterTm, Try.ntmps78, List.range'_succ, List.range'_zero, List.zip_cons_cons, List.zip_nil_left]
  refine CodeT.seqK fun K hK => CodeT.region ?_
  simp -implicitDefEqProofs only [go_sem, ↓reduceIte, Nat.reduceLT, Nat.reduceEqDiff, Nat.reduceAdd, Nat.reduceSub, Nat.reduceBEq, reduceCtorEq]
  repeat refine And.intro (by first | with_reducible rfl | assumption | omega | exact uni_bs _ | exact uni_bs [_] | exact uni_bs [_, _] | exact bs_byte _ | exact uni_bss _ | exact uni_bss [_] | exact Stable.refl _ | exact stable_last _ _ _ _ _ _ | trivial | rfl) ?_
  refine hK _ ?_; clear hK K
  refine CodeT.seqK fun K hK => CodeT.drawnL [(0, .free), (1, .free), (2, .free), (3, .free), (4, .free), (5, .free), (6, .read), (7, .free), (8, .free)] mixed (by kernel_rfl) ?_
  simp -implicitDefEqProofs only [go_sem, ↓reduceIte, Nat.reduceLT, Nat.reduceEqDiff, Nat.reduceAdd, Nat.reduceSub, Nat.reduceBEq, reduceCtorEq, kpv]
  repeat refine And.intro (by first | with_reducible rfl | omega) ?_
  refine CallF.go (c66 d seen half hd) rfl ?_
  simp -implicitDefEqProofs only [go_sem, ↓reduceIte, Nat.reduceLT, Nat.reduceEqDiff, Nat.reduceAdd, Nat.reduceSub, Nat.reduceBEq, reduceCtorEq, hw, hw2]
  repeat refine And.intro (by first | with_reducible rfl | assumption | omega | exact uni_bs _ | exact uni_bs [_] | exact uni_bs [_, _] | exact bs_byte _ | exact uni_bss _ | exact uni_bss [_] | exact Stable.refl _ | exact stable_last _ _ _ _ _ _ | trivial | rfl) ?_
  refine hK _ ?_; clear hK K
  refine CodeT.ret ?_
  simp -implicitDefEqProofs only [go_sem, ↓reduceIte, Nat.reduceLT, Nat.reduceEqDiff, Nat.reduceAdd, Nat.reduceSub, Nat.reduceBEq, reduceCtorEq, Try.f78]
  exact ⟨rfl, _, rfl, rfl⟩

theorem c64 : PureT Try.prog 64 [] (· = opv ⟨true, 0, []⟩) := by
  refine CallT.laxR ?_
  refine CallT.intro Try.func64 (by decide) rfl ?_
  simp -implicitDefEqProofs only [go_sem, ↓reduceIte, Nat.reduceLT, Nat.reduceEqDiff, Nat.reduceAdd, Nat.reduceSub, Nat.reduceBEq, reduceCtorEq, enterTm, Try.ntmps64, List.range'_succ, List.range'_zero, List.zip_cons_cons, List.zip_nil_left]
  refine CodeT.seqK fun K hK => CodeT.region ?_
  simp -implicitDefEqProofs only [go_sem, ↓reduceIte, Nat.reduceLT, Nat.reduceEqDiff, Nat.reduceAdd, Nat.reduceSub, Nat.reduceBEq, reduceCtorEq]
  repeat refine And.intro (by first | with_reducible rfl | assumption | omega | exact uni_bs _ | exact uni_bs [_] | exact uni_bs [_, _] | exact bs_byte _ | exact uni_bss _ | exact uni_bss [_] | exact Stable.refl _ | exact stable_last _ _ _ _ _ _ | trivial | rfl) ?_
  refine hK _ ?_; clear hK K
  refine CodeT.seqK fun K hK => CodeT.region ?_
  simp -implicitDefEqProofs only [go_sem, ↓reduceIte, Nat.reduceLT, Nat.reduceEqDiff, Nat.reduceAdd, Nat.reduceSub, Nat.reduceBEq, reduceCtorEq]
  repeat refine And.intro (by first | with_reducible rfl | assumption | omega | exact uni_bs _ | exact uni_bs [_] | exact uni_bs [_, _] | exact bs_byte _ | exact uni_bss _ | exact uni_bss [_] | exact Stable.refl _ | exact stable_last _ _ _ _ _ _ | trivial | rfl) ?_
  refine hK _ ?_; clear hK K
  refine CodeT.ret ?_
  simp -implicitDefEqProofs only [go_sem, ↓reduceIte, Nat.reduceLT, Nat.reduceEqDiff, Nat.reduceAdd, Nat.reduceSub, Nat.reduceBEq, reduceCtorEq, Try.f64]
  refine ⟨by decide, rfl, _, rfl, rfl⟩

theorem c65 (n : Int) (b : List UInt8) : PureT Try.prog 65 [.val (.int .i64 n), .sl false (bs b)] (· = opv ⟨false, n, b⟩) := by
  refine CallT.intro Try.func65 (by decide) rfl ?_
  simp -implicitDefEqProofs only [go_sem, ↓reduceIte, Nat.reduceLT, Nat.reduceEqDiff, Nat.reduceAdd, Nat.reduceSub, Nat.reduceBEq, reduceCtorEq, enterTm, Try.ntmps65, List.range'_succ, List.range'_zero, List.zip_cons_cons, List.zip_nil_left]
  refine CodeT.seqK fun K hK => CodeT.region ?_
  simp -implicitDefEqProofs only [go_sem, ↓reduceIte, Nat.reduceLT, Nat.reduceEqDiff, Nat.reduceAdd, Nat.reduceSub, Nat.reduceBEq, reduceCtorEq]
  repeat refine And.intro (by first | with_reducible rfl | assumption | omega | exact uni_bs _ | exact uni_bs [_] | exact uni_bs [_, _] | exact bs_byte _ | exact uni_bss _ | exact uni_bss [_] | exact Stable.refl _ | exact stable_last _ _ _ _ _ _ | trivial | rfl) ?_
  refine hK _ ?_; clear hK K
  refine CodeT.seqK fun K hK => CodeT.region ?_
  simp -implicitDefEqProofs only [go_sem, ↓reduceIte, Nat.reduceLT, Nat.reduceEqDiff, Nat.reduceAdd, Nat.reduceSub, Nat.reduceBEq, reduceCtorEq]
  repeat refine And.intro (by first | with_reducible rfl | assumption | omega | exact uni_bs _ | exact uni_bs [_] | exact uni_bs [_, _] | exact bs_byte _ | exact uni_bss _ | exact uni_bss [_] | exact Stable.refl _ | exact stable_last _ _ _ _ _ _ | trivial | rfl) ?_
  refine hK _ ?_; clear hK K
  refine CodeT.ret ?_
  simp -implicitDefEqProofs only [go_sem, ↓reduceIte, Nat.reduceLT, Nat.reduceEqDiff, Nat.reduceAdd, Nat.reduceSub, Nat.reduceBEq, reduceCtorEq, Try.f65]
  refine ⟨by decide, rfl, _, rfl, rfl⟩

def sizeB (n : Nat) : Bool := decide (n % 2 = 1) && decide (64 ≤ n / 2) && decide (n / 2 ≤ 1048576)
theorem c80 (n : Nat) (hn : n ≤ 4000000) : PureT Try.prog 80 [.val (.int .i64 (n : Nat))] (· = .val (.bool (sizeB n))) := by
  have hm : ((n : Int).tmod 2 == 1) = decide (n % 2 = 1) := by
    have : (n : Int).tmod 2 = ((n % 2 : Nat) : Int) := (Int.ofNat_tmod n 2).symm
    rw [this, Bool.eq_iff_iff]; simp; omega
  have h1 : decide (((n / 2 : Nat) : Int) ≥ 64) = decide (64 ≤ n / 2) := by rw [Bool.eq_iff_iff]; simp; omega
  have h2 : decide (((n / 2 : Nat) : Int) ≤ 1048576) = decide (n / 2 ≤ 1048576) := by rw [Bool.eq_iff_iff]; simp; omega
  refine CallT.intro Try.func80 (by decide) rfl ?_
  simp -implicitDefEqProofs only [go_sem, ↓reduceIte, Nat.reduceLT, Nat.reduceEqDiff, Nat.reduceAdd, Nat.reduceSub, Nat.reduceBEq, reduceCtorEq, enterTm, Try.ntmps80, List.range'_succ, List.range'_zero, List.zip_cons_cons, List.zip_nil_left]
  refine CodeT.seqK fun K hK => CodeT.region ?_
  simp -implicitDefEqProofs only [go_sem, ↓reduceIte, Nat.reduceLT, Nat.reduceEqDiff, Nat.reduceAdd, Nat.reduceSub, Nat.reduceBEq, reduceCtorEq]
  repeat refine And.intro (by first | with_reducible rfl | assumption | omega | exact uni_bs _ | exact uni_bs [_] | exact uni_bs [_, _] | exact bs_byte _ | exact uni_bss _ | exact uni_bss [_] | exact Stable.refl _ | exact stable_last _ _ _ _ _ _ | trivial | rfl) ?_
  refine hK _ ?_; clear hK K
  cases a1 : decide (n % 2 = 1) <;> cases a2 : decide (64 ≤ n / 2) <;> cases a3 : decide (n / 2 ≤ 1048576)
  all_goals
    refine CodeT.seqK fun K hK => CodeT.region ?_
    simp -implicitDefEqProofs only [go_sem, ↓reduceIte, Nat.reduceLT, Nat.reduceEqDiff, Nat.reduceAdd, Nat.reduceSub, Nat.reduceBEq, reduceCtorEq, hm, half_len hn, h1, h2, a1, a2, a3]
    repeat refine And.intro (by first | with_reducible rfl | assumption | omega | exact uni_bs _ | exact uni_bs [_] | exact uni_bs [_, _] | exact bs_byte _ | exact uni_bss _ | exact uni_bss [_] | exact Stable.refl _ | exact stable_last _ _ _ _ _ _ | trivial | rfl) ?_
    refine hK _ ?_; clear hK K
    refine CodeT.ret ?_
    simp -implicitDefEqProofs only [go_sem, ↓reduceIte, Nat.reduceLT, Nat.reduceEqDiff, Nat.reduceAdd, Nat.reduceSub, Nat.reduceBEq, reduceCtorEq, Try.f80]
    exact ⟨rfl, _, rfl, by simp only [sizeB, a1, a2, a3]; rfl⟩
end Go.Proofs.Try

namespace Go.Proofs.Try
set_option linter.unusedSimpArgs false
open Go.PM

def fitsB (o : DOp) (n : Nat) : Bool := if o.flush = true then o.at_ == 0 && decide (o.bytes.length = 0) else decide (0 < o.bytes.length) && decide (o.at_ ≥ 0) && decide (o.at_ ≤ (n : Int)) && decide ((o.bytes.length : Int) ≤ (n : Int) - o.at_)

theorem c54 (o : DOp) (n : Nat) (hn : n ≤ 4000000) : PureT Try.prog 54 [opv o, .val (.int .i64 (n : Nat))] (· = .val (.bool (fitsB o n))) := by
  obtain ⟨fl, at_, bytes⟩ := o
  unfold opv
  refine CallT.intro Try.func54 (by decide) rfl ?_
  simp -implicitDefEqProofs only [go_sem, ↓reduceIte, Nat.reduceLT, Nat.reduceEqDiff, Nat.reduceAdd, Nat.reduceSub, Nat.reduceBEq, reduceCtorEq, enterTm, Try.ntmps54, List.range'_succ, List.range'_zero, List.zip_cons_cons, List.zip_nil_left]
  refine CodeT.seqK fun K hK => CodeT.region ?_
  simp -implicitDefEqProofs only [go_sem, ↓reduceIte, Nat.reduceLT, Nat.reduceEqDiff, Nat.reduceAdd, Nat.reduceSub, Nat.reduceBEq, reduceCtorEq]
  repeat refine And.intro (by first | with_reducible rfl | assumption | omega | exact uni_bs _ | exact uni_bs [_] | exact uni_bs [_, _] | exact bs_byte _ | exact uni_bss _ | exact uni_bss [_] | exact Stable.refl _ | exact stable_last _ _ _ _ _ _ | trivial | rfl) ?_
  refine hK _ ?_; clear hK K
  refine CodeT.seqK fun K hK => ?_
  refine CodeT.seqK fun K1 hK1 => CodeT.region ?_
  simp -implicitDefEqProofs only [go_sem, ↓reduceIte, Nat.reduceLT, Nat.reduceEqDiff, Nat.reduceAdd, Nat.reduceSub, Nat.reduceBEq, reduceCtorEq]
  repeat refine And.intro (by first | with_reducible rfl | assumption | omega | exact uni_bs _ | exact uni_bs [_] | exact uni_bs [_, _] | exact bs_byte _ | exact uni_bss _ | exact uni_bss [_] | exact Stable.refl _ | exact stable_last _ _ _ _ _ _ | trivial | rfl) ?_
  refine hK1 _ ?_; clear hK1 K1
  have hz : ((bytes.length : Int) == 0) = decide (bytes.length = 0) := by rw [Bool.eq_iff_iff]; simp
  have hp : decide ((bytes.length : Int) > 0) = decide (0 < bytes.length) := by rw [Bool.eq_iff_iff]; simp
  refine CodeT.cond rfl (fun ht => ?_) (fun hf => CodeT.skip ?_)
  · subst ht
    cases a1 : (at_ == 0)
    all_goals
      refine CodeT.seqK fun K1 hK1 => CodeT.region ?_
      simp -implicitDefEqProofs only [go_sem, ↓reduceIte, Nat.reduceLT, Nat.reduceEqDiff, Nat.reduceAdd, Nat.reduceSub, Nat.reduceBEq, reduceCtorEq, bs_length, a1, hz]
      repeat refine And.intro (by first | with_reducible rfl | assumption | omega | exact uni_bs _ | exact uni_bs [_] | exact uni_bs [_, _] | exact bs_byte _ | exact uni_bss _ | exact uni_bss [_] | exact Stable.refl _ | exact stable_last _ _ _ _ _ _ | trivial | rfl) ?_
      refine hK1 _ ?_; clear hK1 K1
      refine CodeT.ret ?_
      simp -implicitDefEqProofs only [go_sem, ↓reduceIte, Nat.reduceLT, Nat.reduceEqDiff, Nat.reduceAdd, Nat.reduceSub, Nat.reduceBEq, reduceCtorEq, Try.f54]
      exact ⟨rfl, _, rfl, by simp [fitsB, a1]⟩
  · subst hf
    simp -implicitDefEqProofs only [go_sem, ↓reduceIte, Nat.reduceLT, Nat.reduceEqDiff, Nat.reduceAdd, Nat.reduceSub, Nat.reduceBEq, reduceCtorEq]
    repeat refine And.intro (by first | with_reducible rfl | assumption | omega | exact uni_bs _ | exact uni_bs [_] | exact uni_bs [_, _] | exact bs_byte _ | exact uni_bss _ | exact uni_bss [_] | exact Stable.refl _ | exact stable_last _ _ _ _ _ _ | trivial | rfl) ?_
    refine hK _ ?_; clear hK K
    cases a1 : decide (0 < bytes.length)
    · refine CodeT.seqK fun K hK => CodeT.region ?_
      simp -implicitDefEqProofs only [go_sem, ↓reduceIte, Nat.reduceLT, Nat.reduceEqDiff, Nat.reduceAdd, Nat.reduceSub, Nat.reduceBEq, reduceCtorEq, bs_length, hp, a1]
      repeat refine And.intro (by first | with_reducible rfl | assumption | omega | exact uni_bs _ | exact uni_bs [_] | exact uni_bs [_, _] | exact bs_byte _ | exact uni_bss _ | exact uni_bss [_] | exact Stable.refl _ | exact stable_last _ _ _ _ _ _ | trivial | rfl) ?_
      refine hK _ ?_; clear hK K
      refine CodeT.ret ?_
      simp -implicitDefEqProofs only [go_sem, ↓reduceIte, Nat.reduceLT, Nat.reduceEqDiff, Nat.reduceAdd, Nat.reduceSub, Nat.reduceBEq, reduceCtorEq, Try.f54]
      exact ⟨rfl, _, rfl, by simp [fitsB, a1]⟩
    · cases a2 : decide (at_ ≥ 0)
      · refine CodeT.seqK fun K hK => CodeT.region ?_
        simp -implicitDefEqProofs only [go_sem, ↓reduceIte, Nat.reduceLT, Nat.reduceEqDiff, Nat.reduceAdd, Nat.reduceSub, Nat.reduceBEq, reduceCtorEq, bs_length, hp, a1, a2]
        repeat refine And.intro (by first | with_reducible rfl | assumption | omega | exact uni_bs _ | exact uni_bs [_] | exact uni_bs [_, _] | exact bs_byte _ | exact uni_bss _ | exact uni_bss [_] | exact Stable.refl _ | exact stable_last _ _ _ _ _ _ | trivial | rfl) ?_
        refine hK _ ?_; clear hK K
        refine CodeT.ret ?_
        simp -implicitDefEqProofs only [go_sem, ↓reduceIte, Nat.reduceLT, Nat.reduceEqDiff, Nat.reduceAdd, Nat.reduceSub, Nat.reduceBEq, reduceCtorEq, Try.f54]
        exact ⟨rfl, _, rfl, by simp [fitsB, a1, a2]⟩
      · cases a3 : decide (at_ ≤ (n : Int))
        · refine CodeT.seqK fun K hK => CodeT.region ?_
          simp -implicitDefEqProofs only [go_sem, ↓reduceIte, Nat.reduceLT, Nat.reduceEqDiff, Nat.reduceAdd, Nat.reduceSub, Nat.reduceBEq, reduceCtorEq, bs_length, hp, a1, a2, a3]
          repeat refine And.intro (by first | with_reducible rfl | assumption | omega | exact uni_bs _ | exact uni_bs [_] | exact uni_bs [_, _] | exact bs_byte _ | exact uni_bss _ | exact uni_bss [_] | exact Stable.refl _ | exact stable_last _ _ _ _ _ _ | trivial | rfl) ?_
          refine hK _ ?_; clear hK K
          refine CodeT.ret ?_
          simp -implicitDefEqProofs only [go_sem, ↓reduceIte, Nat.reduceLT, Nat.reduceEqDiff, Nat.reduceAdd, Nat.reduceSub, Nat.reduceBEq, reduceCtorEq, Try.f54]
          exact ⟨rfl, _, rfl, by simp [fitsB, a1, a2, a3]⟩
        · have hw : IntKind.i64.wrap ((n : Int) - at_) = (n : Int) - at_ := by
            simp at a2 a3
            rw [i64_in] <;> omega
          refine CodeT.seqK fun K hK => CodeT.region ?_
          simp -implicitDefEqProofs only [go_sem, ↓reduceIte, Nat.reduceLT, Nat.reduceEqDiff, Nat.reduceAdd, Nat.reduceSub, Nat.reduceBEq, reduceCtorEq, bs_length, hp, a1, a2, a3, hw]
          repeat refine And.intro (by first | with_reducible rfl | assumption | omega | exact uni_bs _ | exact uni_bs [_] | exact uni_bs [_, _] | exact bs_byte _ | exact uni_bss _ | exact uni_bss [_] | exact Stable.refl _ | exact stable_last _ _ _ _ _ _ | trivial | rfl) ?_
          refine hK _ ?_; clear hK K
          refine CodeT.ret ?_
          simp -implicitDefEqProofs only [go_sem, ↓reduceIte, Nat.reduceLT, Nat.reduceEqDiff, Nat.reduceAdd, Nat.reduceSub, Nat.reduceBEq, reduceCtorEq, Try.f54]
          exact ⟨rfl, _, rfl, by simp only [fitsB, Bool.false_eq_true, if_false, a1, a2, a3, Bool.true_and]⟩
end Go.Proofs.Try

namespace Go.Proofs.Try
set_option linter.unusedSimpArgs false
open Go.PM

def op0 : DOp := ⟨false, 0, []⟩
theorem opvs_length (q : List DOp) : (opvs q).length = q.length := by simp [opvs]
theorem opvs_getD {q : List DOp} {i : Nat} (h : i < q.length) : (opvs q).getD i .dead = opv (q.getD i op0) := by
  simp [opvs, List.getD_eq_getElem?_getD, h]
theorem uni_opvs (q : List DOp) : Uni 3 (opvs q) := by
  intro e he
  obtain ⟨x, _, rfl⟩ := List.mem_map.1 he
  rfl
theorem opv_cells (o : DOp) : (opv o).cells = [.val (.bool o.flush), .val (.int .i64 o.at_), .sl false (bs o.bytes)] := rfl
theorem opv_eq (o : DOp) : AV.agg [.val (.bool o.flush), .val (.int .i64 o.at_), .sl false (bs o.bytes)] = opv o := rfl

def idxOp (p : DOp → Bool) (l : List DOp) : Int := match l.findIdx? p with
  | some i => (i : Int)
  | none => -1
theorem idxOp_here {p : DOp → Bool} {l : List DOp} {i : Nat} (hi : i < l.length) (hn : ∀ j, j < i → p (l.getD j op0) = false) (hp : p (l.getD i op0) = true) : idxOp p l = i := by
  have : l.findIdx? p = some i := by
    rw [List.findIdx?_eq_some_iff_getElem]
    refine ⟨hi, ?_, fun j hj => ?_⟩
    · simpa [List.getD_eq_getElem?_getD, hi] using hp
    · have := hn j hj
      have hj' : j < l.length := by omega
      simpa [List.getD_eq_getElem?_getD, hj'] using this
  simp [idxOp, this]
theorem idxOp_none {p : DOp → Bool} {l : List DOp} (hn : ∀ j, j < l.length → p (l.getD j op0) = false) : idxOp p l = -1 := by
  have : l.findIdx? p = none := by
    rw [List.findIdx?_eq_none_iff]
    intro x hx
    obtain ⟨j, hj, rfl⟩ := List.mem_iff_getElem.1 hx
    have := hn j hj
    simpa [List.getD_eq_getElem?_getD, hj] using this
  simp [idxOp, this]
theorem idxOp_ge (p : DOp → Bool) (l : List DOp) : decide (idxOp p l ≥ 0) = l.any p := by
  unfold idxOp
  cases h : l.findIdx? p with
  | none =>
    rw [List.findIdx?_eq_none_iff] at h
    have : l.any p = false := by rw [List.any_eq_false]; intro x hx; rw [h x hx]; simp
    rw [this]; rfl
  | some i =>
    have hi := List.findIdx?_eq_some_iff_getElem.1 h
    obtain ⟨h1, h2, _⟩ := hi
    have : l.any p = true := by rw [List.any_eq_true]; exact ⟨l[i], List.getElem_mem h1, h2⟩
    rw [this]; simp

mutual
theorem pure0_under (n : Nat) : ∀ (x : AV), x.pure0 = true → x.under n = true
  | .val _, _ => rfl
  | .sl _ _, _ => rfl
  | .cptr _, _ => rfl
  | .fn _ caps, hp => pureL_under n caps hp
  | .iface _ x, hp => pure0_under n x hp
  | .dead, hp => by simp [AV.pure0] at hp
  | .hsl _ _ _ _, hp => by simp [AV.pure0] at hp
  | .ptr _ _, hp => by simp [AV.pure0] at hp
  | .eptr _ _ _ _, hp => by simp [AV.pure0] at hp
  | .yld _, hp => by simp [AV.pure0] at hp
  | .mp _, hp => by simp [AV.pure0] at hp
  | .agg _, hp => by simp [AV.pure0] at hp
  | .tup _, hp => by simp [AV.pure0] at hp
theorem pureL_under (n : Nat) : ∀ (l : List AV), pureL l = true → underL n l = true
  | [], _ => rfl
  | x :: xs, hp => by
    simp only [pureL, Bool.and_eq_true] at hp
    simp only [underL, Bool.and_eq_true]
    exact ⟨pure0_under n x hp.1, pureL_under n xs hp.2⟩
end
theorem all_pure {x : AV} {caps : List AV} (hx : x.pure = true) (hc : pureL caps = true) : (x :: caps).all AV.pure = true := by
  rw [List.all_cons, hx, Bool.true_and, List.all_eq_true]
  intro y hy
  obtain ⟨i, hi⟩ := List.getElem?_of_mem hy
  have := pureL_get hc hi
  cases y <;> first | exact this | simp [AV.pure0] at this

theorem c101 (l : List DOp) (f : FuncId) (caps : List AV) (hcaps : pureL caps = true) (p : DOp → Bool) (hf : ∀ o ∈ l, PureT Try.prog f (opv o :: caps) (· = .val (.bool (p o)))) (hl : l.length ≤ 4000000) : PureT Try.prog 101 [.sl false (opvs l), .fn f caps] (· = .val (.int .i64 (idxOp p l))) := by
  refine CallT.intro Try.func101 (by decide) rfl ?_
  simp -implicitDefEqProofs only [go_sem, ↓reduceIte, Nat.reduceLT, Nat.reduceEqDiff, Nat.reduceAdd, Nat.reduceSub, Nat.reduceBEq, reduceCtorEq, enterTm, Try.ntmps101, List.range'_succ, List.range'_zero, List.zip_cons_cons, List.zip_nil_left]
  refine CodeT.seqK fun K hK => CodeT.region ?_
  simp -implicitDefEqProofs only [go_sem, ↓reduceIte, Nat.reduceLT, Nat.reduceEqDiff, Nat.reduceAdd, Nat.reduceSub, Nat.reduceBEq, reduceCtorEq]
  repeat refine And.intro (by first | with_reducible rfl | assumption | omega | exact uni_bs _ | exact uni_bs [_] | exact uni_bs [_, _] | exact bs_byte _ | exact uni_bss _ | exact uni_bss [_] | exact Stable.refl _ | exact stable_last _ _ _ _ _ _ | trivial | rfl) ?_
  refine hK _ ?_; clear hK K
  refine CodeT.seqK fun K hK => ?_
  refine CodeT.seqK fun K2 hK2 => CodeT.region ?_
  simp -implicitDefEqProofs only [go_sem, ↓reduceIte, Nat.reduceLT, Nat.reduceEqDiff, Nat.reduceAdd, Nat.reduceSub, Nat.reduceBEq, reduceCtorEq, opvs_length]
  repeat refine And.intro (by first | with_reducible rfl | assumption | omega | exact uni_bs _ | exact uni_bs [_] | exact uni_bs [_, _] | exact bs_byte _ | exact uni_bss _ | exact uni_bss [_] | exact Stable.refl _ | exact stable_last _ _ _ _ _ _ | trivial | rfl) ?_
  refine hK2 _ ?_; clear hK2 K2
  refine CodeT.block ?_
  refine CodeT.weak (s' := ⟨⟨19, [(8, .val (.int .i64 0)), (7, .val (.int .i64 (l.length : Nat))), (0, .sl false (opvs l)), (1, .fn f caps)]⟩, [], []⟩) ⟨rfl, ?_, trivial, rfl, keepsD_nil _⟩ rfl ?_
  · simp [go_sem, pureL_under _ caps hcaps]
  refine CodeT.loop (fun n s => ∃ i, i ≤ l.length ∧ (∀ j, j < i → p (l.getD j op0) = false) ∧ n = l.length - i ∧ s = ⟨⟨19, [(8, .val (.int .i64 (i : Nat))), (7, .val (.int .i64 (l.length : Nat))), (0, .sl false (opvs l)), (1, .fn f caps)]⟩, [], []⟩) (n := l.length) ?_ ?_
  · exact ⟨0, Nat.zero_le _, fun j hj => absurd hj (Nat.not_lt_zero _), rfl, rfl⟩
  rintro n s ⟨i, hi, hn, rfl, rfl⟩
  refine CodeT.lessN ?_
  refine CodeT.seqK fun K2 hK2 => CodeT.region ?_
  simp -implicitDefEqProofs only [go_sem, ↓reduceIte, Nat.reduceLT, Nat.reduceEqDiff, Nat.reduceAdd, Nat.reduceSub, Nat.reduceBEq, reduceCtorEq]
  repeat refine And.intro (by first | with_reducible rfl | assumption | omega | exact uni_bs _ | exact uni_bs [_] | exact uni_bs [_, _] | exact bs_byte _ | exact uni_bss _ | exact uni_bss [_] | exact Stable.refl _ | exact stable_last _ _ _ _ _ _ | trivial | rfl) ?_
  refine hK2 _ ?_; clear hK2 K2
  refine CodeT.seqK fun K2 hK2 => CodeT.cond rfl (fun ht => CodeT.skip ?_) (fun hf' => CodeT.exit ?_)
  · simp -implicitDefEqProofs only [go_sem, ↓reduceIte, Nat.reduceLT, Nat.reduceEqDiff, Nat.reduceAdd, Nat.reduceSub, Nat.reduceBEq, reduceCtorEq]
    repeat refine And.intro (by first | with_reducible rfl | assumption | omega | exact uni_bs _ | exact uni_bs [_] | exact uni_bs [_, _] | exact bs_byte _ | exact uni_bss _ | exact uni_bss [_] | exact Stable.refl _ | exact stable_last _ _ _ _ _ _ | trivial | rfl) ?_
    refine hK2 _ ?_; clear hK2 K2
    have hlt : i < l.length := by simp at ht; exact ht
    have hw1 : IntKind.i64.wrap ((i : Int) + 1) = ((i + 1 : Nat) : Int) := by rw [i64_in] <;> omega
    refine CodeT.seqK fun K2 hK2 => ?_
    refine CodeT.block ?_
    refine CodeT.seqK fun K3 hK3 => CodeT.region ?_
    simp -implicitDefEqProofs only [go_sem, ↓reduceIte, Nat.reduceLT, Nat.reduceEqDiff, Nat.reduceAdd, Nat.reduceSub, Nat.reduceBEq, reduceCtorEq]
    repeat refine And.intro (by first | with_reducible rfl | assumption | omega | exact uni_bs _ | exact uni_bs [_] | exact uni_bs [_, _] | exact bs_byte _ | exact uni_bss _ | exact uni_bss [_] | exact Stable.refl _ | exact stable_last _ _ _ _ _ _ | trivial | rfl) ?_
    refine hK3 _ ?_; clear hK3 K3
    refine CodeT.seqK fun K3 hK3 => ?_
    refine CodeT.region ?_
    simp -implicitDefEqProofs only [go_sem, ↓reduceIte, Nat.reduceLT, Nat.reduceEqDiff, Nat.reduceAdd, Nat.reduceSub, Nat.reduceBEq, reduceCtorEq, opvs_getD hlt, opvs_length, opv_cells]
    have hmem : l.getD i op0 ∈ l := by
      rw [List.getD_eq_getElem?_getD, List.getElem?_eq_getElem hlt]
      exact List.getElem_mem hlt
    repeat refine And.intro (by first | with_reducible rfl | assumption | omega | exact uni_bs _ | exact uni_bs [_] | exact uni_bs [_, _] | exact bs_byte _ | exact uni_bss _ | exact uni_bss [_] | exact Stable.refl _ | exact stable_last _ _ _ _ _ _ | trivial | rfl) ?_
    refine PureT.go (hf _ hmem) (all_pure rfl hcaps) fun x hx => ?_
    subst hx
    simp -implicitDefEqProofs only [go_sem, ↓reduceIte, Nat.reduceLT, Nat.reduceEqDiff, Nat.reduceAdd, Nat.reduceSub, Nat.reduceBEq, reduceCtorEq]
    repeat refine And.intro (by first | with_reducible rfl | assumption | omega | exact uni_bs _ | exact uni_bs [_] | exact uni_bs [_, _] | exact bs_byte _ | exact uni_bss _ | exact uni_bss [_] | exact Stable.refl _ | exact stable_last _ _ _ _ _ _ | trivial | rfl) ?_
    refine hK3 _ ?_; clear hK3 K3
    cases hpx : p (l.getD i op0)
    · refine CodeT.cond rfl (fun ht => by cases ht) (fun hf' => CodeT.skip ?_)
      simp -implicitDefEqProofs only [go_sem, ↓reduceIte, Nat.reduceLT, Nat.reduceEqDiff, Nat.reduceAdd, Nat.reduceSub, Nat.reduceBEq, reduceCtorEq]
      repeat refine And.intro (by first | with_reducible rfl | assumption | omega | exact uni_bs _ | exact uni_bs [_] | exact uni_bs [_, _] | exact bs_byte _ | exact uni_bss _ | exact uni_bss [_] | exact Stable.refl _ | exact stable_last _ _ _ _ _ _ | trivial | rfl) ?_
      refine hK2 _ ?_; clear hK2 K2
      refine CodeT.region ?_
      simp -implicitDefEqProofs only [go_sem, ↓reduceIte, Nat.reduceLT, Nat.reduceEqDiff, Nat.reduceAdd, Nat.reduceSub, Nat.reduceBEq, reduceCtorEq, hw1]
      repeat refine And.intro (by first | with_reducible rfl | assumption | omega | exact uni_bs _ | exact uni_bs [_] | exact uni_bs [_, _] | exact bs_byte _ | exact uni_bss _ | exact uni_bss [_] | exact Stable.refl _ | exact stable_last _ _ _ _ _ _ | trivial | rfl) ?_
      refine ⟨⟨⟨19, [(8, .val (.int .i64 ((i + 1 : Nat) : Int))), (7, .val (.int .i64 (l.length : Nat))), (0, .sl false (opvs l)), (1, .fn f caps)]⟩, [], []⟩, ⟨rfl, ?_, trivial, rfl, keepsD_nil _⟩, Nat.le_refl _, l.length - (i + 1), by omega, i + 1, hlt, fun j hj => ?_, rfl, rfl⟩
      · simp [go_sem, pureL_under _ caps hcaps]
      · rcases Nat.lt_or_eq_of_le (Nat.le_of_lt_succ hj) with h | h
        · exact hn j h
        · rw [h]; exact hpx
    · refine CodeT.cond rfl (fun ht => ?_) (fun hf' => by cases hf')
      refine CodeT.seqK fun K4 hK4 => CodeT.region ?_
      simp -implicitDefEqProofs only [go_sem, ↓reduceIte, Nat.reduceLT, Nat.reduceEqDiff, Nat.reduceAdd, Nat.reduceSub, Nat.reduceBEq, reduceCtorEq]
      repeat refine And.intro (by first | with_reducible rfl | assumption | omega | exact uni_bs _ | exact uni_bs [_] | exact uni_bs [_, _] | exact bs_byte _ | exact uni_bss _ | exact uni_bss [_] | exact Stable.refl _ | exact stable_last _ _ _ _ _ _ | trivial | rfl) ?_
      refine hK4 _ ?_; clear hK4 K4
      refine CodeT.ret ?_
      simp -implicitDefEqProofs only [go_sem, ↓reduceIte, Nat.reduceLT, Nat.reduceEqDiff, Nat.reduceAdd, Nat.reduceSub, Nat.reduceBEq, reduceCtorEq, Try.f101]
      refine ⟨rfl, _, rfl, ?_⟩
      rw [idxOp_here hlt hn hpx]
  · simp -implicitDefEqProofs only [go_sem, ↓reduceIte, Nat.reduceLT, Nat.reduceEqDiff, Nat.reduceAdd, Nat.reduceSub, Nat.reduceBEq, reduceCtorEq]
    clear hK2 K2
    repeat refine And.intro (by first | with_reducible rfl | assumption | omega | exact uni_bs _ | exact uni_bs [_] | exact uni_bs [_, _] | exact bs_byte _ | exact uni_bss _ | exact uni_bss [_] | exact Stable.refl _ | exact stable_last _ _ _ _ _ _ | trivial | rfl) ?_
    refine hK _ ?_; clear hK K
    refine CodeT.seqK fun K hK => CodeT.region ?_
    simp -implicitDefEqProofs only [go_sem, ↓reduceIte, Nat.reduceLT, Nat.reduceEqDiff, Nat.reduceAdd, Nat.reduceSub, Nat.reduceBEq, reduceCtorEq]
    repeat refine And.intro (by first | with_reducible rfl | assumption | omega | exact uni_bs _ | exact uni_bs [_] | exact uni_bs [_, _] | exact bs_byte _ | exact uni_bss _ | exact uni_bss [_] | exact Stable.refl _ | exact stable_last _ _ _ _ _ _ | trivial | rfl) ?_
    refine hK _ ?_; clear hK K
    refine CodeT.ret ?_
    simp -implicitDefEqProofs only [go_sem, ↓reduceIte, Nat.reduceLT, Nat.reduceEqDiff, Nat.reduceAdd, Nat.reduceSub, Nat.reduceBEq, reduceCtorEq, Try.f101]
    refine ⟨rfl, _, rfl, ?_⟩
    have hil : i = l.length := by simp at hf'; omega
    subst hil
    rw [idxOp_none hn]

theorem c52 (l : List DOp) (f : FuncId) (caps : List AV) (hcaps : pureL caps = true) (p : DOp → Bool) (hf : ∀ o ∈ l, PureT Try.prog f (opv o :: caps) (· = .val (.bool (p o)))) (hl : l.length ≤ 4000000) : PureT Try.prog 52 [.sl false (opvs l), .fn f caps] (· = .val (.bool (l.any p))) := by
  refine CallT.intro Try.func52 (by decide) rfl ?_
  simp -implicitDefEqProofs only [go_sem, ↓reduceIte, Nat.reduceLT, Nat.reduceEqDiff, Nat.reduceAdd, Nat.reduceSub, Nat.reduceBEq, reduceCtorEq, enterTm, Try.ntmps52, List.range'_succ, List.range'_zero, List.zip_cons_cons, List.zip_nil_left]
  refine CodeT.seqK fun K hK => CodeT.region ?_
  simp -implicitDefEqProofs only [go_sem, ↓reduceIte, Nat.reduceLT, Nat.reduceEqDiff, Nat.reduceAdd, Nat.reduceSub, Nat.reduceBEq, reduceCtorEq]
  repeat refine And.intro (by first | with_reducible rfl | assumption | omega | exact uni_bs _ | exact uni_bs [_] | exact uni_bs [_, _] | exact bs_byte _ | exact uni_bss _ | exact uni_bss [_] | exact Stable.refl _ | exact stable_last _ _ _ _ _ _ | trivial | rfl) ?_
  refine hK _ ?_; clear hK K
  refine CodeT.seqK fun K hK => CodeT.region ?_
  simp -implicitDefEqProofs only [go_sem, ↓reduceIte, Nat.reduceLT, Nat.reduceEqDiff, Nat.reduceAdd, Nat.reduceSub, Nat.reduceBEq, reduceCtorEq]
  refine PureT.go (c101 l f caps hcaps p hf hl) (by simp [AV.pure, AV.pure1, AV.pure0, hcaps]) fun x hx => ?_
  subst hx
  simp -implicitDefEqProofs only [go_sem, ↓reduceIte, Nat.reduceLT, Nat.reduceEqDiff, Nat.reduceAdd, Nat.reduceSub, Nat.reduceBEq, reduceCtorEq, idxOp_ge]
  repeat refine And.intro (by first | with_reducible rfl | assumption | omega | exact uni_bs _ | exact uni_bs [_] | exact uni_bs [_, _] | exact bs_byte _ | exact uni_bss _ | exact uni_bss [_] | exact Stable.refl _ | exact stable_last _ _ _ _ _ _ | trivial | rfl) ?_
  refine hK _ ?_; clear hK K
  refine CodeT.ret ?_
  simp -implicitDefEqProofs only [go_sem, ↓reduceIte, Nat.reduceLT, Nat.reduceEqDiff, Nat.reduceAdd, Nat.reduceSub, Nat.reduceBEq, reduceCtorEq, Try.f52]
  exact ⟨rfl, _, rfl, rfl⟩
end Go.Proofs.Try

namespace Go.Proofs.Try
set_option linter.unusedSimpArgs false
open Go.PM

def dcp (d : Dsk) : AV := .cptr [.sl false (bs d.bytes), .sl false (opvs d.queue)]
def badOp (n : Nat) (o : DOp) : Bool := o.flush || !fitsB o n
theorem c100 (d : Dsk) (o : DOp) (hd : d.bytes.length ≤ 4000000) : PureT Try.prog 100 [opv o, dcp d] (· = .val (.bool (badOp d.bytes.length o))) := by
  unfold dcp
  cases hfl : o.flush
  · rw [← opv_eq, hfl]
    refine CallT.intro Try.func100 (by decide) rfl ?_
    simp -implicitDefEqProofs only [go_sem, ↓reduceIte, Nat.reduceLT, Nat.reduceEqDiff, Nat.reduceAdd, Nat.reduceSub, Nat.reduceBEq, reduceCtorEq, enterTm, Try.ntmps100, List.range'_succ, List.range'_zero, List.zip_cons_cons, List.zip_nil_left]
    refine CodeT.seqK fun K hK => CodeT.region ?_
    simp -implicitDefEqProofs only [go_sem, ↓reduceIte, Nat.reduceLT, Nat.reduceEqDiff, Nat.reduceAdd, Nat.reduceSub, Nat.reduceBEq, reduceCtorEq]
    repeat refine And.intro (by first | with_reducible rfl | assumption | omega | exact uni_bs _ | exact uni_bs [_] | exact uni_bs [_, _] | exact bs_byte _ | exact uni_bss _ | exact uni_bss [_] | exact Stable.refl _ | exact stable_last _ _ _ _ _ _ | trivial | rfl) ?_
    refine hK _ ?_; clear hK K
    refine CodeT.seqK fun K hK => CodeT.region ?_
    simp -implicitDefEqProofs only [go_sem, ↓reduceIte, Nat.reduceLT, Nat.reduceEqDiff, Nat.reduceAdd, Nat.reduceSub, Nat.reduceBEq, reduceCtorEq, bs_length]
    repeat refine And.intro (by first | with_reducible rfl | assumption | omega | exact uni_bs _ | exact uni_bs [_] | exact uni_bs [_, _] | exact bs_byte _ | exact uni_bss _ | exact uni_bss [_] | exact Stable.refl _ | exact stable_last _ _ _ _ _ _ | trivial | rfl) ?_
    have hop : AV.agg [.val (.bool false), .val (.int .i64 o.at_), .sl false (bs o.bytes)] = opv o := by rw [← opv_eq, hfl]
    rw [hop]
    refine PureT.go (c54 o d.bytes.length hd) rfl fun x hx => ?_
    subst hx
    simp -implicitDefEqProofs only [go_sem, ↓reduceIte, Nat.reduceLT, Nat.reduceEqDiff, Nat.reduceAdd, Nat.reduceSub, Nat.reduceBEq, reduceCtorEq]
    repeat refine And.intro (by first | with_reducible rfl | assumption | omega | exact uni_bs _ | exact uni_bs [_] | exact uni_bs [_, _] | exact bs_byte _ | exact uni_bss _ | exact uni_bss [_] | exact Stable.refl _ | exact stable_last _ _ _ _ _ _ | trivial | rfl) ?_
    refine hK _ ?_; clear hK K
    refine CodeT.ret ?_
    simp -implicitDefEqProofs only [go_sem, ↓reduceIte, Nat.reduceLT, Nat.reduceEqDiff, Nat.reduceAdd, Nat.reduceSub, Nat.reduceBEq, reduceCtorEq, Try.f100]
    exact ⟨rfl, _, rfl, by rw [badOp, hfl]; rfl⟩
  · rw [← opv_eq, hfl]
    refine CallT.intro Try.func100 (by decide) rfl ?_
    simp -implicitDefEqProofs only [go_sem, ↓reduceIte, Nat.reduceLT, Nat.reduceEqDiff, Nat.reduceAdd, Nat.reduceSub, Nat.reduceBEq, reduceCtorEq, enterTm, Try.ntmps100, List.range'_succ, List.range'_zero, List.zip_cons_cons, List.zip_nil_left]
    refine CodeT.seqK fun K hK => CodeT.region ?_
    simp -implicitDefEqProofs only [go_sem, ↓reduceIte, Nat.reduceLT, Nat.reduceEqDiff, Nat.reduceAdd, Nat.reduceSub, Nat.reduceBEq, reduceCtorEq]
    repeat refine And.intro (by first | with_reducible rfl | assumption | omega | exact uni_bs _ | exact uni_bs [_] | exact uni_bs [_, _] | exact bs_byte _ | exact uni_bss _ | exact uni_bss [_] | exact Stable.refl _ | exact stable_last _ _ _ _ _ _ | trivial | rfl) ?_
    refine hK _ ?_; clear hK K
    refine CodeT.seqK fun K hK => CodeT.region ?_
    simp -implicitDefEqProofs only [go_sem, ↓reduceIte, Nat.reduceLT, Nat.reduceEqDiff, Nat.reduceAdd, Nat.reduceSub, Nat.reduceBEq, reduceCtorEq]
    repeat refine And.intro (by first | with_reducible rfl | assumption | omega | exact uni_bs _ | exact uni_bs [_] | exact uni_bs [_, _] | exact bs_byte _ | exact uni_bss _ | exact uni_bss [_] | exact Stable.refl _ | exact stable_last _ _ _ _ _ _ | trivial | rfl) ?_
    refine hK _ ?_; clear hK K
    refine CodeT.ret ?_
    simp -implicitDefEqProofs only [go_sem, ↓reduceIte, Nat.reduceLT, Nat.reduceEqDiff, Nat.reduceAdd, Nat.reduceSub, Nat.reduceBEq, reduceCtorEq, Try.f100]
    exact ⟨rfl, _, rfl, by rw [badOp, hfl]; rfl⟩

def isDiskB (d : Dsk) : Bool := sizeB d.bytes.length && !d.queue.any (badOp d.bytes.length)
theorem c51 (d : Dsk) (hd : d.bytes.length ≤ 4000000) (hq : d.queue.length ≤ 4000000) : PureT Try.prog 51 [dkv d] (· = .val (.bool (isDiskB d))) := by
  unfold dkv
  refine CallT.intro Try.func51 (by decide) rfl ?_
  simp -implicitDefEqProofs only [go_sem, ↓reduceIte, Nat.reduceLT, Nat.reduceEqDiff, Nat.reduceAdd, Nat.reduceSub, Nat.reduceBEq, reduceCtorEq, enterTm, Try.ntmps51, List.range'_succ, List.range'_zero, List.zip_cons_cons, List.zip_nil_left]
  refine CodeT.seqK fun K hK => CodeT.region ?_
  simp -implicitDefEqProofs only [go_sem, ↓reduceIte, Nat.reduceLT, Nat.reduceEqDiff, Nat.reduceAdd, Nat.reduceSub, Nat.reduceBEq, reduceCtorEq]
  repeat refine And.intro (by first | with_reducible rfl | assumption | omega | exact uni_bs _ | exact uni_bs [_] | exact uni_bs [_, _] | exact bs_byte _ | exact uni_bss _ | exact uni_bss [_] | exact Stable.refl _ | exact stable_last _ _ _ _ _ _ | trivial | rfl) ?_
  refine hK _ ?_; clear hK K
  refine CodeT.freeze 1 ?_
  simp -implicitDefEqProofs only [go_sem, ↓reduceIte, Nat.reduceLT, Nat.reduceEqDiff, Nat.reduceAdd, Nat.reduceSub, Nat.reduceBEq, reduceCtorEq]
  cases hs : sizeB d.bytes.length
  · refine CodeT.seqK fun K hK => CodeT.region ?_
    simp -implicitDefEqProofs only [go_sem, ↓reduceIte, Nat.reduceLT, Nat.reduceEqDiff, Nat.reduceAdd, Nat.reduceSub, Nat.reduceBEq, reduceCtorEq, bs_length]
    repeat refine And.intro (by first | with_reducible rfl | assumption | omega | exact uni_bs _ | exact uni_bs [_] | exact uni_bs [_, _] | exact bs_byte _ | exact uni_bss _ | exact uni_bss [_] | exact Stable.refl _ | exact stable_last _ _ _ _ _ _ | trivial | rfl) ?_
    refine PureT.go (c80 _ hd) rfl fun x hx => ?_
    subst hx
    simp -implicitDefEqProofs only [go_sem, ↓reduceIte, Nat.reduceLT, Nat.reduceEqDiff, Nat.reduceAdd, Nat.reduceSub, Nat.reduceBEq, reduceCtorEq, hs]
    repeat refine And.intro (by first | with_reducible rfl | assumption | omega | exact uni_bs _ | exact uni_bs [_] | exact uni_bs [_, _] | exact bs_byte _ | exact uni_bss _ | exact uni_bss [_] | exact Stable.refl _ | exact stable_last _ _ _ _ _ _ | trivial | rfl) ?_
    refine hK _ ?_; clear hK K
    refine CodeT.ret ?_
    simp -implicitDefEqProofs only [go_sem, ↓reduceIte, Nat.reduceLT, Nat.reduceEqDiff, Nat.reduceAdd, Nat.reduceSub, Nat.reduceBEq, reduceCtorEq, Try.f51]
    exact ⟨rfl, _, rfl, by rw [isDiskB, hs]; rfl⟩
  · refine CodeT.seqK fun K hK => CodeT.region ?_
    simp -implicitDefEqProofs only [go_sem, ↓reduceIte, Nat.reduceLT, Nat.reduceEqDiff, Nat.reduceAdd, Nat.reduceSub, Nat.reduceBEq, reduceCtorEq, bs_length]
    repeat refine And.intro (by first | with_reducible rfl | assumption | omega | exact uni_bs _ | exact uni_bs [_] | exact uni_bs [_, _] | exact bs_byte _ | exact uni_bss _ | exact uni_bss [_] | exact Stable.refl _ | exact stable_last _ _ _ _ _ _ | trivial | rfl) ?_
    refine PureT.go (c80 _ hd) rfl fun x hx => ?_
    subst hx
    simp -implicitDefEqProofs only [go_sem, ↓reduceIte, Nat.reduceLT, Nat.reduceEqDiff, Nat.reduceAdd, Nat.reduceSub, Nat.reduceBEq, reduceCtorEq, hs]
    repeat refine And.intro (by first | with_reducible rfl | assumption | omega | exact uni_bs _ | exact uni_bs [_] | exact uni_bs [_, _] | exact bs_byte _ | exact uni_bss _ | exact uni_bss [_] | exact Stable.refl _ | exact stable_last _ _ _ _ _ _ | trivial | rfl) ?_
    refine PureT.go (c52 d.queue 100 [dcp d] rfl (badOp d.bytes.length) (fun o _ => c100 d o hd) hq) rfl fun x hx => ?_
    subst hx
    simp -implicitDefEqProofs only [go_sem, ↓reduceIte, Nat.reduceLT, Nat.reduceEqDiff, Nat.reduceAdd, Nat.reduceSub, Nat.reduceBEq, reduceCtorEq]
    repeat refine And.intro (by first | with_reducible rfl | assumption | omega | exact uni_bs _ | exact uni_bs [_] | exact uni_bs [_, _] | exact bs_byte _ | exact uni_bss _ | exact uni_bss [_] | exact Stable.refl _ | exact stable_last _ _ _ _ _ _ | trivial | rfl) ?_
    refine hK _ ?_; clear hK K
    refine CodeT.ret ?_
    simp -implicitDefEqProofs only [go_sem, ↓reduceIte, Nat.reduceLT, Nat.reduceEqDiff, Nat.reduceAdd, Nat.reduceSub, Nat.reduceBEq, reduceCtorEq, Try.f51]
    exact ⟨rfl, _, rfl, by rw [isDiskB, hs]; rfl⟩
end Go.Proofs.Try

namespace Go.Proofs.Try
set_option linter.unusedSimpArgs false
open Go.PM

theorem take_bs (l : List UInt8) : (bs l).take l.length = bs l := List.take_of_length_le (by rw [bs_length]; exact Nat.le_refl _)

theorem c55 (h : List Box) (l : List UInt8) (hl : l.length ≤ 4000000) : CallT Try.prog 55 [.sl false (bs l)] h (fun r h' => ∃ ver, r = .ret (.hsl h.length ver 0 l.length) ∧ h' = h ++ [.row true ver 1 (bs l)]) := by
  refine CallT.intro Try.func55 (by decide) rfl ?_
  simp -implicitDefEqProofs only [go_sem, ↓reduceIte, Nat.reduceLT, Nat.reduceEqDiff, Nat.reduceAdd, Nat.reduceSub, Nat.reduceBEq, reduceCtorEq, enterTm, Try.ntmps55, List.range'_succ, List.range'_zero, List.zip_cons_cons, List.zip_nil_left]
  refine CodeT.seqK fun K hK => CodeT.region ?_
  simp -implicitDefEqProofs only [go_sem, ↓reduceIte, Nat.reduceLT, Nat.reduceEqDiff, Nat.reduceAdd, Nat.reduceSub, Nat.reduceBEq, reduceCtorEq]
  repeat refine And.intro (by first | with_reducible rfl | assumption | omega | exact uni_bs _ | exact uni_bs [_] | exact uni_bs [_, _] | exact bs_byte _ | exact uni_bss _ | exact uni_bss [_] | exact Stable.refl _ | exact stable_last _ _ _ _ _ _ | trivial | rfl) ?_
  refine hK _ ?_; clear hK K
  refine CodeT.seqK fun K hK => ?_
  refine CodeT.seqK fun K1 hK1 => CodeT.region ?_
  simp -implicitDefEqProofs only [go_sem, ↓reduceIte, Nat.reduceLT, Nat.reduceEqDiff, Nat.reduceAdd, Nat.reduceSub, Nat.reduceBEq, reduceCtorEq, nilA, Try.underlying22]
  intro b hb
  repeat refine And.intro (by first | with_reducible rfl | assumption | omega | exact uni_bs _ | exact uni_bs [_] | exact uni_bs [_, _] | exact bs_byte _ | exact uni_bss _ | exact uni_bss [_] | exact Stable.refl _ | exact stable_last _ _ _ _ _ _ | trivial | rfl) ?_
  refine hK1 _ ?_; clear hK1 K1
  refine CodeT.cond rfl (fun ht => ?_) (fun hf => CodeT.skip ?_)
  · subst ht
    have hnil : l = [] := by
      cases l with
      | nil => rfl
      | cons x l => exact absurd (hb (by simp [bs])) (by simp)
    subst hnil
    refine CodeT.seqK fun K1 hK1 => CodeT.region ?_
    simp -implicitDefEqProofs only [go_sem, ↓reduceIte, Nat.reduceLT, Nat.reduceEqDiff, Nat.reduceAdd, Nat.reduceSub, Nat.reduceBEq, reduceCtorEq]
    repeat refine And.intro (by first | with_reducible rfl | assumption | omega | exact uni_bs _ | exact uni_bs [_] | exact uni_bs [_, _] | exact bs_byte _ | exact uni_bss _ | exact uni_bss [_] | exact Stable.refl _ | exact stable_last _ _ _ _ _ _ | trivial | rfl) ?_
    refine hK1 _ ?_; clear hK1 K1
    refine CodeT.promote 2 1 rfl ?_
    refine CodeT.ret ?_
    simp -implicitDefEqProofs only [go_sem, ↓reduceIte, Nat.reduceLT, Nat.reduceEqDiff, Nat.reduceAdd, Nat.reduceSub, Nat.reduceBEq, reduceCtorEq, Try.f55]
    exact ⟨0, rfl, rfl⟩
  · simp -implicitDefEqProofs only [go_sem, ↓reduceIte, Nat.reduceLT, Nat.reduceEqDiff, Nat.reduceAdd, Nat.reduceSub, Nat.reduceBEq, reduceCtorEq]
    repeat refine And.intro (by first | with_reducible rfl | assumption | omega | exact uni_bs _ | exact uni_bs [_] | exact uni_bs [_, _] | exact bs_byte _ | exact uni_bss _ | exact uni_bss [_] | exact Stable.refl _ | exact stable_last _ _ _ _ _ _ | trivial | rfl) ?_
    refine hK _ ?_; clear hK K
    refine CodeT.seqK fun K hK => CodeT.region ?_
    simp -implicitDefEqProofs only [go_sem, ↓reduceIte, Nat.reduceLT, Nat.reduceEqDiff, Nat.reduceAdd, Nat.reduceSub, Nat.reduceBEq, reduceCtorEq, bs_length]
    repeat refine And.intro (by first | with_reducible rfl | assumption | omega | exact uni_bs _ | exact uni_bs [_] | exact uni_bs [_, _] | exact bs_byte _ | exact uni_bss _ | exact uni_bss [_] | exact Stable.refl _ | exact stable_last _ _ _ _ _ _ | trivial | rfl) ?_
    refine hK _ ?_; clear hK K
    refine CodeT.ret ?_
    simp -implicitDefEqProofs only [go_sem, ↓reduceIte, Nat.reduceLT, Nat.reduceEqDiff, Nat.reduceAdd, Nat.reduceSub, Nat.reduceBEq, reduceCtorEq, Try.f55]
    exact ⟨1, rfl, rfl⟩
theorem c53 (d : Dsk) (o : DOp) (hd : d.bytes.length ≤ 4000000) : PureT Try.prog 53 [opv o, dcp d] (· = .val (.bool (!fitsB o d.bytes.length))) := by
  unfold dcp
  rw [← opv_eq]
  refine CallT.intro Try.func53 (by decide) rfl ?_
  simp -implicitDefEqProofs only [go_sem, ↓reduceIte, Nat.reduceLT, Nat.reduceEqDiff, Nat.reduceAdd, Nat.reduceSub, Nat.reduceBEq, reduceCtorEq, enterTm, Try.ntmps53, List.range'_succ, List.range'_zero, List.zip_cons_cons, List.zip_nil_left]
  refine CodeT.seqK fun K hK => CodeT.region ?_
  simp -implicitDefEqProofs only [go_sem, ↓reduceIte, Nat.reduceLT, Nat.reduceEqDiff, Nat.reduceAdd, Nat.reduceSub, Nat.reduceBEq, reduceCtorEq]
  repeat refine And.intro (by first | with_reducible rfl | assumption | omega | exact uni_bs _ | exact uni_bs [_] | exact uni_bs [_, _] | exact bs_byte _ | exact uni_bss _ | exact uni_bss [_] | exact Stable.refl _ | exact stable_last _ _ _ _ _ _ | trivial | rfl) ?_
  refine hK _ ?_; clear hK K
  refine CodeT.seqK fun K hK => CodeT.region ?_
  simp -implicitDefEqProofs only [go_sem, ↓reduceIte, Nat.reduceLT, Nat.reduceEqDiff, Nat.reduceAdd, Nat.reduceSub, Nat.reduceBEq, reduceCtorEq, bs_length]
  repeat refine And.intro (by first | with_reducible rfl | assumption | omega | exact uni_bs _ | exact uni_bs [_] | exact uni_bs [_, _] | exact bs_byte _ | exact uni_bss _ | exact uni_bss [_] | exact Stable.refl _ | exact stable_last _ _ _ _ _ _ | trivial | rfl) ?_
  rw [opv_eq]
  refine PureT.go (c54 o d.bytes.length hd) rfl fun x hx => ?_
  subst hx
  simp -implicitDefEqProofs only [go_sem, ↓reduceIte, Nat.reduceLT, Nat.reduceEqDiff, Nat.reduceAdd, Nat.reduceSub, Nat.reduceBEq, reduceCtorEq]
  repeat refine And.intro (by first | with_reducible rfl | assumption | omega | exact uni_bs _ | exact uni_bs [_] | exact uni_bs [_, _] | exact bs_byte _ | exact uni_bss _ | exact uni_bss [_] | exact Stable.refl _ | exact stable_last _ _ _ _ _ _ | trivial | rfl) ?_
  refine hK _ ?_; clear hK K
  refine CodeT.ret ?_
  simp -implicitDefEqProofs only [go_sem, ↓reduceIte, Nat.reduceLT, Nat.reduceEqDiff, Nat.reduceAdd, Nat.reduceSub, Nat.reduceBEq, reduceCtorEq, Try.f53]
  exact ⟨rfl, _, rfl, rfl⟩

theorem c102 (d : Dsk) (i : Nat) (hi : i < d.queue.length) : PureT Try.prog 102 [.val (.int .i64 (i : Nat)), dcp d] (· = .val (.int .i64 ((d.queue.getD i op0).bytes.length : Nat))) := by
  unfold dcp
  refine CallT.intro Try.func102 (by decide) rfl ?_
  simp -implicitDefEqProofs only [go_sem, ↓reduceIte, Nat.reduceLT, Nat.reduceEqDiff, Nat.reduceAdd, Nat.reduceSub, Nat.reduceBEq, reduceCtorEq, enterTm, Try.ntmps102, List.range'_succ, List.range'_zero, List.zip_cons_cons, List.zip_nil_left]
  refine CodeT.seqK fun K hK => CodeT.region ?_
  simp -implicitDefEqProofs only [go_sem, ↓reduceIte, Nat.reduceLT, Nat.reduceEqDiff, Nat.reduceAdd, Nat.reduceSub, Nat.reduceBEq, reduceCtorEq]
  repeat refine And.intro (by first | with_reducible rfl | assumption | omega | exact uni_bs _ | exact uni_bs [_] | exact uni_bs [_, _] | exact bs_byte _ | exact uni_bss _ | exact uni_bss [_] | exact Stable.refl _ | exact stable_last _ _ _ _ _ _ | trivial | rfl) ?_
  refine hK _ ?_; clear hK K
  refine CodeT.seqK fun K hK => CodeT.region ?_
  simp -implicitDefEqProofs only [go_sem, ↓reduceIte, Nat.reduceLT, Nat.reduceEqDiff, Nat.reduceAdd, Nat.reduceSub, Nat.reduceBEq, reduceCtorEq, opvs_getD hi, opvs_length, opv_cells, bs_length]
  repeat refine And.intro (by first | with_reducible rfl | assumption | omega | exact uni_bs _ | exact uni_bs [_] | exact uni_bs [_, _] | exact bs_byte _ | exact uni_bss _ | exact uni_bss [_] | exact Stable.refl _ | exact stable_last _ _ _ _ _ _ | trivial | rfl) ?_
  refine hK _ ?_; clear hK K
  refine CodeT.ret ?_
  simp -implicitDefEqProofs only [go_sem, ↓reduceIte, Nat.reduceLT, Nat.reduceEqDiff, Nat.reduceAdd, Nat.reduceSub, Nat.reduceBEq, reduceCtorEq, Try.f102]
  exact ⟨rfl, _, rfl, rfl⟩

theorem c57 (o : DOp) (hl : o.bytes.length ≤ 4000000) : PureT Try.prog 57 [opv o] (· = opv o) := by
  rw [← opv_eq]
  refine CallT.res ?_
  refine CallT.intro Try.func57 (by decide) rfl ?_
  simp -implicitDefEqProofs only [go_sem, ↓reduceIte, Nat.reduceLT, Nat.reduceEqDiff, Nat.reduceAdd, Nat.reduceSub, Nat.reduceBEq, reduceCtorEq, enterTm, Try.ntmps57, List.range'_succ, List.range'_zero, List.zip_cons_cons, List.zip_nil_left]
  refine CodeT.seqK fun K hK => CodeT.region ?_
  simp -implicitDefEqProofs only [go_sem, ↓reduceIte, Nat.reduceLT, Nat.reduceEqDiff, Nat.reduceAdd, Nat.reduceSub, Nat.reduceBEq, reduceCtorEq]
  repeat refine And.intro (by first | with_reducible rfl | assumption | omega | exact uni_bs _ | exact uni_bs [_] | exact uni_bs [_, _] | exact bs_byte _ | exact uni_bss _ | exact uni_bss [_] | exact Stable.refl _ | exact stable_last _ _ _ _ _ _ | trivial | rfl) ?_
  refine hK _ ?_; clear hK K
  refine CodeT.seqK fun K hK => CodeT.region ?_
  simp -implicitDefEqProofs only [go_sem, ↓reduceIte, Nat.reduceLT, Nat.reduceEqDiff, Nat.reduceAdd, Nat.reduceSub, Nat.reduceBEq, reduceCtorEq]
  repeat refine And.intro (by first | with_reducible rfl | assumption | omega | exact uni_bs _ | exact uni_bs [_] | exact uni_bs [_, _] | exact bs_byte _ | exact uni_bss _ | exact uni_bss [_] | exact Stable.refl _ | exact stable_last _ _ _ _ _ _ | trivial | rfl) ?_
  refine (c55 _ _ hl).mono ?_
  rintro r h' ⟨ver, rfl, rfl⟩
  simp -implicitDefEqProofs only [go_sem, ↓reduceIte, Nat.reduceLT, Nat.reduceEqDiff, Nat.reduceAdd, Nat.reduceSub, Nat.reduceBEq, reduceCtorEq]
  repeat refine And.intro (by first | with_reducible rfl | assumption | omega | exact uni_bs _ | exact uni_bs [_] | exact uni_bs [_, _] | exact bs_byte _ | exact uni_bss _ | exact uni_bss [_] | exact Stable.refl _ | exact stable_last _ _ _ _ _ _ | trivial | rfl) ?_
  refine hK _ ?_; clear hK K
  refine CodeT.seqK fun K hK => CodeT.region ?_
  simp -implicitDefEqProofs only [go_sem, ↓reduceIte, Nat.reduceLT, Nat.reduceEqDiff, Nat.reduceAdd, Nat.reduceSub, Nat.reduceBEq, reduceCtorEq]
  repeat refine And.intro (by first | with_reducible rfl | assumption | omega | exact uni_bs _ | exact uni_bs [_] | exact uni_bs [_, _] | exact bs_byte _ | exact uni_bss _ | exact uni_bss [_] | exact Stable.refl _ | exact stable_last _ _ _ _ _ _ | trivial | rfl) ?_
  refine hK _ ?_; clear hK K
  refine CodeT.ret ?_
  simp -implicitDefEqProofs only [go_sem, ↓reduceIte, Nat.reduceLT, Nat.reduceEqDiff, Nat.reduceAdd, Nat.reduceSub, Nat.reduceBEq, reduceCtorEq, Try.f57]
  rw [take_bs]
  exact ⟨by decide, by rw [bs_length]; exact Nat.le_refl _, rfl, _, rfl, rfl⟩
end Go.Proofs.Try

namespace Go.Proofs.Try
set_option linter.unusedSimpArgs false
open Go.PM

def is64 (l : List Int) : List AV := l.map fun n => .val (.int .i64 n)
theorem is64_length (l : List Int) : (is64 l).length = l.length := by simp [is64]
theorem is64_getD {l : List Int} {i : Nat} (h : i < l.length) : (is64 l).getD i .dead = .val (.int .i64 (l.getD i 0)) := by
  simp [is64, List.getD_eq_getElem?_getD, h]
def farC (cuts : List Int) (d : Dsk) (i : Nat) : Nat := if cuts.length ≤ i then 0 else min (cuts.getD i 0).toNat (d.queue.getD i op0).bytes.length

theorem farC_int (c : Int) (n : Nat) : (if (n : Int) < (if (0 : Int) > c then 0 else c) then (n : Int) else (if (0 : Int) > c then 0 else c)) = ((min c.toNat n : Nat) : Int) := by
  split <;> split <;> omega

theorem c60 (d : Dsk) (cuts : List Int) (i : Nat) (hi : i < d.queue.length) : PureT Try.prog 60 [.val (.int .i64 (i : Nat)), .cptr [.sl false (is64 cuts)], dcp d] (· = .val (.int .i64 (farC cuts d i : Nat))) := by
  unfold dcp
  refine CallT.intro Try.func60 (by decide) rfl ?_
  simp -implicitDefEqProofs only [go_sem, ↓reduceIte, Nat.reduceLT, Nat.reduceEqDiff, Nat.reduceAdd, Nat.reduceSub, Nat.reduceBEq, reduceCtorEq, enterTm, Try.ntmps60, List.range'_succ, List.range'_zero, List.zip_cons_cons, List.zip_nil_left]
  refine CodeT.seqK fun K hK => CodeT.region ?_
  simp -implicitDefEqProofs only [go_sem, ↓reduceIte, Nat.reduceLT, Nat.reduceEqDiff, Nat.reduceAdd, Nat.reduceSub, Nat.reduceBEq, reduceCtorEq]
  repeat refine And.intro (by first | with_reducible rfl | assumption | omega | exact uni_bs _ | exact uni_bs [_] | exact uni_bs [_, _] | exact bs_byte _ | exact uni_bss _ | exact uni_bss [_] | exact Stable.refl _ | exact stable_last _ _ _ _ _ _ | trivial | rfl) ?_
  refine hK _ ?_; clear hK K
  refine CodeT.seqK fun K hK => ?_
  refine CodeT.seqK fun K1 hK1 => CodeT.region ?_
  simp -implicitDefEqProofs only [go_sem, ↓reduceIte, Nat.reduceLT, Nat.reduceEqDiff, Nat.reduceAdd, Nat.reduceSub, Nat.reduceBEq, reduceCtorEq, is64_length]
  repeat refine And.intro (by first | with_reducible rfl | assumption | omega | exact uni_bs _ | exact uni_bs [_] | exact uni_bs [_, _] | exact bs_byte _ | exact uni_bss _ | exact uni_bss [_] | exact Stable.refl _ | exact stable_last _ _ _ _ _ _ | trivial | rfl) ?_
  refine hK1 _ ?_; clear hK1 K1
  refine CodeT.cond rfl (fun ht => ?_) (fun hf => CodeT.skip ?_)
  · refine CodeT.seqK fun K1 hK1 => CodeT.region ?_
    simp -implicitDefEqProofs only [go_sem, ↓reduceIte, Nat.reduceLT, Nat.reduceEqDiff, Nat.reduceAdd, Nat.reduceSub, Nat.reduceBEq, reduceCtorEq]
    repeat refine And.intro (by first | with_reducible rfl | assumption | omega | exact uni_bs _ | exact uni_bs [_] | exact uni_bs [_, _] | exact bs_byte _ | exact uni_bss _ | exact uni_bss [_] | exact Stable.refl _ | exact stable_last _ _ _ _ _ _ | trivial | rfl) ?_
    refine hK1 _ ?_; clear hK1 K1
    refine CodeT.ret ?_
    simp -implicitDefEqProofs only [go_sem, ↓reduceIte, Nat.reduceLT, Nat.reduceEqDiff, Nat.reduceAdd, Nat.reduceSub, Nat.reduceBEq, reduceCtorEq, Try.f60]
    have : cuts.length ≤ i := by simp at ht; omega
    exact ⟨rfl, _, rfl, by rw [farC, if_pos this]; rfl⟩
  · simp -implicitDefEqProofs only [go_sem, ↓reduceIte, Nat.reduceLT, Nat.reduceEqDiff, Nat.reduceAdd, Nat.reduceSub, Nat.reduceBEq, reduceCtorEq]
    repeat refine And.intro (by first | with_reducible rfl | assumption | omega | exact uni_bs _ | exact uni_bs [_] | exact uni_bs [_, _] | exact bs_byte _ | exact uni_bss _ | exact uni_bss [_] | exact Stable.refl _ | exact stable_last _ _ _ _ _ _ | trivial | rfl) ?_
    refine hK _ ?_; clear hK K
    have hlt : i < cuts.length := by simp at hf; omega
    refine CodeT.seqK fun K hK => CodeT.drawnL [(0, .read), (1, .free), (2, .read), (3, .read), (4, .read), (5, .free), (6, .read), (7, .free), (8, .read), (9, .free), (10, .read), (11, .read), (12, .read), (13, .free)] mixed (by kernel_rfl) ?_
    simp -implicitDefEqProofs only [go_sem, ↓reduceIte, Nat.reduceLT, Nat.reduceEqDiff, Nat.reduceAdd, Nat.reduceSub, Nat.reduceBEq, reduceCtorEq, opvs_getD hi, opvs_length, opv_cells, bs_length, is64_getD hlt, is64_length]
    repeat refine And.intro (by first | with_reducible rfl | assumption | omega | exact uni_bs _ | exact uni_bs [_] | exact uni_bs [_, _] | exact bs_byte _ | exact uni_bss _ | exact uni_bss [_] | exact Stable.refl _ | exact stable_last _ _ _ _ _ _ | trivial | rfl) ?_
    refine hK _ ?_; clear hK K
    refine CodeT.ret ?_
    simp -implicitDefEqProofs only [go_sem, ↓reduceIte, Nat.reduceLT, Nat.reduceEqDiff, Nat.reduceAdd, Nat.reduceSub, Nat.reduceBEq, reduceCtorEq, Try.f60]
    have : ¬ cuts.length ≤ i := by omega
    refine ⟨rfl, _, rfl, ?_⟩
    rw [farC, if_neg this, ← farC_int]
end Go.Proofs.Try

namespace Go.PM
theorem laxL_bs (l : List UInt8) : laxL (bs l) = bs l := by
  rw [laxL_eq, bs, List.map_map]
  rfl
theorem laxL_bss (l : List (List UInt8)) : laxL (bss l) = bss l := by
  rw [laxL_eq, bss, List.map_map]
  refine List.map_congr_left fun p _ => ?_
  show AV.sl false (laxL (bs p)) = _
  rw [laxL_bs]
theorem lax_val (v : Value) : (AV.val v).lax = .val v := rfl
theorem lax_sl (f : Bool) (es : List AV) : (AV.sl f es).lax = .sl false (laxL es) := rfl
theorem lax_agg (cs : List AV) : (AV.agg cs).lax = .agg (laxL cs) := rfl
theorem lax_tup (cs : List AV) : (AV.tup cs).lax = .tup (laxL cs) := rfl
theorem lax_cptr (cs : List AV) : (AV.cptr cs).lax = .cptr (laxL cs) := rfl
theorem lax_fn (f : FuncId) (cs : List AV) : (AV.fn f cs).lax = .fn f (laxL cs) := rfl
theorem lax_hsl (a b c d : Nat) : (AV.hsl a b c d).lax = .hsl a b c d := rfl
theorem lax_ptr (a b : Nat) : (AV.ptr a b).lax = .ptr a b := rfl
theorem laxL_nil : laxL [] = [] := rfl
theorem laxL_cons (x : AV) (l : List AV) : laxL (x :: l) = x.lax :: laxL l := rfl
theorem aelax_ret (x : AV) : (AE.ret x).lax = .ret x.lax := rfl
attribute [go_sem] laxL_bs laxL_bss lax_val lax_sl lax_agg lax_tup lax_cptr lax_fn lax_hsl lax_ptr laxL_nil laxL_cons aelax_ret
theorem uniB_map {α : Type} {f : α → AV} {n : Nat} (h : ∀ x, ((f x).cells.length == n && allOne (f x).cells) = true) (l : List α) : uniB n (l.map f) = true := by
  rw [uniB, List.all_map, List.all_eq_true]
  exact fun x _ => h x
theorem uniB_bs (l : List UInt8) : uniB 1 (bs l) = true := uniB_map (fun _ => rfl) l
theorem map_getD {α : Type} [Inhabited α] (f : α → AV) {l : List α} {i : Nat} (h : i < l.length) : (l.map f).getD i .dead = f (l.getD i default) := by
  simp [List.getD_eq_getElem?_getD, h]
theorem rep_u8 (n : Nat) : List.replicate n (AV.val (.int .u8 0)) = bs (List.replicate n 0) := by simp [bs]
attribute [go_sem] rep_u8
end Go.PM
namespace Go.Proofs.Try
open Go.PM
theorem laxL_opvs (q : List DOp) : laxL (opvs q) = opvs q := by
  rw [laxL_eq, opvs, List.map_map]
  refine List.map_congr_left fun p _ => ?_
  show AV.agg [_, _, .sl false (laxL (bs p.bytes))] = _
  rw [laxL_bs]
  rfl
theorem opv_lax (o : DOp) : (opv o).lax = opv o := by
  show AV.agg [_, _, .sl false (laxL (bs o.bytes))] = _
  rw [laxL_bs]
  rfl
theorem dkv_lax (d : Dsk) : (dkv d).lax = dkv d := by
  show AV.agg [.sl false (laxL (bs d.bytes)), .sl false (laxL (opvs d.queue))] = _
  rw [laxL_bs, laxL_opvs]
  rfl
theorem opv_fold (a : Bool) (b : Int) (c : List UInt8) : AV.agg [.val (.bool a), .val (.int .i64 b), .sl false (bs c)] = opv ⟨a, b, c⟩ := rfl
theorem op_eta (o : DOp) : (⟨o.flush, o.at_, o.bytes⟩ : DOp) = o := rfl
theorem dkv_fold (b : List UInt8) (q : List DOp) : AV.agg [.sl false (bs b), .sl false (opvs q)] = dkv ⟨b, q⟩ := rfl
theorem dk_eta (d : Dsk) : (⟨d.bytes, d.queue⟩ : Dsk) = d := rfl
theorem dkv_cells (d : Dsk) : (dkv d).cells = [.sl false (bs d.bytes), .sl false (opvs d.queue)] := rfl
theorem opv_under (n : Nat) (o : DOp) : (opv o).under n = true := rfl
theorem dkv_under (n : Nat) (d : Dsk) : (dkv d).under n = true := rfl
theorem opv_noRow (o : DOp) : (opv o).noRow = true := rfl
theorem dkv_noRow (o : Dsk) : (dkv o).noRow = true := rfl
theorem opvs_snoc (l : List DOp) (o : DOp) : opvs l ++ [opv o] = opvs (l ++ [o]) := by simp [opvs]
theorem opvs_append (l l' : List DOp) : opvs l ++ opvs l' = opvs (l ++ l') := by simp [opvs]
theorem opvs_take (l : List DOp) (n : Nat) : (opvs l).take n = opvs (l.take n) := by simp [opvs]
theorem opvs_drop (l : List DOp) (n : Nat) : (opvs l).drop n = opvs (l.drop n) := by simp [opvs]
theorem uniB_opvs (l : List DOp) : uniB 3 (opvs l) = true := uniB_map (fun _ => rfl) l
theorem frzA_opv (h : List Box) (o : DOp) (K : AV → List Box → Prop) : frzA h (opv o) K = K (opv o) h := by
  unfold opv
  rw [frzA_agg, frzL_cons, frz0_val, frzL_cons, frz0_val, frzL_cons, frz0_sl, frzL_nil]
theorem frzC_opv (h : List Box) (o : DOp) (K : AV → List Box → Prop) : frzC h (opv o) K = K (opv o) h := frzA_opv h o K
theorem frzV_opv (h : List Box) (o : DOp) (K : AV → List Box → Prop) : frzV h (opv o) K = K (opv o) h := frzA_opv h o K
theorem frzA_dkv (h : List Box) (o : Dsk) (K : AV → List Box → Prop) : frzA h (dkv o) K = K (dkv o) h := by
  unfold dkv
  rw [frzA_agg, frzL_cons, frz0_sl, frzL_cons, frz0_sl, frzL_nil]
theorem frzC_dkv (h : List Box) (o : Dsk) (K : AV → List Box → Prop) : frzC h (dkv o) K = K (dkv o) h := frzA_dkv h o K
theorem frzV_dkv (h : List Box) (o : Dsk) (K : AV → List Box → Prop) : frzV h (dkv o) K = K (dkv o) h := frzA_dkv h o K
attribute [go_sem ↓] frzA_opv frzC_opv frzV_opv frzA_dkv frzC_dkv frzV_dkv
attribute [go_sem] laxL_opvs opv_lax dkv_lax opv_fold op_eta dkv_fold dk_eta opv_cells dkv_cells opv_under dkv_under opv_noRow dkv_noRow opvs_snoc opvs_append opvs_take opvs_drop opvs_length bs_take bs_drop bs_append bs_length bss_length is64_length bss_take bss_drop bss_snoc uniB_bs uniB_opvs
attribute [go_sem] Try.underlying2 Try.underlying3 Try.underlying4 Try.underlying5 Try.underlying9 Try.underlying12 Try.underlying15 Try.underlying16 Try.underlying17 Try.underlying20 Try.underlying21 Try.underlying22 Try.underlying25 Try.underlying29 Try.underlying32 Try.underlying54 Try.underlying58 Try.underlying90 Try.underlying117 Try.underlying118 Try.underlying6 Try.underlying10 Try.underlying11 Try.underlying35
attribute [go_sem] List.length_take List.length_drop List.length_append List.length_cons List.length_nil List.length_map List.take_length Int.toNat_sub List.length_replicate List.take_replicate Nat.min_self ne_eq not_false_eq_true true_and and_true
attribute [go_sem ↓] nilA
end Go.Proofs.Try

namespace Go.Proofs.Try
set_option linter.unusedSimpArgs false
open Go.PM
set_option maxHeartbeats 4000000

def putB (out : List UInt8) (a : Nat) (x : List UInt8) : List UInt8 := out.take a ++ x ++ out.drop (a + x.length)
theorem putB_length {out x : List UInt8} {a : Nat} (h : a + x.length ≤ out.length) : (putB out a x).length = out.length := by
  simp [putB]; omega
def doneTo (b : List UInt8) (q : List DOp) (far : Nat → Nat) (i : Nat) : List UInt8 :=
  (List.range i).foldl (fun out k => putB out (q.getD k op0).at_.toNat ((q.getD k op0).bytes.take (far k))) b
theorem doneTo_succ (b : List UInt8) (q : List DOp) (far : Nat → Nat) (i : Nat) : doneTo b q far (i + 1) = putB (doneTo b q far i) (q.getD i op0).at_.toNat ((q.getD i op0).bytes.take (far i)) := by
  simp [doneTo, List.range_succ]
/-- The writes lie within the bytes. -/
def within (n : Nat) (q : List DOp) : Prop := ∀ i, i < q.length → 0 ≤ (q.getD i op0).at_ ∧ (q.getD i op0).at_ + (q.getD i op0).bytes.length ≤ n
theorem doneTo_length {b : List UInt8} {q : List DOp} {far : Nat → Nat} (hw : within b.length q) : ∀ i, i ≤ q.length → (doneTo b q far i).length = b.length := by
  intro i
  induction i with
  | zero => intro _; rfl
  | succ i ih =>
    intro hi
    have h1 := hw i (by omega)
    have h2 := ih (by omega)
    rw [doneTo_succ, putB_length, h2]
    rw [h2, List.length_take]
    omega

theorem c59 (b : List UInt8) (q : List DOp) (f : FuncId) (caps : List AV) (hcaps : pureL caps = true) (far : Nat → Nat) (hf : ∀ i, i < q.length → PureT Try.prog f (.val (.int .i64 (i : Nat)) :: caps) (· = .val (.int .i64 (far i : Nat)))) (hfar : ∀ i, i < q.length → far i ≤ (q.getD i op0).bytes.length)
    (hw : within b.length q) (hb : b.length ≤ 4000000) (hq : q.length ≤ 4000000) : PureT Try.prog 59 [.sl false (bs b), .sl false (opvs q), .fn f caps] (· = .sl false (bs (doneTo b q far q.length))) := by
  refine CallT.res ?_
  refine CallT.intro Try.func59 (by decide) rfl ?_
  simp -implicitDefEqProofs (maxSteps := 1000000) only [go_sem, ↓indexAddrA_at, ↓loadA_at, ↓reduceIte, Nat.reduceLT, Nat.reduceEqDiff, Nat.reduceAdd, Nat.reduceSub, Nat.reduceBEq, Nat.reduceLeDiff, Int.reduceToNat, reduceCtorEq, pureL_under _ caps hcaps, enterTm, Try.ntmps59, List.range'_succ, List.range'_zero, List.zip_cons_cons, List.zip_nil_left]
  refine CodeT.seqR ?_
  simp -implicitDefEqProofs (maxSteps := 1000000) only [go_sem, ↓indexAddrA_at, ↓loadA_at, ↓reduceIte, Nat.reduceLT, Nat.reduceEqDiff, Nat.reduceAdd, Nat.reduceSub, Nat.reduceBEq, Nat.reduceLeDiff, Int.reduceToNat, reduceCtorEq, pureL_under _ caps hcaps, Try.results59]
  refine CodeT.seqR ?_
  simp -implicitDefEqProofs (maxSteps := 1000000) only [go_sem, ↓indexAddrA_at, ↓loadA_at, ↓reduceIte, Nat.reduceLT, Nat.reduceEqDiff, Nat.reduceAdd, Nat.reduceSub, Nat.reduceBEq, Nat.reduceLeDiff, Int.reduceToNat, reduceCtorEq, pureL_under _ caps hcaps, Try.results59]
  refine (c55 _ _ ?_).mono ?_
  assumption
  rintro r1 h1 ⟨v1, rfl, rfl⟩
  simp -implicitDefEqProofs (maxSteps := 1000000) only [go_sem, ↓indexAddrA_at, ↓loadA_at, ↓reduceIte, Nat.reduceLT, Nat.reduceEqDiff, Nat.reduceAdd, Nat.reduceSub, Nat.reduceBEq, Nat.reduceLeDiff, Int.reduceToNat, reduceCtorEq, pureL_under _ caps hcaps, Try.results59]
  refine CodeT.seq ?_
  refine CodeT.seqR ?_
  simp -implicitDefEqProofs (maxSteps := 1000000) only [go_sem, ↓indexAddrA_at, ↓loadA_at, ↓reduceIte, Nat.reduceLT, Nat.reduceEqDiff, Nat.reduceAdd, Nat.reduceSub, Nat.reduceBEq, Nat.reduceLeDiff, Int.reduceToNat, reduceCtorEq, pureL_under _ caps hcaps, Try.results59]
  refine CodeT.block ?_
  refine CodeT.whileS (fun i : Nat => [(14, .val (.int .i64 (i : Nat)))]) [13, 12, 7, 2] (fun i : Nat => [.row true _ 1 (bs (doneTo b q far i))]) (fun i : Nat => i ≤ q.length) (fun i : Nat => q.length - i) (0) ?_ rfl ?_ ?_
  omega
  refine ⟨rfl, ?_, ?_, rfl, ?_⟩
  simp -implicitDefEqProofs (maxSteps := 1000000) only [go_sem, ↓indexAddrA_at, ↓loadA_at, ↓reduceIte, Nat.reduceLT, Nat.reduceEqDiff, Nat.reduceAdd, Nat.reduceSub, Nat.reduceBEq, Nat.reduceLeDiff, Int.reduceToNat, reduceCtorEq, pureL_under _ caps hcaps, Try.results59, or_true, true_or, false_or, or_false, implies_true, Int.natCast_add, Int.cast_ofNat_Int, keepsD_nil]
  trivial
  simp -implicitDefEqProofs (maxSteps := 1000000) only [go_sem, ↓indexAddrA_at, ↓loadA_at, ↓reduceIte, Nat.reduceLT, Nat.reduceEqDiff, Nat.reduceAdd, Nat.reduceSub, Nat.reduceBEq, Nat.reduceLeDiff, Int.reduceToNat, reduceCtorEq, pureL_under _ caps hcaps, Try.results59, or_true, true_or, false_or, or_false, implies_true, Int.natCast_add, Int.cast_ofNat_Int, keepsD_nil]
  trivial
  simp -implicitDefEqProofs (maxSteps := 1000000) only [go_sem, ↓indexAddrA_at, ↓loadA_at, ↓reduceIte, Nat.reduceLT, Nat.reduceEqDiff, Nat.reduceAdd, Nat.reduceSub, Nat.reduceBEq, Nat.reduceLeDiff, Int.reduceToNat, reduceCtorEq, pureL_under _ caps hcaps, Try.results59, or_true, true_or, false_or, or_false, implies_true, Int.natCast_add, Int.cast_ofNat_Int, keepsD_nil]
  rintro i hi
  have f1 := hw i
  have f2 := hfar i
  have f3 := doneTo_length (far := far) hw i hi
  simp -implicitDefEqProofs (maxSteps := 1000000) only [go_sem, ↓indexAddrA_at, ↓loadA_at, ↓reduceIte, Nat.reduceLT, Nat.reduceEqDiff, Nat.reduceAdd, Nat.reduceSub, Nat.reduceBEq, Nat.reduceLeDiff, Int.reduceToNat, reduceCtorEq, pureL_under _ caps hcaps, Try.results59]
  refine CodeT.seqR ?_
  simp -implicitDefEqProofs (maxSteps := 1000000) only [go_sem, ↓indexAddrA_at, ↓loadA_at, ↓reduceIte, Nat.reduceLT, Nat.reduceEqDiff, Nat.reduceAdd, Nat.reduceSub, Nat.reduceBEq, Nat.reduceLeDiff, Int.reduceToNat, reduceCtorEq, pureL_under _ caps hcaps, Try.results59]
  refine CodeT.seq (CodeT.cond rfl (fun g2 => ?_) (fun g2 => ?_))
  have d2 := ofDec g2
  refine CodeT.skip ?_
  simp -implicitDefEqProofs (maxSteps := 1000000) only [go_sem, ↓indexAddrA_at, ↓loadA_at, ↓reduceIte, Nat.reduceLT, Nat.reduceEqDiff, Nat.reduceAdd, Nat.reduceSub, Nat.reduceBEq, Nat.reduceLeDiff, Int.reduceToNat, reduceCtorEq, pureL_under _ caps hcaps, Try.results59, g2]
  refine CodeT.seq (CodeT.block ?_)
  refine CodeT.seqR ?_
  simp -implicitDefEqProofs (maxSteps := 1000000) only [go_sem, ↓indexAddrA_at, ↓loadA_at, ↓reduceIte, Nat.reduceLT, Nat.reduceEqDiff, Nat.reduceAdd, Nat.reduceSub, Nat.reduceBEq, Nat.reduceLeDiff, Int.reduceToNat, reduceCtorEq, pureL_under _ caps hcaps, Try.results59, g2]
  refine gate_i ?_ ?_
  omega
  simp -implicitDefEqProofs (maxSteps := 1000000) only [go_sem, ↓indexAddrA_at, ↓loadA_at, ↓reduceIte, Nat.reduceLT, Nat.reduceEqDiff, Nat.reduceAdd, Nat.reduceSub, Nat.reduceBEq, Nat.reduceLeDiff, Int.reduceToNat, reduceCtorEq, pureL_under _ caps hcaps, Try.results59, g2]
  simp -implicitDefEqProofs (disch := omega) only [i64_in, bs_getD, opvs_getD, is64_getD, bss_getD]
  simp -implicitDefEqProofs (maxSteps := 1000000) only [go_sem, ↓indexAddrA_at, ↓loadA_at, ↓reduceIte, Nat.reduceLT, Nat.reduceEqDiff, Nat.reduceAdd, Nat.reduceSub, Nat.reduceBEq, Nat.reduceLeDiff, Int.reduceToNat, reduceCtorEq, pureL_under _ caps hcaps, Try.results59, g2]
  refine CodeT.drawnL [(0, .free), (1, .free), (4, .free), (6, .free), (7, .free), (8, .free), (2, .read), (5, .read), (9, .read), (3, .upd), (10, .upd)] mixed (by kernel_rfl) ?_
  simp -implicitDefEqProofs (maxSteps := 1000000) only [go_sem, ↓indexAddrA_at, ↓loadA_at, ↓reduceIte, Nat.reduceLT, Nat.reduceEqDiff, Nat.reduceAdd, Nat.reduceSub, Nat.reduceBEq, Nat.reduceLeDiff, Int.reduceToNat, reduceCtorEq, pureL_under _ caps hcaps, Try.results59, g2]
  refine CallF.go (hf _ ?_) (all_pure rfl (by assumption)) ?_
  omega
  simp -implicitDefEqProofs (maxSteps := 1000000) only [go_sem, ↓indexAddrA_at, ↓loadA_at, ↓reduceIte, Nat.reduceLT, Nat.reduceEqDiff, Nat.reduceAdd, Nat.reduceSub, Nat.reduceBEq, Nat.reduceLeDiff, Int.reduceToNat, reduceCtorEq, pureL_under _ caps hcaps, Try.results59, g2]
  refine And.intro (by trivial) ?_
  refine And.intro (by exact uni_bs _) ?_
  refine And.intro (by omega) ?_
  refine And.intro (by omega) ?_
  refine And.intro (by omega) ?_
  refine And.intro (by omega) ?_
  refine And.intro (by omega) ?_
  refine And.intro (by omega) ?_
  refine And.intro (by omega) ?_
  refine And.intro (by exact Stable.refl _) ?_
  refine And.intro (by omega) ?_
  refine And.intro (by exact uni_bs _) ?_
  refine And.intro (by omega) ?_
  refine And.intro (by exact Stable.row (Stable.refl _)) ?_
  refine CodeT.region ?_
  simp -implicitDefEqProofs (maxSteps := 1000000) only [go_sem, ↓indexAddrA_at, ↓loadA_at, ↓reduceIte, Nat.reduceLT, Nat.reduceEqDiff, Nat.reduceAdd, Nat.reduceSub, Nat.reduceBEq, Nat.reduceLeDiff, Int.reduceToNat, reduceCtorEq, pureL_under _ caps hcaps, Try.results59, g2]
  simp -implicitDefEqProofs (disch := omega) only [i64_in, bs_getD, opvs_getD, is64_getD, bss_getD]
  refine ⟨i + 1, ?_⟩
  refine And.intro ?_ ?_
  omega
  refine And.intro ?_ ?_
  omega
  refine ⟨rfl, ?_, ?_, rfl, ?_⟩
  simp -implicitDefEqProofs (maxSteps := 1000000) only [go_sem, ↓indexAddrA_at, ↓loadA_at, ↓reduceIte, Nat.reduceLT, Nat.reduceEqDiff, Nat.reduceAdd, Nat.reduceSub, Nat.reduceBEq, Nat.reduceLeDiff, Int.reduceToNat, reduceCtorEq, pureL_under _ caps hcaps, Try.results59, g2, or_true, true_or, false_or, or_false, implies_true, Int.natCast_add, Int.cast_ofNat_Int, keepsD_nil]
  trivial
  simp -implicitDefEqProofs (maxSteps := 1000000) only [go_sem, ↓indexAddrA_at, ↓loadA_at, ↓reduceIte, Nat.reduceLT, Nat.reduceEqDiff, Nat.reduceAdd, Nat.reduceSub, Nat.reduceBEq, Nat.reduceLeDiff, Int.reduceToNat, reduceCtorEq, pureL_under _ caps hcaps, Try.results59, g2, or_true, true_or, false_or, or_false, implies_true, Int.natCast_add, Int.cast_ofNat_Int, keepsD_nil]
  rotate_left
  simp -implicitDefEqProofs (maxSteps := 1000000) only [go_sem, ↓indexAddrA_at, ↓loadA_at, ↓reduceIte, Nat.reduceLT, Nat.reduceEqDiff, Nat.reduceAdd, Nat.reduceSub, Nat.reduceBEq, Nat.reduceLeDiff, Int.reduceToNat, reduceCtorEq, pureL_under _ caps hcaps, Try.results59, g2, or_true, true_or, false_or, or_false, implies_true, Int.natCast_add, Int.cast_ofNat_Int, keepsD_nil]
  have d2 := ofDecF g2
  refine CodeT.exit ?_
  simp -implicitDefEqProofs (maxSteps := 1000000) only [go_sem, ↓indexAddrA_at, ↓loadA_at, ↓reduceIte, Nat.reduceLT, Nat.reduceEqDiff, Nat.reduceAdd, Nat.reduceSub, Nat.reduceBEq, Nat.reduceLeDiff, Int.reduceToNat, reduceCtorEq, pureL_under _ caps hcaps, Try.results59, g2]
  refine CodeT.seqR ?_
  simp -implicitDefEqProofs (maxSteps := 1000000) only [go_sem, ↓indexAddrA_at, ↓loadA_at, ↓reduceIte, Nat.reduceLT, Nat.reduceEqDiff, Nat.reduceAdd, Nat.reduceSub, Nat.reduceBEq, Nat.reduceLeDiff, Int.reduceToNat, reduceCtorEq, pureL_under _ caps hcaps, Try.results59, g2]
  refine CodeT.ret ?_
  simp -implicitDefEqProofs (maxSteps := 1000000) only [go_sem, ↓indexAddrA_at, ↓loadA_at, ↓reduceIte, Nat.reduceLT, Nat.reduceEqDiff, Nat.reduceAdd, Nat.reduceSub, Nat.reduceBEq, Nat.reduceLeDiff, Int.reduceToNat, reduceCtorEq, pureL_under _ caps hcaps, Try.results59, g2]
  refine And.intro (by omega) ?_
  refine pureEnd rfl ?_
  rotate_left
  · rw [doneTo_succ, putB, List.length_take]
  · have : i = q.length := by omega
    subst this
    rw [List.take_of_length_le (by omega)]

theorem isDisk_sound {d : Dsk} (h : isDiskB d = true) : sizeB d.bytes.length = true ∧ within d.bytes.length d.queue ∧ ∀ i, i < d.queue.length → (d.queue.getD i op0).flush = false ∧ 0 < (d.queue.getD i op0).bytes.length := by
  unfold isDiskB at h
  simp only [Bool.and_eq_true, Bool.not_eq_true'] at h
  obtain ⟨h1, h2⟩ := h
  have key : ∀ i, i < d.queue.length → badOp d.bytes.length (d.queue.getD i op0) = false := by
    intro i hi
    have := List.any_eq_false.1 h2 (d.queue.getD i op0) (by simp [List.getD_eq_getElem?_getD, hi])
    simpa using this
  refine ⟨h1, fun i hi => ?_, fun i hi => ?_⟩
  · have := key i hi
    generalize d.queue.getD i op0 = o at *
    simp [badOp, fitsB] at this
    obtain ⟨h3, h4⟩ := this
    rw [h3] at h4
    simp at h4
    omega
  · have := key i hi
    generalize d.queue.getD i op0 = o at *
    simp [badOp, fitsB] at this
    obtain ⟨h3, h4⟩ := this
    rw [h3] at h4
    simp at h4
    exact ⟨h3, by have := h4.1; cases hb : o.bytes with
      | nil => simp [hb] at this
      | cons x l => simp⟩

def seenB (d : Dsk) : List UInt8 := doneTo d.bytes d.queue (fun i => (d.queue.getD i op0).bytes.length) d.queue.length
theorem seenB_length {d : Dsk} (hw : within d.bytes.length d.queue) : (seenB d).length = d.bytes.length := doneTo_length hw _ (Nat.le_refl _)

theorem c59s (d : Dsk) (hw : within d.bytes.length d.queue) (hb : d.bytes.length ≤ 4000000) (hq : d.queue.length ≤ 4000000) : PureT Try.prog 59 [.sl false (bs d.bytes), .sl false (opvs d.queue), .fn 102 [dcp d]] (· = .sl false (bs (seenB d))) :=
  c59 _ _ _ _ rfl (fun i => (d.queue.getD i op0).bytes.length) (fun i hi => c102 d i hi) (fun i _ => Nat.le_refl _) hw hb hq
theorem c58 (d : Dsk) (hw : within d.bytes.length d.queue) (hb0 : 0 < d.bytes.length) (hb : d.bytes.length ≤ 4000000) (hq : d.queue.length ≤ 4000000) : PureT Try.prog 58 [dkv d] (· = kpv d (seenB d) (halfAt (seenB d) : Nat)) := by
  refine CallT.res ?_
  have hl := seenB_length hw
  refine CallT.intro Try.func58 (by decide) rfl ?_
  simp -implicitDefEqProofs (maxSteps := 1000000) only [go_sem, ↓indexAddrA_at, ↓loadA_at, ↓reduceIte, Nat.reduceLT, Nat.reduceEqDiff, Nat.reduceAdd, Nat.reduceSub, Nat.reduceBEq, Nat.reduceLeDiff, Int.reduceToNat, reduceCtorEq, enterTm, Try.ntmps58, List.range'_succ, List.range'_zero, List.zip_cons_cons, List.zip_nil_left]
  refine CodeT.seqR ?_
  simp -implicitDefEqProofs (maxSteps := 1000000) only [go_sem, ↓indexAddrA_at, ↓loadA_at, ↓reduceIte, Nat.reduceLT, Nat.reduceEqDiff, Nat.reduceAdd, Nat.reduceSub, Nat.reduceBEq, Nat.reduceLeDiff, Int.reduceToNat, reduceCtorEq, Try.results58]
  refine CodeT.freeze 1 ?_
  simp -implicitDefEqProofs (maxSteps := 1000000) only [go_sem, ↓indexAddrA_at, ↓loadA_at, ↓reduceIte, Nat.reduceLT, Nat.reduceEqDiff, Nat.reduceAdd, Nat.reduceSub, Nat.reduceBEq, Nat.reduceLeDiff, Int.reduceToNat, reduceCtorEq, Try.results58]
  refine CodeT.seqR ?_
  simp -implicitDefEqProofs (maxSteps := 1000000) only [go_sem, ↓indexAddrA_at, ↓loadA_at, ↓reduceIte, Nat.reduceLT, Nat.reduceEqDiff, Nat.reduceAdd, Nat.reduceSub, Nat.reduceBEq, Nat.reduceLeDiff, Int.reduceToNat, reduceCtorEq, Try.results58]
  refine PureT.eq (c59s d hw hb hq) rfl ?_
  simp -implicitDefEqProofs (maxSteps := 1000000) only [go_sem, ↓indexAddrA_at, ↓loadA_at, ↓reduceIte, Nat.reduceLT, Nat.reduceEqDiff, Nat.reduceAdd, Nat.reduceSub, Nat.reduceBEq, Nat.reduceLeDiff, Int.reduceToNat, reduceCtorEq, Try.results58]
  refine CodeT.seqD [(1, .free), (2, .free), (3, .free), (0, .read), (4, .free), (5, .upd), (6, .free)] mixed (by kernel_rfl) ?_
  simp -implicitDefEqProofs (maxSteps := 1000000) only [go_sem, ↓indexAddrA_at, ↓loadA_at, ↓reduceIte, Nat.reduceLT, Nat.reduceEqDiff, Nat.reduceAdd, Nat.reduceSub, Nat.reduceBEq, Nat.reduceLeDiff, Int.reduceToNat, reduceCtorEq, Try.results58]
  refine CallF.go (c103 _ ?_ ?_) rfl ?_
  omega
  omega
  simp -implicitDefEqProofs (maxSteps := 1000000) only [go_sem, ↓indexAddrA_at, ↓loadA_at, ↓reduceIte, Nat.reduceLT, Nat.reduceEqDiff, Nat.reduceAdd, Nat.reduceSub, Nat.reduceBEq, Nat.reduceLeDiff, Int.reduceToNat, reduceCtorEq, Try.results58]
  refine And.intro (by exact Stable.append [_] [_]) ?_
  refine CodeT.ret ?_
  simp -implicitDefEqProofs (maxSteps := 1000000) only [go_sem, ↓indexAddrA_at, ↓loadA_at, ↓reduceIte, Nat.reduceLT, Nat.reduceEqDiff, Nat.reduceAdd, Nat.reduceSub, Nat.reduceBEq, Nat.reduceLeDiff, Int.reduceToNat, reduceCtorEq, Try.results58]
  refine pureEnd rfl ?_
  rotate_left
  rfl
/-- A keeper as it should be. -/
structure KOK (d : Dsk) (seen : List UInt8) (half : Nat) : Prop where
  b : d.bytes.length ≤ 4000000
  s : seen.length = d.bytes.length
  o : d.bytes.length % 2 = 1
  z : 64 ≤ d.bytes.length / 2
  h : half = 1 ∨ half = 1 + d.bytes.length / 2
theorem KOK.top {d : Dsk} {seen : List UInt8} {half : Nat} (k : KOK d seen half) : half + d.bytes.length / 2 ≤ d.bytes.length := by
  have := k.h; have := k.o; have := k.z
  omega
theorem usedB_length {d : Dsk} {seen : List UInt8} {half : Nat} (k : KOK d seen half) : (usedB d seen half).length = d.bytes.length / 2 := by
  have := k.top; have := k.s
  simp [usedB]; omega
def writtenB (d : Dsk) (seen : List UInt8) (half : Nat) : Bool := decide (((parseR (usedB d seen half)).length : Int) > 0)
theorem c67 (d : Dsk) (seen : List UInt8) (half : Nat) (k : KOK d seen half) : PureT Try.prog 67 [kpv d seen half] (· = .val (.bool (writtenB d seen half))) := by
  have h1 := k.top; have h2 := k.s; have h3 := k.b; have h4 := usedB_length k
  refine CallT.intro Try.func67 (by decide) rfl ?_
  simp -implicitDefEqProofs (maxSteps := 1000000) only [go_sem, ↓indexAddrA_at, ↓loadA_at, ↓reduceIte, Nat.reduceLT, Nat.reduceEqDiff, Nat.reduceAdd, Nat.reduceSub, Nat.reduceBEq, Nat.reduceLeDiff, Int.reduceToNat, reduceCtorEq, enterTm, Try.ntmps67, List.range'_succ, List.range'_zero, List.zip_cons_cons, List.zip_nil_left]
  refine CodeT.seqR ?_
  simp -implicitDefEqProofs (maxSteps := 1000000) only [go_sem, ↓indexAddrA_at, ↓loadA_at, ↓reduceIte, Nat.reduceLT, Nat.reduceEqDiff, Nat.reduceAdd, Nat.reduceSub, Nat.reduceBEq, Nat.reduceLeDiff, Int.reduceToNat, reduceCtorEq, Try.results67]
  refine CodeT.seqR ?_
  simp -implicitDefEqProofs (maxSteps := 1000000) only [go_sem, ↓indexAddrA_at, ↓loadA_at, ↓reduceIte, Nat.reduceLT, Nat.reduceEqDiff, Nat.reduceAdd, Nat.reduceSub, Nat.reduceBEq, Nat.reduceLeDiff, Int.reduceToNat, reduceCtorEq, Try.results67]
  refine PureT.eq (c62 _ _ _ ?_ ?_ ?_) rfl ?_
  assumption
  omega
  omega
  simp -implicitDefEqProofs (maxSteps := 1000000) only [go_sem, ↓indexAddrA_at, ↓loadA_at, ↓reduceIte, Nat.reduceLT, Nat.reduceEqDiff, Nat.reduceAdd, Nat.reduceSub, Nat.reduceBEq, Nat.reduceLeDiff, Int.reduceToNat, reduceCtorEq, Try.results67]
  refine PureT.eq (c14 _ ?_) rfl ?_
  omega
  simp -implicitDefEqProofs (maxSteps := 1000000) only [go_sem, ↓indexAddrA_at, ↓loadA_at, ↓reduceIte, Nat.reduceLT, Nat.reduceEqDiff, Nat.reduceAdd, Nat.reduceSub, Nat.reduceBEq, Nat.reduceLeDiff, Int.reduceToNat, reduceCtorEq, Try.results67]
  refine CodeT.seqR ?_
  simp -implicitDefEqProofs (maxSteps := 1000000) only [go_sem, ↓indexAddrA_at, ↓loadA_at, ↓reduceIte, Nat.reduceLT, Nat.reduceEqDiff, Nat.reduceAdd, Nat.reduceSub, Nat.reduceBEq, Nat.reduceLeDiff, Int.reduceToNat, reduceCtorEq, Try.results67]
  refine CodeT.ret ?_
  simp -implicitDefEqProofs (maxSteps := 1000000) only [go_sem, ↓indexAddrA_at, ↓loadA_at, ↓reduceIte, Nat.reduceLT, Nat.reduceEqDiff, Nat.reduceAdd, Nat.reduceSub, Nat.reduceBEq, Nat.reduceLeDiff, Int.reduceToNat, reduceCtorEq, Try.results67]
  refine pureEnd rfl ?_
  simp only [writtenB, Bool.true_and, Bool.false_and, Bool.and_true, Bool.and_false, Bool.true_or, Bool.false_or, Bool.or_true, Bool.or_false, Bool.not_true, Bool.not_false, Bool.false_eq_true, ↓reduceIte]
end Go.Proofs.Try

namespace Go.Proofs.Try
set_option linter.unusedSimpArgs false
set_option linter.unusedVariables false
open Go.PM
set_option maxHeartbeats 4000000

theorem recs_end_le : ∀ (f : Nat) (l : List UInt8) (a : Nat) (p : List UInt8 × Nat), p ∈ recs f l a → p.2 ≤ a + l.length := by
  intro f
  induction f with
  | zero => intro l a p h; simp [recs] at h
  | succ f ih =>
    intro l a p h
    unfold recs at h
    split at h
    · simp at h
    · rename_i q m hs
      obtain ⟨h1, h2, _⟩ := scan1_pos hs
      rcases List.mem_cons.1 h with rfl | h
      · simp; omega
      · have := ih _ _ _ h
        rw [List.length_drop] at this
        omega
theorem parseE_le (b : List UInt8) : parseE b ≤ b.length := by
  unfold parseE endAt
  cases h : (parseAll b).getLast? with
  | none => simp
  | some p =>
    have := recs_end_le _ _ _ p (List.mem_of_getLast? h)
    simp; omega
def oldB (d : Dsk) (half : Nat) : List UInt8 := (d.bytes.drop half).take (d.bytes.length / 2)
theorem oldB_length {d : Dsk} {seen : List UInt8} {half : Nat} (k : KOK d seen half) : (oldB d half).length = d.bytes.length / 2 := by
  have := k.top
  simp [oldB]; omega
def cleanB (d : Dsk) (seen : List UInt8) (half : Nat) : Bool :=
  if (!zerosB ((usedB d seen half).drop (parseE (usedB d seen half)))) = true then false
  else if (((halfAt d.bytes : Nat) : Int) != ((half : Nat) : Int)) = true then false
  else zerosB ((oldB d half).drop (parseE (oldB d half)))
theorem c104s (d : Dsk) (seen : List UInt8) (half : Nat) (hd : d.bytes.length ≤ 4000000) (hh : half + d.bytes.length / 2 ≤ d.bytes.length) :
    PureT Try.prog 104 [kpv d seen (half : Nat), .sl false (bs d.bytes), .val (.int .i64 (half : Nat))] (· = .sl false (bs (oldB d half))) := c104 d seen half d.bytes half hd hd hh
theorem c68 (d : Dsk) (seen : List UInt8) (half : Nat) (k : KOK d seen half) : PureT Try.prog 68 [kpv d seen half] (· = .val (.bool (cleanB d seen half))) := by
  have h1 := k.top; have h2 := k.s; have h3 := k.b; have h4 := usedB_length k
  have h5 := parseE_le (usedB d seen half); have h6 := parseE_le (oldB d half); have h7 := oldB_length k; have h8 := k.z
  unfold kpv
  refine CallT.intro Try.func68 (by decide) rfl ?_
  simp -implicitDefEqProofs (maxSteps := 1000000) only [go_sem, ↓indexAddrA_at, ↓loadA_at, ↓reduceIte, Nat.reduceLT, Nat.reduceEqDiff, Nat.reduceAdd, Nat.reduceSub, Nat.reduceBEq, Nat.reduceLeDiff, Int.reduceToNat, reduceCtorEq, enterTm, Try.ntmps68, List.range'_succ, List.range'_zero, List.zip_cons_cons, List.zip_nil_left]
  refine CodeT.seqR ?_
  simp -implicitDefEqProofs (maxSteps := 1000000) only [go_sem, ↓indexAddrA_at, ↓loadA_at, ↓reduceIte, Nat.reduceLT, Nat.reduceEqDiff, Nat.reduceAdd, Nat.reduceSub, Nat.reduceBEq, Nat.reduceLeDiff, Int.reduceToNat, reduceCtorEq, Try.results68]
  refine CodeT.seqR ?_
  simp -implicitDefEqProofs (maxSteps := 1000000) only [go_sem, ↓indexAddrA_at, ↓loadA_at, ↓reduceIte, Nat.reduceLT, Nat.reduceEqDiff, Nat.reduceAdd, Nat.reduceSub, Nat.reduceBEq, Nat.reduceLeDiff, Int.reduceToNat, reduceCtorEq, Try.results68]
  refine PureT.eq (c62 _ _ _ ?_ ?_ ?_) rfl ?_
  assumption
  omega
  omega
  simp -implicitDefEqProofs (maxSteps := 1000000) only [go_sem, ↓indexAddrA_at, ↓loadA_at, ↓reduceIte, Nat.reduceLT, Nat.reduceEqDiff, Nat.reduceAdd, Nat.reduceSub, Nat.reduceBEq, Nat.reduceLeDiff, Int.reduceToNat, reduceCtorEq, Try.results68]
  refine PureT.eq (c14 _ ?_) rfl ?_
  omega
  simp -implicitDefEqProofs (maxSteps := 1000000) only [go_sem, ↓indexAddrA_at, ↓loadA_at, ↓reduceIte, Nat.reduceLT, Nat.reduceEqDiff, Nat.reduceAdd, Nat.reduceSub, Nat.reduceBEq, Nat.reduceLeDiff, Int.reduceToNat, reduceCtorEq, Try.results68]
  refine CodeT.seq ?_
  refine CodeT.seqR ?_
  simp -implicitDefEqProofs (maxSteps := 1000000) only [go_sem, ↓indexAddrA_at, ↓loadA_at, ↓reduceIte, Nat.reduceLT, Nat.reduceEqDiff, Nat.reduceAdd, Nat.reduceSub, Nat.reduceBEq, Nat.reduceLeDiff, Int.reduceToNat, reduceCtorEq, Try.results68]
  refine PureT.eq (c62 _ _ _ ?_ ?_ ?_) rfl ?_
  assumption
  omega
  omega
  simp -implicitDefEqProofs (maxSteps := 1000000) only [go_sem, ↓indexAddrA_at, ↓loadA_at, ↓reduceIte, Nat.reduceLT, Nat.reduceEqDiff, Nat.reduceAdd, Nat.reduceSub, Nat.reduceBEq, Nat.reduceLeDiff, Int.reduceToNat, reduceCtorEq, Try.results68]
  refine And.intro (by exact uni_bs _) ?_
  refine And.intro (by omega) ?_
  refine And.intro (by omega) ?_
  refine And.intro (by omega) ?_
  refine PureT.eq (c63 _ ?_) rfl ?_
  (simp [cleanB, *]; omega)
  simp -implicitDefEqProofs (maxSteps := 1000000) only [go_sem, ↓indexAddrA_at, ↓loadA_at, ↓reduceIte, Nat.reduceLT, Nat.reduceEqDiff, Nat.reduceAdd, Nat.reduceSub, Nat.reduceBEq, Nat.reduceLeDiff, Int.reduceToNat, reduceCtorEq, Try.results68]
  refine CodeT.cond rfl (fun g13 => ?_) (fun g13 => ?_)
  refine CodeT.seqR ?_
  simp -implicitDefEqProofs (maxSteps := 1000000) only [go_sem, ↓indexAddrA_at, ↓loadA_at, ↓reduceIte, Nat.reduceLT, Nat.reduceEqDiff, Nat.reduceAdd, Nat.reduceSub, Nat.reduceBEq, Nat.reduceLeDiff, Int.reduceToNat, reduceCtorEq, Try.results68, g13]
  refine CodeT.ret ?_
  simp -implicitDefEqProofs (maxSteps := 1000000) only [go_sem, ↓indexAddrA_at, ↓loadA_at, ↓reduceIte, Nat.reduceLT, Nat.reduceEqDiff, Nat.reduceAdd, Nat.reduceSub, Nat.reduceBEq, Nat.reduceLeDiff, Int.reduceToNat, reduceCtorEq, Try.results68, g13]
  refine pureEnd rfl ?_
  simp only [cleanB, g13, Bool.true_and, Bool.false_and, Bool.and_true, Bool.and_false, Bool.true_or, Bool.false_or, Bool.or_true, Bool.or_false, Bool.not_true, Bool.not_false, Bool.false_eq_true, ↓reduceIte]
  refine CodeT.skip ?_
  simp -implicitDefEqProofs (maxSteps := 1000000) only [go_sem, ↓indexAddrA_at, ↓loadA_at, ↓reduceIte, Nat.reduceLT, Nat.reduceEqDiff, Nat.reduceAdd, Nat.reduceSub, Nat.reduceBEq, Nat.reduceLeDiff, Int.reduceToNat, reduceCtorEq, Try.results68, g13]
  refine CodeT.seq ?_
  refine CodeT.seqD [(0, .free), (1, .free), (2, .free), (3, .free), (6, .free), (7, .free), (8, .free), (4, .read), (5, .free), (9, .read), (10, .free)] mixed (by kernel_rfl) ?_
  simp -implicitDefEqProofs (maxSteps := 1000000) only [go_sem, ↓indexAddrA_at, ↓loadA_at, ↓reduceIte, Nat.reduceLT, Nat.reduceEqDiff, Nat.reduceAdd, Nat.reduceSub, Nat.reduceBEq, Nat.reduceLeDiff, Int.reduceToNat, reduceCtorEq, Try.results68, g13]
  refine CallF.go (c103 _ ?_ ?_) rfl ?_
  omega
  assumption
  simp -implicitDefEqProofs (maxSteps := 1000000) only [go_sem, ↓indexAddrA_at, ↓loadA_at, ↓reduceIte, Nat.reduceLT, Nat.reduceEqDiff, Nat.reduceAdd, Nat.reduceSub, Nat.reduceBEq, Nat.reduceLeDiff, Int.reduceToNat, reduceCtorEq, Try.results68, g13]
  refine CodeT.cond rfl (fun g14 => ?_) (fun g14 => ?_)
  have d14 := ofBne g14
  refine CodeT.seqR ?_
  simp -implicitDefEqProofs (maxSteps := 1000000) only [go_sem, ↓indexAddrA_at, ↓loadA_at, ↓reduceIte, Nat.reduceLT, Nat.reduceEqDiff, Nat.reduceAdd, Nat.reduceSub, Nat.reduceBEq, Nat.reduceLeDiff, Int.reduceToNat, reduceCtorEq, Try.results68, g13, g14]
  refine CodeT.ret ?_
  simp -implicitDefEqProofs (maxSteps := 1000000) only [go_sem, ↓indexAddrA_at, ↓loadA_at, ↓reduceIte, Nat.reduceLT, Nat.reduceEqDiff, Nat.reduceAdd, Nat.reduceSub, Nat.reduceBEq, Nat.reduceLeDiff, Int.reduceToNat, reduceCtorEq, Try.results68, g13, g14]
  refine pureEnd rfl ?_
  simp only [cleanB, g13, g14, Bool.true_and, Bool.false_and, Bool.and_true, Bool.and_false, Bool.true_or, Bool.false_or, Bool.or_true, Bool.or_false, Bool.not_true, Bool.not_false, Bool.false_eq_true, ↓reduceIte]
  have d14 := ofBneF g14
  refine CodeT.skip ?_
  simp -implicitDefEqProofs (maxSteps := 1000000) only [go_sem, ↓indexAddrA_at, ↓loadA_at, ↓reduceIte, Nat.reduceLT, Nat.reduceEqDiff, Nat.reduceAdd, Nat.reduceSub, Nat.reduceBEq, Nat.reduceLeDiff, Int.reduceToNat, reduceCtorEq, Try.results68, g13, g14]
  refine CodeT.seqD [(0, .free), (1, .free), (2, .free), (3, .free), (4, .free), (6, .free), (7, .free), (8, .free), (5, .read), (9, .read), (10, .free), (11, .free)] mixed (by kernel_rfl) ?_
  simp -implicitDefEqProofs (maxSteps := 1000000) only [go_sem, ↓indexAddrA_at, ↓loadA_at, ↓reduceIte, Nat.reduceLT, Nat.reduceEqDiff, Nat.reduceAdd, Nat.reduceSub, Nat.reduceBEq, Nat.reduceLeDiff, Int.reduceToNat, reduceCtorEq, Try.results68, g13, g14]
  refine CallF.go (c104s _ _ _ ?_ ?_) rfl ?_
  assumption
  assumption
  simp -implicitDefEqProofs (maxSteps := 1000000) only [go_sem, ↓indexAddrA_at, ↓loadA_at, ↓reduceIte, Nat.reduceLT, Nat.reduceEqDiff, Nat.reduceAdd, Nat.reduceSub, Nat.reduceBEq, Nat.reduceLeDiff, Int.reduceToNat, reduceCtorEq, Try.results68, g13, g14]
  refine CodeT.seqR ?_
  simp -implicitDefEqProofs (maxSteps := 1000000) only [go_sem, ↓indexAddrA_at, ↓loadA_at, ↓reduceIte, Nat.reduceLT, Nat.reduceEqDiff, Nat.reduceAdd, Nat.reduceSub, Nat.reduceBEq, Nat.reduceLeDiff, Int.reduceToNat, reduceCtorEq, Try.results68, g13, g14]
  refine PureT.eq (c14 _ ?_) rfl ?_
  omega
  simp -implicitDefEqProofs (maxSteps := 1000000) only [go_sem, ↓indexAddrA_at, ↓loadA_at, ↓reduceIte, Nat.reduceLT, Nat.reduceEqDiff, Nat.reduceAdd, Nat.reduceSub, Nat.reduceBEq, Nat.reduceLeDiff, Int.reduceToNat, reduceCtorEq, Try.results68, g13, g14]
  refine CodeT.seqR ?_
  simp -implicitDefEqProofs (maxSteps := 1000000) only [go_sem, ↓indexAddrA_at, ↓loadA_at, ↓reduceIte, Nat.reduceLT, Nat.reduceEqDiff, Nat.reduceAdd, Nat.reduceSub, Nat.reduceBEq, Nat.reduceLeDiff, Int.reduceToNat, reduceCtorEq, Try.results68, g13, g14]
  refine And.intro (by exact uni_bs _) ?_
  refine And.intro (by omega) ?_
  refine And.intro (by omega) ?_
  refine And.intro (by omega) ?_
  refine PureT.eq (c63 _ ?_) rfl ?_
  (simp [cleanB, *]; omega)
  simp -implicitDefEqProofs (maxSteps := 1000000) only [go_sem, ↓indexAddrA_at, ↓loadA_at, ↓reduceIte, Nat.reduceLT, Nat.reduceEqDiff, Nat.reduceAdd, Nat.reduceSub, Nat.reduceBEq, Nat.reduceLeDiff, Int.reduceToNat, reduceCtorEq, Try.results68, g13, g14]
  refine CodeT.ret ?_
  simp -implicitDefEqProofs (maxSteps := 1000000) only [go_sem, ↓indexAddrA_at, ↓loadA_at, ↓reduceIte, Nat.reduceLT, Nat.reduceEqDiff, Nat.reduceAdd, Nat.reduceSub, Nat.reduceBEq, Nat.reduceLeDiff, Int.reduceToNat, reduceCtorEq, Try.results68, g13, g14]
  refine pureEnd rfl ?_
  simp only [cleanB, g13, g14, Bool.true_and, Bool.false_and, Bool.and_true, Bool.and_false, Bool.true_or, Bool.false_or, Bool.or_true, Bool.or_false, Bool.not_true, Bool.not_false, Bool.false_eq_true, ↓reduceIte]

theorem isDisk_ok {d : Dsk} (h : isDiskB d = true) : KOK d (seenB d) (halfAt (seenB d)) ∧ within d.bytes.length d.queue := by
  obtain ⟨h1, h2, h3⟩ := isDisk_sound h
  refine ⟨?_, h2⟩
  unfold sizeB at h1
  simp only [Bool.and_eq_true, decide_eq_true_eq] at h1
  have hs := seenB_length h2
  refine ⟨by omega, hs, h1.1.1, h1.1.2, ?_⟩
  unfold halfAt
  split
  · exact .inl rfl
  · rw [hs]; exact .inr rfl
def kOf (d : Dsk) : AV := kpv d (seenB d) (halfAt (seenB d) : Nat)
def wrB (d : Dsk) : Bool := writtenB d (seenB d) (halfAt (seenB d))
def clB (d : Dsk) : Bool := cleanB d (seenB d) (halfAt (seenB d))
def openedV (d : Dsk) (must : Bool) : AV :=
  if (!isDiskB d) = true then .tup [.val (.pointer none), .val (.int .i64 281)]
  else if (must && !wrB d) = true then .tup [.val (.pointer none), .val (.int .i64 280)]
  else .tup [kOf d, .val (.int .i64 0)]
/-- Few enough. -/
structure Few (d : Dsk) : Prop where
  b : d.bytes.length ≤ 4000000
  q : d.queue.length ≤ 4000000
theorem c61 (d : Dsk) (must : Bool) (hf : Few d) : PureT Try.prog 61 [dkv d, .val (.bool must)] (· = openedV d must) := by
  have h1 := hf.b; have h2 := hf.q
  cases hi : isDiskB d
  · refine CallT.intro Try.func61 (by decide) rfl ?_
    simp -implicitDefEqProofs (maxSteps := 1000000) only [go_sem, ↓indexAddrA_at, ↓loadA_at, ↓reduceIte, Nat.reduceLT, Nat.reduceEqDiff, Nat.reduceAdd, Nat.reduceSub, Nat.reduceBEq, Nat.reduceLeDiff, Int.reduceToNat, reduceCtorEq, hi, enterTm, Try.ntmps61, List.range'_succ, List.range'_zero, List.zip_cons_cons, List.zip_nil_left]
    refine CodeT.seqR ?_
    simp -implicitDefEqProofs (maxSteps := 1000000) only [go_sem, ↓indexAddrA_at, ↓loadA_at, ↓reduceIte, Nat.reduceLT, Nat.reduceEqDiff, Nat.reduceAdd, Nat.reduceSub, Nat.reduceBEq, Nat.reduceLeDiff, Int.reduceToNat, reduceCtorEq, hi, Try.results61]
    refine CodeT.seq ?_
    refine CodeT.seqR ?_
    simp -implicitDefEqProofs (maxSteps := 1000000) only [go_sem, ↓indexAddrA_at, ↓loadA_at, ↓reduceIte, Nat.reduceLT, Nat.reduceEqDiff, Nat.reduceAdd, Nat.reduceSub, Nat.reduceBEq, Nat.reduceLeDiff, Int.reduceToNat, reduceCtorEq, hi, Try.results61]
    refine PureT.eq (c51 _ ?_ ?_) rfl ?_
    assumption
    assumption
    simp -implicitDefEqProofs (maxSteps := 1000000) only [go_sem, ↓indexAddrA_at, ↓loadA_at, ↓reduceIte, Nat.reduceLT, Nat.reduceEqDiff, Nat.reduceAdd, Nat.reduceSub, Nat.reduceBEq, Nat.reduceLeDiff, Int.reduceToNat, reduceCtorEq, hi, Try.results61]
    refine CodeT.condT rfl ?_
    refine CodeT.seqR ?_
    simp -implicitDefEqProofs (maxSteps := 1000000) only [go_sem, ↓indexAddrA_at, ↓loadA_at, ↓reduceIte, Nat.reduceLT, Nat.reduceEqDiff, Nat.reduceAdd, Nat.reduceSub, Nat.reduceBEq, Nat.reduceLeDiff, Int.reduceToNat, reduceCtorEq, hi, Try.results61]
    refine CodeT.ret ?_
    simp -implicitDefEqProofs (maxSteps := 1000000) only [go_sem, ↓indexAddrA_at, ↓loadA_at, ↓reduceIte, Nat.reduceLT, Nat.reduceEqDiff, Nat.reduceAdd, Nat.reduceSub, Nat.reduceBEq, Nat.reduceLeDiff, Int.reduceToNat, reduceCtorEq, hi, Try.results61]
    refine pureEnd rfl ?_
    simp only [openedV, hi, Bool.true_and, Bool.false_and, Bool.and_true, Bool.and_false, Bool.true_or, Bool.false_or, Bool.or_true, Bool.or_false, Bool.not_true, Bool.not_false, Bool.false_eq_true, ↓reduceIte]
  obtain ⟨k, hw⟩ := isDisk_ok hi
  have h3 := k.z
  refine CallT.intro Try.func61 (by decide) rfl ?_
  simp -implicitDefEqProofs (maxSteps := 1000000) only [go_sem, ↓indexAddrA_at, ↓loadA_at, ↓reduceIte, Nat.reduceLT, Nat.reduceEqDiff, Nat.reduceAdd, Nat.reduceSub, Nat.reduceBEq, Nat.reduceLeDiff, Int.reduceToNat, reduceCtorEq, hi, enterTm, Try.ntmps61, List.range'_succ, List.range'_zero, List.zip_cons_cons, List.zip_nil_left]
  refine CodeT.seqR ?_
  simp -implicitDefEqProofs (maxSteps := 1000000) only [go_sem, ↓indexAddrA_at, ↓loadA_at, ↓reduceIte, Nat.reduceLT, Nat.reduceEqDiff, Nat.reduceAdd, Nat.reduceSub, Nat.reduceBEq, Nat.reduceLeDiff, Int.reduceToNat, reduceCtorEq, hi, Try.results61]
  refine CodeT.seq ?_
  refine CodeT.seqR ?_
  simp -implicitDefEqProofs (maxSteps := 1000000) only [go_sem, ↓indexAddrA_at, ↓loadA_at, ↓reduceIte, Nat.reduceLT, Nat.reduceEqDiff, Nat.reduceAdd, Nat.reduceSub, Nat.reduceBEq, Nat.reduceLeDiff, Int.reduceToNat, reduceCtorEq, hi, Try.results61]
  refine PureT.eq (c51 _ ?_ ?_) rfl ?_
  assumption
  assumption
  simp -implicitDefEqProofs (maxSteps := 1000000) only [go_sem, ↓indexAddrA_at, ↓loadA_at, ↓reduceIte, Nat.reduceLT, Nat.reduceEqDiff, Nat.reduceAdd, Nat.reduceSub, Nat.reduceBEq, Nat.reduceLeDiff, Int.reduceToNat, reduceCtorEq, hi, Try.results61]
  refine CodeT.condF rfl ?_
  refine CodeT.skip ?_
  simp -implicitDefEqProofs (maxSteps := 1000000) only [go_sem, ↓indexAddrA_at, ↓loadA_at, ↓reduceIte, Nat.reduceLT, Nat.reduceEqDiff, Nat.reduceAdd, Nat.reduceSub, Nat.reduceBEq, Nat.reduceLeDiff, Int.reduceToNat, reduceCtorEq, hi, Try.results61]
  refine CodeT.seqR ?_
  simp -implicitDefEqProofs (maxSteps := 1000000) only [go_sem, ↓indexAddrA_at, ↓loadA_at, ↓reduceIte, Nat.reduceLT, Nat.reduceEqDiff, Nat.reduceAdd, Nat.reduceSub, Nat.reduceBEq, Nat.reduceLeDiff, Int.reduceToNat, reduceCtorEq, hi, Try.results61]
  refine PureT.eq (c58 _ ?_ ?_ ?_ ?_) rfl ?_
  assumption
  omega
  assumption
  assumption
  simp -implicitDefEqProofs (maxSteps := 1000000) only [go_sem, ↓indexAddrA_at, ↓loadA_at, ↓reduceIte, Nat.reduceLT, Nat.reduceEqDiff, Nat.reduceAdd, Nat.reduceSub, Nat.reduceBEq, Nat.reduceLeDiff, Int.reduceToNat, reduceCtorEq, hi, Try.results61]
  refine CodeT.seq ?_
  refine CodeT.seqR ?_
  simp -implicitDefEqProofs (maxSteps := 1000000) only [go_sem, ↓indexAddrA_at, ↓loadA_at, ↓reduceIte, Nat.reduceLT, Nat.reduceEqDiff, Nat.reduceAdd, Nat.reduceSub, Nat.reduceBEq, Nat.reduceLeDiff, Int.reduceToNat, reduceCtorEq, hi, Try.results61]
  refine gif_i (fun g6 => ?_) (fun g6 => ?_)
  simp -implicitDefEqProofs (maxSteps := 1000000) only [go_sem, ↓indexAddrA_at, ↓loadA_at, ↓reduceIte, Nat.reduceLT, Nat.reduceEqDiff, Nat.reduceAdd, Nat.reduceSub, Nat.reduceBEq, Nat.reduceLeDiff, Int.reduceToNat, reduceCtorEq, hi, Try.results61, g6]
  refine PureT.eq (c67 _ _ _ ?_) rfl ?_
  assumption
  simp -implicitDefEqProofs (maxSteps := 1000000) only [go_sem, ↓indexAddrA_at, ↓loadA_at, ↓reduceIte, Nat.reduceLT, Nat.reduceEqDiff, Nat.reduceAdd, Nat.reduceSub, Nat.reduceBEq, Nat.reduceLeDiff, Int.reduceToNat, reduceCtorEq, hi, Try.results61, g6]
  refine CodeT.cond rfl (fun g8 => ?_) (fun g8 => ?_)
  refine CodeT.seqR ?_
  simp -implicitDefEqProofs (maxSteps := 1000000) only [go_sem, ↓indexAddrA_at, ↓loadA_at, ↓reduceIte, Nat.reduceLT, Nat.reduceEqDiff, Nat.reduceAdd, Nat.reduceSub, Nat.reduceBEq, Nat.reduceLeDiff, Int.reduceToNat, reduceCtorEq, hi, Try.results61, g6, g8]
  refine CodeT.ret ?_
  simp -implicitDefEqProofs (maxSteps := 1000000) only [go_sem, ↓indexAddrA_at, ↓loadA_at, ↓reduceIte, Nat.reduceLT, Nat.reduceEqDiff, Nat.reduceAdd, Nat.reduceSub, Nat.reduceBEq, Nat.reduceLeDiff, Int.reduceToNat, reduceCtorEq, hi, Try.results61, g6, g8]
  refine pureEnd rfl ?_
  simp only [openedV, hi, wrB, kOf, g6, g8, Bool.true_and, Bool.false_and, Bool.and_true, Bool.and_false, Bool.true_or, Bool.false_or, Bool.or_true, Bool.or_false, Bool.not_true, Bool.not_false, Bool.false_eq_true, ↓reduceIte]
  refine CodeT.skip ?_
  simp -implicitDefEqProofs (maxSteps := 1000000) only [go_sem, ↓indexAddrA_at, ↓loadA_at, ↓reduceIte, Nat.reduceLT, Nat.reduceEqDiff, Nat.reduceAdd, Nat.reduceSub, Nat.reduceBEq, Nat.reduceLeDiff, Int.reduceToNat, reduceCtorEq, hi, Try.results61, g6, g8]
  refine CodeT.seqR ?_
  simp -implicitDefEqProofs (maxSteps := 1000000) only [go_sem, ↓indexAddrA_at, ↓loadA_at, ↓reduceIte, Nat.reduceLT, Nat.reduceEqDiff, Nat.reduceAdd, Nat.reduceSub, Nat.reduceBEq, Nat.reduceLeDiff, Int.reduceToNat, reduceCtorEq, hi, Try.results61, g6, g8]
  refine CodeT.ret ?_
  simp -implicitDefEqProofs (maxSteps := 1000000) only [go_sem, ↓indexAddrA_at, ↓loadA_at, ↓reduceIte, Nat.reduceLT, Nat.reduceEqDiff, Nat.reduceAdd, Nat.reduceSub, Nat.reduceBEq, Nat.reduceLeDiff, Int.reduceToNat, reduceCtorEq, hi, Try.results61, g6, g8]
  refine pureEnd rfl ?_
  simp only [openedV, hi, wrB, kOf, g6, g8, Bool.true_and, Bool.false_and, Bool.and_true, Bool.and_false, Bool.true_or, Bool.false_or, Bool.or_true, Bool.or_false, Bool.not_true, Bool.not_false, Bool.false_eq_true, ↓reduceIte]
  simp -implicitDefEqProofs (maxSteps := 1000000) only [go_sem, ↓indexAddrA_at, ↓loadA_at, ↓reduceIte, Nat.reduceLT, Nat.reduceEqDiff, Nat.reduceAdd, Nat.reduceSub, Nat.reduceBEq, Nat.reduceLeDiff, Int.reduceToNat, reduceCtorEq, hi, Try.results61, g6]
  refine CodeT.condF rfl ?_
  refine CodeT.skip ?_
  simp -implicitDefEqProofs (maxSteps := 1000000) only [go_sem, ↓indexAddrA_at, ↓loadA_at, ↓reduceIte, Nat.reduceLT, Nat.reduceEqDiff, Nat.reduceAdd, Nat.reduceSub, Nat.reduceBEq, Nat.reduceLeDiff, Int.reduceToNat, reduceCtorEq, hi, Try.results61, g6]
  refine CodeT.seqR ?_
  simp -implicitDefEqProofs (maxSteps := 1000000) only [go_sem, ↓indexAddrA_at, ↓loadA_at, ↓reduceIte, Nat.reduceLT, Nat.reduceEqDiff, Nat.reduceAdd, Nat.reduceSub, Nat.reduceBEq, Nat.reduceLeDiff, Int.reduceToNat, reduceCtorEq, hi, Try.results61, g6]
  refine CodeT.ret ?_
  simp -implicitDefEqProofs (maxSteps := 1000000) only [go_sem, ↓indexAddrA_at, ↓loadA_at, ↓reduceIte, Nat.reduceLT, Nat.reduceEqDiff, Nat.reduceAdd, Nat.reduceSub, Nat.reduceBEq, Nat.reduceLeDiff, Int.reduceToNat, reduceCtorEq, hi, Try.results61, g6]
  refine pureEnd rfl ?_
  simp only [openedV, hi, wrB, kOf, g6, Bool.true_and, Bool.false_and, Bool.and_true, Bool.and_false, Bool.true_or, Bool.false_or, Bool.or_true, Bool.or_false, Bool.not_true, Bool.not_false, Bool.false_eq_true, ↓reduceIte]
end Go.Proofs.Try

namespace Go.Proofs.Try
set_option linter.unusedSimpArgs false
set_option linter.unusedVariables false
open Go.PM
set_option maxHeartbeats 4000000

abbrev er (n : Int) : AV := .val (.int .i64 n)
/-- The half in use, as it is seen. -/
def useB (d : Dsk) : List UInt8 := usedB d (seenB d) (halfAt (seenB d))
def endB (d : Dsk) : Nat := parseE (useB d)
theorem c62s (d : Dsk) (hi : isDiskB d = true) : PureT Try.prog 62 [kOf d] (· = .sl false (bs (useB d))) := by
  obtain ⟨k, hw⟩ := isDisk_ok hi
  have h1 := k.top; have h2 := k.s; have h3 := k.b
  exact c62 _ _ _ (by omega) (by omega) (by omega)
theorem useB_length {d : Dsk} (hi : isDiskB d = true) : (useB d).length = d.bytes.length / 2 := usedB_length (isDisk_ok hi).1
theorem endB_le {d : Dsk} (hi : isDiskB d = true) : endB d ≤ d.bytes.length / 2 := by rw [← useB_length hi]; exact parseE_le _
theorem c68s (d : Dsk) (hi : isDiskB d = true) : PureT Try.prog 68 [kOf d] (· = .val (.bool (clB d))) := c68 _ _ _ (isDisk_ok hi).1
theorem c67s (d : Dsk) (hi : isDiskB d = true) : PureT Try.prog 67 [kOf d] (· = .val (.bool (wrB d))) := c67 _ _ _ (isDisk_ok hi).1
theorem c14s (d : Dsk) (hi : isDiskB d = true) : PureT Try.prog 14 [.sl false (bs (useB d))] (· = .tup [.sl false (bss (parseR (useB d))), .val (.int .i64 (endB d : Nat))]) := by
  have := useB_length hi; have := (isDisk_ok hi).1.b
  exact c14 _ (by omega)
theorem isDisk_small {d : Dsk} (hi : isDiskB d = true) : d.bytes.length ≤ 2097153 := by
  have h := (isDisk_sound hi).1
  unfold sizeB at h
  simp only [Bool.and_eq_true, decide_eq_true_eq] at h
  omega
theorem wrB_eq (d : Dsk) : wrB d = decide (((parseR (useB d)).length : Int) > 0) := rfl

def checkV (d : Dsk) : AV :=
  if (!isDiskB d) = true then .tup [.val (.bool false), .val (.bool false), er 281]
  else .tup [.val (.bool (wrB d)), .val (.bool (wrB d && clB d)), er 0]
theorem c22 (d : Dsk) (hf : Few d) : PureT Try.prog 22 [dkv d] (· = checkV d) := by
  cases hi : isDiskB d
  · refine CallT.intro Try.func22 (by decide) rfl ?_
    simp -implicitDefEqProofs (maxSteps := 1000000) only [go_sem, ↓indexAddrA_at, ↓loadA_at, ↓reduceIte, Nat.reduceLT, Nat.reduceEqDiff, Nat.reduceAdd, Nat.reduceSub, Nat.reduceBEq, Nat.reduceLeDiff, Int.reduceToNat, reduceCtorEq, hi, openedV, enterTm, Try.ntmps22, List.range'_succ, List.range'_zero, List.zip_cons_cons, List.zip_nil_left]
    refine CodeT.seqR ?_
    simp -implicitDefEqProofs (maxSteps := 1000000) only [go_sem, ↓indexAddrA_at, ↓loadA_at, ↓reduceIte, Nat.reduceLT, Nat.reduceEqDiff, Nat.reduceAdd, Nat.reduceSub, Nat.reduceBEq, Nat.reduceLeDiff, Int.reduceToNat, reduceCtorEq, hi, openedV, Try.results22]
    refine CodeT.seqR ?_
    simp -implicitDefEqProofs (maxSteps := 1000000) only [go_sem, ↓indexAddrA_at, ↓loadA_at, ↓reduceIte, Nat.reduceLT, Nat.reduceEqDiff, Nat.reduceAdd, Nat.reduceSub, Nat.reduceBEq, Nat.reduceLeDiff, Int.reduceToNat, reduceCtorEq, hi, openedV, Try.results22]
    refine PureT.eq (c61 _ _ ?_) rfl ?_
    assumption
    simp -implicitDefEqProofs (maxSteps := 1000000) only [go_sem, ↓indexAddrA_at, ↓loadA_at, ↓reduceIte, Nat.reduceLT, Nat.reduceEqDiff, Nat.reduceAdd, Nat.reduceSub, Nat.reduceBEq, Nat.reduceLeDiff, Int.reduceToNat, reduceCtorEq, hi, openedV, Try.results22]
    refine CodeT.seq ?_
    refine CodeT.seqR ?_
    simp -implicitDefEqProofs (maxSteps := 1000000) only [go_sem, ↓indexAddrA_at, ↓loadA_at, ↓reduceIte, Nat.reduceLT, Nat.reduceEqDiff, Nat.reduceAdd, Nat.reduceSub, Nat.reduceBEq, Nat.reduceLeDiff, Int.reduceToNat, reduceCtorEq, hi, openedV, Try.results22]
    refine CodeT.condT rfl ?_
    refine CodeT.seqR ?_
    simp -implicitDefEqProofs (maxSteps := 1000000) only [go_sem, ↓indexAddrA_at, ↓loadA_at, ↓reduceIte, Nat.reduceLT, Nat.reduceEqDiff, Nat.reduceAdd, Nat.reduceSub, Nat.reduceBEq, Nat.reduceLeDiff, Int.reduceToNat, reduceCtorEq, hi, openedV, Try.results22]
    refine CodeT.ret ?_
    simp -implicitDefEqProofs (maxSteps := 1000000) only [go_sem, ↓indexAddrA_at, ↓loadA_at, ↓reduceIte, Nat.reduceLT, Nat.reduceEqDiff, Nat.reduceAdd, Nat.reduceSub, Nat.reduceBEq, Nat.reduceLeDiff, Int.reduceToNat, reduceCtorEq, hi, openedV, Try.results22]
    refine pureEnd rfl ?_
    simp only [checkV, hi, er, Bool.true_and, Bool.false_and, Bool.and_true, Bool.and_false, Bool.true_or, Bool.false_or, Bool.or_true, Bool.or_false, Bool.not_true, Bool.not_false, Bool.false_eq_true, ↓reduceIte]
  refine CallT.intro Try.func22 (by decide) rfl ?_
  simp -implicitDefEqProofs (maxSteps := 1000000) only [go_sem, ↓indexAddrA_at, ↓loadA_at, ↓reduceIte, Nat.reduceLT, Nat.reduceEqDiff, Nat.reduceAdd, Nat.reduceSub, Nat.reduceBEq, Nat.reduceLeDiff, Int.reduceToNat, reduceCtorEq, hi, openedV, enterTm, Try.ntmps22, List.range'_succ, List.range'_zero, List.zip_cons_cons, List.zip_nil_left]
  refine CodeT.seqR ?_
  simp -implicitDefEqProofs (maxSteps := 1000000) only [go_sem, ↓indexAddrA_at, ↓loadA_at, ↓reduceIte, Nat.reduceLT, Nat.reduceEqDiff, Nat.reduceAdd, Nat.reduceSub, Nat.reduceBEq, Nat.reduceLeDiff, Int.reduceToNat, reduceCtorEq, hi, openedV, Try.results22]
  refine CodeT.seqR ?_
  simp -implicitDefEqProofs (maxSteps := 1000000) only [go_sem, ↓indexAddrA_at, ↓loadA_at, ↓reduceIte, Nat.reduceLT, Nat.reduceEqDiff, Nat.reduceAdd, Nat.reduceSub, Nat.reduceBEq, Nat.reduceLeDiff, Int.reduceToNat, reduceCtorEq, hi, openedV, Try.results22]
  refine PureT.eq (c61 _ _ ?_) rfl ?_
  assumption
  simp -implicitDefEqProofs (maxSteps := 1000000) only [go_sem, ↓indexAddrA_at, ↓loadA_at, ↓reduceIte, Nat.reduceLT, Nat.reduceEqDiff, Nat.reduceAdd, Nat.reduceSub, Nat.reduceBEq, Nat.reduceLeDiff, Int.reduceToNat, reduceCtorEq, hi, openedV, Try.results22]
  refine CodeT.seq ?_
  refine CodeT.seqR ?_
  simp -implicitDefEqProofs (maxSteps := 1000000) only [go_sem, ↓indexAddrA_at, ↓loadA_at, ↓reduceIte, Nat.reduceLT, Nat.reduceEqDiff, Nat.reduceAdd, Nat.reduceSub, Nat.reduceBEq, Nat.reduceLeDiff, Int.reduceToNat, reduceCtorEq, hi, openedV, Try.results22]
  refine CodeT.condF rfl ?_
  refine CodeT.skip ?_
  simp -implicitDefEqProofs (maxSteps := 1000000) only [go_sem, ↓indexAddrA_at, ↓loadA_at, ↓reduceIte, Nat.reduceLT, Nat.reduceEqDiff, Nat.reduceAdd, Nat.reduceSub, Nat.reduceBEq, Nat.reduceLeDiff, Int.reduceToNat, reduceCtorEq, hi, openedV, Try.results22]
  refine CodeT.seqR ?_
  simp -implicitDefEqProofs (maxSteps := 1000000) only [go_sem, ↓indexAddrA_at, ↓loadA_at, ↓reduceIte, Nat.reduceLT, Nat.reduceEqDiff, Nat.reduceAdd, Nat.reduceSub, Nat.reduceBEq, Nat.reduceLeDiff, Int.reduceToNat, reduceCtorEq, hi, openedV, Try.results22]
  refine PureT.eq (c67s _ hi) rfl ?_
  simp -implicitDefEqProofs (maxSteps := 1000000) only [go_sem, ↓indexAddrA_at, ↓loadA_at, ↓reduceIte, Nat.reduceLT, Nat.reduceEqDiff, Nat.reduceAdd, Nat.reduceSub, Nat.reduceBEq, Nat.reduceLeDiff, Int.reduceToNat, reduceCtorEq, hi, openedV, Try.results22]
  refine PureT.eq (c67s _ hi) rfl ?_
  simp -implicitDefEqProofs (maxSteps := 1000000) only [go_sem, ↓indexAddrA_at, ↓loadA_at, ↓reduceIte, Nat.reduceLT, Nat.reduceEqDiff, Nat.reduceAdd, Nat.reduceSub, Nat.reduceBEq, Nat.reduceLeDiff, Int.reduceToNat, reduceCtorEq, hi, openedV, Try.results22]
  refine gif_i (fun g4 => ?_) (fun g4 => ?_)
  simp -implicitDefEqProofs (maxSteps := 1000000) only [go_sem, ↓indexAddrA_at, ↓loadA_at, ↓reduceIte, Nat.reduceLT, Nat.reduceEqDiff, Nat.reduceAdd, Nat.reduceSub, Nat.reduceBEq, Nat.reduceLeDiff, Int.reduceToNat, reduceCtorEq, hi, openedV, Try.results22, g4]
  refine PureT.eq (c68s _ hi) rfl ?_
  simp -implicitDefEqProofs (maxSteps := 1000000) only [go_sem, ↓indexAddrA_at, ↓loadA_at, ↓reduceIte, Nat.reduceLT, Nat.reduceEqDiff, Nat.reduceAdd, Nat.reduceSub, Nat.reduceBEq, Nat.reduceLeDiff, Int.reduceToNat, reduceCtorEq, hi, openedV, Try.results22, g4]
  refine CodeT.ret ?_
  simp -implicitDefEqProofs (maxSteps := 1000000) only [go_sem, ↓indexAddrA_at, ↓loadA_at, ↓reduceIte, Nat.reduceLT, Nat.reduceEqDiff, Nat.reduceAdd, Nat.reduceSub, Nat.reduceBEq, Nat.reduceLeDiff, Int.reduceToNat, reduceCtorEq, hi, openedV, Try.results22, g4]
  refine pureEnd rfl ?_
  simp only [checkV, hi, er, g4, Bool.true_and, Bool.false_and, Bool.and_true, Bool.and_false, Bool.true_or, Bool.false_or, Bool.or_true, Bool.or_false, Bool.not_true, Bool.not_false, Bool.false_eq_true, ↓reduceIte]
  simp -implicitDefEqProofs (maxSteps := 1000000) only [go_sem, ↓indexAddrA_at, ↓loadA_at, ↓reduceIte, Nat.reduceLT, Nat.reduceEqDiff, Nat.reduceAdd, Nat.reduceSub, Nat.reduceBEq, Nat.reduceLeDiff, Int.reduceToNat, reduceCtorEq, hi, openedV, Try.results22, g4]
  refine CodeT.ret ?_
  simp -implicitDefEqProofs (maxSteps := 1000000) only [go_sem, ↓indexAddrA_at, ↓loadA_at, ↓reduceIte, Nat.reduceLT, Nat.reduceEqDiff, Nat.reduceAdd, Nat.reduceSub, Nat.reduceBEq, Nat.reduceLeDiff, Int.reduceToNat, reduceCtorEq, hi, openedV, Try.results22, g4]
  refine pureEnd rfl ?_
  simp only [checkV, hi, er, g4, Bool.true_and, Bool.false_and, Bool.and_true, Bool.and_false, Bool.true_or, Bool.false_or, Bool.or_true, Bool.or_false, Bool.not_true, Bool.not_false, Bool.false_eq_true, ↓reduceIte]
def appendingV (d : Dsk) : AV :=
  if (!isDiskB d) = true then .tup [.val (.pointer none), er 0, er 281]
  else if (!wrB d) = true then .tup [.val (.pointer none), er 0, er 280]
  else if (!clB d) = true then .tup [.val (.pointer none), er 0, er 280]
  else .tup [kOf d, .val (.int .i64 (endB d : Nat)), er 0]
theorem c69 (d : Dsk) (hf : Few d) : PureT Try.prog 69 [dkv d] (· = appendingV d) := by
  cases hi : isDiskB d
  · refine CallT.intro Try.func69 (by decide) rfl ?_
    simp -implicitDefEqProofs (maxSteps := 1000000) only [go_sem, ↓indexAddrA_at, ↓loadA_at, ↓reduceIte, Nat.reduceLT, Nat.reduceEqDiff, Nat.reduceAdd, Nat.reduceSub, Nat.reduceBEq, Nat.reduceLeDiff, Int.reduceToNat, reduceCtorEq, hi, openedV, enterTm, Try.ntmps69, List.range'_succ, List.range'_zero, List.zip_cons_cons, List.zip_nil_left]
    refine CodeT.seqR ?_
    simp -implicitDefEqProofs (maxSteps := 1000000) only [go_sem, ↓indexAddrA_at, ↓loadA_at, ↓reduceIte, Nat.reduceLT, Nat.reduceEqDiff, Nat.reduceAdd, Nat.reduceSub, Nat.reduceBEq, Nat.reduceLeDiff, Int.reduceToNat, reduceCtorEq, hi, openedV, Try.results69]
    refine CodeT.seqR ?_
    simp -implicitDefEqProofs (maxSteps := 1000000) only [go_sem, ↓indexAddrA_at, ↓loadA_at, ↓reduceIte, Nat.reduceLT, Nat.reduceEqDiff, Nat.reduceAdd, Nat.reduceSub, Nat.reduceBEq, Nat.reduceLeDiff, Int.reduceToNat, reduceCtorEq, hi, openedV, Try.results69]
    refine PureT.eq (c61 _ _ ?_) rfl ?_
    assumption
    simp -implicitDefEqProofs (maxSteps := 1000000) only [go_sem, ↓indexAddrA_at, ↓loadA_at, ↓reduceIte, Nat.reduceLT, Nat.reduceEqDiff, Nat.reduceAdd, Nat.reduceSub, Nat.reduceBEq, Nat.reduceLeDiff, Int.reduceToNat, reduceCtorEq, hi, openedV, Try.results69]
    refine CodeT.seq ?_
    refine CodeT.seqR ?_
    simp -implicitDefEqProofs (maxSteps := 1000000) only [go_sem, ↓indexAddrA_at, ↓loadA_at, ↓reduceIte, Nat.reduceLT, Nat.reduceEqDiff, Nat.reduceAdd, Nat.reduceSub, Nat.reduceBEq, Nat.reduceLeDiff, Int.reduceToNat, reduceCtorEq, hi, openedV, Try.results69]
    refine CodeT.condT rfl ?_
    refine CodeT.seqR ?_
    simp -implicitDefEqProofs (maxSteps := 1000000) only [go_sem, ↓indexAddrA_at, ↓loadA_at, ↓reduceIte, Nat.reduceLT, Nat.reduceEqDiff, Nat.reduceAdd, Nat.reduceSub, Nat.reduceBEq, Nat.reduceLeDiff, Int.reduceToNat, reduceCtorEq, hi, openedV, Try.results69]
    refine CodeT.ret ?_
    simp -implicitDefEqProofs (maxSteps := 1000000) only [go_sem, ↓indexAddrA_at, ↓loadA_at, ↓reduceIte, Nat.reduceLT, Nat.reduceEqDiff, Nat.reduceAdd, Nat.reduceSub, Nat.reduceBEq, Nat.reduceLeDiff, Int.reduceToNat, reduceCtorEq, hi, openedV, Try.results69]
    refine pureEnd rfl ?_
    simp only [appendingV, hi, er, Bool.true_and, Bool.false_and, Bool.and_true, Bool.and_false, Bool.true_or, Bool.false_or, Bool.or_true, Bool.or_false, Bool.not_true, Bool.not_false, Bool.false_eq_true, ↓reduceIte]
  cases hw : wrB d
  · refine CallT.intro Try.func69 (by decide) rfl ?_
    simp -implicitDefEqProofs (maxSteps := 1000000) only [go_sem, ↓indexAddrA_at, ↓loadA_at, ↓reduceIte, Nat.reduceLT, Nat.reduceEqDiff, Nat.reduceAdd, Nat.reduceSub, Nat.reduceBEq, Nat.reduceLeDiff, Int.reduceToNat, reduceCtorEq, hi, hw, openedV, enterTm, Try.ntmps69, List.range'_succ, List.range'_zero, List.zip_cons_cons, List.zip_nil_left]
    refine CodeT.seqR ?_
    simp -implicitDefEqProofs (maxSteps := 1000000) only [go_sem, ↓indexAddrA_at, ↓loadA_at, ↓reduceIte, Nat.reduceLT, Nat.reduceEqDiff, Nat.reduceAdd, Nat.reduceSub, Nat.reduceBEq, Nat.reduceLeDiff, Int.reduceToNat, reduceCtorEq, hi, hw, openedV, Try.results69]
    refine CodeT.seqR ?_
    simp -implicitDefEqProofs (maxSteps := 1000000) only [go_sem, ↓indexAddrA_at, ↓loadA_at, ↓reduceIte, Nat.reduceLT, Nat.reduceEqDiff, Nat.reduceAdd, Nat.reduceSub, Nat.reduceBEq, Nat.reduceLeDiff, Int.reduceToNat, reduceCtorEq, hi, hw, openedV, Try.results69]
    refine PureT.eq (c61 _ _ ?_) rfl ?_
    assumption
    simp -implicitDefEqProofs (maxSteps := 1000000) only [go_sem, ↓indexAddrA_at, ↓loadA_at, ↓reduceIte, Nat.reduceLT, Nat.reduceEqDiff, Nat.reduceAdd, Nat.reduceSub, Nat.reduceBEq, Nat.reduceLeDiff, Int.reduceToNat, reduceCtorEq, hi, hw, openedV, Try.results69]
    refine CodeT.seq ?_
    refine CodeT.seqR ?_
    simp -implicitDefEqProofs (maxSteps := 1000000) only [go_sem, ↓indexAddrA_at, ↓loadA_at, ↓reduceIte, Nat.reduceLT, Nat.reduceEqDiff, Nat.reduceAdd, Nat.reduceSub, Nat.reduceBEq, Nat.reduceLeDiff, Int.reduceToNat, reduceCtorEq, hi, hw, openedV, Try.results69]
    refine CodeT.condT rfl ?_
    refine CodeT.seqR ?_
    simp -implicitDefEqProofs (maxSteps := 1000000) only [go_sem, ↓indexAddrA_at, ↓loadA_at, ↓reduceIte, Nat.reduceLT, Nat.reduceEqDiff, Nat.reduceAdd, Nat.reduceSub, Nat.reduceBEq, Nat.reduceLeDiff, Int.reduceToNat, reduceCtorEq, hi, hw, openedV, Try.results69]
    refine CodeT.ret ?_
    simp -implicitDefEqProofs (maxSteps := 1000000) only [go_sem, ↓indexAddrA_at, ↓loadA_at, ↓reduceIte, Nat.reduceLT, Nat.reduceEqDiff, Nat.reduceAdd, Nat.reduceSub, Nat.reduceBEq, Nat.reduceLeDiff, Int.reduceToNat, reduceCtorEq, hi, hw, openedV, Try.results69]
    refine pureEnd rfl ?_
    simp only [appendingV, hi, er, hw, Bool.true_and, Bool.false_and, Bool.and_true, Bool.and_false, Bool.true_or, Bool.false_or, Bool.or_true, Bool.or_false, Bool.not_true, Bool.not_false, Bool.false_eq_true, ↓reduceIte]
  refine CallT.intro Try.func69 (by decide) rfl ?_
  simp -implicitDefEqProofs (maxSteps := 1000000) only [go_sem, ↓indexAddrA_at, ↓loadA_at, ↓reduceIte, Nat.reduceLT, Nat.reduceEqDiff, Nat.reduceAdd, Nat.reduceSub, Nat.reduceBEq, Nat.reduceLeDiff, Int.reduceToNat, reduceCtorEq, hi, hw, openedV, enterTm, Try.ntmps69, List.range'_succ, List.range'_zero, List.zip_cons_cons, List.zip_nil_left]
  refine CodeT.seqR ?_
  simp -implicitDefEqProofs (maxSteps := 1000000) only [go_sem, ↓indexAddrA_at, ↓loadA_at, ↓reduceIte, Nat.reduceLT, Nat.reduceEqDiff, Nat.reduceAdd, Nat.reduceSub, Nat.reduceBEq, Nat.reduceLeDiff, Int.reduceToNat, reduceCtorEq, hi, hw, openedV, Try.results69]
  refine CodeT.seqR ?_
  simp -implicitDefEqProofs (maxSteps := 1000000) only [go_sem, ↓indexAddrA_at, ↓loadA_at, ↓reduceIte, Nat.reduceLT, Nat.reduceEqDiff, Nat.reduceAdd, Nat.reduceSub, Nat.reduceBEq, Nat.reduceLeDiff, Int.reduceToNat, reduceCtorEq, hi, hw, openedV, Try.results69]
  refine PureT.eq (c61 _ _ ?_) rfl ?_
  assumption
  simp -implicitDefEqProofs (maxSteps := 1000000) only [go_sem, ↓indexAddrA_at, ↓loadA_at, ↓reduceIte, Nat.reduceLT, Nat.reduceEqDiff, Nat.reduceAdd, Nat.reduceSub, Nat.reduceBEq, Nat.reduceLeDiff, Int.reduceToNat, reduceCtorEq, hi, hw, openedV, Try.results69]
  refine CodeT.seq ?_
  refine CodeT.seqR ?_
  simp -implicitDefEqProofs (maxSteps := 1000000) only [go_sem, ↓indexAddrA_at, ↓loadA_at, ↓reduceIte, Nat.reduceLT, Nat.reduceEqDiff, Nat.reduceAdd, Nat.reduceSub, Nat.reduceBEq, Nat.reduceLeDiff, Int.reduceToNat, reduceCtorEq, hi, hw, openedV, Try.results69]
  refine CodeT.condF rfl ?_
  refine CodeT.skip ?_
  simp -implicitDefEqProofs (maxSteps := 1000000) only [go_sem, ↓indexAddrA_at, ↓loadA_at, ↓reduceIte, Nat.reduceLT, Nat.reduceEqDiff, Nat.reduceAdd, Nat.reduceSub, Nat.reduceBEq, Nat.reduceLeDiff, Int.reduceToNat, reduceCtorEq, hi, hw, openedV, Try.results69]
  refine CodeT.seq ?_
  refine CodeT.seqR ?_
  simp -implicitDefEqProofs (maxSteps := 1000000) only [go_sem, ↓indexAddrA_at, ↓loadA_at, ↓reduceIte, Nat.reduceLT, Nat.reduceEqDiff, Nat.reduceAdd, Nat.reduceSub, Nat.reduceBEq, Nat.reduceLeDiff, Int.reduceToNat, reduceCtorEq, hi, hw, openedV, Try.results69]
  refine PureT.eq (c68s _ hi) rfl ?_
  simp -implicitDefEqProofs (maxSteps := 1000000) only [go_sem, ↓indexAddrA_at, ↓loadA_at, ↓reduceIte, Nat.reduceLT, Nat.reduceEqDiff, Nat.reduceAdd, Nat.reduceSub, Nat.reduceBEq, Nat.reduceLeDiff, Int.reduceToNat, reduceCtorEq, hi, hw, openedV, Try.results69]
  refine CodeT.cond rfl (fun g3 => ?_) (fun g3 => ?_)
  refine CodeT.seqR ?_
  simp -implicitDefEqProofs (maxSteps := 1000000) only [go_sem, ↓indexAddrA_at, ↓loadA_at, ↓reduceIte, Nat.reduceLT, Nat.reduceEqDiff, Nat.reduceAdd, Nat.reduceSub, Nat.reduceBEq, Nat.reduceLeDiff, Int.reduceToNat, reduceCtorEq, hi, hw, openedV, Try.results69, g3]
  refine CodeT.ret ?_
  simp -implicitDefEqProofs (maxSteps := 1000000) only [go_sem, ↓indexAddrA_at, ↓loadA_at, ↓reduceIte, Nat.reduceLT, Nat.reduceEqDiff, Nat.reduceAdd, Nat.reduceSub, Nat.reduceBEq, Nat.reduceLeDiff, Int.reduceToNat, reduceCtorEq, hi, hw, openedV, Try.results69, g3]
  refine pureEnd rfl ?_
  simp only [appendingV, hi, hw, er, g3, Bool.true_and, Bool.false_and, Bool.and_true, Bool.and_false, Bool.true_or, Bool.false_or, Bool.or_true, Bool.or_false, Bool.not_true, Bool.not_false, Bool.false_eq_true, ↓reduceIte]
  refine CodeT.skip ?_
  simp -implicitDefEqProofs (maxSteps := 1000000) only [go_sem, ↓indexAddrA_at, ↓loadA_at, ↓reduceIte, Nat.reduceLT, Nat.reduceEqDiff, Nat.reduceAdd, Nat.reduceSub, Nat.reduceBEq, Nat.reduceLeDiff, Int.reduceToNat, reduceCtorEq, hi, hw, openedV, Try.results69, g3]
  refine CodeT.seqR ?_
  simp -implicitDefEqProofs (maxSteps := 1000000) only [go_sem, ↓indexAddrA_at, ↓loadA_at, ↓reduceIte, Nat.reduceLT, Nat.reduceEqDiff, Nat.reduceAdd, Nat.reduceSub, Nat.reduceBEq, Nat.reduceLeDiff, Int.reduceToNat, reduceCtorEq, hi, hw, openedV, Try.results69, g3]
  refine PureT.eq (c62s _ hi) rfl ?_
  simp -implicitDefEqProofs (maxSteps := 1000000) only [go_sem, ↓indexAddrA_at, ↓loadA_at, ↓reduceIte, Nat.reduceLT, Nat.reduceEqDiff, Nat.reduceAdd, Nat.reduceSub, Nat.reduceBEq, Nat.reduceLeDiff, Int.reduceToNat, reduceCtorEq, hi, hw, openedV, Try.results69, g3]
  refine PureT.eq (c14s _ hi) rfl ?_
  simp -implicitDefEqProofs (maxSteps := 1000000) only [go_sem, ↓indexAddrA_at, ↓loadA_at, ↓reduceIte, Nat.reduceLT, Nat.reduceEqDiff, Nat.reduceAdd, Nat.reduceSub, Nat.reduceBEq, Nat.reduceLeDiff, Int.reduceToNat, reduceCtorEq, hi, hw, openedV, Try.results69, g3]
  refine CodeT.seqR ?_
  simp -implicitDefEqProofs (maxSteps := 1000000) only [go_sem, ↓indexAddrA_at, ↓loadA_at, ↓reduceIte, Nat.reduceLT, Nat.reduceEqDiff, Nat.reduceAdd, Nat.reduceSub, Nat.reduceBEq, Nat.reduceLeDiff, Int.reduceToNat, reduceCtorEq, hi, hw, openedV, Try.results69, g3]
  refine CodeT.ret ?_
  simp -implicitDefEqProofs (maxSteps := 1000000) only [go_sem, ↓indexAddrA_at, ↓loadA_at, ↓reduceIte, Nat.reduceLT, Nat.reduceEqDiff, Nat.reduceAdd, Nat.reduceSub, Nat.reduceBEq, Nat.reduceLeDiff, Int.reduceToNat, reduceCtorEq, hi, hw, openedV, Try.results69, g3]
  refine pureEnd rfl ?_
  simp only [appendingV, hi, hw, er, g3, Bool.true_and, Bool.false_and, Bool.and_true, Bool.and_false, Bool.true_or, Bool.false_or, Bool.or_true, Bool.or_false, Bool.not_true, Bool.not_false, Bool.false_eq_true, ↓reduceIte]
def readV (d : Dsk) : AV :=
  if (!isDiskB d) = true then .tup [.sl false [], .sl false [], er 281]
  else if (!wrB d) = true then .tup [.sl false [], .sl false [], er 280]
  else .tup [.sl false (bs ((parseR (useB d)).getD 0 [])), .sl false (bss ((parseR (useB d)).drop 1)), er 0]
theorem c21 (d : Dsk) (hf : Few d) : PureT Try.prog 21 [dkv d] (· = readV d) := by
  refine CallT.laxR ?_
  cases hi : isDiskB d
  · refine CallT.intro Try.func21 (by decide) rfl ?_
    simp -implicitDefEqProofs (maxSteps := 1000000) only [go_sem, ↓indexAddrA_at, ↓loadA_at, ↓reduceIte, Nat.reduceLT, Nat.reduceEqDiff, Nat.reduceAdd, Nat.reduceSub, Nat.reduceBEq, Nat.reduceLeDiff, Int.reduceToNat, reduceCtorEq, hi, openedV, enterTm, Try.ntmps21, List.range'_succ, List.range'_zero, List.zip_cons_cons, List.zip_nil_left]
    refine CodeT.seqR ?_
    simp -implicitDefEqProofs (maxSteps := 1000000) only [go_sem, ↓indexAddrA_at, ↓loadA_at, ↓reduceIte, Nat.reduceLT, Nat.reduceEqDiff, Nat.reduceAdd, Nat.reduceSub, Nat.reduceBEq, Nat.reduceLeDiff, Int.reduceToNat, reduceCtorEq, hi, openedV, Try.results21]
    refine CodeT.seqR ?_
    simp -implicitDefEqProofs (maxSteps := 1000000) only [go_sem, ↓indexAddrA_at, ↓loadA_at, ↓reduceIte, Nat.reduceLT, Nat.reduceEqDiff, Nat.reduceAdd, Nat.reduceSub, Nat.reduceBEq, Nat.reduceLeDiff, Int.reduceToNat, reduceCtorEq, hi, openedV, Try.results21]
    refine PureT.eq (c61 _ _ ?_) rfl ?_
    assumption
    simp -implicitDefEqProofs (maxSteps := 1000000) only [go_sem, ↓indexAddrA_at, ↓loadA_at, ↓reduceIte, Nat.reduceLT, Nat.reduceEqDiff, Nat.reduceAdd, Nat.reduceSub, Nat.reduceBEq, Nat.reduceLeDiff, Int.reduceToNat, reduceCtorEq, hi, openedV, Try.results21]
    refine CodeT.seq ?_
    refine CodeT.seqR ?_
    simp -implicitDefEqProofs (maxSteps := 1000000) only [go_sem, ↓indexAddrA_at, ↓loadA_at, ↓reduceIte, Nat.reduceLT, Nat.reduceEqDiff, Nat.reduceAdd, Nat.reduceSub, Nat.reduceBEq, Nat.reduceLeDiff, Int.reduceToNat, reduceCtorEq, hi, openedV, Try.results21]
    refine CodeT.condT rfl ?_
    refine CodeT.seqR ?_
    simp -implicitDefEqProofs (maxSteps := 1000000) only [go_sem, ↓indexAddrA_at, ↓loadA_at, ↓reduceIte, Nat.reduceLT, Nat.reduceEqDiff, Nat.reduceAdd, Nat.reduceSub, Nat.reduceBEq, Nat.reduceLeDiff, Int.reduceToNat, reduceCtorEq, hi, openedV, Try.results21]
    refine CodeT.ret ?_
    simp -implicitDefEqProofs (maxSteps := 1000000) only [go_sem, ↓indexAddrA_at, ↓loadA_at, ↓reduceIte, Nat.reduceLT, Nat.reduceEqDiff, Nat.reduceAdd, Nat.reduceSub, Nat.reduceBEq, Nat.reduceLeDiff, Int.reduceToNat, reduceCtorEq, hi, openedV, Try.results21]
    refine pureEnd rfl ?_
    simp only [readV, hi, er, Bool.true_and, Bool.false_and, Bool.and_true, Bool.and_false, Bool.true_or, Bool.false_or, Bool.or_true, Bool.or_false, Bool.not_true, Bool.not_false, Bool.false_eq_true, ↓reduceIte]
  cases hw : wrB d
  · refine CallT.intro Try.func21 (by decide) rfl ?_
    simp -implicitDefEqProofs (maxSteps := 1000000) only [go_sem, ↓indexAddrA_at, ↓loadA_at, ↓reduceIte, Nat.reduceLT, Nat.reduceEqDiff, Nat.reduceAdd, Nat.reduceSub, Nat.reduceBEq, Nat.reduceLeDiff, Int.reduceToNat, reduceCtorEq, hi, hw, openedV, enterTm, Try.ntmps21, List.range'_succ, List.range'_zero, List.zip_cons_cons, List.zip_nil_left]
    refine CodeT.seqR ?_
    simp -implicitDefEqProofs (maxSteps := 1000000) only [go_sem, ↓indexAddrA_at, ↓loadA_at, ↓reduceIte, Nat.reduceLT, Nat.reduceEqDiff, Nat.reduceAdd, Nat.reduceSub, Nat.reduceBEq, Nat.reduceLeDiff, Int.reduceToNat, reduceCtorEq, hi, hw, openedV, Try.results21]
    refine CodeT.seqR ?_
    simp -implicitDefEqProofs (maxSteps := 1000000) only [go_sem, ↓indexAddrA_at, ↓loadA_at, ↓reduceIte, Nat.reduceLT, Nat.reduceEqDiff, Nat.reduceAdd, Nat.reduceSub, Nat.reduceBEq, Nat.reduceLeDiff, Int.reduceToNat, reduceCtorEq, hi, hw, openedV, Try.results21]
    refine PureT.eq (c61 _ _ ?_) rfl ?_
    assumption
    simp -implicitDefEqProofs (maxSteps := 1000000) only [go_sem, ↓indexAddrA_at, ↓loadA_at, ↓reduceIte, Nat.reduceLT, Nat.reduceEqDiff, Nat.reduceAdd, Nat.reduceSub, Nat.reduceBEq, Nat.reduceLeDiff, Int.reduceToNat, reduceCtorEq, hi, hw, openedV, Try.results21]
    refine CodeT.seq ?_
    refine CodeT.seqR ?_
    simp -implicitDefEqProofs (maxSteps := 1000000) only [go_sem, ↓indexAddrA_at, ↓loadA_at, ↓reduceIte, Nat.reduceLT, Nat.reduceEqDiff, Nat.reduceAdd, Nat.reduceSub, Nat.reduceBEq, Nat.reduceLeDiff, Int.reduceToNat, reduceCtorEq, hi, hw, openedV, Try.results21]
    refine CodeT.condT rfl ?_
    refine CodeT.seqR ?_
    simp -implicitDefEqProofs (maxSteps := 1000000) only [go_sem, ↓indexAddrA_at, ↓loadA_at, ↓reduceIte, Nat.reduceLT, Nat.reduceEqDiff, Nat.reduceAdd, Nat.reduceSub, Nat.reduceBEq, Nat.reduceLeDiff, Int.reduceToNat, reduceCtorEq, hi, hw, openedV, Try.results21]
    refine CodeT.ret ?_
    simp -implicitDefEqProofs (maxSteps := 1000000) only [go_sem, ↓indexAddrA_at, ↓loadA_at, ↓reduceIte, Nat.reduceLT, Nat.reduceEqDiff, Nat.reduceAdd, Nat.reduceSub, Nat.reduceBEq, Nat.reduceLeDiff, Int.reduceToNat, reduceCtorEq, hi, hw, openedV, Try.results21]
    refine pureEnd rfl ?_
    simp only [readV, hi, er, hw, Bool.true_and, Bool.false_and, Bool.and_true, Bool.and_false, Bool.true_or, Bool.false_or, Bool.or_true, Bool.or_false, Bool.not_true, Bool.not_false, Bool.false_eq_true, ↓reduceIte]
  have hp := hw
  rw [wrB_eq, decide_eq_true_eq] at hp
  refine CallT.intro Try.func21 (by decide) rfl ?_
  simp -implicitDefEqProofs (maxSteps := 1000000) only [go_sem, ↓indexAddrA_at, ↓loadA_at, ↓reduceIte, Nat.reduceLT, Nat.reduceEqDiff, Nat.reduceAdd, Nat.reduceSub, Nat.reduceBEq, Nat.reduceLeDiff, Int.reduceToNat, reduceCtorEq, hi, hw, openedV, enterTm, Try.ntmps21, List.range'_succ, List.range'_zero, List.zip_cons_cons, List.zip_nil_left]
  refine CodeT.seqR ?_
  simp -implicitDefEqProofs (maxSteps := 1000000) only [go_sem, ↓indexAddrA_at, ↓loadA_at, ↓reduceIte, Nat.reduceLT, Nat.reduceEqDiff, Nat.reduceAdd, Nat.reduceSub, Nat.reduceBEq, Nat.reduceLeDiff, Int.reduceToNat, reduceCtorEq, hi, hw, openedV, Try.results21]
  refine CodeT.seqR ?_
  simp -implicitDefEqProofs (maxSteps := 1000000) only [go_sem, ↓indexAddrA_at, ↓loadA_at, ↓reduceIte, Nat.reduceLT, Nat.reduceEqDiff, Nat.reduceAdd, Nat.reduceSub, Nat.reduceBEq, Nat.reduceLeDiff, Int.reduceToNat, reduceCtorEq, hi, hw, openedV, Try.results21]
  refine PureT.eq (c61 _ _ ?_) rfl ?_
  assumption
  simp -implicitDefEqProofs (maxSteps := 1000000) only [go_sem, ↓indexAddrA_at, ↓loadA_at, ↓reduceIte, Nat.reduceLT, Nat.reduceEqDiff, Nat.reduceAdd, Nat.reduceSub, Nat.reduceBEq, Nat.reduceLeDiff, Int.reduceToNat, reduceCtorEq, hi, hw, openedV, Try.results21]
  refine CodeT.seq ?_
  refine CodeT.seqR ?_
  simp -implicitDefEqProofs (maxSteps := 1000000) only [go_sem, ↓indexAddrA_at, ↓loadA_at, ↓reduceIte, Nat.reduceLT, Nat.reduceEqDiff, Nat.reduceAdd, Nat.reduceSub, Nat.reduceBEq, Nat.reduceLeDiff, Int.reduceToNat, reduceCtorEq, hi, hw, openedV, Try.results21]
  refine CodeT.condF rfl ?_
  refine CodeT.skip ?_
  simp -implicitDefEqProofs (maxSteps := 1000000) only [go_sem, ↓indexAddrA_at, ↓loadA_at, ↓reduceIte, Nat.reduceLT, Nat.reduceEqDiff, Nat.reduceAdd, Nat.reduceSub, Nat.reduceBEq, Nat.reduceLeDiff, Int.reduceToNat, reduceCtorEq, hi, hw, openedV, Try.results21]
  refine CodeT.seqR ?_
  simp -implicitDefEqProofs (maxSteps := 1000000) only [go_sem, ↓indexAddrA_at, ↓loadA_at, ↓reduceIte, Nat.reduceLT, Nat.reduceEqDiff, Nat.reduceAdd, Nat.reduceSub, Nat.reduceBEq, Nat.reduceLeDiff, Int.reduceToNat, reduceCtorEq, hi, hw, openedV, Try.results21]
  refine PureT.eq (c62s _ hi) rfl ?_
  simp -implicitDefEqProofs (maxSteps := 1000000) only [go_sem, ↓indexAddrA_at, ↓loadA_at, ↓reduceIte, Nat.reduceLT, Nat.reduceEqDiff, Nat.reduceAdd, Nat.reduceSub, Nat.reduceBEq, Nat.reduceLeDiff, Int.reduceToNat, reduceCtorEq, hi, hw, openedV, Try.results21]
  refine PureT.eq (c14s _ hi) rfl ?_
  simp -implicitDefEqProofs (maxSteps := 1000000) only [go_sem, ↓indexAddrA_at, ↓loadA_at, ↓reduceIte, Nat.reduceLT, Nat.reduceEqDiff, Nat.reduceAdd, Nat.reduceSub, Nat.reduceBEq, Nat.reduceLeDiff, Int.reduceToNat, reduceCtorEq, hi, hw, openedV, Try.results21]
  refine CodeT.seqD [(0, .free), (3, .free), (1, .read), (2, .read), (5, .free), (4, .read), (6, .free), (7, .free)] mixed (by kernel_rfl) ?_
  simp -implicitDefEqProofs (maxSteps := 1000000) only [go_sem, ↓indexAddrA_at, ↓loadA_at, ↓reduceIte, Nat.reduceLT, Nat.reduceEqDiff, Nat.reduceAdd, Nat.reduceSub, Nat.reduceBEq, Nat.reduceLeDiff, Int.reduceToNat, reduceCtorEq, hi, hw, openedV, Try.results21]
  refine gate_i ?_ ?_
  omega
  simp -implicitDefEqProofs (disch := omega) only [Int.toNat_natCast, i64_in, bs_getD, opvs_getD, is64_getD, bss_getD]
  simp -implicitDefEqProofs (maxSteps := 1000000) only [go_sem, ↓indexAddrA_at, ↓loadA_at, ↓reduceIte, Nat.reduceLT, Nat.reduceEqDiff, Nat.reduceAdd, Nat.reduceSub, Nat.reduceBEq, Nat.reduceLeDiff, Int.reduceToNat, reduceCtorEq, hi, hw, openedV, Try.results21]
  refine And.intro (by trivial) ?_
  refine And.intro (by exact uni_bss _) ?_
  refine And.intro (by omega) ?_
  refine And.intro (by assumption) ?_
  refine And.intro (by omega) ?_
  refine CodeT.ret ?_
  simp -implicitDefEqProofs (maxSteps := 1000000) only [go_sem, ↓indexAddrA_at, ↓loadA_at, ↓reduceIte, Nat.reduceLT, Nat.reduceEqDiff, Nat.reduceAdd, Nat.reduceSub, Nat.reduceBEq, Nat.reduceLeDiff, Int.reduceToNat, reduceCtorEq, hi, hw, openedV, Try.results21]
  refine pureEnd rfl ?_
  simp only [readV, hi, hw, er, Bool.true_and, Bool.false_and, Bool.and_true, Bool.and_false, Bool.true_or, Bool.false_or, Bool.or_true, Bool.or_false, Bool.not_true, Bool.not_false, Bool.false_eq_true, ↓reduceIte]
end Go.Proofs.Try

namespace Go.Proofs.Try
set_option linter.unusedSimpArgs false
open Go.PM

def nib (x : UInt8) : List UInt8 := [16 + x / 16, 16 + x % 16]
def frame (l : List UInt8) : List UInt8 := l.flatMap nib ++ [255]
theorem nib_len (l : List UInt8) : (l.flatMap nib).length = 2 * l.length := by
  induction l with
  | nil => rfl
  | cons x l ih => simp [ih, nib]; omega
theorem nib_take (l : List UInt8) (i : Nat) (h : i < l.length) : (l.take i).flatMap nib ++ nib (l.getD i 0) = (l.take (i + 1)).flatMap nib := by
  rw [List.take_add_one, List.flatMap_append]
  simp [List.getElem?_eq_getElem h, List.getD_eq_getElem?_getD]

theorem c13 (l : List UInt8) (hl : l.length ≤ 1000000) : PureT Try.prog 13 [.sl false (bs l)] (· = .sl false (bs (frame l))) := by
  refine CallT.res (CallT.intro Try.func13 (by decide) rfl ?_)
  simp -implicitDefEqProofs only [go_sem, ↓reduceIte, Nat.reduceLT, Nat.reduceEqDiff, Nat.reduceAdd, Nat.reduceSub, enterTm, Try.ntmps13, List.range'_succ, List.range'_zero, List.zip_cons_cons, List.zip_nil_left]
  iterate 2
    refine CodeT.seqK fun K hK => CodeT.region ?_
    simp -implicitDefEqProofs only [go_sem, ↓reduceIte, Nat.reduceLT, Nat.reduceEqDiff, Nat.reduceAdd, Nat.reduceSub]
    refine hK _ ?_; clear hK K
  refine CodeT.seqK fun K hK => CodeT.seqK fun K' hK' => CodeT.region ?_
  simp -implicitDefEqProofs only [go_sem, ↓reduceIte, Nat.reduceLT, Nat.reduceEqDiff, Nat.reduceAdd, Nat.reduceSub, bs_length]
  refine hK' _ ?_; clear hK' K'
  refine CodeT.promote 3 1 rfl (CodeT.block ?_)
  let S : Nat → St := fun i => ⟨⟨25, [(8, .val (.int .i64 i)), (7, .val (.int .i64 l.length)), (6, .sl false (bs l)), (3, .hsl 0 i 0 (2 * i))]⟩, [.row true i 1 (bs ((l.take i).flatMap nib))], []⟩
  refine CodeT.weak (s' := S 0) ⟨rfl, by simp [S, go_sem], by simp [S, go_sem, bs], rfl, keepsD_nil _⟩ rfl (CodeT.count S l.length (Nat.zero_le _) ?_)
  intro i hi
  refine CodeT.seqK fun K1 hK1 => CodeT.region ?_
  simp -implicitDefEqProofs only [S, go_sem, ↓reduceIte, Nat.reduceLT, Nat.reduceEqDiff, Nat.reduceAdd, Nat.reduceSub]
  refine hK1 _ ?_; clear hK1 K1
  refine CodeT.seqK fun K1 hK1 => CodeT.cond rfl (fun ht => CodeT.skip ?_) (fun hf => CodeT.exit ?_)
  · simp -implicitDefEqProofs only [go_sem, ↓reduceIte, Nat.reduceLT, Nat.reduceEqDiff, Nat.reduceAdd, Nat.reduceSub]
    refine hK1 _ ?_; clear hK1 K1
    have hlt : i < l.length := by simp at ht; exact ht
    have hi64 : IntKind.i64.wrap ((i : Int) + 1) = ((i + 1 : Nat) : Int) := by rw [i64_in] <;> omega
    refine CodeT.seqK fun K1 hK1 => CodeT.block (CodeT.seqK fun K2 hK2 => CodeT.region ?_)
    simp -implicitDefEqProofs only [go_sem, ↓reduceIte, Nat.reduceLT, Nat.reduceEqDiff, Nat.reduceAdd, Nat.reduceSub, Int.toNat_natCast, bs_getD hlt, bs_length]
    repeat refine And.intro (by first | with_reducible rfl | assumption | omega | exact uni_bs _ | exact uni_bs [_] | exact uni_bs [_, _] | trivial | rfl) ?_
    refine hK2 _ ?_; clear hK2 K2
    refine CodeT.region ?_
    simp -implicitDefEqProofs only [go_sem, ↓reduceIte, Nat.reduceLT, Nat.reduceEqDiff, Nat.reduceAdd, Nat.reduceSub]
    simp -implicitDefEqProofs only [u8_16, u8_quo, u8_rem, u8_add, bs_snoc2, bs_length, nib_len, List.length_take, Nat.min_eq_left hi, Nat.mul_one]
    repeat refine And.intro (by first | with_reducible rfl | assumption | omega | exact uni_bs _ | exact uni_bs [_] | exact uni_bs [_, _] | trivial | rfl) ?_
    refine hK1 _ ?_; clear hK1 K1
    refine CodeT.region ?_
    simp -implicitDefEqProofs only [go_sem, ↓reduceIte, Nat.reduceLT, Nat.reduceEqDiff, Nat.reduceAdd, Nat.reduceSub, hi64]
    refine ⟨hlt, ⟨rfl, ?_, ?_, rfl, keepsD_nil _⟩, Nat.le_refl _⟩
    · simp [S, go_sem]; omega
    · exact ⟨.inr ⟨by rw [← nib_take l i hlt]; rfl, rfl⟩, trivial⟩
  · simp -implicitDefEqProofs only [go_sem, ↓reduceIte, Nat.reduceLT, Nat.reduceEqDiff, Nat.reduceAdd, Nat.reduceSub]
    clear hK1 K1
    refine hK _ ?_; clear hK K
    have hil : i = l.length := by simp at hf; omega
    subst hil
    refine CodeT.seqK fun K hK => CodeT.region ?_
    simp -implicitDefEqProofs only [go_sem, ↓reduceIte, Nat.reduceLT, Nat.reduceEqDiff, Nat.reduceAdd, Nat.reduceSub, List.take_length]
    simp -implicitDefEqProofs only [u8_255, bs_snoc, bs_length, nib_len, Nat.mul_one]
    repeat refine And.intro (by first | with_reducible rfl | assumption | omega | exact uni_bs _ | exact uni_bs [_] | exact uni_bs [_, _] | trivial | rfl) ?_
    refine hK _ ?_; clear hK K
    refine CodeT.ret ?_
    simp -implicitDefEqProofs only [go_sem, ↓reduceIte, Nat.reduceLT, Nat.reduceEqDiff, Nat.reduceAdd, Nat.reduceSub, Try.f13]
    have hln : (bs (l.flatMap nib ++ [255])).length = 2 * l.length + 1 := by simp [bs_length, nib_len, -List.length_flatMap]
    have hln2 : (l.flatMap nib).length = 2 * l.length := by simp [nib_len, -List.length_flatMap]
    have hln3 : (l.flatMap nib ++ [255]).length = 2 * l.length + 1 := by rw [List.length_append, hln2]; rfl
    refine ⟨by omega, rfl, _, rfl, ?_⟩
    rw [List.take_of_length_le (by omega)]; rfl
end Go.Proofs.Try
