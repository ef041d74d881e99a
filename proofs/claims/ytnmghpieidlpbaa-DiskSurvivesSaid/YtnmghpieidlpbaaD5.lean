/-
  Disks that crash: plain mathematics.
-/
import Derived.Test.YtnmghpieidlpbaaD4
set_option linter.unusedVariables false
set_option linter.unusedSimpArgs false
namespace Go.Proofs.Try
set_option linter.unusedSimpArgs false
set_option linter.unusedVariables false
open Go.PM

/-- A record that was cut off, whatever stands behind it. -/
theorem scan_cut : ∀ (p : List UInt8) (a : Nat) (r : List UInt8), a < (frame p).length → scan1 ((frame p).take a ++ 0 :: r) = none := by
  intro p
  induction p with
  | nil =>
    intro a r h
    rw [frame_nil] at h
    have : a = 0 := by simpa using h
    subst this
    cases r with
    | nil => rfl
    | cons y r => rfl
  | cons x p ih =>
    intro a r h
    rw [frame_cons] at h ⊢
    cases a with
    | zero =>
      cases r with
      | nil => rfl
      | cons y r => rfl
    | succ a => cases a with
      | zero =>
        simp only [List.take_succ_cons, List.take_zero, List.cons_append, List.nil_append, scan1, if_neg (hi_ne x)]
        rw [if_neg]
        simp [digit]
      | succ a =>
        have := ih a r (by simp at h; omega)
        simp only [List.take_succ_cons, List.cons_append, scan1, if_neg (hi_ne x), hi_digit, lo_digit, Bool.and_self, if_true, this, Option.map_none]
/-- What begins with 0 is no record. -/
theorem scan_0 (r : List UInt8) : scan1 (0 :: r) = none := scan_cut [] 0 r (by simp [frame_nil])
theorem scan_zs' (n : Nat) (r : List UInt8) (h : 0 < n) : scan1 (zs n ++ r) = none := by
  obtain ⟨m, rfl⟩ : ∃ m, n = m + 1 := ⟨n - 1, by omega⟩
  show scan1 (0 :: (List.replicate m 0 ++ r)) = none
  exact scan_0 _

/-- The writes that append records, from e on. -/
def apps : Nat → List (List UInt8) → List DOp
  | _, [] => []
  | e, r :: l => wr (e : Nat) (frame r) :: apps (e + (frame r).length) l
theorem apps_len : ∀ (e : Nat) (l : List (List UInt8)), (apps e l).length = l.length
  | _, [] => rfl
  | e, r :: l => by rw [apps, List.length_cons, apps_len, List.length_cons]
theorem apps_append : ∀ (e : Nat) (l l' : List (List UInt8)), apps e (l ++ l') = apps e l ++ apps (e + (frames l).length) l'
  | e, [], l' => by simp [apps, frames]
  | e, r :: l, l' => by
    rw [List.cons_append, apps, apps_append, frames_cons, List.length_append, apps, Nat.add_assoc]
    rfl
/-- Writes, each as far as is told. -/
def puts (b : List UInt8) : List DOp → (Nat → Nat) → List UInt8
  | [], _ => b
  | o :: q, far => puts (putB b o.at_.toNat (o.bytes.take (far 0))) q (fun i => far (i + 1))
theorem doneTo_cons (b : List UInt8) (o : DOp) (q : List DOp) (far : Nat → Nat) : ∀ n, doneTo b (o :: q) far (n + 1) = doneTo (putB b o.at_.toNat (o.bytes.take (far 0))) q (fun i => far (i + 1)) n := by
  intro n
  induction n with
  | zero => rw [doneTo_succ]; rfl
  | succ n ih => rw [doneTo_succ, ih, doneTo_succ]; rfl
theorem doneTo_puts : ∀ (q : List DOp) (b : List UInt8) (far : Nat → Nat), doneTo b q far q.length = puts b q far
  | [], b, far => rfl
  | o :: q, b, far => by rw [List.length_cons, doneTo_cons, doneTo_puts q, puts]
theorem puts_append : ∀ (q q' : List DOp) (b : List UInt8) (far : Nat → Nat), puts b (q ++ q') far = puts (puts b q far) q' (fun i => far (q.length + i))
  | [], q', b, far => by simp [puts]
  | o :: q, q', b, far => by
    rw [List.cons_append, puts, puts_append, puts]
    congr 1
    funext i
    rw [List.length_cons, show q.length + 1 + i = q.length + i + 1 by omega]
/-- A write changes nothing ahead of it. -/
theorem putB_take {b x : List UInt8} {a n : Nat} (hn : n ≤ a) (ha : a ≤ b.length) : (putB b a x).take n = b.take n := by
  rw [putB, List.append_assoc, List.take_append_of_le_length (by rw [List.length_take]; omega), List.take_take, Nat.min_eq_left hn]
theorem putB_drop {b x : List UInt8} {a n : Nat} (hn : a + x.length ≤ n) (ha : a ≤ b.length) : (putB b a x).drop n = b.drop n := by
  unfold putB
  rw [List.drop_append, List.drop_of_length_le (by rw [List.length_append, List.length_take]; omega), List.nil_append, List.drop_drop, List.length_append, List.length_take]
  congr 1
  omega
theorem puts_apps : ∀ (l : List (List UInt8)) (e : Nat) (b : List UInt8) (far : Nat → Nat), e + (frames l).length ≤ b.length →
    (puts b (apps e l) far).length = b.length ∧ (puts b (apps e l) far).take e = b.take e ∧ (puts b (apps e l) far).drop (e + (frames l).length) = b.drop (e + (frames l).length)
  | [], e, b, far, h => ⟨rfl, rfl, rfl⟩
  | r :: l, e, b, far, h => by
    rw [frames_cons, List.length_append] at h ⊢
    have hx : ((frame r).take (far 0)).length ≤ (frame r).length := by rw [List.length_take]; omega
    have hl : (putB b e ((frame r).take (far 0))).length = b.length := putB_length (by omega)
    obtain ⟨h1, h2, h3⟩ := puts_apps l (e + (frame r).length) (putB b e ((frame r).take (far 0))) (fun i => far (i + 1)) (by omega)
    have e1 : puts b (apps e (r :: l)) far = puts (putB b e ((frame r).take (far 0))) (apps (e + (frame r).length) l) (fun i => far (i + 1)) := by
      show puts (putB b ((e : Nat) : Int).toNat ((frame r).take (far 0))) _ _ = _
      rw [Int.toNat_natCast]
    rw [e1]
    refine ⟨h1.trans hl, ?_, ?_⟩
    · have := congrArg (List.take e) h2
      rw [List.take_take, List.take_take, Nat.min_eq_left (by omega)] at this
      rw [this, putB_take (Nat.le_refl _) (by omega)]
    · rw [← Nat.add_assoc, h3, putB_drop (by omega) (by omega)]
/-- What a crash leaves of records that were appended behind zeros. -/
theorem crash_apps : ∀ (l : List (List UInt8)) (e n : Nat) (b : List UInt8) (far : Nat → Nat), e + n ≤ b.length → (frames l).length ≤ n → (b.drop e).take n = zs n →
    ∃ m t, m ≤ l.length ∧ ((puts b (apps e l) far).drop e).take n = frames (l.take m) ++ t ∧ scan1 t = none
  | [], e, n, b, far, h, hl, hz => ⟨0, zs n, Nat.le_refl _, by rw [apps, puts, hz]; rfl, scan_zs n⟩
  | r :: l, e, n, b, far, h, hl, hz => by
    rw [frames_cons, List.length_append] at hl
    have e1 : puts b (apps e (r :: l)) far = puts (putB b e ((frame r).take (far 0))) (apps (e + (frame r).length) l) (fun i => far (i + 1)) := by
      show puts (putB b ((e : Nat) : Int).toNat ((frame r).take (far 0))) _ _ = _
      rw [Int.toNat_natCast]
    rw [e1]
    have hx : ((frame r).take (far 0)).length = min (far 0) (frame r).length := List.length_take
    have hlen : (putB b e ((frame r).take (far 0))).length = b.length := putB_length (by omega)
    have key : ∀ k, ((frame r).take (far 0)).length ≤ k → k ≤ n → ((putB b e ((frame r).take (far 0))).drop e).take k = (frame r).take (far 0) ++ zs (k - ((frame r).take (far 0)).length) := by
      intro k h1 h2
      have e2 : (putB b e ((frame r).take (far 0))).drop e = (frame r).take (far 0) ++ b.drop (e + ((frame r).take (far 0)).length) := by
        unfold putB
        rw [List.append_assoc, List.drop_append, List.drop_of_length_le (by rw [List.length_take]; omega), List.nil_append, List.length_take, Nat.min_eq_left (by omega), Nat.sub_self, List.drop_zero]
      have hz' := congrArg (fun x => (List.drop ((frame r).take (far 0)).length x).take (k - ((frame r).take (far 0)).length)) hz
      rw [List.drop_take, List.drop_drop, List.take_take, Nat.min_eq_left (by omega)] at hz'
      rw [e2, List.take_append, List.take_of_length_le h1, hz']
      congr 1
      unfold zs
      rw [List.drop_replicate, List.take_replicate, Nat.min_eq_left (by omega)]
    rcases Nat.lt_or_ge (far 0) (frame r).length with hf | hf
    · refine ⟨0, ((puts (putB b e ((frame r).take (far 0))) (apps (e + (frame r).length) l) (fun i => far (i + 1))).drop e).take n, Nat.zero_le _, rfl, ?_⟩
      obtain ⟨h1, h2, h3⟩ := puts_apps l (e + (frame r).length) (putB b e ((frame r).take (far 0))) (fun i => far (i + 1)) (by omega)
      generalize puts (putB b e ((frame r).take (far 0))) (apps (e + (frame r).length) l) (fun i => far (i + 1)) = B at *
      have h4 := congrArg (List.drop e) h2
      rw [List.drop_take, List.drop_take, Nat.add_sub_cancel_left, key _ (by omega) (by omega), hx, Nat.min_eq_left (by omega)] at h4
      have h5 : (B.drop e).take n = (B.drop e).take (frame r).length ++ ((B.drop e).take n).drop (frame r).length := by
        have := List.take_append_drop (frame r).length ((B.drop e).take n)
        rw [List.take_take, Nat.min_eq_left (by omega)] at this
        exact this.symm
      rw [h5, h4, List.append_assoc]
      obtain ⟨k, hk⟩ : ∃ k, (frame r).length - far 0 = k + 1 := ⟨(frame r).length - far 0 - 1, by omega⟩
      rw [hk]
      exact scan_cut r (far 0) _ hf
    · have hfull : (frame r).take (far 0) = frame r := List.take_of_length_le hf
      rw [hfull] at key hlen ⊢
      have h6 := key n (by omega) (Nat.le_refl _)
      have h7 : ((putB b e (frame r)).drop (e + (frame r).length)).take (n - (frame r).length) = zs (n - (frame r).length) := by
        have := congrArg (List.drop (frame r).length) h6
        rw [List.drop_take, List.drop_drop, List.drop_left] at this
        exact this
      obtain ⟨m, t, k1, k2, k3⟩ := crash_apps l (e + (frame r).length) (n - (frame r).length) (putB b e (frame r)) (fun i => far (i + 1)) (by omega) (by omega) h7
      obtain ⟨h1, h2, h3⟩ := puts_apps l (e + (frame r).length) (putB b e (frame r)) (fun i => far (i + 1)) (by omega)
      generalize puts (putB b e (frame r)) (apps (e + (frame r).length) l) (fun i => far (i + 1)) = B at *
      refine ⟨m + 1, t, by simpa using k1, ?_, k3⟩
      have h8 := congrArg (List.drop e) h2
      rw [List.drop_take, List.drop_take, Nat.add_sub_cancel_left, key _ (Nat.le_refl _) (by omega), Nat.sub_self] at h8
      have h9 : (B.drop e).take n = (B.drop e).take (frame r).length ++ ((B.drop e).take n).drop (frame r).length := by
        have := List.take_append_drop (frame r).length ((B.drop e).take n)
        rw [List.take_take, Nat.min_eq_left (by omega)] at this
        exact this.symm
      rw [h9, h8, List.drop_take, List.drop_drop, k2, List.take_succ_cons, frames_cons]
      simp [zs]
/-- All of them are there, if all of each was kept. -/
theorem full_apps : ∀ (l : List (List UInt8)) (e n : Nat) (b : List UInt8) (far : Nat → Nat), e + n ≤ b.length → (frames l).length ≤ n → (b.drop e).take n = zs n → (∀ i, i < l.length → (frame (l.getD i [])).length ≤ far i) →
    ((puts b (apps e l) far).drop e).take n = frames l ++ zs (n - (frames l).length)
  | [], e, n, b, far, h, hl, hz, hf => by rw [apps, puts, hz]; rfl
  | r :: l, e, n, b, far, h, hl, hz, hf => by
    rw [frames_cons, List.length_append] at hl
    have e1 : puts b (apps e (r :: l)) far = puts (putB b e (frame r)) (apps (e + (frame r).length) l) (fun i => far (i + 1)) := by
      show puts (putB b ((e : Nat) : Int).toNat ((frame r).take (far 0))) _ _ = _
      rw [Int.toNat_natCast, show List.take (far 0) (frame r) = frame r from List.take_of_length_le (hf 0 (by simp))]
    rw [e1]
    have hlen : (putB b e (frame r)).length = b.length := putB_length (by omega)
    have e2 : (putB b e (frame r)).drop e = frame r ++ b.drop (e + (frame r).length) := by
      unfold putB
      rw [List.append_assoc, List.drop_append, List.drop_of_length_le (by rw [List.length_take]; omega), List.nil_append, List.length_take, Nat.min_eq_left (by omega), Nat.sub_self, List.drop_zero]
    have h7 : ((putB b e (frame r)).drop (e + (frame r).length)).take (n - (frame r).length) = zs (n - (frame r).length) := by
      have hz' := congrArg (List.drop (frame r).length) hz
      rw [List.drop_take, List.drop_drop] at hz'
      rw [← List.drop_drop, e2, List.drop_left, hz']
      simp [zs]
    have ih := full_apps l (e + (frame r).length) (n - (frame r).length) (putB b e (frame r)) (fun i => far (i + 1)) (by omega) (by omega) h7 (fun i hi => hf (i + 1) (by simpa using hi))
    obtain ⟨h1, h2, h3⟩ := puts_apps l (e + (frame r).length) (putB b e (frame r)) (fun i => far (i + 1)) (by omega)
    generalize puts (putB b e (frame r)) (apps (e + (frame r).length) l) (fun i => far (i + 1)) = B at *
    have h8 := congrArg (List.drop e) h2
    rw [List.drop_take, List.drop_take, Nat.add_sub_cancel_left, e2, List.take_left] at h8
    have h9 : (B.drop e).take n = (B.drop e).take (frame r).length ++ ((B.drop e).take n).drop (frame r).length := by
      have := List.take_append_drop (frame r).length ((B.drop e).take n)
      rw [List.take_take, Nat.min_eq_left (by omega)] at this
      exact this.symm
    rw [h9, h8, List.drop_take, List.drop_drop, ih, frames_cons, List.append_assoc, List.length_append, Nat.sub_sub]
end Go.Proofs.Try

namespace Go.Proofs.Try
set_option linter.unusedSimpArgs false
set_option linter.unusedVariables false
open Go.PM

/-- The half from h on of bytes begins with records, behind which there is t. -/
structure Half (b : List UInt8) (h sz : Nat) (R : List (List UInt8)) (t : List UInt8) : Prop where
  u : (b.drop h).take sz = frames R ++ t
/-- A disk whose half in use, in its bytes, has R with zeros behind, and to which l was appended since. -/
structure Rest (d : Dsk) (R l : List (List UInt8)) : Prop where
  i : isDiskB d = true
  q : d.queue = apps (halfAt d.bytes + (frames R).length) l
  u : (d.bytes.drop (halfAt d.bytes)).take (szB d) = frames R ++ zs (szB d - (frames R).length)
  fit : (frames (R ++ l)).length ≤ szB d
  n : d.bytes.length ≤ 4097
/-- A disk without writes that wait, whose half in use has R and something that is no record behind. -/
structure Weak (d : Dsk) (R : List (List UInt8)) : Prop where
  i : isDiskB d = true
  q : d.queue = []
  t : ∃ t, (d.bytes.drop (halfAt d.bytes)).take (szB d) = frames R ++ t ∧ scan1 t = none
  n : d.bytes.length ≤ 4097

theorem half_bounds {d : Dsk} (hi : isDiskB d = true) : d.bytes.length = 2 * szB d + 1 ∧ 64 ≤ szB d ∧ d.bytes.length ≤ 2097153 ∧ 1 ≤ halfAt d.bytes ∧ halfAt d.bytes + szB d ≤ d.bytes.length ∧ (halfAt d.bytes = 1 ∨ halfAt d.bytes = 1 + szB d) := by
  obtain ⟨f1, f2, f3, f4, f5, f6⟩ := disk_facts hi
  have : halfAt d.bytes = 1 ∨ halfAt d.bytes = 1 + szB d := by
    unfold halfAt szB; split
    · exact .inl rfl
    · exact .inr rfl
  refine ⟨f2, f3, f1, ?_, ?_, this⟩ <;> omega
theorem half_same {b b' : List UInt8} (hl : b'.length = b.length) (h1 : b'.take 1 = b.take 1) : halfAt b' = halfAt b := by
  unfold halfAt
  have : b'.getD 0 0 = b.getD 0 0 := by
    cases b <;> cases b' <;> simp_all
  rw [this, hl]
theorem seen_puts (d : Dsk) : seenB d = puts d.bytes d.queue (fun i => (d.queue.getD i op0).bytes.length) := doneTo_puts _ _ _
theorem crash_puts (d : Dsk) (cuts : List Int) : crashB d cuts = puts d.bytes d.queue (farC cuts d) := doneTo_puts _ _ _
theorem apps_get : ∀ (l : List (List UInt8)) (e i : Nat), i < l.length → ((apps e l).getD i op0).bytes = frame (l.getD i [])
  | [], e, i, h => by simp at h
  | r :: l, e, 0, h => rfl
  | r :: l, e, i + 1, h => by
    show ((apps _ l).getD i op0).bytes = _
    rw [apps_get l _ i (by simpa using h)]
    rfl
theorem drop_take_at {b : List UInt8} {h sz k : Nat} {x y : List UInt8} (hu : (b.drop h).take sz = x ++ y) (hx : x.length = k) : (b.drop (h + k)).take (sz - k) = y := by
  have := congrArg (List.drop k) hu
  rw [List.drop_take, List.drop_drop, ← hx, List.drop_left] at this
  rw [← hx]; exact this
theorem take_join {b : List UInt8} {h sz k : Nat} (hk : k ≤ sz) {x y : List UInt8} (h1 : (b.drop h).take k = x) (h2 : (b.drop (h + k)).take (sz - k) = y) : (b.drop h).take sz = x ++ y := by
  have := List.take_append_drop k ((b.drop h).take sz)
  rw [List.take_take, Nat.min_eq_left hk, List.drop_take, List.drop_drop, h1, h2] at this
  exact this.symm
theorem rest_zero {d : Dsk} {R l : List (List UInt8)} (r : Rest d R l) : (d.bytes.drop (halfAt d.bytes + (frames R).length)).take (szB d - (frames R).length) = zs (szB d - (frames R).length) := drop_take_at r.u rfl
/-- What is seen. -/
theorem rest_seen {d : Dsk} {R l : List (List UInt8)} (r : Rest d R l) : (seenB d).length = d.bytes.length ∧ halfAt (seenB d) = halfAt d.bytes ∧ ((seenB d).drop (halfAt d.bytes)).take (szB d) = frames (R ++ l) ++ zs (szB d - (frames (R ++ l)).length) := by
  obtain ⟨b1, b2, b3, b4, b5, b6⟩ := half_bounds r.i
  have hfit := r.fit
  rw [frames_append, List.length_append] at hfit
  rw [seen_puts, r.q]
  obtain ⟨h1, h2, h3⟩ := puts_apps l (halfAt d.bytes + (frames R).length) d.bytes (fun i => ((apps (halfAt d.bytes + (frames R).length) l).getD i op0).bytes.length) (by omega)
  have h4 := full_apps l (halfAt d.bytes + (frames R).length) (szB d - (frames R).length) d.bytes (fun i => ((apps (halfAt d.bytes + (frames R).length) l).getD i op0).bytes.length) (by omega) (by omega) (rest_zero r) (fun i hi => by rw [apps_get l _ i hi]; exact Nat.le_refl _)
  generalize puts d.bytes (apps (halfAt d.bytes + (frames R).length) l) (fun i => ((apps (halfAt d.bytes + (frames R).length) l).getD i op0).bytes.length) = B at *
  refine ⟨h1, half_same h1 ?_, ?_⟩
  · have := congrArg (List.take 1) h2
    rw [List.take_take, List.take_take, Nat.min_eq_left (by omega)] at this
    exact this
  · have h5 := congrArg (List.drop (halfAt d.bytes)) h2
    rw [List.drop_take, List.drop_take, Nat.add_sub_cancel_left] at h5
    have h6 : (d.bytes.drop (halfAt d.bytes)).take (frames R).length = frames R := by
      have := congrArg (List.take (frames R).length) r.u
      rw [List.take_take, Nat.min_eq_left (by omega), List.take_left] at this
      exact this
    rw [take_join (k := (frames R).length) (by omega) (h5.trans h6) h4, frames_append, List.append_assoc, List.length_append, Nat.sub_sub]
theorem rest_use {d : Dsk} {R l : List (List UInt8)} (r : Rest d R l) : halfB d = halfAt d.bytes ∧ useB d = frames (R ++ l) ++ zs (szB d - (frames (R ++ l)).length) ∧ parseR (useB d) = R ++ l ∧ endB d = (frames (R ++ l)).length := by
  obtain ⟨h1, h2, h3⟩ := rest_seen r
  have hu : useB d = frames (R ++ l) ++ zs (szB d - (frames (R ++ l)).length) := by
    rw [← h3, ← h2]; rfl
  obtain ⟨p1, p2⟩ := parse_of (R ++ l) _ (scan_zs (szB d - (frames (R ++ l)).length))
  exact ⟨h2, hu, by rw [hu]; exact p1, by show parseE (useB d) = _; rw [hu]; exact p2⟩
theorem rest_wr {d : Dsk} {R l : List (List UInt8)} (r : Rest d R l) (hR : R ≠ []) : wrB d = true := by
  rw [wrB_eq, (rest_use r).2.2.1]
  cases R with
  | nil => exact absurd rfl hR
  | cons x R => simp; omega
theorem rest_cl {d : Dsk} {R l : List (List UInt8)} (r : Rest d R l) : clB d = true := by
  obtain ⟨h1, h2, h3, h4⟩ := rest_use r
  have hfit := r.fit
  have hfit2 : (frames R).length ≤ szB d := by rw [frames_append, List.length_append] at hfit; omega
  have z1 : zerosB ((useB d).drop (endB d)) = true := by rw [h4, h2, List.drop_left]; exact zeros_zs _
  have ho : oldB d (halfB d) = frames R ++ zs (szB d - (frames R).length) := by rw [h1]; exact r.u
  have hp := (parse_of R _ (scan_zs (szB d - (frames R).length))).2
  have z2 : zerosB ((oldB d (halfB d)).drop (parseE (oldB d (halfB d)))) = true := by rw [ho, hp, List.drop_left]; exact zeros_zs _
  have e3 : (if (!zerosB ((useB d).drop (endB d))) = true then false else if (((halfAt d.bytes : Nat) : Int) != ((halfB d : Nat) : Int)) = true then false else zerosB ((oldB d (halfB d)).drop (parseE (oldB d (halfB d))))) = clB d := rfl
  rw [← e3, z1, h1]
  rw [h1] at z2
  simp [z2]
theorem rest_read {d : Dsk} {x : List UInt8} {R l : List (List UInt8)} (r : Rest d (x :: R) l) : readV d = .tup [.sl false (bs x), .sl false (bss (R ++ l)), er 0] := by
  unfold readV
  rw [r.i, rest_wr r (by simp), (rest_use r).2.2.1]
  rfl
theorem weak_use {d : Dsk} {R : List (List UInt8)} (w : Weak d R) : seenB d = d.bytes ∧ halfB d = halfAt d.bytes ∧ parseR (useB d) = R ∧ endB d = (frames R).length := by
  have hs : seenB d = d.bytes := by
    have := w.q
    obtain ⟨b, q⟩ := d
    simp only at this
    subst this
    rfl
  obtain ⟨t, h1, h2⟩ := w.t
  have hu : useB d = frames R ++ t := by
    show ((seenB d).drop (halfAt (seenB d))).take (szB d) = _
    rw [hs, h1]
  obtain ⟨p1, p2⟩ := parse_of R t h2
  exact ⟨hs, by show halfAt (seenB d) = _; rw [hs], by rw [hu]; exact p1, by show parseE (useB d) = _; rw [hu]; exact p2⟩
theorem weak_wr {d : Dsk} {R : List (List UInt8)} (w : Weak d R) (hR : R ≠ []) : wrB d = true := by
  rw [wrB_eq, (weak_use w).2.2.1]
  cases R with
  | nil => exact absurd rfl hR
  | cons x R => simp
theorem weak_read {d : Dsk} {x : List UInt8} {R : List (List UInt8)} (w : Weak d (x :: R)) : readV d = .tup [.sl false (bs x), .sl false (bss R), er 0] := by
  unfold readV
  rw [w.i, weak_wr w (by simp), (weak_use w).2.2.1]
  rfl
/-- What a crash leaves, with one write more that lies elsewhere. -/
theorem rest_crash {d : Dsk} {R l : List (List UInt8)} (r : Rest d R l) (far : Nat → Nat) : ∃ m, m ≤ l.length ∧ (puts d.bytes d.queue far).length = d.bytes.length ∧ halfAt (puts d.bytes d.queue far) = halfAt d.bytes ∧ ∃ t, ((puts d.bytes d.queue far).drop (halfAt d.bytes)).take (szB d) = frames (R ++ l.take m) ++ t ∧ scan1 t = none := by
  obtain ⟨b1, b2, b3, b4, b5, b6⟩ := half_bounds r.i
  have hfit := r.fit
  rw [frames_append, List.length_append] at hfit
  rw [r.q]
  obtain ⟨h1, h2, h3⟩ := puts_apps l (halfAt d.bytes + (frames R).length) d.bytes far (by omega)
  obtain ⟨m, t, k1, k2, k3⟩ := crash_apps l (halfAt d.bytes + (frames R).length) (szB d - (frames R).length) d.bytes far (by omega) (by omega) (rest_zero r)
  generalize puts d.bytes (apps (halfAt d.bytes + (frames R).length) l) far = B at *
  refine ⟨m, k1, h1, half_same h1 ?_, t, ?_, k3⟩
  · have := congrArg (List.take 1) h2
    rw [List.take_take, List.take_take, Nat.min_eq_left (by omega)] at this
    exact this
  · have h5 := congrArg (List.drop (halfAt d.bytes)) h2
    rw [List.drop_take, List.drop_take, Nat.add_sub_cancel_left] at h5
    have h6 : (d.bytes.drop (halfAt d.bytes)).take (frames R).length = frames R := by
      have := congrArg (List.take (frames R).length) r.u
      rw [List.take_take, Nat.min_eq_left (by omega), List.take_left] at this
      exact this
    rw [take_join (k := (frames R).length) (by omega) (h5.trans h6) k2, frames_append, List.append_assoc]
end Go.Proofs.Try

namespace Go.Proofs.Try
set_option linter.unusedSimpArgs false
set_option linter.unusedVariables false
open Go.PM

theorem fits_wr {n : Nat} {a : Int} {x : List UInt8} (h : 0 < x.length) (h0 : 0 ≤ a) (hl : a + x.length ≤ n) : fitsB (wr a x) n = true := by
  have h1 : (wr a x).flush = false := rfl
  unfold fitsB
  rw [h1]
  simp only [Bool.false_eq_true, if_false, Bool.and_eq_true, decide_eq_true_eq]
  show ((0 < x.length ∧ a ≥ 0) ∧ a ≤ n) ∧ (x.length : Int) ≤ n - a
  omega
theorem szB_nil {d : Dsk} {b : List UInt8} (hb : b.length = d.bytes.length) : szB ⟨b, []⟩ = szB d := by unfold szB; rw [hb]
/-- Bytes that are as those of a disk, but elsewhere, are those of a weak disk. -/
theorem weak_mk {d : Dsk} (hi : isDiskB d = true) (hn : d.bytes.length ≤ 4097) {b : List UInt8} (hb : b.length = d.bytes.length) {h : Nat} (hh : halfAt b = h) {R : List (List UInt8)} {t : List UInt8} (hu : (b.drop h).take (szB d) = frames R ++ t) (ht : scan1 t = none) : Weak ⟨b, []⟩ R :=
  ⟨isDisk_nil hi hb, rfl, ⟨t, by rw [szB_nil hb]; show (b.drop (halfAt b)).take (szB d) = _; rw [hh]; exact hu, ht⟩, by show b.length ≤ 4097; omega⟩
theorem rest_mk {d : Dsk} (hi : isDiskB d = true) (hn : d.bytes.length ≤ 4097) {b : List UInt8} (hb : b.length = d.bytes.length) {h : Nat} (hh : halfAt b = h) {R : List (List UInt8)} (hu : (b.drop h).take (szB d) = frames R ++ zs (szB d - (frames R).length)) (hf : (frames R).length ≤ szB d) : Rest ⟨b, []⟩ R [] :=
  ⟨isDisk_nil hi hb, rfl, by rw [szB_nil hb]; show (b.drop (halfAt b)).take (szB d) = _; rw [hh]; exact hu, by rw [szB_nil hb, List.append_nil]; exact hf, by show b.length ≤ 4097; omega⟩
theorem rest_weak {d : Dsk} {R : List (List UInt8)} (r : Rest d R []) : Weak d R := ⟨r.i, r.q, ⟨_, r.u, scan_zs _⟩, r.n⟩
/-- A crash. -/
theorem crash_weak {d : Dsk} {R l : List (List UInt8)} (r : Rest d R l) (cuts : List Int) : ∃ m, m ≤ l.length ∧ crashV d cuts = .tup [dkv ⟨crashB d cuts, []⟩, er 0] ∧ Weak ⟨crashB d cuts, []⟩ (R ++ l.take m) := by
  obtain ⟨m, h1, h2, h3, t, h4, h5⟩ := rest_crash r (farC cuts d)
  refine ⟨m, h1, by unfold crashV; rw [r.i]; rfl, ?_⟩
  rw [crash_puts]
  exact weak_mk r.i r.n h2 h3 h4 h5
/-- A flush. -/
theorem flush_rest {d : Dsk} {R l : List (List UInt8)} (r : Rest d R l) : doV d [fl] = .tup [dkv ⟨seenB d, []⟩, er 0] ∧ Rest ⟨seenB d, []⟩ (R ++ l) [] := by
  obtain ⟨h1, h2, h3⟩ := rest_seen r
  have hb : badArg d [fl] = false := by simp [badArg, fitsB, fl]
  refine ⟨by unfold doV; rw [r.i, hb]; rfl, rest_mk r.i r.n h1 h2 h3 r.fit⟩
/-- A record is appended. -/
theorem append_rest {d : Dsk} {R l : List (List UInt8)} (hR : R ≠ []) (r : Rest d R l) (x : List UInt8) :
    appendV d x = .tup [.sl false [], er 2] ∨ ∃ ops d', appendV d x = .tup [.sl false (opvs ops), er 0] ∧ ops.length = 1 ∧ doV d ops = .tup [dkv d', er 0] ∧ Rest d' R (l ++ [x]) := by
  obtain ⟨h1, h2, h3, h4⟩ := rest_use r
  obtain ⟨b1, b2, b3, b4, b5, b6⟩ := half_bounds r.i
  have hfit := r.fit
  cases hc : decide (((frame x).length : Int) > (szB d : Nat) - (endB d : Nat))
  case true =>
    left
    unfold appendV
    rw [r.i, rest_wr r hR, rest_cl r, hc]
    rfl
  case false =>
    right
    have hfx : (frames (R ++ l)).length + (frame x).length ≤ szB d := by
      have := of_decide_eq_false hc
      rw [h4] at this
      omega
    refine ⟨[wr ((halfB d : Nat) + (endB d : Nat)) (frame x)], ⟨d.bytes, d.queue ++ [wr ((halfB d : Nat) + (endB d : Nat)) (frame x)]⟩, ?_, rfl, ?_, ?_⟩
    · unfold appendV
      rw [r.i, rest_wr r hR, rest_cl r, hc]
      rfl
    · have hb : badArg d [wr ((halfB d : Nat) + (endB d : Nat)) (frame x)] = false := by
        have := frame_len x
        rw [h1, h4]
        simp [badArg, fitsB, wr]
        omega
      unfold doV
      rw [r.i, hb]
      rfl
    · have hi : isDiskB ⟨d.bytes, d.queue ++ [wr ((halfB d : Nat) + (endB d : Nat)) (frame x)]⟩ = true := by
        have := (doStep_disk r.i (o := wr ((halfB d : Nat) + (endB d : Nat)) (frame x)) (by
          have hl := frame_len x
          exact fits_wr (by omega) (by omega) (by omega))).1
        exact this
      refine ⟨hi, ?_, r.u, ?_, r.n⟩
      · show d.queue ++ _ = _
        rw [r.q, apps_append, h1, h4, frames_append, List.length_append]
        have e : ((halfAt d.bytes : Nat) : Int) + (((frames R).length + (frames l).length : Nat) : Int) = ((halfAt d.bytes + (frames R).length + (frames l).length : Nat) : Int) := by omega
        rw [e]
        rfl
      · rw [← List.append_assoc, frames_append, List.length_append]
        show _ ≤ szB d
        have : (frames [x]).length = (frame x).length := by simp [frames]
        omega
/-- A weak disk is opened. -/
theorem open_rest {d : Dsk} {R : List (List UInt8)} (hR : R ≠ []) (w : Weak d R) : ∃ ops b, openV d = .tup [.sl false (opvs ops), er 0] ∧ doV d ops = .tup [dkv ⟨b, []⟩, er 0] ∧ ops.length ≤ 3 ∧ Rest ⟨b, []⟩ R [] := by
  obtain ⟨ops, b, h1, h2, h3, s⟩ := open_settles w.i (weak_wr w hR)
  obtain ⟨k1, k2, k3, k4⟩ := weak_use w
  refine ⟨ops, b, h1, h2, h3, rest_mk w.i w.n s.l s.h ?_ ?_⟩
  · rw [s.u, show (useB d).take (endB d) = frames (parseR (useB d)) from (parse_frames _).symm, k3, k4]
  · have := (disk_facts w.i).2.2.2.2.1
    rw [k4] at this
    exact this
theorem farC_none (d : Dsk) (cuts : List Int) (hq : d.queue = []) : crashB d cuts = d.bytes := by
  rw [crash_puts, hq]; rfl
/-- A weak disk that crashes while it is opened. -/
theorem open_cut {d : Dsk} {R : List (List UInt8)} (hR : R ≠ []) (w : Weak d R) (cuts : List Int) (ops : List DOp) (ho : openV d = .tup [.sl false (opvs ops), er 0]) (m : Nat) (hm : m < ops.length) :
    ∃ d1 d2, doV d (ops.take m) = .tup [dkv d1, er 0] ∧ d1.queue.length ≤ 1 ∧ d1.bytes.length = d.bytes.length ∧ crashV d1 cuts = .tup [dkv d2, er 0] ∧ Weak d2 R := by
  obtain ⟨k1, k2, k3, k4⟩ := weak_use w
  obtain ⟨b1, b2, b3, b4, b5, b6⟩ := half_bounds w.i
  obtain ⟨f1, f2, f3, f4, f5, f6⟩ := disk_facts w.i
  obtain ⟨t, u1, u2⟩ := w.t
  have hd : (⟨d.bytes, []⟩ : Dsk) = d := by
    have := w.q
    obtain ⟨b, q⟩ := d
    simp only at this
    subst this
    rfl
  have base : ∃ d1 d2, doV d [] = .tup [dkv d1, er 0] ∧ d1.queue.length ≤ 1 ∧ d1.bytes.length = d.bytes.length ∧ crashV d1 cuts = .tup [dkv d2, er 0] ∧ Weak d2 R := by
    refine ⟨d, ⟨crashB d cuts, []⟩, by unfold doV; rw [w.i]; rfl, by rw [w.q]; simp, rfl, by unfold crashV; rw [w.i]; rfl, ?_⟩
    rw [farC_none d cuts w.q, hd]
    exact w
  have inj : ∀ l l' : List DOp, AV.tup [.sl false (opvs l), er 0] = .tup [.sl false (opvs l'), er 0] → l = l' := by
    intro l l' h
    have h1 : opvs l = opvs l' := by
      injection h with h; injection h with h; injection h
    have hinj : ∀ x y : DOp, opv x = opv y → x = y := by
      intro x y hxy
      obtain ⟨a, b, c⟩ := x
      obtain ⟨a', b', c'⟩ := y
      unfold opv at hxy
      injection hxy with hxy
      injection hxy with e1 hxy
      injection hxy with e2 hxy
      injection hxy with e3 hxy
      injection e1 with e1; injection e1 with e1
      injection e2 with e2; injection e2 with e2' e2
      injection e3 with e3' e3
      have : c = c' := by
        have := congrArg strOf e3
        rw [strOf_bs, strOf_bs] at this
        have h2 := strB_beq c c'
        rw [this, strB_beq c' c'] at h2
        simpa using h2.symm
      simp only at e1 e2
      rw [e1, e2, this]
    exact (List.map_inj_right (fun x y => hinj x y)).1 h1
  have h0 := ho
  unfold openV at h0
  rw [w.i, weak_wr w hR] at h0
  simp only [Bool.not_true, Bool.false_eq_true, ↓reduceIte] at h0
  cases hz : zerosB ((useB d).drop (endB d))
  case false =>
    rw [hz] at h0
    simp only [Bool.not_false, ↓reduceIte] at h0
    have := inj _ _ h0
    subst this
    match m, hm with
    | 0, _ => exact base
    | 1, _ =>
      have hb : badArg d [fl] = false := by simp [badArg, fitsB, fl]
      refine ⟨⟨seenB d, []⟩, ⟨crashB d cuts, []⟩, by show doV d [fl] = _; unfold doV; rw [w.i, hb]; rfl, by simp, by rw [k1], ?_, ?_⟩
      · rw [k1, hd]; unfold crashV; rw [w.i]; rfl
      · rw [farC_none d cuts w.q, hd]; exact w
    | 2, _ =>
      have he : endB d + (szB d - endB d) = szB d := by omega
      have hlz : (zs (szB d - endB d)).length = szB d - endB d := zs_length _
      have hpos : 0 < szB d - endB d := by
        rcases Nat.eq_zero_or_pos (szB d - endB d) with h | h
        · rw [List.drop_of_length_le (by omega)] at hz; cases hz
        · exact h
      have hb : badArg d [fl, wr ((halfB d : Nat) + (endB d : Nat)) (zs (szB d - endB d))] = false := by
        simp [badArg, fitsB, fl, wr, zs_length]
        omega
      have hid : isDiskB ⟨d.bytes, [wr ((halfB d : Nat) + (endB d : Nat)) (zs (szB d - endB d))]⟩ = true := by
        have := (doStep_disk (d := ⟨d.bytes, []⟩) (by rw [hd]; exact w.i) (o := wr ((halfB d : Nat) + (endB d : Nat)) (zs (szB d - endB d))) (fits_wr (by omega) (by omega) (by show _ ≤ ((d.bytes.length : Nat) : Int); omega))).1
        exact this
      refine ⟨⟨d.bytes, [wr ((halfB d : Nat) + (endB d : Nat)) (zs (szB d - endB d))]⟩, ⟨crashB ⟨d.bytes, [wr ((halfB d : Nat) + (endB d : Nat)) (zs (szB d - endB d))]⟩ cuts, []⟩, ?_, by simp, rfl, by unfold crashV; rw [hid]; rfl, ?_⟩
      · show doV d [fl, wr ((halfB d : Nat) + (endB d : Nat)) (zs (szB d - endB d))] = _
        unfold doV
        rw [w.i, hb]
        show AV.tup [dkv ⟨seenB d, [] ++ [_]⟩, er 0] = _
        rw [k1]
        rfl
      · rw [crash_puts]
        show Weak ⟨putB d.bytes ((halfB d : Nat) + (endB d : Nat) : Int).toNat ((zs (szB d - endB d)).take (farC cuts _ 0)), []⟩ R
        generalize farC cuts _ 0 = f
        rw [show ((halfB d : Nat) + (endB d : Nat) : Int).toNat = halfB d + endB d by omega, k2]
        have hx : ((zs (szB d - endB d)).take f) = zs (min f (szB d - endB d)) := by unfold zs; rw [List.take_replicate]
        rw [hx]
        have hlx : (zs (min f (szB d - endB d))).length = min f (szB d - endB d) := zs_length _
        have hlen : (putB d.bytes (halfAt d.bytes + endB d) (zs (min f (szB d - endB d)))).length = d.bytes.length := putB_length (by rw [hlx]; omega)
        have hdrop : ((putB d.bytes (halfAt d.bytes + endB d) (zs (min f (szB d - endB d)))).drop (halfAt d.bytes)).take (szB d) = frames R ++ (zs (min f (szB d - endB d)) ++ t.drop (min f (szB d - endB d))) := by
          have e1 : (putB d.bytes (halfAt d.bytes + endB d) (zs (min f (szB d - endB d)))).drop (halfAt d.bytes) = (d.bytes.drop (halfAt d.bytes)).take (endB d) ++ (zs (min f (szB d - endB d)) ++ d.bytes.drop (halfAt d.bytes + endB d + min f (szB d - endB d))) := by
            unfold putB
            rw [List.append_assoc, List.drop_append_of_le_length (by rw [List.length_take]; omega), List.drop_take, Nat.add_sub_cancel_left, hlx]
          have e2 : (d.bytes.drop (halfAt d.bytes)).take (endB d) = frames R := by
            have := congrArg (List.take (endB d)) u1
            rw [List.take_take, Nat.min_eq_left (by omega), k4, List.take_left] at this
            rw [k4]; exact this
          have e3 : (d.bytes.drop (halfAt d.bytes + endB d)).take (szB d - endB d) = t := drop_take_at u1 k4.symm
          have e4 : (d.bytes.drop (halfAt d.bytes + endB d + min f (szB d - endB d))).take (szB d - endB d - min f (szB d - endB d)) = t.drop (min f (szB d - endB d)) := by
            rw [← e3, List.drop_take, List.drop_drop]
          rw [e1, e2, List.take_append, List.take_of_length_le (by rw [← k4]; omega), ← k4, List.take_append, List.take_of_length_le (by rw [hlx]; omega), hlx, e4]
        refine weak_mk w.i w.n hlen (half_same hlen (putB_take (by omega) (by omega))) hdrop ?_
        rcases Nat.eq_zero_or_pos (min f (szB d - endB d)) with h | h
        · rw [h]; exact u2
        · exact scan_zs' _ _ h
    | m + 3, hm => exact absurd (show m + 3 < 3 from hm) (by omega)
  case true =>
    rw [hz, w.q] at h0
    simp only [Bool.not_true, Bool.false_eq_true, ↓reduceIte, List.length_nil] at h0
    rw [if_neg (by simp)] at h0
    have := inj [] ops h0
    subst this
    simp at hm
end Go.Proofs.Try

namespace Go.Proofs.Try
set_option linter.unusedSimpArgs false
set_option linter.unusedVariables false
open Go.PM

/-- What is written into the other half changes nothing of this one. -/
theorem put_other' {b y : List UInt8} {sz h : Nat} (hl : b.length = 2 * sz + 1) (hh : h = 1 ∨ h = 1 + sz) (hy : y.length ≤ sz) :
    (putB b (2 + sz - h) y).length = b.length ∧ halfAt (putB b (2 + sz - h) y) = halfAt b ∧ ((putB b (2 + sz - h) y).drop h).take sz = (b.drop h).take sz := by
  have hlen : (putB b (2 + sz - h) y).length = b.length := putB_length (by omega)
  refine ⟨hlen, half_same hlen (putB_take (by omega) (by omega)), ?_⟩
  rcases hh with rfl | rfl
  · have := putB_take (b := b) (x := y) (a := 2 + sz - 1) (n := 1 + sz) (by omega) (by omega)
    have := congrArg (List.drop 1) this
    rw [List.drop_take, List.drop_take, Nat.add_sub_cancel_left] at this
    exact this
  · rw [putB_drop (by omega) (by omega)]
/-- The operations of a check-in. -/
def ciOps (d : Dsk) (x : List UInt8) : List DOp := [wr (otherB d) (zs (szB d)), fl, wr (otherB d) (frame x), fl, wr 0 [turnB d], fl]
theorem doV_ok {d : Dsk} {ops : List DOp} (hi : isDiskB d = true) (hb : ∀ o ∈ ops, fitsB o d.bytes.length = true) : doV d ops = .tup [dkv (doB d ops), er 0] := by
  have : badArg d ops = false := by
    unfold badArg
    rw [List.any_eq_false]
    intro o ho
    rw [hb o ho]
    simp
  unfold doV
  rw [hi, this]
  rfl
/-- What a check-in leads to, done as far as is told, and a crash behind that. -/
theorem checkin_rest {d : Dsk} {R l : List (List UInt8)} (hR : R ≠ []) (r : Rest d R l) (x : List UInt8) :
    checkinV d x = .tup [.sl false [], er 2] ∨ (checkinV d x = .tup [.sl false (opvs (ciOps d x)), er 0] ∧
      (∃ d', doV d (ciOps d x) = .tup [dkv d', er 0] ∧ Rest d' [x] []) ∧
      ∀ k, k < 6 → ∀ cuts, ∃ d1 d2, doV d ((ciOps d x).take k) = .tup [dkv d1, er 0] ∧ d1.bytes.length ≤ 4097 ∧ d1.queue.length ≤ l.length + 1 ∧ crashV d1 cuts = .tup [dkv d2, er 0] ∧
        ((∃ m, m ≤ l.length ∧ (2 ≤ k → m = l.length) ∧ Weak d2 (R ++ l.take m)) ∨ (k = 5 ∧ Weak d2 [x]))) := by
  obtain ⟨h1, h2, h3, h4⟩ := rest_use r
  obtain ⟨b1, b2, b3, b4, b5, b6⟩ := half_bounds r.i
  have hfit := r.fit
  have hn := r.n
  cases hc : decide (((frame x).length : Int) > (szB d : Nat))
  case true =>
    left
    unfold checkinV
    rw [r.i, rest_wr r hR, hc]
    rfl
  case false =>
    right
    have hfx : (frame x).length ≤ szB d := by have := of_decide_eq_false hc; omega
    have hfl := frame_len x
    refine ⟨by unfold checkinV; rw [r.i, rest_wr r hR, hc]; rfl, ?_⟩
    have hq : d.queue.length = l.length := by rw [r.q, apps_len]
    -- the addresses
    generalize hh : halfAt d.bytes = h at *
    generalize hS : szB d = sz at *
    have ho : otherB d = ((2 + sz - h : Nat) : Int) := by unfold otherB; rw [hS, h1]; omega
    have hon : (otherB d).toNat = 2 + sz - h := by omega
    have hz : (zs sz).length = sz := zs_length _
    have f0 : fitsB (wr (otherB d) (zs sz)) d.bytes.length = true := fits_wr (by omega) (by omega) (by rw [ho, hz]; omega)
    have f1 : fitsB fl d.bytes.length = true := by simp [fitsB, fl]
    have f2 : fitsB (wr (otherB d) (frame x)) d.bytes.length = true := fits_wr (by omega) (by omega) (by rw [ho]; omega)
    have f4 : fitsB (wr 0 [turnB d]) d.bytes.length = true := fits_wr (by simp) (by omega) (by simp; omega)
    have hops : ciOps d x = [wr (otherB d) (zs sz), fl, wr (otherB d) (frame x), fl, wr 0 [turnB d], fl] := by unfold ciOps; rw [hS]
    have fits : ∀ o ∈ ciOps d x, fitsB o d.bytes.length = true := by
      rw [hops]
      intro o ho'
      simp only [List.mem_cons, List.not_mem_nil, or_false] at ho'
      rcases ho' with rfl | rfl | rfl | rfl | rfl | rfl <;> assumption
    have fitsK : ∀ k, ∀ o ∈ (ciOps d x).take k, fitsB o d.bytes.length = true := fun k o ho' => fits o (List.mem_of_mem_take ho')
    -- the seen bytes
    obtain ⟨s1, s2, s3⟩ := rest_seen r
    rw [hh] at s2 s3
    rw [hS] at s3
    -- behind the first write
    let d1 : Dsk := ⟨d.bytes, d.queue ++ [wr (otherB d) (zs sz)]⟩
    have i1 : isDiskB d1 = true := (doStep_disk r.i f0).1
    have e1 : ∀ far, puts d1.bytes d1.queue far = putB (puts d.bytes d.queue far) (2 + sz - h) ((zs sz).take (far l.length)) := by
      intro far
      show puts d.bytes (d.queue ++ [_]) far = _
      rw [puts_append]
      show putB _ (otherB d).toNat ((zs sz).take (far (d.queue.length + 0))) = _
      rw [hon, Nat.add_zero, hq]
    have s1' : seenB d1 = putB (seenB d) (2 + sz - h) (zs sz) := by
      rw [seen_puts, e1, seen_puts]
      have hlast : (zs sz).take ((d1.queue.getD l.length op0).bytes.length) = zs sz := by
        have : d1.queue.getD l.length op0 = wr (otherB d) (zs sz) := by
          show (d.queue ++ [_]).getD l.length op0 = _
          rw [List.getD_eq_getElem?_getD, List.getElem?_append_right (by omega), hq]
          simp
        rw [this]
        exact List.take_of_length_le (Nat.le_refl _)
      rw [hlast]
      congr 1
      rw [← doneTo_puts, ← doneTo_puts]
      -- the same lengths at each write
      have : ∀ n, n ≤ d.queue.length → doneTo d.bytes d.queue (fun i => (d1.queue.getD i op0).bytes.length) n = doneTo d.bytes d.queue (fun i => (d.queue.getD i op0).bytes.length) n := by
        intro n
        induction n with
        | zero => intro _; rfl
        | succ n ih =>
          intro hn'
          rw [doneTo_succ, doneTo_succ, ih (by omega)]
          have : d1.queue.getD n op0 = d.queue.getD n op0 := by
            show (d.queue ++ [_]).getD n op0 = _
            rw [List.getD_eq_getElem?_getD, List.getElem?_append_left (by omega), ← List.getD_eq_getElem?_getD]
          rw [this]
      exact this _ (Nat.le_refl _)
    -- behind the first flush
    generalize hS2 : putB (seenB d) (2 + sz - h) (zs sz) = S2 at *
    have p2 : S2.length = d.bytes.length ∧ halfAt S2 = h ∧ (S2.drop h).take sz = frames (R ++ l) ++ zs (sz - (frames (R ++ l)).length) ∧ (S2.drop (2 + sz - h)).take sz = zs sz := by
      obtain ⟨q1, q2, q3⟩ := put_other' (b := seenB d) (y := zs sz) (sz := sz) (h := h) (by omega) b6 (by omega)
      rw [hS2] at q1 q2 q3
      refine ⟨q1.trans s1, q2.trans s2, q3.trans s3, ?_⟩
      have := drop_put (b := seenB d) (x := zs sz) (h := 2 + sz - h) (e := 0) (by omega)
      rw [Nat.add_zero, Nat.zero_add, hz, hS2] at this
      simpa using this
    obtain ⟨p2a, p2b, p2c, p2d⟩ := p2
    have r2 : Rest ⟨S2, []⟩ (R ++ l) [] := rest_mk r.i r.n p2a p2b (by rw [hS]; exact p2c) (by rw [hS]; exact hfit)
    -- behind the second write, the second flush
    let d3 : Dsk := ⟨S2, [wr (otherB d) (frame x)]⟩
    have i3 : isDiskB d3 = true := (doStep_disk r2.i (o := wr (otherB d) (frame x)) (by rw [show (⟨S2, []⟩ : Dsk).bytes.length = d.bytes.length from p2a]; exact f2)).1
    have e3 : ∀ far, puts d3.bytes d3.queue far = putB S2 (2 + sz - h) ((frame x).take (far 0)) := by
      intro far
      show putB S2 (otherB d).toNat ((frame x).take (far 0)) = _
      rw [hon]
    have s3' : seenB d3 = putB S2 (2 + sz - h) (frame x) := by
      rw [seen_puts, e3]
      show putB _ _ ((frame x).take (frame x).length) = _
      rw [List.take_length]
    generalize hS4 : putB S2 (2 + sz - h) (frame x) = S4 at *
    have p4 : S4.length = d.bytes.length ∧ halfAt S4 = h ∧ (S4.drop h).take sz = frames (R ++ l) ++ zs (sz - (frames (R ++ l)).length) ∧ (S4.drop (2 + sz - h)).take sz = frame x ++ zs (sz - (frame x).length) := by
      obtain ⟨q1, q2, q3⟩ := put_other' (b := S2) (y := frame x) (sz := sz) (h := h) (by omega) b6 hfx
      rw [hS4] at q1 q2 q3
      refine ⟨q1.trans p2a, q2.trans p2b, q3.trans p2c, ?_⟩
      have k1 := drop_put (b := S2) (x := frame x) (h := 2 + sz - h) (e := 0) (by omega)
      rw [Nat.add_zero, Nat.zero_add, hS4] at k1
      have k2 : (S4.drop (2 + sz - h + (frame x).length)).take (sz - (frame x).length) = zs (sz - (frame x).length) := by
        rw [← hS4, putB_drop (Nat.le_refl _) (by omega)]
        have := congrArg (List.drop (frame x).length) p2d
        rw [List.drop_take, List.drop_drop] at this
        rw [this]
        simp [zs]
      exact take_join hfx (by simpa using k1) k2
    obtain ⟨p4a, p4b, p4c, p4d⟩ := p4
    have r4 : Rest ⟨S4, []⟩ (R ++ l) [] := rest_mk r.i r.n p4a p4b (by rw [hS]; exact p4c) (by rw [hS]; exact hfit)
    -- behind the turn
    let d5 : Dsk := ⟨S4, [wr 0 [turnB d]]⟩
    have i5 : isDiskB d5 = true := (doStep_disk r4.i (o := wr 0 [turnB d]) (by rw [show (⟨S4, []⟩ : Dsk).bytes.length = d.bytes.length from p4a]; exact f4)).1
    have hturn : (turnB d = 1 ∧ h = 1) ∨ (turnB d = 0 ∧ h = 1 + sz) := by
      unfold turnB
      rw [h1]
      rcases b6 with hb | hb
      · left; rw [hb]; simp
      · right; rw [hb]; refine ⟨?_, rfl⟩; rw [if_neg]; simp; omega
    have p6 : (putB S4 0 [turnB d]).length = d.bytes.length ∧ halfAt (putB S4 0 [turnB d]) = 2 + sz - h ∧ ((putB S4 0 [turnB d]).drop (2 + sz - h)).take sz = frames [x] ++ zs (sz - (frames [x]).length) := by
      have hlen : (putB S4 0 [turnB d]).length = S4.length := putB_length (by simp; omega)
      refine ⟨hlen.trans p4a, ?_, ?_⟩
      · have h0 : (putB S4 0 [turnB d]).getD 0 0 = turnB d := by simp [putB]
        unfold halfAt
        rw [h0, hlen, p4a, b1]
        rcases hturn with ⟨t1, t2⟩ | ⟨t1, t2⟩
        · rw [t1, t2, if_neg (by decide)]; omega
        · rw [t1, t2, if_pos rfl]; omega
      · rw [putB_drop (by simp; omega) (by omega), p4d]
        simp [frames]
    obtain ⟨p6a, p6b, p6c⟩ := p6
    have hf1 : (frames [x]).length = (frame x).length := by simp [frames]
    have r6 : Rest ⟨putB S4 0 [turnB d], []⟩ [x] [] := rest_mk r.i r.n p6a p6b (by rw [hS]; exact p6c) (by rw [hS, hf1]; exact hfx)
    have s5 : seenB d5 = putB S4 0 [turnB d] := by
      rw [seen_puts]
      rfl
    refine ⟨⟨⟨putB S4 0 [turnB d], []⟩, ?_, r6⟩, ?_⟩
    · rw [doV_ok r.i fits, hops]
      show AV.tup [dkv ⟨seenB ⟨seenB ⟨seenB d1, [wr (otherB d) (frame x)]⟩, [wr 0 [turnB d]]⟩, []⟩, er 0] = _
      rw [s1', show seenB ⟨S2, [wr (otherB d) (frame x)]⟩ = S4 from s3', show seenB ⟨S4, [wr 0 [turnB d]]⟩ = putB S4 0 [turnB d] from s5]
    · intro k hk cuts
      have crashI : ∀ e : Dsk, isDiskB e = true → crashV e cuts = .tup [dkv ⟨puts e.bytes e.queue (farC cuts e), []⟩, er 0] := by
        intro e he
        unfold crashV
        rw [he, crash_puts]
        rfl
      have hdo := doV_ok r.i (fitsK k)
      rw [hops] at hdo
      match k, hk with
      | 0, _ =>
        obtain ⟨m, m1, m2, m3⟩ := crash_weak r cuts
        exact ⟨d, _, by rw [hops]; exact hdo, hn, by omega, m2, .inl ⟨m, m1, fun h => by omega, m3⟩⟩
      | 1, _ =>
        obtain ⟨m, m1, m2, m3, t, m4, m5⟩ := rest_crash r (farC cuts d1)
        rw [hh] at m3 m4
        rw [hS] at m4
        obtain ⟨q1, q2, q3⟩ := put_other' (b := puts d.bytes d.queue (farC cuts d1)) (y := (zs sz).take (farC cuts d1 l.length)) (sz := sz) (h := h) (by omega) b6 (by rw [List.length_take]; omega)
        refine ⟨d1, _, by rw [hops]; exact hdo, hn, by show (d.queue ++ [_]).length ≤ _; rw [List.length_append, hq]; simp, crashI d1 i1, .inl ⟨m, m1, fun h => by omega, ?_⟩⟩
        rw [e1]
        exact weak_mk r.i r.n (q1.trans m2) (q2.trans m3) (by rw [hS]; exact q3.trans m4) m5
      | 2, _ =>
        obtain ⟨m, m1, m2, m3⟩ := crash_weak r2 cuts
        refine ⟨⟨S2, []⟩, _, by rw [hops]; refine hdo.trans ?_; show AV.tup [dkv ⟨seenB d1, []⟩, er 0] = _; rw [s1'], by show S2.length ≤ _; omega, by simp, m2, .inl ⟨l.length, Nat.le_refl _, fun _ => rfl, ?_⟩⟩
        rw [List.take_length]
        simpa using m3
      | 3, _ =>
        obtain ⟨q1, q2, q3⟩ := put_other' (b := S2) (y := (frame x).take (farC cuts d3 0)) (sz := sz) (h := h) (by omega) b6 (by rw [List.length_take]; omega)
        refine ⟨d3, _, by rw [hops]; refine hdo.trans ?_; show AV.tup [dkv ⟨seenB d1, [] ++ [_]⟩, er 0] = _; rw [s1']; rfl, by show S2.length ≤ _; omega, by show 1 ≤ _; omega, crashI d3 i3, .inl ⟨l.length, Nat.le_refl _, fun _ => rfl, ?_⟩⟩
        rw [List.take_length, e3]
        exact weak_mk r.i r.n (q1.trans p2a) (q2.trans p2b) (by rw [hS]; exact q3.trans p2c) (scan_zs _)
      | 4, _ =>
        obtain ⟨m, m1, m2, m3⟩ := crash_weak r4 cuts
        refine ⟨⟨S4, []⟩, _, by rw [hops]; refine hdo.trans ?_; show AV.tup [dkv ⟨seenB ⟨seenB d1, [wr (otherB d) (frame x)]⟩, []⟩, er 0] = _; rw [s1', show seenB ⟨S2, [wr (otherB d) (frame x)]⟩ = S4 from s3'], by show S4.length ≤ _; omega, by simp, m2, .inl ⟨l.length, Nat.le_refl _, fun _ => rfl, ?_⟩⟩
        rw [List.take_length]
        simpa using m3
      | 5, _ =>
        refine ⟨d5, _, by rw [hops]; refine hdo.trans ?_; show AV.tup [dkv ⟨seenB ⟨seenB d1, [wr (otherB d) (frame x)]⟩, [wr 0 [turnB d]]⟩, er 0] = _; rw [s1', show seenB ⟨S2, [wr (otherB d) (frame x)]⟩ = S4 from s3'], by show S4.length ≤ _; omega, by show 1 ≤ _; omega, crashI d5 i5, ?_⟩
        have hp : puts d5.bytes d5.queue (farC cuts d5) = putB S4 0 ([turnB d].take (farC cuts d5 0)) := rfl
        rw [hp]
        rcases Nat.eq_zero_or_pos (farC cuts d5 0) with h0 | h0
        · left
          refine ⟨l.length, Nat.le_refl _, fun _ => rfl, ?_⟩
          rw [List.take_length, h0]
          show Weak ⟨putB S4 0 [], []⟩ _
          rw [show putB S4 0 [] = S4 by simp [putB]]
          exact rest_weak r4
        · right
          refine ⟨rfl, ?_⟩
          rw [List.take_of_length_le (by simp; omega)]
          exact rest_weak r6
end Go.Proofs.Try

namespace Go.Proofs.Try
set_option linter.unusedSimpArgs false
set_option linter.unusedVariables false
open Go.PM
set_option maxHeartbeats 4000000
set_option maxRecDepth 100000

/-- What the story tells is so, and survives. -/
def Inv (s : Sto) : Prop := ∃ f : Nat, f ≤ s.recs.length ∧ s.fl = (f : Int) ∧ s.doubt = false ∧ Rest s.d (s.base :: s.recs.take f) (s.recs.drop f)
def WInv (s : Sto) : Prop := s.fl = (s.recs.length : Int) ∧ s.doubt = false ∧ Weak s.d (s.base :: s.recs)
theorem rest_small {d : Dsk} {R l : List (List UInt8)} (r : Rest d R l) : Few d ∧ d.queue.length = l.length ∧ R.length + l.length ≤ 2048 := by
  have h1 := r.n
  have h2 := (half_bounds r.i).1
  have h3 := frames_len_ge (R ++ l)
  have h4 := r.fit
  rw [List.length_append] at h3
  have h5 : d.queue.length = l.length := by rw [r.q, apps_len]
  exact ⟨⟨by omega, by omega⟩, h5, by omega⟩
theorem weak_small {d : Dsk} {R : List (List UInt8)} (w : Weak d R) : Few d ∧ d.queue.length = 0 ∧ R.length ≤ 2048 := by
  have h1 := w.n
  obtain ⟨f1, f2, f3, f4, f5, f6⟩ := disk_facts w.i
  have h3 := frames_len_ge R
  have h4 := (weak_use w).2.2.2
  have h5 : d.queue.length = 0 := by rw [w.q]; rfl
  exact ⟨⟨by omega, by omega⟩, h5, by omega⟩
/-- A crash of a disk that has at least what was flushed. -/
theorem crash_story {s : Sto} (hf : Few s.d) (hr : s.recs.length ≤ 2048) {cuts : List Int} (hc : cuts.length ≤ 60) {d2 : Dsk} (e : crashV s.d cuts = .tup [dkv d2, er 0]) {k : Nat} (hk : k ≤ s.recs.length) (hfl : s.fl ≤ (k : Int)) (w : Weak d2 (s.base :: s.recs.take k)) :
    ∃ s2, Leads 71 [.sl false (is64 cuts)] s s2 ∧ WInv s2 := by
  have hl : (s.recs.take k).length = k := by rw [List.length_take]; omega
  refine ⟨_, c71o s cuts d2 s.base (s.recs.take k) hf (weak_small w).1 (by omega) (by omega) (by omega) e (weak_read w) (by simp) ?_ ?_ ?_, rfl, rfl, w⟩
  · rw [hl]; exact decide_eq_true hfl
  · rw [hl]; exact decide_eq_true (by omega)
  · rw [hl]; simp
theorem open_all {s : Sto} (w : WInv s) (m : Int) (x : AV) (hm : ∀ ops : List DOp, openV s.d = .tup [.sl false (opvs ops), er 0] → (decide (m < 0) || decide (m ≥ ops.length)) = true) : ∃ s2, Leads 72 [.val (.int .i64 m), x] s s2 ∧ Inv s2 := by
  obtain ⟨h1, h2, h3⟩ := w
  obtain ⟨hf, hq, hr⟩ := weak_small h3
  obtain ⟨ops, b, e1, e2, l3, r⟩ := open_rest (by simp) h3
  refine ⟨_, c72a s m x ops ⟨b, []⟩ hf (by omega) (by omega) e1 (hm ops e1) e2, s.recs.length, Nat.le_refl _, h1, h2, ?_⟩
  show Rest ⟨b, []⟩ (s.base :: s.recs.take s.recs.length) (s.recs.drop s.recs.length)
  rw [List.take_length, List.drop_length]
  exact r
theorem open_any {s : Sto} (w : WInv s) (m : Int) (cuts : List Int) (hc : cuts.length ≤ 60) : ∃ s2, Leads 72 [.val (.int .i64 m), .sl false (is64 cuts)] s s2 ∧ Inv s2 := by
  obtain ⟨h1, h2, h3⟩ := w
  obtain ⟨hf, hq, hr⟩ := weak_small h3
  obtain ⟨ops, b, e1, e2, l3, r⟩ := open_rest (by simp) h3
  cases h : (decide (m < 0) || decide (m ≥ ops.length))
  case true =>
    refine ⟨_, c72a s m _ ops ⟨b, []⟩ hf (by omega) (by omega) e1 h e2, s.recs.length, Nat.le_refl _, h1, h2, ?_⟩
    show Rest ⟨b, []⟩ (s.base :: s.recs.take s.recs.length) (s.recs.drop s.recs.length)
    rw [List.take_length, List.drop_length]
    exact r
  case false =>
    have h' := h
    simp only [Bool.or_eq_false_iff, decide_eq_false_iff_not] at h'
    obtain ⟨d1, d2, k1, k2, k3, k4, k5⟩ := open_cut (by simp) h3 cuts ops e1 m.toNat (by omega)
    have hn := h3.n
    obtain ⟨s2, q1, q2⟩ := crash_story (s := ⟨d1, s.base, s.recs, s.fl, s.other, s.doubt⟩) ⟨by show d1.bytes.length ≤ _; omega, by show d1.queue.length ≤ _; omega⟩ (by simp only [List.length_cons] at hr; show s.recs.length ≤ _; omega) hc k4 (k := s.recs.length) (Nat.le_refl _) (by show s.fl ≤ _; omega) (by show Weak d2 (s.base :: s.recs.take s.recs.length); rw [List.take_length]; exact k5)
    obtain ⟨s3, q3, q4⟩ := open_all q2 (-1) (.sl true []) (fun _ _ => by simp)
    exact ⟨s3, c72b s s2 s3 m cuts ops d1 hf (by omega) (by omega) e1 h k1 q1 q3, q4⟩
theorem take_add' {α : Type} (l : List α) (a b : Nat) : l.take a ++ (l.drop a).take b = l.take (a + b) := (List.take_add).symm
theorem step (s : Sto) (x : Deed) (hi : Inv s) (hb : x.bytes.length ≤ 300) (hc : x.cuts.length ≤ 60) : ∃ s', Leads 28 [dev x] s s' ∧ Inv s' := by
  obtain ⟨f, f1, f2, f3, r⟩ := hi
  obtain ⟨hf, hq, hr⟩ := rest_small r
  have hdl : (s.recs.drop f).length = s.recs.length - f := List.length_drop
  have htl : (s.base :: s.recs.take f).length = f + 1 := by rw [List.length_cons, List.length_take]; omega
  have y1 : x.bytes.length ≤ 1000000 := by omega
  have y2 : s.recs.length ≤ 4000000 := by omega
  have y3 : s.d.queue.length ≤ 1000000 := by omega
  by_cases h0 : x.what = 0
  · rcases append_rest (by simp) r x.bytes with e | ⟨ops, d', e1, e2, e3, r'⟩
    · exact ⟨s, c28r s x hf (by omega) h0 e, f, f1, f2, f3, r⟩
    · refine ⟨_, c28a s x ops d' hf (by omega) (by omega) (by omega) (by omega) h0 e1 e3, f, ?_, f2, f3, ?_⟩
      · show f ≤ (s.recs ++ [x.bytes]).length
        rw [List.length_append]; omega
      · show Rest d' (s.base :: (s.recs ++ [x.bytes]).take f) ((s.recs ++ [x.bytes]).drop f)
        rw [List.take_append_of_le_length f1, List.drop_append_of_le_length f1]
        exact r'
  by_cases h1 : x.what = 1
  · obtain ⟨e, r'⟩ := flush_rest r
    refine ⟨_, c28f s x _ hf (by omega) h1 e (by omega), s.recs.length, Nat.le_refl _, rfl, f3, ?_⟩
    show Rest ⟨seenB s.d, []⟩ (s.base :: s.recs.take s.recs.length) (s.recs.drop s.recs.length)
    rw [List.take_length, List.drop_length]
    rw [List.cons_append, List.take_append_drop] at r'
    exact r'
  by_cases h2 : x.what = 2
  · rcases checkin_rest (by simp) r x.bytes with e | ⟨e, ⟨d', e2, r'⟩, hk⟩
    · exact ⟨s, c28c s s x h2 (c70n s x hf (by omega) e), f, f1, f2, f3, r⟩
    · have hlen : (ciOps s.d x.bytes).length = 6 := rfl
      cases h : (decide (x.most < 0) || decide (x.most ≥ (ciOps s.d x.bytes).length))
      case true =>
        exact ⟨_, c28c s _ x h2 (c70a s x _ d' hf (by omega) hlen (by omega) e h e2), 0, Nat.zero_le _, rfl, rfl, r'⟩
      case false =>
        have h' := h
        simp only [Bool.or_eq_false_iff, decide_eq_false_iff_not, hlen] at h'
        obtain ⟨d1, d2, k1, k2, k3, k4, k5⟩ := hk x.most.toNat (by omega) x.cuts
        have hmin : min x.most.toNat (ciOps s.d x.bytes).length = x.most.toNat := by rw [hlen]; omega
        have few1 : Few d1 := ⟨by omega, by omega⟩
        generalize ha : decide (((min x.most.toNat (ciOps s.d x.bytes).length : Nat) : Int) ≥ 2) = a
        generalize hcc : decide (((min x.most.toNat (ciOps s.d x.bytes).length : Nat) : Int) ≥ 5) = c
        have key : ∃ s2, Leads 71 [.sl false (is64 x.cuts)] ⟨d1, s.base, s.recs, if a = true then (s.recs.length : Int) else s.fl, if c = true then x.bytes else s.other, if c = true then true else s.doubt⟩ s2 ∧ WInv s2 := by
          rcases k5 with ⟨m, m1, m2, m3⟩ | ⟨m1, m2⟩
          · rw [List.cons_append, take_add'] at m3
            refine crash_story (s := ⟨d1, s.base, s.recs, if a = true then (s.recs.length : Int) else s.fl, if c = true then x.bytes else s.other, if c = true then true else s.doubt⟩) few1 (by show s.recs.length ≤ _; omega) hc k4 (k := f + m) (by show _ ≤ s.recs.length; omega) ?_ m3
            show (if a = true then (s.recs.length : Int) else s.fl) ≤ _
            split
            · rename_i hat
              rw [hat, hmin] at ha
              have := of_decide_eq_true ha
              have := m2 (by omega)
              omega
            · omega
          · have hct : c = true := by rw [← hcc, hmin]; exact decide_eq_true (by omega)
            have hat : a = true := by rw [← ha, hmin]; exact decide_eq_true (by omega)
            subst hct hat
            refine ⟨_, c71f ⟨d1, s.base, s.recs, _, _, _⟩ x.cuts d2 x.bytes [] few1 (weak_small m2).1 (by omega) (by simp) (by show s.recs.length ≤ _; omega) k4 (weak_read m2) rfl (by simp) rfl, rfl, rfl, m2⟩
        obtain ⟨s2, q1, q2⟩ := key
        obtain ⟨s3, q3, q4⟩ := open_all q2 (-1) (.sl true []) (fun _ _ => by simp)
        exact ⟨s3, c28c s s3 x h2 (c70b s s2 s3 x _ d1 hf y1 hlen y2 y3 e h k1 a c ha hcc q1 q3), q4⟩
  by_cases h3 : x.what = 3
  · obtain ⟨m, m1, m2, m3⟩ := crash_weak r x.cuts
    rw [List.cons_append, take_add'] at m3
    obtain ⟨s2, q1, q2⟩ := crash_story (s := s) hf (by omega) hc m2 (k := f + m) (by omega) (by omega) m3
    obtain ⟨s3, q3, q4⟩ := open_any q2 x.most x.cuts hc
    exact ⟨s3, c28d s s2 s3 x h3 q1 q3, q4⟩
  exact ⟨s, c28n s x h0 h1 h2 h3, f, f1, f2, f3, r⟩
/-- A disk that was formatted. -/
theorem fmt_inv {n : Int} {base : List UInt8} {d : Dsk} (hn : n ≤ 4097) (h : formattedV n base = .tup [dkv d, .val (.bool true)]) : ∃ d', dkv d = dkv d' ∧ Inv ⟨d', base, [], 0, [], false⟩ := by
  unfold formattedV at h
  cases hz : sizeI n
  · rw [hz] at h; simp at h
  cases hl : decide (((frame base).length : Int) > (n.toNat / 2 : Nat))
  case true => rw [hz, hl] at h; simp at h
  rw [hz, hl] at h
  simp only [Bool.not_true, Bool.false_eq_true, ↓reduceIte] at h
  have hi := isDisk_zs hz
  have hs := hz
  rw [sizeI_eq] at hs
  simp only [Bool.and_eq_true, sizeB, decide_eq_true_eq] at hs
  have hlen := of_decide_eq_false hl
  generalize hN : n.toNat = N at *
  have e1 : putB (zs N) 0 (zs N) = zs N := by
    unfold putB
    rw [Nat.zero_add, List.drop_of_length_le (Nat.le_refl _), List.append_nil]
    simp
  have e2 : fmtB N base = ⟨putB (zs N) 1 (frame base), []⟩ := by
    show (⟨seenB ⟨seenB ⟨zs N, [] ++ [wr 0 (zs N)]⟩, [] ++ [wr 1 (frame base)]⟩, []⟩ : Dsk) = _
    rw [List.nil_append, List.nil_append, seen_one, seen_one]
    show (⟨putB (putB (zs N) 0 (zs N)) 1 (frame base), []⟩ : Dsk) = _
    rw [e1]
  rw [e2] at h
  refine ⟨⟨putB (zs N) 1 (frame base), []⟩, ?_, ?_⟩
  · injection h with h; injection h with h; exact h.symm
  have hzl : (zs N).length = N := zs_length _
  have hsz : szB ⟨zs N, []⟩ = N / 2 := by unfold szB; rw [hzl]
  have hpl : (putB (zs N) 1 (frame base)).length = (zs N).length := putB_length (by omega)
  refine ⟨0, Nat.le_refl _, rfl, rfl, rest_mk hi (by show (zs N).length ≤ 4097; omega) hpl (h := 1) ?_ ?_ ?_⟩
  · rw [half_put (Nat.le_refl _) (by omega)]
    unfold halfAt
    rw [if_pos]
    rw [List.getD_eq_getElem?_getD]
    unfold zs
    rw [List.getElem?_replicate]
    split <;> rfl
  · rw [hsz]
    have k1 := drop_put (b := zs N) (x := frame base) (h := 1) (e := 0) (by omega)
    rw [Nat.add_zero, Nat.zero_add] at k1
    have k2 : ((putB (zs N) 1 (frame base)).drop (1 + (frame base).length)).take (N / 2 - (frame base).length) = zs (N / 2 - (frame base).length) := by
      rw [putB_drop (Nat.le_refl _) (by omega)]
      unfold zs
      rw [List.drop_replicate, List.take_replicate, Nat.min_eq_left (by omega)]
    have := take_join (by omega) (by simpa using k1) k2
    rw [this]
    simp [frames]
  · rw [hsz]
    simp [frames]
    omega
end Go.Proofs.Try

namespace Go.Proofs.Try
set_option linter.unusedSimpArgs false
set_option linter.unusedVariables false
open Go.PM
set_option maxHeartbeats 4000000
set_option maxRecDepth 100000

theorem inv_read {s : Sto} (h : Inv s) : readV s.d = .tup [.sl false (bs s.base), .sl false (bss s.recs), er 0] ∧ Few s.d ∧ s.recs.length ≤ 4000000 := by
  obtain ⟨f, f1, f2, f3, r⟩ := h
  obtain ⟨h1, h2, h3⟩ := rest_small r
  have := rest_read r
  rw [List.take_append_drop] at this
  rw [List.length_cons, List.length_take, List.length_drop] at h3
  exact ⟨this, h1, by omega⟩
theorem modest_at {l : List Deed} (h : modestB l = true) : l.length ≤ 40 ∧ ∀ i, i < l.length → (l.getD i deed0).bytes.length ≤ 300 ∧ (l.getD i deed0).cuts.length ≤ 60 := by
  unfold modestB at h
  split at h
  · cases h
  · rename_i h1
    refine ⟨by simp at h1; omega, fun i hi => ?_⟩
    have := List.all_eq_true.1 h (l.getD i deed0) (by
      rw [List.getD_eq_getElem?_getD, List.getElem?_eq_getElem hi]
      exact List.getElem_mem hi)
    simp only [Bool.not_eq_true', Bool.or_eq_false_iff, decide_eq_false_iff_not] at this
    omega
theorem fmtV_eq (n : Int) (base : List UInt8) : ∃ d ok, formattedV n base = .tup [dkv d, .val (.bool ok)] := by
  unfold formattedV
  split
  · exact ⟨⟨[], []⟩, false, rfl⟩
  split
  · exact ⟨⟨[], []⟩, false, rfl⟩
  · exact ⟨_, true, rfl⟩
theorem c27k (n : Int) (h1 : -9223372036854775808 ≤ n) (h2 : n ≤ 9223372036854775807) (base : List UInt8) (hb : base.length ≤ 1000000) {v : AV} (h : formattedV n base = v) : PureT Try.prog 27 [.val (.int .i64 n), .sl false (bs base)] (· = v) := h ▸ c27 n h1 h2 base hb
theorem stv_under (s : Sto) : underL 2 (stv s) = true := rfl
theorem c7 (n : Int) (h1 : -9223372036854775808 ≤ n) (h2 : n ≤ 9223372036854775807) (base : List UInt8) (l : List Deed) : PureT Try.prog 7 [.val (.int .i64 n), .sl false (bs base), .sl false (devs l)] (· = .val (.bool true)) := by
  cases hm : modestB l
  · refine CallT.intro Try.func7 (by decide) rfl ?_
    simp -implicitDefEqProofs (dsimp := false) only [go_sem, simprocAttr, hm, devs_length, enterTm, Try.ntmps7, List.range'_succ, List.range'_zero, List.zip_cons_cons, List.zip_nil_left]
    refine CodeT.seqR ?_
    simp -implicitDefEqProofs (dsimp := false) only [go_sem, simprocAttr, hm, devs_length]
    refine CodeT.seqR ?_
    simp -implicitDefEqProofs (dsimp := false) only [go_sem, simprocAttr, hm, devs_length]
    refine PureT.eq (c12) rfl ?_
    simp -implicitDefEqProofs (dsimp := false) only [go_sem, simprocAttr, hm, devs_length]
    refine CodeT.seq ?_
    refine CodeT.seqR ?_
    simp -implicitDefEqProofs (dsimp := false) only [go_sem, simprocAttr, hm, devs_length]
    refine gif_i (fun g4 => ?_) (fun g4 => ?_)
    have d4 := ofDec g4
    simp -implicitDefEqProofs (dsimp := false) only [go_sem, simprocAttr, hm, devs_length, g4]
    refine CodeT.condT rfl ?_
    refine CodeT.seqR ?_
    simp -implicitDefEqProofs (dsimp := false) only [go_sem, simprocAttr, hm, devs_length, g4]
    refine CodeT.ret ?_
    simp -implicitDefEqProofs (dsimp := false) only [go_sem, simprocAttr, hm, devs_length, g4]
    refine pureEnd rfl ?_
    simp -implicitDefEqProofs (dsimp := false) only [go_sem, simprocAttr, hm, devs_length, g4]
    have d4 := ofDecF g4
    simp -implicitDefEqProofs (dsimp := false) only [go_sem, simprocAttr, hm, devs_length, g4]
    refine gif_i (fun g5 => ?_) (fun g5 => ?_)
    have d5 := ofDec g5
    simp -implicitDefEqProofs (dsimp := false) only [go_sem, simprocAttr, hm, devs_length, g4, g5]
    refine CodeT.condT rfl ?_
    refine CodeT.seqR ?_
    simp -implicitDefEqProofs (dsimp := false) only [go_sem, simprocAttr, hm, devs_length, g4, g5]
    refine CodeT.ret ?_
    simp -implicitDefEqProofs (dsimp := false) only [go_sem, simprocAttr, hm, devs_length, g4, g5]
    refine pureEnd rfl ?_
    simp -implicitDefEqProofs (dsimp := false) only [go_sem, simprocAttr, hm, devs_length, g4, g5]
    have d5 := ofDecF g5
    simp -implicitDefEqProofs (dsimp := false) only [go_sem, simprocAttr, hm, devs_length, g4, g5]
    refine PureT.eq (c26 _) rfl ?_
    simp -implicitDefEqProofs (dsimp := false) only [go_sem, simprocAttr, hm, devs_length, g4, g5]
    refine CodeT.condT rfl ?_
    refine CodeT.seqR ?_
    simp -implicitDefEqProofs (dsimp := false) only [go_sem, simprocAttr, hm, devs_length, g4, g5]
    refine CodeT.ret ?_
    simp -implicitDefEqProofs (dsimp := false) only [go_sem, simprocAttr, hm, devs_length, g4, g5]
    refine pureEnd rfl ?_
    simp -implicitDefEqProofs (dsimp := false) only [go_sem, simprocAttr, hm, devs_length, g4, g5]
  obtain ⟨m1, m2⟩ := modest_at hm
  cases hn : decide (n > 4097)
  case true => refine CallT.intro Try.func7 (by decide) rfl ?_
               simp -implicitDefEqProofs (dsimp := false) only [go_sem, simprocAttr, hn, devs_length, enterTm, Try.ntmps7, List.range'_succ, List.range'_zero, List.zip_cons_cons, List.zip_nil_left]
               refine CodeT.seqR ?_
               simp -implicitDefEqProofs (dsimp := false) only [go_sem, simprocAttr, hn, devs_length]
               refine CodeT.seqR ?_
               simp -implicitDefEqProofs (dsimp := false) only [go_sem, simprocAttr, hn, devs_length]
               refine PureT.eq (c12) rfl ?_
               simp -implicitDefEqProofs (dsimp := false) only [go_sem, simprocAttr, hn, devs_length]
               refine CodeT.seq ?_
               refine CodeT.seqR ?_
               simp -implicitDefEqProofs (dsimp := false) only [go_sem, simprocAttr, hn, devs_length]
               refine CodeT.condT rfl ?_
               refine CodeT.seqR ?_
               simp -implicitDefEqProofs (dsimp := false) only [go_sem, simprocAttr, hn, devs_length]
               refine CodeT.ret ?_
               simp -implicitDefEqProofs (dsimp := false) only [go_sem, simprocAttr, hn, devs_length]
               refine pureEnd rfl ?_
               simp -implicitDefEqProofs (dsimp := false) only [go_sem, simprocAttr, hn, devs_length]
  cases hb : decide ((base.length : Int) > 300)
  case true => refine CallT.intro Try.func7 (by decide) rfl ?_
               simp -implicitDefEqProofs (dsimp := false) only [go_sem, simprocAttr, hn, hb, devs_length, enterTm, Try.ntmps7, List.range'_succ, List.range'_zero, List.zip_cons_cons, List.zip_nil_left]
               refine CodeT.seqR ?_
               simp -implicitDefEqProofs (dsimp := false) only [go_sem, simprocAttr, hn, hb, devs_length]
               refine CodeT.seqR ?_
               simp -implicitDefEqProofs (dsimp := false) only [go_sem, simprocAttr, hn, hb, devs_length]
               refine PureT.eq (c12) rfl ?_
               simp -implicitDefEqProofs (dsimp := false) only [go_sem, simprocAttr, hn, hb, devs_length]
               refine CodeT.seq ?_
               refine CodeT.seqR ?_
               simp -implicitDefEqProofs (dsimp := false) only [go_sem, simprocAttr, hn, hb, devs_length]
               refine CodeT.condT rfl ?_
               refine CodeT.seqR ?_
               simp -implicitDefEqProofs (dsimp := false) only [go_sem, simprocAttr, hn, hb, devs_length]
               refine CodeT.ret ?_
               simp -implicitDefEqProofs (dsimp := false) only [go_sem, simprocAttr, hn, hb, devs_length]
               refine pureEnd rfl ?_
               simp -implicitDefEqProofs (dsimp := false) only [go_sem, simprocAttr, hn, hb, devs_length]
  have hb' : base.length ≤ 1000000 := by have := of_decide_eq_false hb; omega
  obtain ⟨d, ok, e⟩ := fmtV_eq n base
  cases ok
  · refine CallT.intro Try.func7 (by decide) rfl ?_
    simp -implicitDefEqProofs (dsimp := false) only [go_sem, simprocAttr, hm, hn, hb, devs_length, enterTm, Try.ntmps7, List.range'_succ, List.range'_zero, List.zip_cons_cons, List.zip_nil_left]
    refine CodeT.seqR ?_
    simp -implicitDefEqProofs (dsimp := false) only [go_sem, simprocAttr, hm, hn, hb, devs_length]
    refine CodeT.seqR ?_
    simp -implicitDefEqProofs (dsimp := false) only [go_sem, simprocAttr, hm, hn, hb, devs_length]
    refine PureT.eq (c12) rfl ?_
    simp -implicitDefEqProofs (dsimp := false) only [go_sem, simprocAttr, hm, hn, hb, devs_length]
    refine CodeT.seq ?_
    refine CodeT.seqR ?_
    simp -implicitDefEqProofs (dsimp := false) only [go_sem, simprocAttr, hm, hn, hb, devs_length]
    refine PureT.eq (c26 _) rfl ?_
    simp -implicitDefEqProofs (dsimp := false) only [go_sem, simprocAttr, hm, hn, hb, devs_length]
    refine CodeT.condF rfl ?_
    refine CodeT.skip ?_
    simp -implicitDefEqProofs (dsimp := false) only [go_sem, simprocAttr, hm, hn, hb, devs_length]
    refine CodeT.seqR ?_
    simp -implicitDefEqProofs (dsimp := false) only [go_sem, simprocAttr, hm, hn, hb, devs_length]
    refine PureT.eq (c27k n h1 h2 base hb' e) rfl ?_
    simp -implicitDefEqProofs (dsimp := false) only [go_sem, simprocAttr, hm, hn, hb, devs_length]
    refine CodeT.seq ?_
    refine CodeT.seqR ?_
    simp -implicitDefEqProofs (dsimp := false) only [go_sem, simprocAttr, hm, hn, hb, devs_length]
    refine CodeT.condT rfl ?_
    refine CodeT.seqR ?_
    simp -implicitDefEqProofs (dsimp := false) only [go_sem, simprocAttr, hm, hn, hb, devs_length]
    refine CodeT.ret ?_
    simp -implicitDefEqProofs (dsimp := false) only [go_sem, simprocAttr, hm, hn, hb, devs_length]
    refine pureEnd rfl ?_
    simp -implicitDefEqProofs (dsimp := false) only [go_sem, simprocAttr, hm, hn, hb, devs_length]
  obtain ⟨d', e1, inv0⟩ := fmt_inv (by have := of_decide_eq_false hn; omega) e
  rw [e1] at e
  have r1 : ∀ x : List UInt8, (strB x == strB x) = true := fun x => by rw [strB_beq]; simp
  have r2 : ∀ x : List (List UInt8), (x == x) = true := fun x => by simp
  refine CallT.intro Try.func7 (by decide) rfl ?_
  simp -implicitDefEqProofs (dsimp := false) only [go_sem, simprocAttr, hm, hn, hb, devs_length, stv, dev_cells, dev_fold, dev_eta, r1, r2, strOf_bs, enterTm, Try.ntmps7, List.range'_succ, List.range'_zero, List.zip_cons_cons, List.zip_nil_left]
  refine CodeT.seqR ?_
  simp -implicitDefEqProofs (dsimp := false) only [go_sem, simprocAttr, hm, hn, hb, devs_length, stv, dev_cells, dev_fold, dev_eta, r1, r2, strOf_bs]
  refine CodeT.seqR ?_
  simp -implicitDefEqProofs (dsimp := false) only [go_sem, simprocAttr, hm, hn, hb, devs_length, stv, dev_cells, dev_fold, dev_eta, r1, r2, strOf_bs]
  refine PureT.eq (c12) rfl ?_
  simp -implicitDefEqProofs (dsimp := false) only [go_sem, simprocAttr, hm, hn, hb, devs_length, stv, dev_cells, dev_fold, dev_eta, r1, r2, strOf_bs]
  refine CodeT.seq ?_
  refine CodeT.seqR ?_
  simp -implicitDefEqProofs (dsimp := false) only [go_sem, simprocAttr, hm, hn, hb, devs_length, stv, dev_cells, dev_fold, dev_eta, r1, r2, strOf_bs]
  refine PureT.eq (c26 _) rfl ?_
  simp -implicitDefEqProofs (dsimp := false) only [go_sem, simprocAttr, hm, hn, hb, devs_length, stv, dev_cells, dev_fold, dev_eta, r1, r2, strOf_bs]
  refine CodeT.condF rfl ?_
  refine CodeT.skip ?_
  simp -implicitDefEqProofs (dsimp := false) only [go_sem, simprocAttr, hm, hn, hb, devs_length, stv, dev_cells, dev_fold, dev_eta, r1, r2, strOf_bs]
  refine CodeT.seqR ?_
  simp -implicitDefEqProofs (dsimp := false) only [go_sem, simprocAttr, hm, hn, hb, devs_length, stv, dev_cells, dev_fold, dev_eta, r1, r2, strOf_bs]
  refine PureT.eq (c27k n h1 h2 base hb' e) rfl ?_
  simp -implicitDefEqProofs (dsimp := false) only [go_sem, simprocAttr, hm, hn, hb, devs_length, stv, dev_cells, dev_fold, dev_eta, r1, r2, strOf_bs]
  refine CodeT.seq ?_
  refine CodeT.seqR ?_
  simp -implicitDefEqProofs (dsimp := false) only [go_sem, simprocAttr, hm, hn, hb, devs_length, stv, dev_cells, dev_fold, dev_eta, r1, r2, strOf_bs]
  refine CodeT.condF rfl ?_
  refine CodeT.skip ?_
  simp -implicitDefEqProofs (dsimp := false) only [go_sem, simprocAttr, hm, hn, hb, devs_length, stv, dev_cells, dev_fold, dev_eta, r1, r2, strOf_bs]
  refine CodeT.seqR ?_
  simp -implicitDefEqProofs (dsimp := false) only [go_sem, simprocAttr, hm, hn, hb, devs_length, stv, dev_cells, dev_fold, dev_eta, r1, r2, strOf_bs]
  refine CodeT.seq ?_
  refine CodeT.freeze 8 ?_
  simp -implicitDefEqProofs (dsimp := false) only [go_sem, simprocAttr, hm, hn, hb, devs_length, stv, dev_cells, dev_fold, dev_eta, r1, r2, strOf_bs]
  refine CodeT.laxCell 1 3 rfl rfl rfl ?_
  simp -implicitDefEqProofs (dsimp := false) only [go_sem, simprocAttr, hm, hn, hb, devs_length, stv, dev_cells, dev_fold, dev_eta, r1, r2, strOf_bs]
  refine CodeT.laxCell 1 5 rfl rfl rfl ?_
  simp -implicitDefEqProofs (dsimp := false) only [go_sem, simprocAttr, hm, hn, hb, devs_length, stv, dev_cells, dev_fold, dev_eta, r1, r2, strOf_bs]
  refine CodeT.seqR ?_
  simp -implicitDefEqProofs (dsimp := false) only [go_sem, simprocAttr, hm, hn, hb, devs_length, stv, dev_cells, dev_fold, dev_eta, r1, r2, strOf_bs]
  refine CodeT.block ?_
  refine CodeT.whileS (fun y : Nat × Sto => [(11, .val (.int .i64 (y.1 : Nat)))]) [10, 7, 2] (fun y : Nat × Sto => [.dead, .cells (stv y.2)]) (fun y : Nat × Sto => y.1 ≤ l.length ∧ Inv y.2) (fun y : Nat × Sto => l.length - y.1) ((0, ⟨d', base, [], 0, [], false⟩)) ?_ rfl ?_ ?_
  refine ⟨?_, ?_⟩ <;> omega
  refine ⟨rfl, ?_, ?_, rfl, ?_⟩
  simp -implicitDefEqProofs (dsimp := false) only [go_sem, simprocAttr, hm, hn, hb, devs_length, stv, dev_cells, dev_fold, dev_eta, r1, r2, strOf_bs, or_true, true_or, false_or, or_false, implies_true, Int.natCast_add, Int.cast_ofNat_Int, keepsD_nil]
  trivial
  simp -implicitDefEqProofs (dsimp := false) only [go_sem, simprocAttr, hm, hn, hb, devs_length, stv, dev_cells, dev_fold, dev_eta, r1, r2, strOf_bs, or_true, true_or, false_or, or_false, implies_true, Int.natCast_add, Int.cast_ofNat_Int, keepsD_nil]
  trivial
  simp -implicitDefEqProofs (dsimp := false) only [go_sem, simprocAttr, hm, hn, hb, devs_length, stv, dev_cells, dev_fold, dev_eta, r1, r2, strOf_bs, or_true, true_or, false_or, or_false, implies_true, Int.natCast_add, Int.cast_ofNat_Int, keepsD_nil]
  rintro ⟨i, s⟩ hy
  obtain ⟨f1, f2⟩ := hy
  have st : i < l.length → ∃ s', Leads 28 [dev (l.getD i deed0)] s s' ∧ Inv s' := fun h => step s _ f2 (m2 i h).1 (m2 i h).2
  simp -implicitDefEqProofs (dsimp := false) only [go_sem, simprocAttr, hm, hn, hb, devs_length, stv, dev_cells, dev_fold, dev_eta, r1, r2, strOf_bs]
  refine CodeT.seq ?_
  refine CodeT.seqR ?_
  simp -implicitDefEqProofs (dsimp := false) only [go_sem, simprocAttr, hm, hn, hb, devs_length, stv, dev_cells, dev_fold, dev_eta, r1, r2, strOf_bs]
  refine CodeT.cond rfl (fun g6 => ?_) (fun g6 => ?_)
  have d6 := ofDec g6
  refine CodeT.skip ?_
  simp -implicitDefEqProofs (dsimp := false) only [go_sem, simprocAttr, hm, hn, hb, devs_length, stv, dev_cells, dev_fold, dev_eta, r1, r2, strOf_bs, g6]
  refine CodeT.seq (CodeT.block ?_)
  refine CodeT.seq ?_
  obtain ⟨s', e28, f3⟩ := st (by omega)
  obtain ⟨e21, w1, w2⟩ := inv_read f3
  refine CodeT.seqR ?_
  simp -implicitDefEqProofs (dsimp := false) only [go_sem, simprocAttr, hm, hn, hb, devs_length, stv, dev_cells, dev_fold, dev_eta, r1, r2, strOf_bs, g6]
  refine gate_i ?_ ?_
  omega
  simp -implicitDefEqProofs (dsimp := false) (disch := omega) only [Int.toNat_natCast, i64_in, bs_getD, opvs_getD, is64_getD, bss_getD, devs_getD]
  simp -implicitDefEqProofs (dsimp := false) only [go_sem, simprocAttr, hm, hn, hb, devs_length, stv, dev_cells, dev_fold, dev_eta, r1, r2, strOf_bs, g6]
  refine CallT.eq (ext1 e28 rfl rfl _) ?_
  simp -implicitDefEqProofs (dsimp := false) only [go_sem, simprocAttr, hm, hn, hb, devs_length, stv, dev_cells, dev_fold, dev_eta, r1, r2, strOf_bs, g6]
  refine CodeT.condF rfl ?_
  refine CodeT.skip ?_
  simp -implicitDefEqProofs (dsimp := false) only [go_sem, simprocAttr, hm, hn, hb, devs_length, stv, dev_cells, dev_fold, dev_eta, r1, r2, strOf_bs, g6]
  refine CodeT.seqR ?_
  simp -implicitDefEqProofs (dsimp := false) only [go_sem, simprocAttr, hm, hn, hb, devs_length, stv, dev_cells, dev_fold, dev_eta, r1, r2, strOf_bs, g6]
  refine PureT.eq (c21k _ w1 e21) rfl ?_
  simp -implicitDefEqProofs (dsimp := false) only [go_sem, simprocAttr, hm, hn, hb, devs_length, stv, dev_cells, dev_fold, dev_eta, r1, r2, strOf_bs, g6]
  refine CodeT.seqD [(0, .free), (1, .free), (2, .free), (3, .free), (4, .free), (5, .free), (6, .free), (7, .free), (8, .read), (9, .free), (10, .free), (11, .free), (12, .free), (13, .free), (14, .free), (15, .free), (16, .free), (17, .read), (18, .free), (19, .free), (20, .free)] mixed (by kernel_rfl) ?_
  simp -implicitDefEqProofs (dsimp := false) only [go_sem, simprocAttr, hm, hn, hb, devs_length, stv, dev_cells, dev_fold, dev_eta, r1, r2, strOf_bs, g6]
  refine And.intro (by exact bs_byte _) ?_
  refine And.intro (by exact bs_byte _) ?_
  refine CallF.go (c23 _ _ ?_) rfl ?_
  assumption
  simp -implicitDefEqProofs (dsimp := false) only [go_sem, simprocAttr, hm, hn, hb, devs_length, stv, dev_cells, dev_fold, dev_eta, r1, r2, strOf_bs, g6]
  refine CodeT.condF rfl ?_
  refine CodeT.skip ?_
  simp -implicitDefEqProofs (dsimp := false) only [go_sem, simprocAttr, hm, hn, hb, devs_length, stv, dev_cells, dev_fold, dev_eta, r1, r2, strOf_bs, g6]
  refine CodeT.region ?_
  simp -implicitDefEqProofs (dsimp := false) only [go_sem, simprocAttr, hm, hn, hb, devs_length, stv, dev_cells, dev_fold, dev_eta, r1, r2, strOf_bs, g6]
  simp -implicitDefEqProofs (dsimp := false) (disch := omega) only [i64_in, bs_getD, opvs_getD, is64_getD, bss_getD, devs_getD]
  refine ⟨(i + 1, s'), ?_⟩
  refine And.intro ?_ ?_
  refine And.intro ?_ ?_
  omega
  assumption
  refine And.intro ?_ ?_
  omega
  refine ⟨rfl, ?_, ?_, rfl, ?_⟩
  simp -implicitDefEqProofs (dsimp := false) only [go_sem, simprocAttr, hm, hn, hb, devs_length, stv, dev_cells, dev_fold, dev_eta, r1, r2, strOf_bs, g6, or_true, true_or, false_or, or_false, implies_true, Int.natCast_add, Int.cast_ofNat_Int, keepsD_nil]
  trivial
  simp -implicitDefEqProofs (dsimp := false) only [go_sem, simprocAttr, hm, hn, hb, devs_length, stv, dev_cells, dev_fold, dev_eta, r1, r2, strOf_bs, g6, or_true, true_or, false_or, or_false, implies_true, Int.natCast_add, Int.cast_ofNat_Int, keepsD_nil]
  simp -implicitDefEqProofs (dsimp := false) only [go_sem, simprocAttr, hm, hn, hb, devs_length, stv, dev_cells, dev_fold, dev_eta, r1, r2, strOf_bs, g6, or_true, true_or, false_or, or_false, implies_true, Int.natCast_add, Int.cast_ofNat_Int, keepsD_nil]
  have d6 := ofDecF g6
  refine CodeT.exit ?_
  simp -implicitDefEqProofs (dsimp := false) only [go_sem, simprocAttr, hm, hn, hb, devs_length, stv, dev_cells, dev_fold, dev_eta, r1, r2, strOf_bs, g6]
  refine CodeT.seqR ?_
  simp -implicitDefEqProofs (dsimp := false) only [go_sem, simprocAttr, hm, hn, hb, devs_length, stv, dev_cells, dev_fold, dev_eta, r1, r2, strOf_bs, g6]
  refine CodeT.ret ?_
  simp -implicitDefEqProofs (dsimp := false) only [go_sem, simprocAttr, hm, hn, hb, devs_length, stv, dev_cells, dev_fold, dev_eta, r1, r2, strOf_bs, g6]
  refine pureEnd rfl ?_
  simp -implicitDefEqProofs (dsimp := false) only [go_sem, simprocAttr, hm, hn, hb, devs_length, stv, dev_cells, dev_fold, dev_eta, r1, r2, strOf_bs, g6]
end Go.Proofs.Try

namespace Go.Proofs.Try
set_option linter.unusedVariables false
open Go.PM Go.RowKit
variable {H : Type} {enc : TypeId × Value → H} {W : World}
theorem opensDeed : Opens enc Try.prog W 63 dev (fun _ => True) :=
  ((opens_struct Try.underlying63 (by kernel_rfl) (opensF_cons rfl (by kernel_rfl) rfl (opens_i64 Try.underlying3) (fun _ => rfl) (opensF_cons rfl (by kernel_rfl) rfl opensBytes (fun _ => rfl) (opensF_cons rfl (by kernel_rfl) rfl (opens_i64 Try.underlying3) (fun _ => rfl) (opensF_cons rfl (by kernel_rfl) rfl opensInts (fun _ => rfl) opensF_nil))))).map (f' := dev) (fun x => (⟨x.1, x.2.1, x.2.2.1, x.2.2.2.1⟩ : Deed)) (fun _ => rfl)).mono
    fun _ _ => trivial
instance : Inhabited Deed := ⟨deed0⟩
theorem opensDeeds : Opens enc Try.prog W 54 (fun l : List Deed => AV.sl false (devs l)) (fun l => True) :=
  (opens_slice (sz := 4) Try.underlying54 (by kernel_rfl) (by decide) (fun _ => rfl) opensDeed).mono fun _ _ => trivial
end Go.Proofs.Try
