/-
  Lists of bytes as values.
-/
import Derived.Test.YtnmghpieidlpbaaV3
import Derived.IntWalk
import Derived.KernelRfl
import Derived.Test.YtnmghpieidlpbaaProg
set_option linter.unusedVariables false
set_option linter.unusedSimpArgs false
namespace Go.PM

/-- A byte. -/
abbrev b8 (b : UInt8) : AV := .val (.int .u8 b.toNat)
def bs (l : List UInt8) : List AV := l.map b8

theorem bs_length (l : List UInt8) : (bs l).length = l.length := by simp [bs]
theorem bs_nil : bs [] = [] := rfl
theorem bs_cons (x : UInt8) (l : List UInt8) : bs (x :: l) = b8 x :: bs l := rfl
theorem bs_append (l l' : List UInt8) : bs l ++ bs l' = bs (l ++ l') := by simp [bs]
theorem bs_take (l : List UInt8) (n : Nat) : (bs l).take n = bs (l.take n) := by simp [bs]
theorem bs_drop (l : List UInt8) (n : Nat) : (bs l).drop n = bs (l.drop n) := by simp [bs]
theorem bs_set (l : List UInt8) (n : Nat) (x : UInt8) : (bs l).set n (b8 x) = bs (l.set n x) := by simp [bs, List.map_set]
theorem bs_getD {l : List UInt8} {i : Nat} (h : i < l.length) : (bs l).getD i .dead = b8 (l.getD i 0) := by
  simp [bs, List.getD_eq_getElem?_getD, h]
theorem bs_snoc (l : List UInt8) (x : UInt8) : bs l ++ [.val (.int .u8 x.toNat)] = bs (l ++ [x]) := by simp [bs]
theorem bs_snoc2 (l : List UInt8) (x y : UInt8) : bs l ++ [.val (.int .u8 x.toNat), .val (.int .u8 y.toNat)] = bs (l ++ [x, y]) := by simp [bs]
theorem bs_one (x : UInt8) : [AV.val (.int .u8 x.toNat)] = bs [x] := rfl
theorem bs_replicate (n : Nat) (x : UInt8) : List.replicate n (b8 x) = bs (List.replicate n x) := by simp [bs]
theorem uni_bs (l : List UInt8) : Uni 1 (bs l) := by
  intro e he
  obtain ⟨x, _, rfl⟩ := List.mem_map.1 he
  rfl
theorem bs_byte (l : List UInt8) : ∀ c : AV, c ∈ bs l → isByte c = true := by
  intro e he
  obtain ⟨x, _, rfl⟩ := List.mem_map.1 he
  rfl
theorem b8_cells (x : UInt8) : (b8 x).cells = [b8 x] := rfl
theorem b8_pure (x : UInt8) : (b8 x).pure0 = true := rfl
theorem underL_bs (n : Nat) (l : List UInt8) : underL n (bs l) = true := by
  induction l with
  | nil => rfl
  | cons x l ih => simp [bs_cons, underL, ih, b8, AV.under]
def strB (l : List UInt8) : ByteArray := ⟨l.toArray⟩
theorem byteVal_b8 (x : UInt8) : byteVal (b8 x) = x := by
  show UInt8.ofNat (Int.toNat (x.toNat : Int)) = x
  simp
theorem strOf_bs (l : List UInt8) : strOf (bs l) = strB l := by
  unfold strOf strB bs
  congr 1
  rw [List.map_map]
  have : byteVal ∘ b8 = id := by funext x; exact byteVal_b8 x
  rw [this, List.map_id]
theorem strB_beq (l l' : List UInt8) : (strB l == strB l') = (l == l') := by
  show (l.toArray == l'.toArray) = (l == l')
  rw [Bool.eq_iff_iff, beq_iff_eq, beq_iff_eq]
  exact ⟨fun e => by simpa using e, fun e => by rw [e]⟩

/-! ### Lists of lists of bytes -/
def bss (l : List (List UInt8)) : List AV := l.map fun p => .sl false (bs p)
theorem bss_length (l : List (List UInt8)) : (bss l).length = l.length := by simp [bss]
theorem bss_snoc (l : List (List UInt8)) (p : List UInt8) : bss l ++ [.sl false (bs p)] = bss (l ++ [p]) := by simp [bss]
theorem bss_getD {l : List (List UInt8)} {i : Nat} (h : i < l.length) : (bss l).getD i .dead = .sl false (bs (l.getD i [])) := by
  simp [bss, List.getD_eq_getElem?_getD, h]
theorem bss_take (l : List (List UInt8)) (n : Nat) : (bss l).take n = bss (l.take n) := by simp [bss]
theorem bss_drop (l : List (List UInt8)) (n : Nat) : (bss l).drop n = bss (l.drop n) := by simp [bss]
theorem uni_bss (l : List (List UInt8)) : Uni 1 (bss l) := by
  intro e he
  obtain ⟨x, _, rfl⟩ := List.mem_map.1 he
  rfl

/-! ### Fewer boxes, more boxes -/
mutual
theorem av_under_mono {n m : Nat} (h : n ≤ m) : ∀ (x : AV), x.under n = true → x.under m = true
  | .dead, _ => rfl
  | .val _, _ => rfl
  | .sl _ _, _ => rfl
  | .cptr _, _ => rfl
  | .hsl _ _ _ _, hu => by simp only [AV.under, decide_eq_true_eq] at hu ⊢; omega
  | .ptr _ _, hu => by simp only [AV.under, decide_eq_true_eq] at hu ⊢; omega
  | .eptr _ _ _ _, hu => by simp only [AV.under, decide_eq_true_eq] at hu ⊢; omega
  | .yld _, hu => by simp only [AV.under, decide_eq_true_eq] at hu ⊢; omega
  | .mp _, hu => by simp only [AV.under, decide_eq_true_eq] at hu ⊢; omega
  | .fn _ caps, hu => avL_under_mono h caps hu
  | .iface _ x, hu => av_under_mono h x hu
  | .agg cs, hu => avL_under_mono h cs hu
  | .tup cs, hu => avL_under_mono h cs hu
theorem avL_under_mono {n m : Nat} (h : n ≤ m) : ∀ (l : List AV), underL n l = true → underL m l = true
  | [], _ => rfl
  | x :: xs, hu => by
    simp only [underL, Bool.and_eq_true] at hu ⊢
    exact ⟨av_under_mono h x hu.1, avL_under_mono h xs hu.2⟩
end
theorem under_mono {n m : Nat} {b : Box} (h : n ≤ m) (hu : b.under n = true) : b.under m = true := by
  cases b with
  | cells cs => exact avL_under_mono h cs hu
  | loop fn t ps asg bd st pend =>
    simp only [Box.under, underT, List.all_eq_true] at hu ⊢
    exact fun p hp => av_under_mono h p.2 (hu p hp)
  | map kvs => cases hu
  | _ => rfl

/-! ### Boxes at the end -/
theorem push_set (l : List Box) (x y : Box) : (l ++ [x]).set l.length y = l ++ [y] := by simp
theorem push_get' (l : List Box) (x : Box) : (l ++ [x])[l.length]? = some x := by simp
theorem get_pre {l : List Box} {i : Nat} {b : Box} (h : l[i]? = some b) (l' : List Box) : (l ++ l')[i]? = some b := by
  have := (List.getElem?_eq_some_iff.1 h).1
  rw [List.getElem?_append_left this]; exact h

/-! ### Arithmetic of bytes -/
theorem u8w (n : Int) : IntKind.u8.wrap n = n % 256 := IntKind.wrap_u8 n
theorem u8_add (a b : UInt8) : IntKind.u8.wrap ((a.toNat : Int) + b.toNat) = ((a + b).toNat : Int) := by rw [u8w, UInt8.toNat_add]; omega
theorem u8_sub (a b : UInt8) : IntKind.u8.wrap ((a.toNat : Int) - b.toNat) = ((a - b).toNat : Int) := by
  have := b.toNat_lt
  have := a.toNat_lt
  rw [u8w, UInt8.toNat_sub]; omega
theorem u8_mul (a b : UInt8) : IntKind.u8.wrap ((a.toNat : Int) * b.toNat) = ((a * b).toNat : Int) := by rw [u8w, UInt8.toNat_mul]; omega
theorem u8_quo (a b : UInt8) : IntKind.u8.wrap ((a.toNat : Int).tdiv b.toNat) = ((a / b).toNat : Int) := by
  have h := (a / b).toNat_lt
  rw [u8w, ← Int.ofNat_tdiv, ← UInt8.toNat_div]
  omega
theorem u8_rem (a b : UInt8) : (a.toNat : Int).tmod b.toNat = ((a % b).toNat : Int) := by
  rw [← Int.ofNat_tmod, ← UInt8.toNat_mod]
theorem u8_16 : (16 : Int) = ((16 : UInt8).toNat : Int) := rfl
theorem u8_32 : (32 : Int) = ((32 : UInt8).toNat : Int) := rfl
theorem u8_255 : (255 : Int) = ((255 : UInt8).toNat : Int) := rfl
theorem u8_0 : (0 : Int) = ((0 : UInt8).toNat : Int) := rfl
theorem u8_1 : (1 : Int) = ((1 : UInt8).toNat : Int) := rfl
theorem u8_eq (a b : UInt8) : ((a.toNat : Int) == b.toNat) = (a == b) := by
  rw [Bool.eq_iff_iff]
  simp only [beq_iff_eq]
  exact ⟨fun h => UInt8.toNat_inj.1 (by omega), fun h => by rw [h]⟩
theorem u8_ne (a b : UInt8) : ((a.toNat : Int) != b.toNat) = (a != b) := by simp only [bne, u8_eq]
theorem u8_lt (a b : UInt8) : decide ((a.toNat : Int) < b.toNat) = decide (a < b) := by
  rw [Bool.eq_iff_iff]
  simp [UInt8.lt_iff_toNat_lt]
theorem u8_ge (a b : UInt8) : decide ((a.toNat : Int) ≥ b.toNat) = decide (b ≤ a) := by
  rw [Bool.eq_iff_iff]
  simp [UInt8.le_iff_toNat_le]

theorem stable_last (l : List Box) (mt : Bool) (v z : Nat) (es : List AV) (b : Box) : Stable (l ++ [.row mt v z es]) (l ++ [b]) := by
  have := Stable.setRow (push_get' l (.row mt v z es)) b
  rwa [push_set] at this
theorem joined (x y : UInt8) : IntKind.u8.wrap (IntKind.u8.wrap (IntKind.u8.wrap (16 * IntKind.u8.wrap ((x.toNat : Int) - 16)) + (y.toNat : Int)) - 16) = ((16 * (x - 16) + y - 16 : UInt8).toNat : Int) := by
  rw [u8_16, u8_sub, u8_mul, u8_add, u8_sub]

theorem i64_in {n : Int} (h1 : -9223372036854775808 ≤ n) (h2 : n ≤ 9223372036854775807) : IntKind.i64.wrap n = n := IntWalk.i64_in n ⟨h1, h2⟩

end Go.PM

namespace Go.Proofs.Try
set_option linter.unusedSimpArgs false
open Go.PM
theorem ty0 : tyOf Try.prog 0 = some ⟨1, 0, (Value.tuple #[]), (TypeDesc.tuple #[])⟩ := by kernel_rfl
theorem ty1 : tyOf Try.prog 1 = some ⟨1, 8, Value.nilFunc, (TypeDesc.func #[] #[] false)⟩ := by kernel_rfl
theorem zo1 : zeroOf ⟨1, 8, Value.nilFunc, (TypeDesc.func #[] #[] false)⟩ = .val Value.nilFunc := by simp [zeroOf, ofVal, ofVal0, plain, AV.single]
theorem zk1 : zeroOK ⟨1, 8, Value.nilFunc, (TypeDesc.func #[] #[] false)⟩ = true := by simp [zeroOK, zo1, allOne, AV.cells, AV.single]
theorem ty2 : tyOf Try.prog 2 = some ⟨1, 8, (Value.int IntKind.i64 0), (TypeDesc.int IntKind.i64)⟩ := by kernel_rfl
theorem zo2 : zeroOf ⟨1, 8, (Value.int IntKind.i64 0), (TypeDesc.int IntKind.i64)⟩ = .val (Value.int IntKind.i64 0) := by simp [zeroOf, ofVal, ofVal0, plain, AV.single]
theorem zk2 : zeroOK ⟨1, 8, (Value.int IntKind.i64 0), (TypeDesc.int IntKind.i64)⟩ = true := by simp [zeroOK, zo2, allOne, AV.cells, AV.single]
theorem ty3 : tyOf Try.prog 3 = some ⟨1, 8, (Value.int IntKind.i64 0), (TypeDesc.int IntKind.i64)⟩ := by kernel_rfl
theorem zo3 : zeroOf ⟨1, 8, (Value.int IntKind.i64 0), (TypeDesc.int IntKind.i64)⟩ = .val (Value.int IntKind.i64 0) := by simp [zeroOf, ofVal, ofVal0, plain, AV.single]
theorem zk3 : zeroOK ⟨1, 8, (Value.int IntKind.i64 0), (TypeDesc.int IntKind.i64)⟩ = true := by simp [zeroOK, zo3, allOne, AV.cells, AV.single]
theorem ty4 : tyOf Try.prog 4 = some ⟨1, 1, (Value.bool false), TypeDesc.bool⟩ := by kernel_rfl
theorem zo4 : zeroOf ⟨1, 1, (Value.bool false), TypeDesc.bool⟩ = .val (Value.bool false) := by simp [zeroOf, ofVal, ofVal0, plain, AV.single]
theorem zk4 : zeroOK ⟨1, 1, (Value.bool false), TypeDesc.bool⟩ = true := by simp [zeroOK, zo4, allOne, AV.cells, AV.single]
theorem ty5 : tyOf Try.prog 5 = some ⟨1, 1, (Value.int IntKind.u8 0), (TypeDesc.int IntKind.u8)⟩ := by kernel_rfl
theorem zo5 : zeroOf ⟨1, 1, (Value.int IntKind.u8 0), (TypeDesc.int IntKind.u8)⟩ = .val (Value.int IntKind.u8 0) := by simp [zeroOf, ofVal, ofVal0, plain, AV.single]
theorem zk5 : zeroOK ⟨1, 1, (Value.int IntKind.u8 0), (TypeDesc.int IntKind.u8)⟩ = true := by simp [zeroOK, zo5, allOne, AV.cells, AV.single]
theorem ty6 : tyOf Try.prog 6 = some ⟨1, 1, (Value.int IntKind.u8 0), (TypeDesc.int IntKind.u8)⟩ := by kernel_rfl
theorem zo6 : zeroOf ⟨1, 1, (Value.int IntKind.u8 0), (TypeDesc.int IntKind.u8)⟩ = .val (Value.int IntKind.u8 0) := by simp [zeroOf, ofVal, ofVal0, plain, AV.single]
theorem zk6 : zeroOK ⟨1, 1, (Value.int IntKind.u8 0), (TypeDesc.int IntKind.u8)⟩ = true := by simp [zeroOK, zo6, allOne, AV.cells, AV.single]
theorem ty7 : tyOf Try.prog 7 = some ⟨4, 24, (Value.agg #[(Value.int IntKind.i64 0), (Value.int IntKind.i64 0), (Value.bool false), (Value.int IntKind.u8 0)]), (TypeDesc.struct #[{ name := "x", type := 2, offset := 0, embedded := false, tag := "", pkgPath := "runtime", byteOffset := 0 }, { name := "y", type := 3, offset := 1, embedded := false, tag := "", pkgPath := "runtime", byteOffset := 8 }, { name := "signed", type := 4, offset := 2, embedded := false, tag := "", pkgPath := "runtime", byteOffset := 16 }, { name := "code", type := 6, offset := 3, embedded := false, tag := "", pkgPath := "runtime", byteOffset := 17 }])⟩ := by kernel_rfl
theorem zo7 : zeroOf ⟨4, 24, (Value.agg #[(Value.int IntKind.i64 0), (Value.int IntKind.i64 0), (Value.bool false), (Value.int IntKind.u8 0)]), (TypeDesc.struct #[{ name := "x", type := 2, offset := 0, embedded := false, tag := "", pkgPath := "runtime", byteOffset := 0 }, { name := "y", type := 3, offset := 1, embedded := false, tag := "", pkgPath := "runtime", byteOffset := 8 }, { name := "signed", type := 4, offset := 2, embedded := false, tag := "", pkgPath := "runtime", byteOffset := 16 }, { name := "code", type := 6, offset := 3, embedded := false, tag := "", pkgPath := "runtime", byteOffset := 17 }])⟩ = .agg [.val (Value.int IntKind.i64 0), .val (Value.int IntKind.i64 0), .val (Value.bool false), .val (Value.int IntKind.u8 0)] := by simp [zeroOf, ofVal, ofVal0, plain, AV.single]
theorem zk7 : zeroOK ⟨4, 24, (Value.agg #[(Value.int IntKind.i64 0), (Value.int IntKind.i64 0), (Value.bool false), (Value.int IntKind.u8 0)]), (TypeDesc.struct #[{ name := "x", type := 2, offset := 0, embedded := false, tag := "", pkgPath := "runtime", byteOffset := 0 }, { name := "y", type := 3, offset := 1, embedded := false, tag := "", pkgPath := "runtime", byteOffset := 8 }, { name := "signed", type := 4, offset := 2, embedded := false, tag := "", pkgPath := "runtime", byteOffset := 16 }, { name := "code", type := 6, offset := 3, embedded := false, tag := "", pkgPath := "runtime", byteOffset := 17 }])⟩ = true := by simp [zeroOK, zo7, allOne, AV.cells, AV.single]
theorem fl7_0 : fldOf Try.prog 7 0 = some (0, ⟨1, 8, (Value.int IntKind.i64 0), (TypeDesc.int IntKind.i64)⟩) := by kernel_rfl
theorem fl7_1 : fldOf Try.prog 7 1 = some (1, ⟨1, 8, (Value.int IntKind.i64 0), (TypeDesc.int IntKind.i64)⟩) := by kernel_rfl
theorem fl7_2 : fldOf Try.prog 7 2 = some (2, ⟨1, 1, (Value.bool false), TypeDesc.bool⟩) := by kernel_rfl
theorem fl7_3 : fldOf Try.prog 7 3 = some (3, ⟨1, 1, (Value.int IntKind.u8 0), (TypeDesc.int IntKind.u8)⟩) := by kernel_rfl
theorem bu7 (ps : List (Nat × AV)) (K : AV → Prop) : buildA Try.prog 7 ps K = (zeroOK ⟨4, 24, (Value.agg #[(Value.int IntKind.i64 0), (Value.int IntKind.i64 0), (Value.bool false), (Value.int IntKind.u8 0)]), (TypeDesc.struct #[{ name := "x", type := 2, offset := 0, embedded := false, tag := "", pkgPath := "runtime", byteOffset := 0 }, { name := "y", type := 3, offset := 1, embedded := false, tag := "", pkgPath := "runtime", byteOffset := 8 }, { name := "signed", type := 4, offset := 2, embedded := false, tag := "", pkgPath := "runtime", byteOffset := 16 }, { name := "code", type := 6, offset := 3, embedded := false, tag := "", pkgPath := "runtime", byteOffset := 17 }])⟩ = true ∧ Ty.isAgg ⟨4, 24, (Value.agg #[(Value.int IntKind.i64 0), (Value.int IntKind.i64 0), (Value.bool false), (Value.int IntKind.u8 0)]), (TypeDesc.struct #[{ name := "x", type := 2, offset := 0, embedded := false, tag := "", pkgPath := "runtime", byteOffset := 0 }, { name := "y", type := 3, offset := 1, embedded := false, tag := "", pkgPath := "runtime", byteOffset := 8 }, { name := "signed", type := 4, offset := 2, embedded := false, tag := "", pkgPath := "runtime", byteOffset := 16 }, { name := "code", type := 6, offset := 3, embedded := false, tag := "", pkgPath := "runtime", byteOffset := 17 }])⟩ = true ∧ fieldsKnown Try.prog 7 = true ∧ fillF Try.prog 7 (zeroOf ⟨4, 24, (Value.agg #[(Value.int IntKind.i64 0), (Value.int IntKind.i64 0), (Value.bool false), (Value.int IntKind.u8 0)]), (TypeDesc.struct #[{ name := "x", type := 2, offset := 0, embedded := false, tag := "", pkgPath := "runtime", byteOffset := 0 }, { name := "y", type := 3, offset := 1, embedded := false, tag := "", pkgPath := "runtime", byteOffset := 8 }, { name := "signed", type := 4, offset := 2, embedded := false, tag := "", pkgPath := "runtime", byteOffset := 16 }, { name := "code", type := 6, offset := 3, embedded := false, tag := "", pkgPath := "runtime", byteOffset := 17 }])⟩).cells ps (fun cs => K (.agg cs))) := buildA_struct Try.underlying7 ty7 ps K
theorem fk7 : fieldsKnown Try.prog 7 = true := by kernel_rfl
theorem ty8 : tyOf Try.prog 8 = some ⟨4, 24, (Value.agg #[(Value.int IntKind.i64 0), (Value.int IntKind.i64 0), (Value.bool false), (Value.int IntKind.u8 0)]), (TypeDesc.struct #[{ name := "x", type := 2, offset := 0, embedded := false, tag := "", pkgPath := "runtime", byteOffset := 0 }, { name := "y", type := 3, offset := 1, embedded := false, tag := "", pkgPath := "runtime", byteOffset := 8 }, { name := "signed", type := 4, offset := 2, embedded := false, tag := "", pkgPath := "runtime", byteOffset := 16 }, { name := "code", type := 6, offset := 3, embedded := false, tag := "", pkgPath := "runtime", byteOffset := 17 }])⟩ := by kernel_rfl
theorem zo8 : zeroOf ⟨4, 24, (Value.agg #[(Value.int IntKind.i64 0), (Value.int IntKind.i64 0), (Value.bool false), (Value.int IntKind.u8 0)]), (TypeDesc.struct #[{ name := "x", type := 2, offset := 0, embedded := false, tag := "", pkgPath := "runtime", byteOffset := 0 }, { name := "y", type := 3, offset := 1, embedded := false, tag := "", pkgPath := "runtime", byteOffset := 8 }, { name := "signed", type := 4, offset := 2, embedded := false, tag := "", pkgPath := "runtime", byteOffset := 16 }, { name := "code", type := 6, offset := 3, embedded := false, tag := "", pkgPath := "runtime", byteOffset := 17 }])⟩ = .agg [.val (Value.int IntKind.i64 0), .val (Value.int IntKind.i64 0), .val (Value.bool false), .val (Value.int IntKind.u8 0)] := by simp [zeroOf, ofVal, ofVal0, plain, AV.single]
theorem zk8 : zeroOK ⟨4, 24, (Value.agg #[(Value.int IntKind.i64 0), (Value.int IntKind.i64 0), (Value.bool false), (Value.int IntKind.u8 0)]), (TypeDesc.struct #[{ name := "x", type := 2, offset := 0, embedded := false, tag := "", pkgPath := "runtime", byteOffset := 0 }, { name := "y", type := 3, offset := 1, embedded := false, tag := "", pkgPath := "runtime", byteOffset := 8 }, { name := "signed", type := 4, offset := 2, embedded := false, tag := "", pkgPath := "runtime", byteOffset := 16 }, { name := "code", type := 6, offset := 3, embedded := false, tag := "", pkgPath := "runtime", byteOffset := 17 }])⟩ = true := by simp [zeroOK, zo8, allOne, AV.cells, AV.single]
theorem fl8_0 : fldOf Try.prog 8 0 = some (0, ⟨1, 8, (Value.int IntKind.i64 0), (TypeDesc.int IntKind.i64)⟩) := by kernel_rfl
theorem fl8_1 : fldOf Try.prog 8 1 = some (1, ⟨1, 8, (Value.int IntKind.i64 0), (TypeDesc.int IntKind.i64)⟩) := by kernel_rfl
theorem fl8_2 : fldOf Try.prog 8 2 = some (2, ⟨1, 1, (Value.bool false), TypeDesc.bool⟩) := by kernel_rfl
theorem fl8_3 : fldOf Try.prog 8 3 = some (3, ⟨1, 1, (Value.int IntKind.u8 0), (TypeDesc.int IntKind.u8)⟩) := by kernel_rfl
theorem bu8 (ps : List (Nat × AV)) (K : AV → Prop) : buildA Try.prog 8 ps K = (zeroOK ⟨4, 24, (Value.agg #[(Value.int IntKind.i64 0), (Value.int IntKind.i64 0), (Value.bool false), (Value.int IntKind.u8 0)]), (TypeDesc.struct #[{ name := "x", type := 2, offset := 0, embedded := false, tag := "", pkgPath := "runtime", byteOffset := 0 }, { name := "y", type := 3, offset := 1, embedded := false, tag := "", pkgPath := "runtime", byteOffset := 8 }, { name := "signed", type := 4, offset := 2, embedded := false, tag := "", pkgPath := "runtime", byteOffset := 16 }, { name := "code", type := 6, offset := 3, embedded := false, tag := "", pkgPath := "runtime", byteOffset := 17 }])⟩ = true ∧ Ty.isAgg ⟨4, 24, (Value.agg #[(Value.int IntKind.i64 0), (Value.int IntKind.i64 0), (Value.bool false), (Value.int IntKind.u8 0)]), (TypeDesc.struct #[{ name := "x", type := 2, offset := 0, embedded := false, tag := "", pkgPath := "runtime", byteOffset := 0 }, { name := "y", type := 3, offset := 1, embedded := false, tag := "", pkgPath := "runtime", byteOffset := 8 }, { name := "signed", type := 4, offset := 2, embedded := false, tag := "", pkgPath := "runtime", byteOffset := 16 }, { name := "code", type := 6, offset := 3, embedded := false, tag := "", pkgPath := "runtime", byteOffset := 17 }])⟩ = true ∧ fieldsKnown Try.prog 8 = true ∧ fillF Try.prog 8 (zeroOf ⟨4, 24, (Value.agg #[(Value.int IntKind.i64 0), (Value.int IntKind.i64 0), (Value.bool false), (Value.int IntKind.u8 0)]), (TypeDesc.struct #[{ name := "x", type := 2, offset := 0, embedded := false, tag := "", pkgPath := "runtime", byteOffset := 0 }, { name := "y", type := 3, offset := 1, embedded := false, tag := "", pkgPath := "runtime", byteOffset := 8 }, { name := "signed", type := 4, offset := 2, embedded := false, tag := "", pkgPath := "runtime", byteOffset := 16 }, { name := "code", type := 6, offset := 3, embedded := false, tag := "", pkgPath := "runtime", byteOffset := 17 }])⟩).cells ps (fun cs => K (.agg cs))) := buildA_struct Try.underlying8 ty8 ps K
theorem fk8 : fieldsKnown Try.prog 8 = true := by kernel_rfl
theorem ty9 : tyOf Try.prog 9 = some ⟨1, 16, (Value.string { data := #[] }), TypeDesc.string⟩ := by kernel_rfl
theorem zo9 : zeroOf ⟨1, 16, (Value.string { data := #[] }), TypeDesc.string⟩ = .val (Value.string { data := #[] }) := by simp [zeroOf, ofVal, ofVal0, plain, AV.single]
theorem zk9 : zeroOK ⟨1, 16, (Value.string { data := #[] }), TypeDesc.string⟩ = true := by simp [zeroOK, zo9, allOne, AV.cells, AV.single]
theorem ty10 : tyOf Try.prog 10 = some ⟨1, 16, (Value.string { data := #[] }), TypeDesc.string⟩ := by kernel_rfl
theorem zo10 : zeroOf ⟨1, 16, (Value.string { data := #[] }), TypeDesc.string⟩ = .val (Value.string { data := #[] }) := by simp [zeroOf, ofVal, ofVal0, plain, AV.single]
theorem zk10 : zeroOK ⟨1, 16, (Value.string { data := #[] }), TypeDesc.string⟩ = true := by simp [zeroOK, zo10, allOne, AV.cells, AV.single]
theorem ty11 : tyOf Try.prog 11 = some ⟨1, 16, (Value.string { data := #[] }), TypeDesc.string⟩ := by kernel_rfl
theorem zo11 : zeroOf ⟨1, 16, (Value.string { data := #[] }), TypeDesc.string⟩ = .val (Value.string { data := #[] }) := by simp [zeroOf, ofVal, ofVal0, plain, AV.single]
theorem zk11 : zeroOK ⟨1, 16, (Value.string { data := #[] }), TypeDesc.string⟩ = true := by simp [zeroOK, zo11, allOne, AV.cells, AV.single]
theorem ty12 : tyOf Try.prog 12 = some ⟨1, 8, (Value.int IntKind.u64 0), (TypeDesc.int IntKind.u64)⟩ := by kernel_rfl
theorem zo12 : zeroOf ⟨1, 8, (Value.int IntKind.u64 0), (TypeDesc.int IntKind.u64)⟩ = .val (Value.int IntKind.u64 0) := by simp [zeroOf, ofVal, ofVal0, plain, AV.single]
theorem zk12 : zeroOK ⟨1, 8, (Value.int IntKind.u64 0), (TypeDesc.int IntKind.u64)⟩ = true := by simp [zeroOK, zo12, allOne, AV.cells, AV.single]
theorem ty13 : tyOf Try.prog 13 = some ⟨2, 24, (Value.agg #[(Value.string { data := #[] }), (Value.int IntKind.u64 0)]), (TypeDesc.struct #[{ name := "msg", type := 9, offset := 0, embedded := false, tag := "", pkgPath := "runtime", byteOffset := 0 }, { name := "addr", type := 12, offset := 1, embedded := false, tag := "", pkgPath := "runtime", byteOffset := 16 }])⟩ := by kernel_rfl
theorem zo13 : zeroOf ⟨2, 24, (Value.agg #[(Value.string { data := #[] }), (Value.int IntKind.u64 0)]), (TypeDesc.struct #[{ name := "msg", type := 9, offset := 0, embedded := false, tag := "", pkgPath := "runtime", byteOffset := 0 }, { name := "addr", type := 12, offset := 1, embedded := false, tag := "", pkgPath := "runtime", byteOffset := 16 }])⟩ = .agg [.val (Value.string { data := #[] }), .val (Value.int IntKind.u64 0)] := by simp [zeroOf, ofVal, ofVal0, plain, AV.single]
theorem zk13 : zeroOK ⟨2, 24, (Value.agg #[(Value.string { data := #[] }), (Value.int IntKind.u64 0)]), (TypeDesc.struct #[{ name := "msg", type := 9, offset := 0, embedded := false, tag := "", pkgPath := "runtime", byteOffset := 0 }, { name := "addr", type := 12, offset := 1, embedded := false, tag := "", pkgPath := "runtime", byteOffset := 16 }])⟩ = true := by simp [zeroOK, zo13, allOne, AV.cells, AV.single]
theorem fl13_0 : fldOf Try.prog 13 0 = some (0, ⟨1, 16, (Value.string { data := #[] }), TypeDesc.string⟩) := by kernel_rfl
theorem fl13_1 : fldOf Try.prog 13 1 = some (1, ⟨1, 8, (Value.int IntKind.u64 0), (TypeDesc.int IntKind.u64)⟩) := by kernel_rfl
theorem bu13 (ps : List (Nat × AV)) (K : AV → Prop) : buildA Try.prog 13 ps K = (zeroOK ⟨2, 24, (Value.agg #[(Value.string { data := #[] }), (Value.int IntKind.u64 0)]), (TypeDesc.struct #[{ name := "msg", type := 9, offset := 0, embedded := false, tag := "", pkgPath := "runtime", byteOffset := 0 }, { name := "addr", type := 12, offset := 1, embedded := false, tag := "", pkgPath := "runtime", byteOffset := 16 }])⟩ = true ∧ Ty.isAgg ⟨2, 24, (Value.agg #[(Value.string { data := #[] }), (Value.int IntKind.u64 0)]), (TypeDesc.struct #[{ name := "msg", type := 9, offset := 0, embedded := false, tag := "", pkgPath := "runtime", byteOffset := 0 }, { name := "addr", type := 12, offset := 1, embedded := false, tag := "", pkgPath := "runtime", byteOffset := 16 }])⟩ = true ∧ fieldsKnown Try.prog 13 = true ∧ fillF Try.prog 13 (zeroOf ⟨2, 24, (Value.agg #[(Value.string { data := #[] }), (Value.int IntKind.u64 0)]), (TypeDesc.struct #[{ name := "msg", type := 9, offset := 0, embedded := false, tag := "", pkgPath := "runtime", byteOffset := 0 }, { name := "addr", type := 12, offset := 1, embedded := false, tag := "", pkgPath := "runtime", byteOffset := 16 }])⟩).cells ps (fun cs => K (.agg cs))) := buildA_struct Try.underlying13 ty13 ps K
theorem fk13 : fieldsKnown Try.prog 13 = true := by kernel_rfl
theorem ty14 : tyOf Try.prog 14 = some ⟨2, 24, (Value.agg #[(Value.string { data := #[] }), (Value.int IntKind.u64 0)]), (TypeDesc.struct #[{ name := "msg", type := 9, offset := 0, embedded := false, tag := "", pkgPath := "runtime", byteOffset := 0 }, { name := "addr", type := 12, offset := 1, embedded := false, tag := "", pkgPath := "runtime", byteOffset := 16 }])⟩ := by kernel_rfl
theorem zo14 : zeroOf ⟨2, 24, (Value.agg #[(Value.string { data := #[] }), (Value.int IntKind.u64 0)]), (TypeDesc.struct #[{ name := "msg", type := 9, offset := 0, embedded := false, tag := "", pkgPath := "runtime", byteOffset := 0 }, { name := "addr", type := 12, offset := 1, embedded := false, tag := "", pkgPath := "runtime", byteOffset := 16 }])⟩ = .agg [.val (Value.string { data := #[] }), .val (Value.int IntKind.u64 0)] := by simp [zeroOf, ofVal, ofVal0, plain, AV.single]
theorem zk14 : zeroOK ⟨2, 24, (Value.agg #[(Value.string { data := #[] }), (Value.int IntKind.u64 0)]), (TypeDesc.struct #[{ name := "msg", type := 9, offset := 0, embedded := false, tag := "", pkgPath := "runtime", byteOffset := 0 }, { name := "addr", type := 12, offset := 1, embedded := false, tag := "", pkgPath := "runtime", byteOffset := 16 }])⟩ = true := by simp [zeroOK, zo14, allOne, AV.cells, AV.single]
theorem fl14_0 : fldOf Try.prog 14 0 = some (0, ⟨1, 16, (Value.string { data := #[] }), TypeDesc.string⟩) := by kernel_rfl
theorem fl14_1 : fldOf Try.prog 14 1 = some (1, ⟨1, 8, (Value.int IntKind.u64 0), (TypeDesc.int IntKind.u64)⟩) := by kernel_rfl
theorem bu14 (ps : List (Nat × AV)) (K : AV → Prop) : buildA Try.prog 14 ps K = (zeroOK ⟨2, 24, (Value.agg #[(Value.string { data := #[] }), (Value.int IntKind.u64 0)]), (TypeDesc.struct #[{ name := "msg", type := 9, offset := 0, embedded := false, tag := "", pkgPath := "runtime", byteOffset := 0 }, { name := "addr", type := 12, offset := 1, embedded := false, tag := "", pkgPath := "runtime", byteOffset := 16 }])⟩ = true ∧ Ty.isAgg ⟨2, 24, (Value.agg #[(Value.string { data := #[] }), (Value.int IntKind.u64 0)]), (TypeDesc.struct #[{ name := "msg", type := 9, offset := 0, embedded := false, tag := "", pkgPath := "runtime", byteOffset := 0 }, { name := "addr", type := 12, offset := 1, embedded := false, tag := "", pkgPath := "runtime", byteOffset := 16 }])⟩ = true ∧ fieldsKnown Try.prog 14 = true ∧ fillF Try.prog 14 (zeroOf ⟨2, 24, (Value.agg #[(Value.string { data := #[] }), (Value.int IntKind.u64 0)]), (TypeDesc.struct #[{ name := "msg", type := 9, offset := 0, embedded := false, tag := "", pkgPath := "runtime", byteOffset := 0 }, { name := "addr", type := 12, offset := 1, embedded := false, tag := "", pkgPath := "runtime", byteOffset := 16 }])⟩).cells ps (fun cs => K (.agg cs))) := buildA_struct Try.underlying14 ty14 ps K
theorem fk14 : fieldsKnown Try.prog 14 = true := by kernel_rfl
theorem ty15 : tyOf Try.prog 15 = some ⟨1, 8, (Value.pointer none), (TypeDesc.pointer 136)⟩ := by kernel_rfl
theorem zo15 : zeroOf ⟨1, 8, (Value.pointer none), (TypeDesc.pointer 136)⟩ = .val (Value.pointer none) := by simp [zeroOf, ofVal, ofVal0, plain, AV.single]
theorem zk15 : zeroOK ⟨1, 8, (Value.pointer none), (TypeDesc.pointer 136)⟩ = true := by simp [zeroOK, zo15, allOne, AV.cells, AV.single]
theorem ty16 : tyOf Try.prog 16 = some ⟨1, 8, (Value.pointer none), (TypeDesc.pointer 139)⟩ := by kernel_rfl
theorem zo16 : zeroOf ⟨1, 8, (Value.pointer none), (TypeDesc.pointer 139)⟩ = .val (Value.pointer none) := by simp [zeroOf, ofVal, ofVal0, plain, AV.single]
theorem zk16 : zeroOK ⟨1, 8, (Value.pointer none), (TypeDesc.pointer 139)⟩ = true := by simp [zeroOK, zo16, allOne, AV.cells, AV.single]
theorem ty17 : tyOf Try.prog 17 = some ⟨1, 8, (Value.pointer none), (TypeDesc.pointer 148)⟩ := by kernel_rfl
theorem zo17 : zeroOf ⟨1, 8, (Value.pointer none), (TypeDesc.pointer 148)⟩ = .val (Value.pointer none) := by simp [zeroOf, ofVal, ofVal0, plain, AV.single]
theorem zk17 : zeroOK ⟨1, 8, (Value.pointer none), (TypeDesc.pointer 148)⟩ = true := by simp [zeroOK, zo17, allOne, AV.cells, AV.single]
theorem ty18 : tyOf Try.prog 18 = some ⟨1, 8, (Value.agg #[(Value.pointer none)]), (TypeDesc.struct #[{ name := "typ", type := 17, offset := 0, embedded := false, tag := "", pkgPath := "internal/runtime/maps", byteOffset := 0 }])⟩ := by kernel_rfl
theorem zo18 : zeroOf ⟨1, 8, (Value.agg #[(Value.pointer none)]), (TypeDesc.struct #[{ name := "typ", type := 17, offset := 0, embedded := false, tag := "", pkgPath := "internal/runtime/maps", byteOffset := 0 }])⟩ = .agg [.val (Value.pointer none)] := by simp [zeroOf, ofVal, ofVal0, plain, AV.single]
theorem zk18 : zeroOK ⟨1, 8, (Value.agg #[(Value.pointer none)]), (TypeDesc.struct #[{ name := "typ", type := 17, offset := 0, embedded := false, tag := "", pkgPath := "internal/runtime/maps", byteOffset := 0 }])⟩ = true := by simp [zeroOK, zo18, allOne, AV.cells, AV.single]
theorem fl18_0 : fldOf Try.prog 18 0 = some (0, ⟨1, 8, (Value.pointer none), (TypeDesc.pointer 148)⟩) := by kernel_rfl
theorem bu18 (ps : List (Nat × AV)) (K : AV → Prop) : buildA Try.prog 18 ps K = (zeroOK ⟨1, 8, (Value.agg #[(Value.pointer none)]), (TypeDesc.struct #[{ name := "typ", type := 17, offset := 0, embedded := false, tag := "", pkgPath := "internal/runtime/maps", byteOffset := 0 }])⟩ = true ∧ Ty.isAgg ⟨1, 8, (Value.agg #[(Value.pointer none)]), (TypeDesc.struct #[{ name := "typ", type := 17, offset := 0, embedded := false, tag := "", pkgPath := "internal/runtime/maps", byteOffset := 0 }])⟩ = true ∧ fieldsKnown Try.prog 18 = true ∧ fillF Try.prog 18 (zeroOf ⟨1, 8, (Value.agg #[(Value.pointer none)]), (TypeDesc.struct #[{ name := "typ", type := 17, offset := 0, embedded := false, tag := "", pkgPath := "internal/runtime/maps", byteOffset := 0 }])⟩).cells ps (fun cs => K (.agg cs))) := buildA_struct Try.underlying18 ty18 ps K
theorem fk18 : fieldsKnown Try.prog 18 = true := by kernel_rfl
theorem ty19 : tyOf Try.prog 19 = some ⟨1, 8, (Value.agg #[(Value.pointer none)]), (TypeDesc.struct #[{ name := "typ", type := 17, offset := 0, embedded := false, tag := "", pkgPath := "internal/runtime/maps", byteOffset := 0 }])⟩ := by kernel_rfl
theorem zo19 : zeroOf ⟨1, 8, (Value.agg #[(Value.pointer none)]), (TypeDesc.struct #[{ name := "typ", type := 17, offset := 0, embedded := false, tag := "", pkgPath := "internal/runtime/maps", byteOffset := 0 }])⟩ = .agg [.val (Value.pointer none)] := by simp [zeroOf, ofVal, ofVal0, plain, AV.single]
theorem zk19 : zeroOK ⟨1, 8, (Value.agg #[(Value.pointer none)]), (TypeDesc.struct #[{ name := "typ", type := 17, offset := 0, embedded := false, tag := "", pkgPath := "internal/runtime/maps", byteOffset := 0 }])⟩ = true := by simp [zeroOK, zo19, allOne, AV.cells, AV.single]
theorem fl19_0 : fldOf Try.prog 19 0 = some (0, ⟨1, 8, (Value.pointer none), (TypeDesc.pointer 148)⟩) := by kernel_rfl
theorem bu19 (ps : List (Nat × AV)) (K : AV → Prop) : buildA Try.prog 19 ps K = (zeroOK ⟨1, 8, (Value.agg #[(Value.pointer none)]), (TypeDesc.struct #[{ name := "typ", type := 17, offset := 0, embedded := false, tag := "", pkgPath := "internal/runtime/maps", byteOffset := 0 }])⟩ = true ∧ Ty.isAgg ⟨1, 8, (Value.agg #[(Value.pointer none)]), (TypeDesc.struct #[{ name := "typ", type := 17, offset := 0, embedded := false, tag := "", pkgPath := "internal/runtime/maps", byteOffset := 0 }])⟩ = true ∧ fieldsKnown Try.prog 19 = true ∧ fillF Try.prog 19 (zeroOf ⟨1, 8, (Value.agg #[(Value.pointer none)]), (TypeDesc.struct #[{ name := "typ", type := 17, offset := 0, embedded := false, tag := "", pkgPath := "internal/runtime/maps", byteOffset := 0 }])⟩).cells ps (fun cs => K (.agg cs))) := buildA_struct Try.underlying19 ty19 ps K
theorem fk19 : fieldsKnown Try.prog 19 = true := by kernel_rfl
theorem ty20 : tyOf Try.prog 20 = some ⟨1, 16, Value.nilIface, (TypeDesc.interface #[])⟩ := by kernel_rfl
theorem zo20 : zeroOf ⟨1, 16, Value.nilIface, (TypeDesc.interface #[])⟩ = .val Value.nilIface := by simp [zeroOf, ofVal, ofVal0, plain, AV.single]
theorem zk20 : zeroOK ⟨1, 16, Value.nilIface, (TypeDesc.interface #[])⟩ = true := by simp [zeroOK, zo20, allOne, AV.cells, AV.single]
theorem ty21 : tyOf Try.prog 21 = some ⟨1, 4, (Value.int IntKind.i32 0), (TypeDesc.int IntKind.i32)⟩ := by kernel_rfl
theorem zo21 : zeroOf ⟨1, 4, (Value.int IntKind.i32 0), (TypeDesc.int IntKind.i32)⟩ = .val (Value.int IntKind.i32 0) := by simp [zeroOf, ofVal, ofVal0, plain, AV.single]
theorem zk21 : zeroOK ⟨1, 4, (Value.int IntKind.i32 0), (TypeDesc.int IntKind.i32)⟩ = true := by simp [zeroOK, zo21, allOne, AV.cells, AV.single]
theorem ty22 : tyOf Try.prog 22 = some ⟨1, 24, (Value.slice none 0 0), (TypeDesc.slice 5)⟩ := by kernel_rfl
theorem zo22 : zeroOf ⟨1, 24, (Value.slice none 0 0), (TypeDesc.slice 5)⟩ = .sl true [] := by simp [zeroOf, ofVal, ofVal0, plain, AV.single]
theorem zk22 : zeroOK ⟨1, 24, (Value.slice none 0 0), (TypeDesc.slice 5)⟩ = true := by simp [zeroOK, zo22, allOne, AV.cells, AV.single]
theorem el22 : elemOfSlice Try.prog 22 = some (5, ⟨1, 1, (Value.int IntKind.u8 0), (TypeDesc.int IntKind.u8)⟩) := by kernel_rfl
theorem ty23 : tyOf Try.prog 23 = some ⟨1, 8, Value.nilFunc, (TypeDesc.func #[] #[4] false)⟩ := by kernel_rfl
theorem zo23 : zeroOf ⟨1, 8, Value.nilFunc, (TypeDesc.func #[] #[4] false)⟩ = .val Value.nilFunc := by simp [zeroOf, ofVal, ofVal0, plain, AV.single]
theorem zk23 : zeroOK ⟨1, 8, Value.nilFunc, (TypeDesc.func #[] #[4] false)⟩ = true := by simp [zeroOK, zo23, allOne, AV.cells, AV.single]
theorem ty24 : tyOf Try.prog 24 = some ⟨1, 8, Value.nilFunc, (TypeDesc.func #[22] #[22] false)⟩ := by kernel_rfl
theorem zo24 : zeroOf ⟨1, 8, Value.nilFunc, (TypeDesc.func #[22] #[22] false)⟩ = .val Value.nilFunc := by simp [zeroOf, ofVal, ofVal0, plain, AV.single]
theorem zk24 : zeroOK ⟨1, 8, Value.nilFunc, (TypeDesc.func #[22] #[22] false)⟩ = true := by simp [zeroOK, zo24, allOne, AV.cells, AV.single]
theorem ty25 : tyOf Try.prog 25 = some ⟨1, 24, (Value.slice none 0 0), (TypeDesc.slice 22)⟩ := by kernel_rfl
theorem zo25 : zeroOf ⟨1, 24, (Value.slice none 0 0), (TypeDesc.slice 22)⟩ = .sl true [] := by simp [zeroOf, ofVal, ofVal0, plain, AV.single]
theorem zk25 : zeroOK ⟨1, 24, (Value.slice none 0 0), (TypeDesc.slice 22)⟩ = true := by simp [zeroOK, zo25, allOne, AV.cells, AV.single]
theorem el25 : elemOfSlice Try.prog 25 = some (22, ⟨1, 24, (Value.slice none 0 0), (TypeDesc.slice 5)⟩) := by kernel_rfl
theorem ty26 : tyOf Try.prog 26 = some ⟨1, 0, (Value.tuple #[(Value.slice none 0 0), (Value.int IntKind.i64 0)]), (TypeDesc.tuple #[25, 3])⟩ := by kernel_rfl
theorem ty27 : tyOf Try.prog 27 = some ⟨1, 8, Value.nilFunc, (TypeDesc.func #[22] #[25, 3] false)⟩ := by kernel_rfl
theorem zo27 : zeroOf ⟨1, 8, Value.nilFunc, (TypeDesc.func #[22] #[25, 3] false)⟩ = .val Value.nilFunc := by simp [zeroOf, ofVal, ofVal0, plain, AV.single]
theorem zk27 : zeroOK ⟨1, 8, Value.nilFunc, (TypeDesc.func #[22] #[25, 3] false)⟩ = true := by simp [zeroOK, zo27, allOne, AV.cells, AV.single]
theorem ty28 : tyOf Try.prog 28 = some ⟨1, 8, Value.nilFunc, (TypeDesc.func #[22, 22, 3, 22] #[4] false)⟩ := by kernel_rfl
theorem zo28 : zeroOf ⟨1, 8, Value.nilFunc, (TypeDesc.func #[22, 22, 3, 22] #[4] false)⟩ = .val Value.nilFunc := by simp [zeroOf, ofVal, ofVal0, plain, AV.single]
theorem zk28 : zeroOK ⟨1, 8, Value.nilFunc, (TypeDesc.func #[22, 22, 3, 22] #[4] false)⟩ = true := by simp [zeroOK, zo28, allOne, AV.cells, AV.single]
theorem ty29 : tyOf Try.prog 29 = some ⟨1, 24, (Value.slice none 0 0), (TypeDesc.slice 39)⟩ := by kernel_rfl
theorem zo29 : zeroOf ⟨1, 24, (Value.slice none 0 0), (TypeDesc.slice 39)⟩ = .sl true [] := by simp [zeroOf, ofVal, ofVal0, plain, AV.single]
theorem zk29 : zeroOK ⟨1, 24, (Value.slice none 0 0), (TypeDesc.slice 39)⟩ = true := by simp [zeroOK, zo29, allOne, AV.cells, AV.single]
theorem el29 : elemOfSlice Try.prog 29 = some (39, ⟨3, 40, (Value.agg #[(Value.bool false), (Value.int IntKind.i64 0), (Value.slice none 0 0)]), (TypeDesc.struct #[{ name := "Flush", type := 4, offset := 0, embedded := false, tag := "", pkgPath := "", byteOffset := 0 }, { name := "At", type := 3, offset := 1, embedded := false, tag := "", pkgPath := "", byteOffset := 8 }, { name := "Bytes", type := 22, offset := 2, embedded := false, tag := "", pkgPath := "", byteOffset := 16 }])⟩) := by kernel_rfl
theorem ty30 : tyOf Try.prog 30 = some ⟨2, 48, (Value.agg #[(Value.slice none 0 0), (Value.slice none 0 0)]), (TypeDesc.struct #[{ name := "Bytes", type := 22, offset := 0, embedded := false, tag := "", pkgPath := "", byteOffset := 0 }, { name := "Queue", type := 29, offset := 1, embedded := false, tag := "", pkgPath := "", byteOffset := 24 }])⟩ := by kernel_rfl
theorem zo30 : zeroOf ⟨2, 48, (Value.agg #[(Value.slice none 0 0), (Value.slice none 0 0)]), (TypeDesc.struct #[{ name := "Bytes", type := 22, offset := 0, embedded := false, tag := "", pkgPath := "", byteOffset := 0 }, { name := "Queue", type := 29, offset := 1, embedded := false, tag := "", pkgPath := "", byteOffset := 24 }])⟩ = .agg [.sl true [], .sl true []] := by simp [zeroOf, ofVal, ofVal0, plain, AV.single]
theorem zk30 : zeroOK ⟨2, 48, (Value.agg #[(Value.slice none 0 0), (Value.slice none 0 0)]), (TypeDesc.struct #[{ name := "Bytes", type := 22, offset := 0, embedded := false, tag := "", pkgPath := "", byteOffset := 0 }, { name := "Queue", type := 29, offset := 1, embedded := false, tag := "", pkgPath := "", byteOffset := 24 }])⟩ = true := by simp [zeroOK, zo30, allOne, AV.cells, AV.single]
theorem fl30_0 : fldOf Try.prog 30 0 = some (0, ⟨1, 24, (Value.slice none 0 0), (TypeDesc.slice 5)⟩) := by kernel_rfl
theorem fl30_1 : fldOf Try.prog 30 1 = some (1, ⟨1, 24, (Value.slice none 0 0), (TypeDesc.slice 39)⟩) := by kernel_rfl
theorem bu30 (ps : List (Nat × AV)) (K : AV → Prop) : buildA Try.prog 30 ps K = (zeroOK ⟨2, 48, (Value.agg #[(Value.slice none 0 0), (Value.slice none 0 0)]), (TypeDesc.struct #[{ name := "Bytes", type := 22, offset := 0, embedded := false, tag := "", pkgPath := "", byteOffset := 0 }, { name := "Queue", type := 29, offset := 1, embedded := false, tag := "", pkgPath := "", byteOffset := 24 }])⟩ = true ∧ Ty.isAgg ⟨2, 48, (Value.agg #[(Value.slice none 0 0), (Value.slice none 0 0)]), (TypeDesc.struct #[{ name := "Bytes", type := 22, offset := 0, embedded := false, tag := "", pkgPath := "", byteOffset := 0 }, { name := "Queue", type := 29, offset := 1, embedded := false, tag := "", pkgPath := "", byteOffset := 24 }])⟩ = true ∧ fieldsKnown Try.prog 30 = true ∧ fillF Try.prog 30 (zeroOf ⟨2, 48, (Value.agg #[(Value.slice none 0 0), (Value.slice none 0 0)]), (TypeDesc.struct #[{ name := "Bytes", type := 22, offset := 0, embedded := false, tag := "", pkgPath := "", byteOffset := 0 }, { name := "Queue", type := 29, offset := 1, embedded := false, tag := "", pkgPath := "", byteOffset := 24 }])⟩).cells ps (fun cs => K (.agg cs))) := buildA_struct Try.underlying30 ty30 ps K
theorem fk30 : fieldsKnown Try.prog 30 = true := by kernel_rfl
theorem ty31 : tyOf Try.prog 31 = some ⟨2, 48, (Value.agg #[(Value.slice none 0 0), (Value.slice none 0 0)]), (TypeDesc.struct #[{ name := "Bytes", type := 22, offset := 0, embedded := false, tag := "", pkgPath := "", byteOffset := 0 }, { name := "Queue", type := 29, offset := 1, embedded := false, tag := "", pkgPath := "", byteOffset := 24 }])⟩ := by kernel_rfl
theorem zo31 : zeroOf ⟨2, 48, (Value.agg #[(Value.slice none 0 0), (Value.slice none 0 0)]), (TypeDesc.struct #[{ name := "Bytes", type := 22, offset := 0, embedded := false, tag := "", pkgPath := "", byteOffset := 0 }, { name := "Queue", type := 29, offset := 1, embedded := false, tag := "", pkgPath := "", byteOffset := 24 }])⟩ = .agg [.sl true [], .sl true []] := by simp [zeroOf, ofVal, ofVal0, plain, AV.single]
theorem zk31 : zeroOK ⟨2, 48, (Value.agg #[(Value.slice none 0 0), (Value.slice none 0 0)]), (TypeDesc.struct #[{ name := "Bytes", type := 22, offset := 0, embedded := false, tag := "", pkgPath := "", byteOffset := 0 }, { name := "Queue", type := 29, offset := 1, embedded := false, tag := "", pkgPath := "", byteOffset := 24 }])⟩ = true := by simp [zeroOK, zo31, allOne, AV.cells, AV.single]
theorem fl31_0 : fldOf Try.prog 31 0 = some (0, ⟨1, 24, (Value.slice none 0 0), (TypeDesc.slice 5)⟩) := by kernel_rfl
theorem fl31_1 : fldOf Try.prog 31 1 = some (1, ⟨1, 24, (Value.slice none 0 0), (TypeDesc.slice 39)⟩) := by kernel_rfl
theorem bu31 (ps : List (Nat × AV)) (K : AV → Prop) : buildA Try.prog 31 ps K = (zeroOK ⟨2, 48, (Value.agg #[(Value.slice none 0 0), (Value.slice none 0 0)]), (TypeDesc.struct #[{ name := "Bytes", type := 22, offset := 0, embedded := false, tag := "", pkgPath := "", byteOffset := 0 }, { name := "Queue", type := 29, offset := 1, embedded := false, tag := "", pkgPath := "", byteOffset := 24 }])⟩ = true ∧ Ty.isAgg ⟨2, 48, (Value.agg #[(Value.slice none 0 0), (Value.slice none 0 0)]), (TypeDesc.struct #[{ name := "Bytes", type := 22, offset := 0, embedded := false, tag := "", pkgPath := "", byteOffset := 0 }, { name := "Queue", type := 29, offset := 1, embedded := false, tag := "", pkgPath := "", byteOffset := 24 }])⟩ = true ∧ fieldsKnown Try.prog 31 = true ∧ fillF Try.prog 31 (zeroOf ⟨2, 48, (Value.agg #[(Value.slice none 0 0), (Value.slice none 0 0)]), (TypeDesc.struct #[{ name := "Bytes", type := 22, offset := 0, embedded := false, tag := "", pkgPath := "", byteOffset := 0 }, { name := "Queue", type := 29, offset := 1, embedded := false, tag := "", pkgPath := "", byteOffset := 24 }])⟩).cells ps (fun cs => K (.agg cs))) := buildA_struct Try.underlying31 ty31 ps K
theorem fk31 : fieldsKnown Try.prog 31 = true := by kernel_rfl
theorem ty32 : tyOf Try.prog 32 = some ⟨1, 24, (Value.slice none 0 0), (TypeDesc.slice 3)⟩ := by kernel_rfl
theorem zo32 : zeroOf ⟨1, 24, (Value.slice none 0 0), (TypeDesc.slice 3)⟩ = .sl true [] := by simp [zeroOf, ofVal, ofVal0, plain, AV.single]
theorem zk32 : zeroOK ⟨1, 24, (Value.slice none 0 0), (TypeDesc.slice 3)⟩ = true := by simp [zeroOK, zo32, allOne, AV.cells, AV.single]
theorem el32 : elemOfSlice Try.prog 32 = some (3, ⟨1, 8, (Value.int IntKind.i64 0), (TypeDesc.int IntKind.i64)⟩) := by kernel_rfl
theorem ty33 : tyOf Try.prog 33 = some ⟨1, 8, Value.nilFunc, (TypeDesc.func #[31] #[4] false)⟩ := by kernel_rfl
theorem zo33 : zeroOf ⟨1, 8, Value.nilFunc, (TypeDesc.func #[31] #[4] false)⟩ = .val Value.nilFunc := by simp [zeroOf, ofVal, ofVal0, plain, AV.single]
theorem zk33 : zeroOK ⟨1, 8, Value.nilFunc, (TypeDesc.func #[31] #[4] false)⟩ = true := by simp [zeroOK, zo33, allOne, AV.cells, AV.single]
theorem ty34 : tyOf Try.prog 34 = some ⟨1, 8, Value.nilFunc, (TypeDesc.func #[29] #[4] false)⟩ := by kernel_rfl
theorem zo34 : zeroOf ⟨1, 8, Value.nilFunc, (TypeDesc.func #[29] #[4] false)⟩ = .val Value.nilFunc := by simp [zeroOf, ofVal, ofVal0, plain, AV.single]
theorem zk34 : zeroOK ⟨1, 8, Value.nilFunc, (TypeDesc.func #[29] #[4] false)⟩ = true := by simp [zeroOK, zo34, allOne, AV.cells, AV.single]
theorem ty35 : tyOf Try.prog 35 = some ⟨1, 8, (Value.int IntKind.i64 0), (TypeDesc.int IntKind.i64)⟩ := by kernel_rfl
theorem zo35 : zeroOf ⟨1, 8, (Value.int IntKind.i64 0), (TypeDesc.int IntKind.i64)⟩ = .val (Value.int IntKind.i64 0) := by simp [zeroOf, ofVal, ofVal0, plain, AV.single]
theorem zk35 : zeroOK ⟨1, 8, (Value.int IntKind.i64 0), (TypeDesc.int IntKind.i64)⟩ = true := by simp [zeroOK, zo35, allOne, AV.cells, AV.single]
theorem ty36 : tyOf Try.prog 36 = some ⟨1, 0, (Value.tuple #[(Value.agg #[(Value.slice none 0 0), (Value.slice none 0 0)]), (Value.int IntKind.i64 0)]), (TypeDesc.tuple #[31, 35])⟩ := by kernel_rfl
theorem ty37 : tyOf Try.prog 37 = some ⟨1, 8, Value.nilFunc, (TypeDesc.func #[31, 29] #[31, 35] false)⟩ := by kernel_rfl
theorem zo37 : zeroOf ⟨1, 8, Value.nilFunc, (TypeDesc.func #[31, 29] #[31, 35] false)⟩ = .val Value.nilFunc := by simp [zeroOf, ofVal, ofVal0, plain, AV.single]
theorem zk37 : zeroOK ⟨1, 8, Value.nilFunc, (TypeDesc.func #[31, 29] #[31, 35] false)⟩ = true := by simp [zeroOK, zo37, allOne, AV.cells, AV.single]
theorem ty38 : tyOf Try.prog 38 = some ⟨3, 40, (Value.agg #[(Value.bool false), (Value.int IntKind.i64 0), (Value.slice none 0 0)]), (TypeDesc.struct #[{ name := "Flush", type := 4, offset := 0, embedded := false, tag := "", pkgPath := "", byteOffset := 0 }, { name := "At", type := 3, offset := 1, embedded := false, tag := "", pkgPath := "", byteOffset := 8 }, { name := "Bytes", type := 22, offset := 2, embedded := false, tag := "", pkgPath := "", byteOffset := 16 }])⟩ := by kernel_rfl
theorem zo38 : zeroOf ⟨3, 40, (Value.agg #[(Value.bool false), (Value.int IntKind.i64 0), (Value.slice none 0 0)]), (TypeDesc.struct #[{ name := "Flush", type := 4, offset := 0, embedded := false, tag := "", pkgPath := "", byteOffset := 0 }, { name := "At", type := 3, offset := 1, embedded := false, tag := "", pkgPath := "", byteOffset := 8 }, { name := "Bytes", type := 22, offset := 2, embedded := false, tag := "", pkgPath := "", byteOffset := 16 }])⟩ = .agg [.val (Value.bool false), .val (Value.int IntKind.i64 0), .sl true []] := by simp [zeroOf, ofVal, ofVal0, plain, AV.single]
theorem zk38 : zeroOK ⟨3, 40, (Value.agg #[(Value.bool false), (Value.int IntKind.i64 0), (Value.slice none 0 0)]), (TypeDesc.struct #[{ name := "Flush", type := 4, offset := 0, embedded := false, tag := "", pkgPath := "", byteOffset := 0 }, { name := "At", type := 3, offset := 1, embedded := false, tag := "", pkgPath := "", byteOffset := 8 }, { name := "Bytes", type := 22, offset := 2, embedded := false, tag := "", pkgPath := "", byteOffset := 16 }])⟩ = true := by simp [zeroOK, zo38, allOne, AV.cells, AV.single]
theorem fl38_0 : fldOf Try.prog 38 0 = some (0, ⟨1, 1, (Value.bool false), TypeDesc.bool⟩) := by kernel_rfl
theorem fl38_1 : fldOf Try.prog 38 1 = some (1, ⟨1, 8, (Value.int IntKind.i64 0), (TypeDesc.int IntKind.i64)⟩) := by kernel_rfl
theorem fl38_2 : fldOf Try.prog 38 2 = some (2, ⟨1, 24, (Value.slice none 0 0), (TypeDesc.slice 5)⟩) := by kernel_rfl
theorem bu38 (ps : List (Nat × AV)) (K : AV → Prop) : buildA Try.prog 38 ps K = (zeroOK ⟨3, 40, (Value.agg #[(Value.bool false), (Value.int IntKind.i64 0), (Value.slice none 0 0)]), (TypeDesc.struct #[{ name := "Flush", type := 4, offset := 0, embedded := false, tag := "", pkgPath := "", byteOffset := 0 }, { name := "At", type := 3, offset := 1, embedded := false, tag := "", pkgPath := "", byteOffset := 8 }, { name := "Bytes", type := 22, offset := 2, embedded := false, tag := "", pkgPath := "", byteOffset := 16 }])⟩ = true ∧ Ty.isAgg ⟨3, 40, (Value.agg #[(Value.bool false), (Value.int IntKind.i64 0), (Value.slice none 0 0)]), (TypeDesc.struct #[{ name := "Flush", type := 4, offset := 0, embedded := false, tag := "", pkgPath := "", byteOffset := 0 }, { name := "At", type := 3, offset := 1, embedded := false, tag := "", pkgPath := "", byteOffset := 8 }, { name := "Bytes", type := 22, offset := 2, embedded := false, tag := "", pkgPath := "", byteOffset := 16 }])⟩ = true ∧ fieldsKnown Try.prog 38 = true ∧ fillF Try.prog 38 (zeroOf ⟨3, 40, (Value.agg #[(Value.bool false), (Value.int IntKind.i64 0), (Value.slice none 0 0)]), (TypeDesc.struct #[{ name := "Flush", type := 4, offset := 0, embedded := false, tag := "", pkgPath := "", byteOffset := 0 }, { name := "At", type := 3, offset := 1, embedded := false, tag := "", pkgPath := "", byteOffset := 8 }, { name := "Bytes", type := 22, offset := 2, embedded := false, tag := "", pkgPath := "", byteOffset := 16 }])⟩).cells ps (fun cs => K (.agg cs))) := buildA_struct Try.underlying38 ty38 ps K
theorem fk38 : fieldsKnown Try.prog 38 = true := by kernel_rfl
theorem ty39 : tyOf Try.prog 39 = some ⟨3, 40, (Value.agg #[(Value.bool false), (Value.int IntKind.i64 0), (Value.slice none 0 0)]), (TypeDesc.struct #[{ name := "Flush", type := 4, offset := 0, embedded := false, tag := "", pkgPath := "", byteOffset := 0 }, { name := "At", type := 3, offset := 1, embedded := false, tag := "", pkgPath := "", byteOffset := 8 }, { name := "Bytes", type := 22, offset := 2, embedded := false, tag := "", pkgPath := "", byteOffset := 16 }])⟩ := by kernel_rfl
theorem zo39 : zeroOf ⟨3, 40, (Value.agg #[(Value.bool false), (Value.int IntKind.i64 0), (Value.slice none 0 0)]), (TypeDesc.struct #[{ name := "Flush", type := 4, offset := 0, embedded := false, tag := "", pkgPath := "", byteOffset := 0 }, { name := "At", type := 3, offset := 1, embedded := false, tag := "", pkgPath := "", byteOffset := 8 }, { name := "Bytes", type := 22, offset := 2, embedded := false, tag := "", pkgPath := "", byteOffset := 16 }])⟩ = .agg [.val (Value.bool false), .val (Value.int IntKind.i64 0), .sl true []] := by simp [zeroOf, ofVal, ofVal0, plain, AV.single]
theorem zk39 : zeroOK ⟨3, 40, (Value.agg #[(Value.bool false), (Value.int IntKind.i64 0), (Value.slice none 0 0)]), (TypeDesc.struct #[{ name := "Flush", type := 4, offset := 0, embedded := false, tag := "", pkgPath := "", byteOffset := 0 }, { name := "At", type := 3, offset := 1, embedded := false, tag := "", pkgPath := "", byteOffset := 8 }, { name := "Bytes", type := 22, offset := 2, embedded := false, tag := "", pkgPath := "", byteOffset := 16 }])⟩ = true := by simp [zeroOK, zo39, allOne, AV.cells, AV.single]
theorem fl39_0 : fldOf Try.prog 39 0 = some (0, ⟨1, 1, (Value.bool false), TypeDesc.bool⟩) := by kernel_rfl
theorem fl39_1 : fldOf Try.prog 39 1 = some (1, ⟨1, 8, (Value.int IntKind.i64 0), (TypeDesc.int IntKind.i64)⟩) := by kernel_rfl
theorem fl39_2 : fldOf Try.prog 39 2 = some (2, ⟨1, 24, (Value.slice none 0 0), (TypeDesc.slice 5)⟩) := by kernel_rfl
theorem bu39 (ps : List (Nat × AV)) (K : AV → Prop) : buildA Try.prog 39 ps K = (zeroOK ⟨3, 40, (Value.agg #[(Value.bool false), (Value.int IntKind.i64 0), (Value.slice none 0 0)]), (TypeDesc.struct #[{ name := "Flush", type := 4, offset := 0, embedded := false, tag := "", pkgPath := "", byteOffset := 0 }, { name := "At", type := 3, offset := 1, embedded := false, tag := "", pkgPath := "", byteOffset := 8 }, { name := "Bytes", type := 22, offset := 2, embedded := false, tag := "", pkgPath := "", byteOffset := 16 }])⟩ = true ∧ Ty.isAgg ⟨3, 40, (Value.agg #[(Value.bool false), (Value.int IntKind.i64 0), (Value.slice none 0 0)]), (TypeDesc.struct #[{ name := "Flush", type := 4, offset := 0, embedded := false, tag := "", pkgPath := "", byteOffset := 0 }, { name := "At", type := 3, offset := 1, embedded := false, tag := "", pkgPath := "", byteOffset := 8 }, { name := "Bytes", type := 22, offset := 2, embedded := false, tag := "", pkgPath := "", byteOffset := 16 }])⟩ = true ∧ fieldsKnown Try.prog 39 = true ∧ fillF Try.prog 39 (zeroOf ⟨3, 40, (Value.agg #[(Value.bool false), (Value.int IntKind.i64 0), (Value.slice none 0 0)]), (TypeDesc.struct #[{ name := "Flush", type := 4, offset := 0, embedded := false, tag := "", pkgPath := "", byteOffset := 0 }, { name := "At", type := 3, offset := 1, embedded := false, tag := "", pkgPath := "", byteOffset := 8 }, { name := "Bytes", type := 22, offset := 2, embedded := false, tag := "", pkgPath := "", byteOffset := 16 }])⟩).cells ps (fun cs => K (.agg cs))) := buildA_struct Try.underlying39 ty39 ps K
theorem fk39 : fieldsKnown Try.prog 39 = true := by kernel_rfl
theorem ty40 : tyOf Try.prog 40 = some ⟨1, 8, Value.nilFunc, (TypeDesc.func #[31, 32] #[31, 35] false)⟩ := by kernel_rfl
theorem zo40 : zeroOf ⟨1, 8, Value.nilFunc, (TypeDesc.func #[31, 32] #[31, 35] false)⟩ = .val Value.nilFunc := by simp [zeroOf, ofVal, ofVal0, plain, AV.single]
theorem zk40 : zeroOK ⟨1, 8, Value.nilFunc, (TypeDesc.func #[31, 32] #[31, 35] false)⟩ = true := by simp [zeroOK, zo40, allOne, AV.cells, AV.single]
theorem ty41 : tyOf Try.prog 41 = some ⟨1, 8, Value.nilFunc, (TypeDesc.func #[31, 31] #[4] false)⟩ := by kernel_rfl
theorem zo41 : zeroOf ⟨1, 8, Value.nilFunc, (TypeDesc.func #[31, 31] #[4] false)⟩ = .val Value.nilFunc := by simp [zeroOf, ofVal, ofVal0, plain, AV.single]
theorem zk41 : zeroOK ⟨1, 8, Value.nilFunc, (TypeDesc.func #[31, 31] #[4] false)⟩ = true := by simp [zeroOK, zo41, allOne, AV.cells, AV.single]
theorem ty42 : tyOf Try.prog 42 = some ⟨1, 8, Value.nilFunc, (TypeDesc.func #[31, 29, 29, 32] #[4] false)⟩ := by kernel_rfl
theorem zo42 : zeroOf ⟨1, 8, Value.nilFunc, (TypeDesc.func #[31, 29, 29, 32] #[4] false)⟩ = .val Value.nilFunc := by simp [zeroOf, ofVal, ofVal0, plain, AV.single]
theorem zk42 : zeroOK ⟨1, 8, Value.nilFunc, (TypeDesc.func #[31, 29, 29, 32] #[4] false)⟩ = true := by simp [zeroOK, zo42, allOne, AV.cells, AV.single]
theorem ty43 : tyOf Try.prog 43 = some ⟨1, 0, (Value.tuple #[(Value.slice none 0 0), (Value.int IntKind.i64 0)]), (TypeDesc.tuple #[29, 35])⟩ := by kernel_rfl
theorem ty44 : tyOf Try.prog 44 = some ⟨1, 8, Value.nilFunc, (TypeDesc.func #[31] #[29, 35] false)⟩ := by kernel_rfl
theorem zo44 : zeroOf ⟨1, 8, Value.nilFunc, (TypeDesc.func #[31] #[29, 35] false)⟩ = .val Value.nilFunc := by simp [zeroOf, ofVal, ofVal0, plain, AV.single]
theorem zk44 : zeroOK ⟨1, 8, Value.nilFunc, (TypeDesc.func #[31] #[29, 35] false)⟩ = true := by simp [zeroOK, zo44, allOne, AV.cells, AV.single]
theorem ty45 : tyOf Try.prog 45 = some ⟨1, 0, (Value.tuple #[(Value.slice none 0 0), (Value.slice none 0 0), (Value.int IntKind.i64 0)]), (TypeDesc.tuple #[22, 25, 35])⟩ := by kernel_rfl
theorem ty46 : tyOf Try.prog 46 = some ⟨1, 8, Value.nilFunc, (TypeDesc.func #[31] #[22, 25, 35] false)⟩ := by kernel_rfl
theorem zo46 : zeroOf ⟨1, 8, Value.nilFunc, (TypeDesc.func #[31] #[22, 25, 35] false)⟩ = .val Value.nilFunc := by simp [zeroOf, ofVal, ofVal0, plain, AV.single]
theorem zk46 : zeroOK ⟨1, 8, Value.nilFunc, (TypeDesc.func #[31] #[22, 25, 35] false)⟩ = true := by simp [zeroOK, zo46, allOne, AV.cells, AV.single]
theorem ty47 : tyOf Try.prog 47 = some ⟨1, 0, (Value.tuple #[(Value.bool false), (Value.bool false), (Value.int IntKind.i64 0)]), (TypeDesc.tuple #[4, 4, 35])⟩ := by kernel_rfl
theorem ty48 : tyOf Try.prog 48 = some ⟨1, 8, Value.nilFunc, (TypeDesc.func #[31] #[4, 4, 35] false)⟩ := by kernel_rfl
theorem zo48 : zeroOf ⟨1, 8, Value.nilFunc, (TypeDesc.func #[31] #[4, 4, 35] false)⟩ = .val Value.nilFunc := by simp [zeroOf, ofVal, ofVal0, plain, AV.single]
theorem zk48 : zeroOK ⟨1, 8, Value.nilFunc, (TypeDesc.func #[31] #[4, 4, 35] false)⟩ = true := by simp [zeroOK, zo48, allOne, AV.cells, AV.single]
theorem ty49 : tyOf Try.prog 49 = some ⟨1, 8, Value.nilFunc, (TypeDesc.func #[25, 25] #[4] false)⟩ := by kernel_rfl
theorem zo49 : zeroOf ⟨1, 8, Value.nilFunc, (TypeDesc.func #[25, 25] #[4] false)⟩ = .val Value.nilFunc := by simp [zeroOf, ofVal, ofVal0, plain, AV.single]
theorem zk49 : zeroOK ⟨1, 8, Value.nilFunc, (TypeDesc.func #[25, 25] #[4] false)⟩ = true := by simp [zeroOK, zo49, allOne, AV.cells, AV.single]
theorem ty50 : tyOf Try.prog 50 = some ⟨1, 0, (Value.tuple #[(Value.int IntKind.i64 0), (Value.int IntKind.i64 0)]), (TypeDesc.tuple #[3, 35])⟩ := by kernel_rfl
theorem ty51 : tyOf Try.prog 51 = some ⟨1, 8, Value.nilFunc, (TypeDesc.func #[31] #[3, 35] false)⟩ := by kernel_rfl
theorem zo51 : zeroOf ⟨1, 8, Value.nilFunc, (TypeDesc.func #[31] #[3, 35] false)⟩ = .val Value.nilFunc := by simp [zeroOf, ofVal, ofVal0, plain, AV.single]
theorem zk51 : zeroOK ⟨1, 8, Value.nilFunc, (TypeDesc.func #[31] #[3, 35] false)⟩ = true := by simp [zeroOK, zo51, allOne, AV.cells, AV.single]
theorem ty52 : tyOf Try.prog 52 = some ⟨1, 8, Value.nilFunc, (TypeDesc.func #[31, 22] #[29, 35] false)⟩ := by kernel_rfl
theorem zo52 : zeroOf ⟨1, 8, Value.nilFunc, (TypeDesc.func #[31, 22] #[29, 35] false)⟩ = .val Value.nilFunc := by simp [zeroOf, ofVal, ofVal0, plain, AV.single]
theorem zk52 : zeroOK ⟨1, 8, Value.nilFunc, (TypeDesc.func #[31, 22] #[29, 35] false)⟩ = true := by simp [zeroOK, zo52, allOne, AV.cells, AV.single]
theorem ty53 : tyOf Try.prog 53 = some ⟨1, 8, Value.nilFunc, (TypeDesc.func #[31, 5] #[4] false)⟩ := by kernel_rfl
theorem zo53 : zeroOf ⟨1, 8, Value.nilFunc, (TypeDesc.func #[31, 5] #[4] false)⟩ = .val Value.nilFunc := by simp [zeroOf, ofVal, ofVal0, plain, AV.single]
theorem zk53 : zeroOK ⟨1, 8, Value.nilFunc, (TypeDesc.func #[31, 5] #[4] false)⟩ = true := by simp [zeroOK, zo53, allOne, AV.cells, AV.single]
theorem ty54 : tyOf Try.prog 54 = some ⟨1, 24, (Value.slice none 0 0), (TypeDesc.slice 63)⟩ := by kernel_rfl
theorem zo54 : zeroOf ⟨1, 24, (Value.slice none 0 0), (TypeDesc.slice 63)⟩ = .sl true [] := by simp [zeroOf, ofVal, ofVal0, plain, AV.single]
theorem zk54 : zeroOK ⟨1, 24, (Value.slice none 0 0), (TypeDesc.slice 63)⟩ = true := by simp [zeroOK, zo54, allOne, AV.cells, AV.single]
theorem el54 : elemOfSlice Try.prog 54 = some (63, ⟨4, 64, (Value.agg #[(Value.int IntKind.i64 0), (Value.slice none 0 0), (Value.int IntKind.i64 0), (Value.slice none 0 0)]), (TypeDesc.struct #[{ name := "What", type := 3, offset := 0, embedded := false, tag := "", pkgPath := "", byteOffset := 0 }, { name := "Bytes", type := 22, offset := 1, embedded := false, tag := "", pkgPath := "", byteOffset := 8 }, { name := "Most", type := 3, offset := 2, embedded := false, tag := "", pkgPath := "", byteOffset := 32 }, { name := "Cuts", type := 32, offset := 3, embedded := false, tag := "", pkgPath := "", byteOffset := 40 }])⟩) := by kernel_rfl
theorem ty55 : tyOf Try.prog 55 = some ⟨1, 8, Value.nilFunc, (TypeDesc.func #[54] #[4] false)⟩ := by kernel_rfl
theorem zo55 : zeroOf ⟨1, 8, Value.nilFunc, (TypeDesc.func #[54] #[4] false)⟩ = .val Value.nilFunc := by simp [zeroOf, ofVal, ofVal0, plain, AV.single]
theorem zk55 : zeroOK ⟨1, 8, Value.nilFunc, (TypeDesc.func #[54] #[4] false)⟩ = true := by simp [zeroOK, zo55, allOne, AV.cells, AV.single]
theorem ty56 : tyOf Try.prog 56 = some ⟨1, 0, (Value.tuple #[(Value.agg #[(Value.slice none 0 0), (Value.slice none 0 0)]), (Value.bool false)]), (TypeDesc.tuple #[31, 4])⟩ := by kernel_rfl
theorem ty57 : tyOf Try.prog 57 = some ⟨1, 8, Value.nilFunc, (TypeDesc.func #[3, 22] #[31, 4] false)⟩ := by kernel_rfl
theorem zo57 : zeroOf ⟨1, 8, Value.nilFunc, (TypeDesc.func #[3, 22] #[31, 4] false)⟩ = .val Value.nilFunc := by simp [zeroOf, ofVal, ofVal0, plain, AV.single]
theorem zk57 : zeroOK ⟨1, 8, Value.nilFunc, (TypeDesc.func #[3, 22] #[31, 4] false)⟩ = true := by simp [zeroOK, zo57, allOne, AV.cells, AV.single]
theorem ty58 : tyOf Try.prog 58 = some ⟨1, 8, (Value.pointer none), (TypeDesc.pointer 60)⟩ := by kernel_rfl
theorem zo58 : zeroOf ⟨1, 8, (Value.pointer none), (TypeDesc.pointer 60)⟩ = .val (Value.pointer none) := by simp [zeroOf, ofVal, ofVal0, plain, AV.single]
theorem zk58 : zeroOK ⟨1, 8, (Value.pointer none), (TypeDesc.pointer 60)⟩ = true := by simp [zeroOK, zo58, allOne, AV.cells, AV.single]
theorem ty59 : tyOf Try.prog 59 = some ⟨7, 136, (Value.agg #[(Value.slice none 0 0), (Value.slice none 0 0), (Value.slice none 0 0), (Value.slice none 0 0), (Value.int IntKind.i64 0), (Value.slice none 0 0), (Value.bool false)]), (TypeDesc.struct #[{ name := "d", type := 31, offset := 0, embedded := false, tag := "", pkgPath := "proteus/proteuslaw28", byteOffset := 0 }, { name := "base", type := 22, offset := 2, embedded := false, tag := "", pkgPath := "proteus/proteuslaw28", byteOffset := 48 }, { name := "records", type := 25, offset := 3, embedded := false, tag := "", pkgPath := "proteus/proteuslaw28", byteOffset := 72 }, { name := "flushed", type := 3, offset := 4, embedded := false, tag := "", pkgPath := "proteus/proteuslaw28", byteOffset := 96 }, { name := "other", type := 22, offset := 5, embedded := false, tag := "", pkgPath := "proteus/proteuslaw28", byteOffset := 104 }, { name := "doubt", type := 4, offset := 6, embedded := false, tag := "", pkgPath := "proteus/proteuslaw28", byteOffset := 128 }])⟩ := by kernel_rfl
theorem zo59 : zeroOf ⟨7, 136, (Value.agg #[(Value.slice none 0 0), (Value.slice none 0 0), (Value.slice none 0 0), (Value.slice none 0 0), (Value.int IntKind.i64 0), (Value.slice none 0 0), (Value.bool false)]), (TypeDesc.struct #[{ name := "d", type := 31, offset := 0, embedded := false, tag := "", pkgPath := "proteus/proteuslaw28", byteOffset := 0 }, { name := "base", type := 22, offset := 2, embedded := false, tag := "", pkgPath := "proteus/proteuslaw28", byteOffset := 48 }, { name := "records", type := 25, offset := 3, embedded := false, tag := "", pkgPath := "proteus/proteuslaw28", byteOffset := 72 }, { name := "flushed", type := 3, offset := 4, embedded := false, tag := "", pkgPath := "proteus/proteuslaw28", byteOffset := 96 }, { name := "other", type := 22, offset := 5, embedded := false, tag := "", pkgPath := "proteus/proteuslaw28", byteOffset := 104 }, { name := "doubt", type := 4, offset := 6, embedded := false, tag := "", pkgPath := "proteus/proteuslaw28", byteOffset := 128 }])⟩ = .agg [.sl true [], .sl true [], .sl true [], .sl true [], .val (Value.int IntKind.i64 0), .sl true [], .val (Value.bool false)] := by simp [zeroOf, ofVal, ofVal0, plain, AV.single]
theorem zk59 : zeroOK ⟨7, 136, (Value.agg #[(Value.slice none 0 0), (Value.slice none 0 0), (Value.slice none 0 0), (Value.slice none 0 0), (Value.int IntKind.i64 0), (Value.slice none 0 0), (Value.bool false)]), (TypeDesc.struct #[{ name := "d", type := 31, offset := 0, embedded := false, tag := "", pkgPath := "proteus/proteuslaw28", byteOffset := 0 }, { name := "base", type := 22, offset := 2, embedded := false, tag := "", pkgPath := "proteus/proteuslaw28", byteOffset := 48 }, { name := "records", type := 25, offset := 3, embedded := false, tag := "", pkgPath := "proteus/proteuslaw28", byteOffset := 72 }, { name := "flushed", type := 3, offset := 4, embedded := false, tag := "", pkgPath := "proteus/proteuslaw28", byteOffset := 96 }, { name := "other", type := 22, offset := 5, embedded := false, tag := "", pkgPath := "proteus/proteuslaw28", byteOffset := 104 }, { name := "doubt", type := 4, offset := 6, embedded := false, tag := "", pkgPath := "proteus/proteuslaw28", byteOffset := 128 }])⟩ = true := by simp [zeroOK, zo59, allOne, AV.cells, AV.single]
theorem fl59_0 : fldOf Try.prog 59 0 = some (0, ⟨2, 48, (Value.agg #[(Value.slice none 0 0), (Value.slice none 0 0)]), (TypeDesc.struct #[{ name := "Bytes", type := 22, offset := 0, embedded := false, tag := "", pkgPath := "", byteOffset := 0 }, { name := "Queue", type := 29, offset := 1, embedded := false, tag := "", pkgPath := "", byteOffset := 24 }])⟩) := by kernel_rfl
theorem fl59_1 : fldOf Try.prog 59 1 = some (2, ⟨1, 24, (Value.slice none 0 0), (TypeDesc.slice 5)⟩) := by kernel_rfl
theorem fl59_2 : fldOf Try.prog 59 2 = some (3, ⟨1, 24, (Value.slice none 0 0), (TypeDesc.slice 22)⟩) := by kernel_rfl
theorem fl59_3 : fldOf Try.prog 59 3 = some (4, ⟨1, 8, (Value.int IntKind.i64 0), (TypeDesc.int IntKind.i64)⟩) := by kernel_rfl
theorem fl59_4 : fldOf Try.prog 59 4 = some (5, ⟨1, 24, (Value.slice none 0 0), (TypeDesc.slice 5)⟩) := by kernel_rfl
theorem fl59_5 : fldOf Try.prog 59 5 = some (6, ⟨1, 1, (Value.bool false), TypeDesc.bool⟩) := by kernel_rfl
theorem bu59 (ps : List (Nat × AV)) (K : AV → Prop) : buildA Try.prog 59 ps K = (zeroOK ⟨7, 136, (Value.agg #[(Value.slice none 0 0), (Value.slice none 0 0), (Value.slice none 0 0), (Value.slice none 0 0), (Value.int IntKind.i64 0), (Value.slice none 0 0), (Value.bool false)]), (TypeDesc.struct #[{ name := "d", type := 31, offset := 0, embedded := false, tag := "", pkgPath := "proteus/proteuslaw28", byteOffset := 0 }, { name := "base", type := 22, offset := 2, embedded := false, tag := "", pkgPath := "proteus/proteuslaw28", byteOffset := 48 }, { name := "records", type := 25, offset := 3, embedded := false, tag := "", pkgPath := "proteus/proteuslaw28", byteOffset := 72 }, { name := "flushed", type := 3, offset := 4, embedded := false, tag := "", pkgPath := "proteus/proteuslaw28", byteOffset := 96 }, { name := "other", type := 22, offset := 5, embedded := false, tag := "", pkgPath := "proteus/proteuslaw28", byteOffset := 104 }, { name := "doubt", type := 4, offset := 6, embedded := false, tag := "", pkgPath := "proteus/proteuslaw28", byteOffset := 128 }])⟩ = true ∧ Ty.isAgg ⟨7, 136, (Value.agg #[(Value.slice none 0 0), (Value.slice none 0 0), (Value.slice none 0 0), (Value.slice none 0 0), (Value.int IntKind.i64 0), (Value.slice none 0 0), (Value.bool false)]), (TypeDesc.struct #[{ name := "d", type := 31, offset := 0, embedded := false, tag := "", pkgPath := "proteus/proteuslaw28", byteOffset := 0 }, { name := "base", type := 22, offset := 2, embedded := false, tag := "", pkgPath := "proteus/proteuslaw28", byteOffset := 48 }, { name := "records", type := 25, offset := 3, embedded := false, tag := "", pkgPath := "proteus/proteuslaw28", byteOffset := 72 }, { name := "flushed", type := 3, offset := 4, embedded := false, tag := "", pkgPath := "proteus/proteuslaw28", byteOffset := 96 }, { name := "other", type := 22, offset := 5, embedded := false, tag := "", pkgPath := "proteus/proteuslaw28", byteOffset := 104 }, { name := "doubt", type := 4, offset := 6, embedded := false, tag := "", pkgPath := "proteus/proteuslaw28", byteOffset := 128 }])⟩ = true ∧ fieldsKnown Try.prog 59 = true ∧ fillF Try.prog 59 (zeroOf ⟨7, 136, (Value.agg #[(Value.slice none 0 0), (Value.slice none 0 0), (Value.slice none 0 0), (Value.slice none 0 0), (Value.int IntKind.i64 0), (Value.slice none 0 0), (Value.bool false)]), (TypeDesc.struct #[{ name := "d", type := 31, offset := 0, embedded := false, tag := "", pkgPath := "proteus/proteuslaw28", byteOffset := 0 }, { name := "base", type := 22, offset := 2, embedded := false, tag := "", pkgPath := "proteus/proteuslaw28", byteOffset := 48 }, { name := "records", type := 25, offset := 3, embedded := false, tag := "", pkgPath := "proteus/proteuslaw28", byteOffset := 72 }, { name := "flushed", type := 3, offset := 4, embedded := false, tag := "", pkgPath := "proteus/proteuslaw28", byteOffset := 96 }, { name := "other", type := 22, offset := 5, embedded := false, tag := "", pkgPath := "proteus/proteuslaw28", byteOffset := 104 }, { name := "doubt", type := 4, offset := 6, embedded := false, tag := "", pkgPath := "proteus/proteuslaw28", byteOffset := 128 }])⟩).cells ps (fun cs => K (.agg cs))) := buildA_struct Try.underlying59 ty59 ps K
theorem fk59 : fieldsKnown Try.prog 59 = true := by kernel_rfl
theorem ty60 : tyOf Try.prog 60 = some ⟨7, 136, (Value.agg #[(Value.slice none 0 0), (Value.slice none 0 0), (Value.slice none 0 0), (Value.slice none 0 0), (Value.int IntKind.i64 0), (Value.slice none 0 0), (Value.bool false)]), (TypeDesc.struct #[{ name := "d", type := 31, offset := 0, embedded := false, tag := "", pkgPath := "proteus/proteuslaw28", byteOffset := 0 }, { name := "base", type := 22, offset := 2, embedded := false, tag := "", pkgPath := "proteus/proteuslaw28", byteOffset := 48 }, { name := "records", type := 25, offset := 3, embedded := false, tag := "", pkgPath := "proteus/proteuslaw28", byteOffset := 72 }, { name := "flushed", type := 3, offset := 4, embedded := false, tag := "", pkgPath := "proteus/proteuslaw28", byteOffset := 96 }, { name := "other", type := 22, offset := 5, embedded := false, tag := "", pkgPath := "proteus/proteuslaw28", byteOffset := 104 }, { name := "doubt", type := 4, offset := 6, embedded := false, tag := "", pkgPath := "proteus/proteuslaw28", byteOffset := 128 }])⟩ := by kernel_rfl
theorem zo60 : zeroOf ⟨7, 136, (Value.agg #[(Value.slice none 0 0), (Value.slice none 0 0), (Value.slice none 0 0), (Value.slice none 0 0), (Value.int IntKind.i64 0), (Value.slice none 0 0), (Value.bool false)]), (TypeDesc.struct #[{ name := "d", type := 31, offset := 0, embedded := false, tag := "", pkgPath := "proteus/proteuslaw28", byteOffset := 0 }, { name := "base", type := 22, offset := 2, embedded := false, tag := "", pkgPath := "proteus/proteuslaw28", byteOffset := 48 }, { name := "records", type := 25, offset := 3, embedded := false, tag := "", pkgPath := "proteus/proteuslaw28", byteOffset := 72 }, { name := "flushed", type := 3, offset := 4, embedded := false, tag := "", pkgPath := "proteus/proteuslaw28", byteOffset := 96 }, { name := "other", type := 22, offset := 5, embedded := false, tag := "", pkgPath := "proteus/proteuslaw28", byteOffset := 104 }, { name := "doubt", type := 4, offset := 6, embedded := false, tag := "", pkgPath := "proteus/proteuslaw28", byteOffset := 128 }])⟩ = .agg [.sl true [], .sl true [], .sl true [], .sl true [], .val (Value.int IntKind.i64 0), .sl true [], .val (Value.bool false)] := by simp [zeroOf, ofVal, ofVal0, plain, AV.single]
theorem zk60 : zeroOK ⟨7, 136, (Value.agg #[(Value.slice none 0 0), (Value.slice none 0 0), (Value.slice none 0 0), (Value.slice none 0 0), (Value.int IntKind.i64 0), (Value.slice none 0 0), (Value.bool false)]), (TypeDesc.struct #[{ name := "d", type := 31, offset := 0, embedded := false, tag := "", pkgPath := "proteus/proteuslaw28", byteOffset := 0 }, { name := "base", type := 22, offset := 2, embedded := false, tag := "", pkgPath := "proteus/proteuslaw28", byteOffset := 48 }, { name := "records", type := 25, offset := 3, embedded := false, tag := "", pkgPath := "proteus/proteuslaw28", byteOffset := 72 }, { name := "flushed", type := 3, offset := 4, embedded := false, tag := "", pkgPath := "proteus/proteuslaw28", byteOffset := 96 }, { name := "other", type := 22, offset := 5, embedded := false, tag := "", pkgPath := "proteus/proteuslaw28", byteOffset := 104 }, { name := "doubt", type := 4, offset := 6, embedded := false, tag := "", pkgPath := "proteus/proteuslaw28", byteOffset := 128 }])⟩ = true := by simp [zeroOK, zo60, allOne, AV.cells, AV.single]
theorem fl60_0 : fldOf Try.prog 60 0 = some (0, ⟨2, 48, (Value.agg #[(Value.slice none 0 0), (Value.slice none 0 0)]), (TypeDesc.struct #[{ name := "Bytes", type := 22, offset := 0, embedded := false, tag := "", pkgPath := "", byteOffset := 0 }, { name := "Queue", type := 29, offset := 1, embedded := false, tag := "", pkgPath := "", byteOffset := 24 }])⟩) := by kernel_rfl
theorem fl60_1 : fldOf Try.prog 60 1 = some (2, ⟨1, 24, (Value.slice none 0 0), (TypeDesc.slice 5)⟩) := by kernel_rfl
theorem fl60_2 : fldOf Try.prog 60 2 = some (3, ⟨1, 24, (Value.slice none 0 0), (TypeDesc.slice 22)⟩) := by kernel_rfl
theorem fl60_3 : fldOf Try.prog 60 3 = some (4, ⟨1, 8, (Value.int IntKind.i64 0), (TypeDesc.int IntKind.i64)⟩) := by kernel_rfl
theorem fl60_4 : fldOf Try.prog 60 4 = some (5, ⟨1, 24, (Value.slice none 0 0), (TypeDesc.slice 5)⟩) := by kernel_rfl
theorem fl60_5 : fldOf Try.prog 60 5 = some (6, ⟨1, 1, (Value.bool false), TypeDesc.bool⟩) := by kernel_rfl
theorem bu60 (ps : List (Nat × AV)) (K : AV → Prop) : buildA Try.prog 60 ps K = (zeroOK ⟨7, 136, (Value.agg #[(Value.slice none 0 0), (Value.slice none 0 0), (Value.slice none 0 0), (Value.slice none 0 0), (Value.int IntKind.i64 0), (Value.slice none 0 0), (Value.bool false)]), (TypeDesc.struct #[{ name := "d", type := 31, offset := 0, embedded := false, tag := "", pkgPath := "proteus/proteuslaw28", byteOffset := 0 }, { name := "base", type := 22, offset := 2, embedded := false, tag := "", pkgPath := "proteus/proteuslaw28", byteOffset := 48 }, { name := "records", type := 25, offset := 3, embedded := false, tag := "", pkgPath := "proteus/proteuslaw28", byteOffset := 72 }, { name := "flushed", type := 3, offset := 4, embedded := false, tag := "", pkgPath := "proteus/proteuslaw28", byteOffset := 96 }, { name := "other", type := 22, offset := 5, embedded := false, tag := "", pkgPath := "proteus/proteuslaw28", byteOffset := 104 }, { name := "doubt", type := 4, offset := 6, embedded := false, tag := "", pkgPath := "proteus/proteuslaw28", byteOffset := 128 }])⟩ = true ∧ Ty.isAgg ⟨7, 136, (Value.agg #[(Value.slice none 0 0), (Value.slice none 0 0), (Value.slice none 0 0), (Value.slice none 0 0), (Value.int IntKind.i64 0), (Value.slice none 0 0), (Value.bool false)]), (TypeDesc.struct #[{ name := "d", type := 31, offset := 0, embedded := false, tag := "", pkgPath := "proteus/proteuslaw28", byteOffset := 0 }, { name := "base", type := 22, offset := 2, embedded := false, tag := "", pkgPath := "proteus/proteuslaw28", byteOffset := 48 }, { name := "records", type := 25, offset := 3, embedded := false, tag := "", pkgPath := "proteus/proteuslaw28", byteOffset := 72 }, { name := "flushed", type := 3, offset := 4, embedded := false, tag := "", pkgPath := "proteus/proteuslaw28", byteOffset := 96 }, { name := "other", type := 22, offset := 5, embedded := false, tag := "", pkgPath := "proteus/proteuslaw28", byteOffset := 104 }, { name := "doubt", type := 4, offset := 6, embedded := false, tag := "", pkgPath := "proteus/proteuslaw28", byteOffset := 128 }])⟩ = true ∧ fieldsKnown Try.prog 60 = true ∧ fillF Try.prog 60 (zeroOf ⟨7, 136, (Value.agg #[(Value.slice none 0 0), (Value.slice none 0 0), (Value.slice none 0 0), (Value.slice none 0 0), (Value.int IntKind.i64 0), (Value.slice none 0 0), (Value.bool false)]), (TypeDesc.struct #[{ name := "d", type := 31, offset := 0, embedded := false, tag := "", pkgPath := "proteus/proteuslaw28", byteOffset := 0 }, { name := "base", type := 22, offset := 2, embedded := false, tag := "", pkgPath := "proteus/proteuslaw28", byteOffset := 48 }, { name := "records", type := 25, offset := 3, embedded := false, tag := "", pkgPath := "proteus/proteuslaw28", byteOffset := 72 }, { name := "flushed", type := 3, offset := 4, embedded := false, tag := "", pkgPath := "proteus/proteuslaw28", byteOffset := 96 }, { name := "other", type := 22, offset := 5, embedded := false, tag := "", pkgPath := "proteus/proteuslaw28", byteOffset := 104 }, { name := "doubt", type := 4, offset := 6, embedded := false, tag := "", pkgPath := "proteus/proteuslaw28", byteOffset := 128 }])⟩).cells ps (fun cs => K (.agg cs))) := buildA_struct Try.underlying60 ty60 ps K
theorem fk60 : fieldsKnown Try.prog 60 = true := by kernel_rfl
theorem ty61 : tyOf Try.prog 61 = some ⟨1, 8, Value.nilFunc, (TypeDesc.func #[63] #[4] false)⟩ := by kernel_rfl
theorem zo61 : zeroOf ⟨1, 8, Value.nilFunc, (TypeDesc.func #[63] #[4] false)⟩ = .val Value.nilFunc := by simp [zeroOf, ofVal, ofVal0, plain, AV.single]
theorem zk61 : zeroOK ⟨1, 8, Value.nilFunc, (TypeDesc.func #[63] #[4] false)⟩ = true := by simp [zeroOK, zo61, allOne, AV.cells, AV.single]
theorem ty62 : tyOf Try.prog 62 = some ⟨4, 64, (Value.agg #[(Value.int IntKind.i64 0), (Value.slice none 0 0), (Value.int IntKind.i64 0), (Value.slice none 0 0)]), (TypeDesc.struct #[{ name := "What", type := 3, offset := 0, embedded := false, tag := "", pkgPath := "", byteOffset := 0 }, { name := "Bytes", type := 22, offset := 1, embedded := false, tag := "", pkgPath := "", byteOffset := 8 }, { name := "Most", type := 3, offset := 2, embedded := false, tag := "", pkgPath := "", byteOffset := 32 }, { name := "Cuts", type := 32, offset := 3, embedded := false, tag := "", pkgPath := "", byteOffset := 40 }])⟩ := by kernel_rfl
theorem zo62 : zeroOf ⟨4, 64, (Value.agg #[(Value.int IntKind.i64 0), (Value.slice none 0 0), (Value.int IntKind.i64 0), (Value.slice none 0 0)]), (TypeDesc.struct #[{ name := "What", type := 3, offset := 0, embedded := false, tag := "", pkgPath := "", byteOffset := 0 }, { name := "Bytes", type := 22, offset := 1, embedded := false, tag := "", pkgPath := "", byteOffset := 8 }, { name := "Most", type := 3, offset := 2, embedded := false, tag := "", pkgPath := "", byteOffset := 32 }, { name := "Cuts", type := 32, offset := 3, embedded := false, tag := "", pkgPath := "", byteOffset := 40 }])⟩ = .agg [.val (Value.int IntKind.i64 0), .sl true [], .val (Value.int IntKind.i64 0), .sl true []] := by simp [zeroOf, ofVal, ofVal0, plain, AV.single]
theorem zk62 : zeroOK ⟨4, 64, (Value.agg #[(Value.int IntKind.i64 0), (Value.slice none 0 0), (Value.int IntKind.i64 0), (Value.slice none 0 0)]), (TypeDesc.struct #[{ name := "What", type := 3, offset := 0, embedded := false, tag := "", pkgPath := "", byteOffset := 0 }, { name := "Bytes", type := 22, offset := 1, embedded := false, tag := "", pkgPath := "", byteOffset := 8 }, { name := "Most", type := 3, offset := 2, embedded := false, tag := "", pkgPath := "", byteOffset := 32 }, { name := "Cuts", type := 32, offset := 3, embedded := false, tag := "", pkgPath := "", byteOffset := 40 }])⟩ = true := by simp [zeroOK, zo62, allOne, AV.cells, AV.single]
theorem fl62_0 : fldOf Try.prog 62 0 = some (0, ⟨1, 8, (Value.int IntKind.i64 0), (TypeDesc.int IntKind.i64)⟩) := by kernel_rfl
theorem fl62_1 : fldOf Try.prog 62 1 = some (1, ⟨1, 24, (Value.slice none 0 0), (TypeDesc.slice 5)⟩) := by kernel_rfl
theorem fl62_2 : fldOf Try.prog 62 2 = some (2, ⟨1, 8, (Value.int IntKind.i64 0), (TypeDesc.int IntKind.i64)⟩) := by kernel_rfl
theorem fl62_3 : fldOf Try.prog 62 3 = some (3, ⟨1, 24, (Value.slice none 0 0), (TypeDesc.slice 3)⟩) := by kernel_rfl
theorem bu62 (ps : List (Nat × AV)) (K : AV → Prop) : buildA Try.prog 62 ps K = (zeroOK ⟨4, 64, (Value.agg #[(Value.int IntKind.i64 0), (Value.slice none 0 0), (Value.int IntKind.i64 0), (Value.slice none 0 0)]), (TypeDesc.struct #[{ name := "What", type := 3, offset := 0, embedded := false, tag := "", pkgPath := "", byteOffset := 0 }, { name := "Bytes", type := 22, offset := 1, embedded := false, tag := "", pkgPath := "", byteOffset := 8 }, { name := "Most", type := 3, offset := 2, embedded := false, tag := "", pkgPath := "", byteOffset := 32 }, { name := "Cuts", type := 32, offset := 3, embedded := false, tag := "", pkgPath := "", byteOffset := 40 }])⟩ = true ∧ Ty.isAgg ⟨4, 64, (Value.agg #[(Value.int IntKind.i64 0), (Value.slice none 0 0), (Value.int IntKind.i64 0), (Value.slice none 0 0)]), (TypeDesc.struct #[{ name := "What", type := 3, offset := 0, embedded := false, tag := "", pkgPath := "", byteOffset := 0 }, { name := "Bytes", type := 22, offset := 1, embedded := false, tag := "", pkgPath := "", byteOffset := 8 }, { name := "Most", type := 3, offset := 2, embedded := false, tag := "", pkgPath := "", byteOffset := 32 }, { name := "Cuts", type := 32, offset := 3, embedded := false, tag := "", pkgPath := "", byteOffset := 40 }])⟩ = true ∧ fieldsKnown Try.prog 62 = true ∧ fillF Try.prog 62 (zeroOf ⟨4, 64, (Value.agg #[(Value.int IntKind.i64 0), (Value.slice none 0 0), (Value.int IntKind.i64 0), (Value.slice none 0 0)]), (TypeDesc.struct #[{ name := "What", type := 3, offset := 0, embedded := false, tag := "", pkgPath := "", byteOffset := 0 }, { name := "Bytes", type := 22, offset := 1, embedded := false, tag := "", pkgPath := "", byteOffset := 8 }, { name := "Most", type := 3, offset := 2, embedded := false, tag := "", pkgPath := "", byteOffset := 32 }, { name := "Cuts", type := 32, offset := 3, embedded := false, tag := "", pkgPath := "", byteOffset := 40 }])⟩).cells ps (fun cs => K (.agg cs))) := buildA_struct Try.underlying62 ty62 ps K
theorem fk62 : fieldsKnown Try.prog 62 = true := by kernel_rfl
theorem ty63 : tyOf Try.prog 63 = some ⟨4, 64, (Value.agg #[(Value.int IntKind.i64 0), (Value.slice none 0 0), (Value.int IntKind.i64 0), (Value.slice none 0 0)]), (TypeDesc.struct #[{ name := "What", type := 3, offset := 0, embedded := false, tag := "", pkgPath := "", byteOffset := 0 }, { name := "Bytes", type := 22, offset := 1, embedded := false, tag := "", pkgPath := "", byteOffset := 8 }, { name := "Most", type := 3, offset := 2, embedded := false, tag := "", pkgPath := "", byteOffset := 32 }, { name := "Cuts", type := 32, offset := 3, embedded := false, tag := "", pkgPath := "", byteOffset := 40 }])⟩ := by kernel_rfl
theorem zo63 : zeroOf ⟨4, 64, (Value.agg #[(Value.int IntKind.i64 0), (Value.slice none 0 0), (Value.int IntKind.i64 0), (Value.slice none 0 0)]), (TypeDesc.struct #[{ name := "What", type := 3, offset := 0, embedded := false, tag := "", pkgPath := "", byteOffset := 0 }, { name := "Bytes", type := 22, offset := 1, embedded := false, tag := "", pkgPath := "", byteOffset := 8 }, { name := "Most", type := 3, offset := 2, embedded := false, tag := "", pkgPath := "", byteOffset := 32 }, { name := "Cuts", type := 32, offset := 3, embedded := false, tag := "", pkgPath := "", byteOffset := 40 }])⟩ = .agg [.val (Value.int IntKind.i64 0), .sl true [], .val (Value.int IntKind.i64 0), .sl true []] := by simp [zeroOf, ofVal, ofVal0, plain, AV.single]
theorem zk63 : zeroOK ⟨4, 64, (Value.agg #[(Value.int IntKind.i64 0), (Value.slice none 0 0), (Value.int IntKind.i64 0), (Value.slice none 0 0)]), (TypeDesc.struct #[{ name := "What", type := 3, offset := 0, embedded := false, tag := "", pkgPath := "", byteOffset := 0 }, { name := "Bytes", type := 22, offset := 1, embedded := false, tag := "", pkgPath := "", byteOffset := 8 }, { name := "Most", type := 3, offset := 2, embedded := false, tag := "", pkgPath := "", byteOffset := 32 }, { name := "Cuts", type := 32, offset := 3, embedded := false, tag := "", pkgPath := "", byteOffset := 40 }])⟩ = true := by simp [zeroOK, zo63, allOne, AV.cells, AV.single]
theorem fl63_0 : fldOf Try.prog 63 0 = some (0, ⟨1, 8, (Value.int IntKind.i64 0), (TypeDesc.int IntKind.i64)⟩) := by kernel_rfl
theorem fl63_1 : fldOf Try.prog 63 1 = some (1, ⟨1, 24, (Value.slice none 0 0), (TypeDesc.slice 5)⟩) := by kernel_rfl
theorem fl63_2 : fldOf Try.prog 63 2 = some (2, ⟨1, 8, (Value.int IntKind.i64 0), (TypeDesc.int IntKind.i64)⟩) := by kernel_rfl
theorem fl63_3 : fldOf Try.prog 63 3 = some (3, ⟨1, 24, (Value.slice none 0 0), (TypeDesc.slice 3)⟩) := by kernel_rfl
theorem bu63 (ps : List (Nat × AV)) (K : AV → Prop) : buildA Try.prog 63 ps K = (zeroOK ⟨4, 64, (Value.agg #[(Value.int IntKind.i64 0), (Value.slice none 0 0), (Value.int IntKind.i64 0), (Value.slice none 0 0)]), (TypeDesc.struct #[{ name := "What", type := 3, offset := 0, embedded := false, tag := "", pkgPath := "", byteOffset := 0 }, { name := "Bytes", type := 22, offset := 1, embedded := false, tag := "", pkgPath := "", byteOffset := 8 }, { name := "Most", type := 3, offset := 2, embedded := false, tag := "", pkgPath := "", byteOffset := 32 }, { name := "Cuts", type := 32, offset := 3, embedded := false, tag := "", pkgPath := "", byteOffset := 40 }])⟩ = true ∧ Ty.isAgg ⟨4, 64, (Value.agg #[(Value.int IntKind.i64 0), (Value.slice none 0 0), (Value.int IntKind.i64 0), (Value.slice none 0 0)]), (TypeDesc.struct #[{ name := "What", type := 3, offset := 0, embedded := false, tag := "", pkgPath := "", byteOffset := 0 }, { name := "Bytes", type := 22, offset := 1, embedded := false, tag := "", pkgPath := "", byteOffset := 8 }, { name := "Most", type := 3, offset := 2, embedded := false, tag := "", pkgPath := "", byteOffset := 32 }, { name := "Cuts", type := 32, offset := 3, embedded := false, tag := "", pkgPath := "", byteOffset := 40 }])⟩ = true ∧ fieldsKnown Try.prog 63 = true ∧ fillF Try.prog 63 (zeroOf ⟨4, 64, (Value.agg #[(Value.int IntKind.i64 0), (Value.slice none 0 0), (Value.int IntKind.i64 0), (Value.slice none 0 0)]), (TypeDesc.struct #[{ name := "What", type := 3, offset := 0, embedded := false, tag := "", pkgPath := "", byteOffset := 0 }, { name := "Bytes", type := 22, offset := 1, embedded := false, tag := "", pkgPath := "", byteOffset := 8 }, { name := "Most", type := 3, offset := 2, embedded := false, tag := "", pkgPath := "", byteOffset := 32 }, { name := "Cuts", type := 32, offset := 3, embedded := false, tag := "", pkgPath := "", byteOffset := 40 }])⟩).cells ps (fun cs => K (.agg cs))) := buildA_struct Try.underlying63 ty63 ps K
theorem fk63 : fieldsKnown Try.prog 63 = true := by kernel_rfl
theorem ty64 : tyOf Try.prog 64 = some ⟨1, 8, Value.nilFunc, (TypeDesc.func #[3, 22, 54] #[4] false)⟩ := by kernel_rfl
theorem zo64 : zeroOf ⟨1, 8, Value.nilFunc, (TypeDesc.func #[3, 22, 54] #[4] false)⟩ = .val Value.nilFunc := by simp [zeroOf, ofVal, ofVal0, plain, AV.single]
theorem zk64 : zeroOK ⟨1, 8, Value.nilFunc, (TypeDesc.func #[3, 22, 54] #[4] false)⟩ = true := by simp [zeroOK, zo64, allOne, AV.cells, AV.single]
theorem ty65 : tyOf Try.prog 65 = some ⟨1, 8, Value.nilFunc, (TypeDesc.func #[29, 29] #[4] false)⟩ := by kernel_rfl
theorem zo65 : zeroOf ⟨1, 8, Value.nilFunc, (TypeDesc.func #[29, 29] #[4] false)⟩ = .val Value.nilFunc := by simp [zeroOf, ofVal, ofVal0, plain, AV.single]
theorem zk65 : zeroOK ⟨1, 8, Value.nilFunc, (TypeDesc.func #[29, 29] #[4] false)⟩ = true := by simp [zeroOK, zo65, allOne, AV.cells, AV.single]
theorem ty66 : tyOf Try.prog 66 = some ⟨1, 8, Value.nilFunc, (TypeDesc.func #[31, 22] #[4] false)⟩ := by kernel_rfl
theorem zo66 : zeroOf ⟨1, 8, Value.nilFunc, (TypeDesc.func #[31, 22] #[4] false)⟩ = .val Value.nilFunc := by simp [zeroOf, ofVal, ofVal0, plain, AV.single]
theorem zk66 : zeroOK ⟨1, 8, Value.nilFunc, (TypeDesc.func #[31, 22] #[4] false)⟩ = true := by simp [zeroOK, zo66, allOne, AV.cells, AV.single]
theorem ty67 : tyOf Try.prog 67 = some ⟨1, 8, Value.nilFunc, (TypeDesc.func #[3] #[31, 35] false)⟩ := by kernel_rfl
theorem zo67 : zeroOf ⟨1, 8, Value.nilFunc, (TypeDesc.func #[3] #[31, 35] false)⟩ = .val Value.nilFunc := by simp [zeroOf, ofVal, ofVal0, plain, AV.single]
theorem zk67 : zeroOK ⟨1, 8, Value.nilFunc, (TypeDesc.func #[3] #[31, 35] false)⟩ = true := by simp [zeroOK, zo67, allOne, AV.cells, AV.single]
theorem ty68 : tyOf Try.prog 68 = some ⟨1, 8, Value.nilFunc, (TypeDesc.func #[31, 29, 32, 3] #[4] false)⟩ := by kernel_rfl
theorem zo68 : zeroOf ⟨1, 8, Value.nilFunc, (TypeDesc.func #[31, 29, 32, 3] #[4] false)⟩ = .val Value.nilFunc := by simp [zeroOf, ofVal, ofVal0, plain, AV.single]
theorem zk68 : zeroOK ⟨1, 8, Value.nilFunc, (TypeDesc.func #[31, 29, 32, 3] #[4] false)⟩ = true := by simp [zeroOK, zo68, allOne, AV.cells, AV.single]
theorem ty69 : tyOf Try.prog 69 = some ⟨3, 32, (Value.agg #[(Value.int IntKind.i64 0), (Value.int IntKind.i64 0), (Value.string { data := #[] })]), (TypeDesc.struct #[{ name := "K", type := 3, offset := 0, embedded := false, tag := "", pkgPath := "", byteOffset := 0 }, { name := "N", type := 3, offset := 1, embedded := false, tag := "", pkgPath := "", byteOffset := 8 }, { name := "T", type := 9, offset := 2, embedded := false, tag := "", pkgPath := "", byteOffset := 16 }])⟩ := by kernel_rfl
theorem zo69 : zeroOf ⟨3, 32, (Value.agg #[(Value.int IntKind.i64 0), (Value.int IntKind.i64 0), (Value.string { data := #[] })]), (TypeDesc.struct #[{ name := "K", type := 3, offset := 0, embedded := false, tag := "", pkgPath := "", byteOffset := 0 }, { name := "N", type := 3, offset := 1, embedded := false, tag := "", pkgPath := "", byteOffset := 8 }, { name := "T", type := 9, offset := 2, embedded := false, tag := "", pkgPath := "", byteOffset := 16 }])⟩ = .agg [.val (Value.int IntKind.i64 0), .val (Value.int IntKind.i64 0), .val (Value.string { data := #[] })] := by simp [zeroOf, ofVal, ofVal0, plain, AV.single]
theorem zk69 : zeroOK ⟨3, 32, (Value.agg #[(Value.int IntKind.i64 0), (Value.int IntKind.i64 0), (Value.string { data := #[] })]), (TypeDesc.struct #[{ name := "K", type := 3, offset := 0, embedded := false, tag := "", pkgPath := "", byteOffset := 0 }, { name := "N", type := 3, offset := 1, embedded := false, tag := "", pkgPath := "", byteOffset := 8 }, { name := "T", type := 9, offset := 2, embedded := false, tag := "", pkgPath := "", byteOffset := 16 }])⟩ = true := by simp [zeroOK, zo69, allOne, AV.cells, AV.single]
theorem fl69_0 : fldOf Try.prog 69 0 = some (0, ⟨1, 8, (Value.int IntKind.i64 0), (TypeDesc.int IntKind.i64)⟩) := by kernel_rfl
theorem fl69_1 : fldOf Try.prog 69 1 = some (1, ⟨1, 8, (Value.int IntKind.i64 0), (TypeDesc.int IntKind.i64)⟩) := by kernel_rfl
theorem fl69_2 : fldOf Try.prog 69 2 = some (2, ⟨1, 16, (Value.string { data := #[] }), TypeDesc.string⟩) := by kernel_rfl
theorem bu69 (ps : List (Nat × AV)) (K : AV → Prop) : buildA Try.prog 69 ps K = (zeroOK ⟨3, 32, (Value.agg #[(Value.int IntKind.i64 0), (Value.int IntKind.i64 0), (Value.string { data := #[] })]), (TypeDesc.struct #[{ name := "K", type := 3, offset := 0, embedded := false, tag := "", pkgPath := "", byteOffset := 0 }, { name := "N", type := 3, offset := 1, embedded := false, tag := "", pkgPath := "", byteOffset := 8 }, { name := "T", type := 9, offset := 2, embedded := false, tag := "", pkgPath := "", byteOffset := 16 }])⟩ = true ∧ Ty.isAgg ⟨3, 32, (Value.agg #[(Value.int IntKind.i64 0), (Value.int IntKind.i64 0), (Value.string { data := #[] })]), (TypeDesc.struct #[{ name := "K", type := 3, offset := 0, embedded := false, tag := "", pkgPath := "", byteOffset := 0 }, { name := "N", type := 3, offset := 1, embedded := false, tag := "", pkgPath := "", byteOffset := 8 }, { name := "T", type := 9, offset := 2, embedded := false, tag := "", pkgPath := "", byteOffset := 16 }])⟩ = true ∧ fieldsKnown Try.prog 69 = true ∧ fillF Try.prog 69 (zeroOf ⟨3, 32, (Value.agg #[(Value.int IntKind.i64 0), (Value.int IntKind.i64 0), (Value.string { data := #[] })]), (TypeDesc.struct #[{ name := "K", type := 3, offset := 0, embedded := false, tag := "", pkgPath := "", byteOffset := 0 }, { name := "N", type := 3, offset := 1, embedded := false, tag := "", pkgPath := "", byteOffset := 8 }, { name := "T", type := 9, offset := 2, embedded := false, tag := "", pkgPath := "", byteOffset := 16 }])⟩).cells ps (fun cs => K (.agg cs))) := buildA_struct Try.underlying69 ty69 ps K
theorem fk69 : fieldsKnown Try.prog 69 = true := by kernel_rfl
theorem ty70 : tyOf Try.prog 70 = some ⟨3, 32, (Value.agg #[(Value.int IntKind.i64 0), (Value.int IntKind.i64 0), (Value.string { data := #[] })]), (TypeDesc.struct #[{ name := "K", type := 3, offset := 0, embedded := false, tag := "", pkgPath := "", byteOffset := 0 }, { name := "N", type := 3, offset := 1, embedded := false, tag := "", pkgPath := "", byteOffset := 8 }, { name := "T", type := 9, offset := 2, embedded := false, tag := "", pkgPath := "", byteOffset := 16 }])⟩ := by kernel_rfl
theorem zo70 : zeroOf ⟨3, 32, (Value.agg #[(Value.int IntKind.i64 0), (Value.int IntKind.i64 0), (Value.string { data := #[] })]), (TypeDesc.struct #[{ name := "K", type := 3, offset := 0, embedded := false, tag := "", pkgPath := "", byteOffset := 0 }, { name := "N", type := 3, offset := 1, embedded := false, tag := "", pkgPath := "", byteOffset := 8 }, { name := "T", type := 9, offset := 2, embedded := false, tag := "", pkgPath := "", byteOffset := 16 }])⟩ = .agg [.val (Value.int IntKind.i64 0), .val (Value.int IntKind.i64 0), .val (Value.string { data := #[] })] := by simp [zeroOf, ofVal, ofVal0, plain, AV.single]
theorem zk70 : zeroOK ⟨3, 32, (Value.agg #[(Value.int IntKind.i64 0), (Value.int IntKind.i64 0), (Value.string { data := #[] })]), (TypeDesc.struct #[{ name := "K", type := 3, offset := 0, embedded := false, tag := "", pkgPath := "", byteOffset := 0 }, { name := "N", type := 3, offset := 1, embedded := false, tag := "", pkgPath := "", byteOffset := 8 }, { name := "T", type := 9, offset := 2, embedded := false, tag := "", pkgPath := "", byteOffset := 16 }])⟩ = true := by simp [zeroOK, zo70, allOne, AV.cells, AV.single]
theorem fl70_0 : fldOf Try.prog 70 0 = some (0, ⟨1, 8, (Value.int IntKind.i64 0), (TypeDesc.int IntKind.i64)⟩) := by kernel_rfl
theorem fl70_1 : fldOf Try.prog 70 1 = some (1, ⟨1, 8, (Value.int IntKind.i64 0), (TypeDesc.int IntKind.i64)⟩) := by kernel_rfl
theorem fl70_2 : fldOf Try.prog 70 2 = some (2, ⟨1, 16, (Value.string { data := #[] }), TypeDesc.string⟩) := by kernel_rfl
theorem bu70 (ps : List (Nat × AV)) (K : AV → Prop) : buildA Try.prog 70 ps K = (zeroOK ⟨3, 32, (Value.agg #[(Value.int IntKind.i64 0), (Value.int IntKind.i64 0), (Value.string { data := #[] })]), (TypeDesc.struct #[{ name := "K", type := 3, offset := 0, embedded := false, tag := "", pkgPath := "", byteOffset := 0 }, { name := "N", type := 3, offset := 1, embedded := false, tag := "", pkgPath := "", byteOffset := 8 }, { name := "T", type := 9, offset := 2, embedded := false, tag := "", pkgPath := "", byteOffset := 16 }])⟩ = true ∧ Ty.isAgg ⟨3, 32, (Value.agg #[(Value.int IntKind.i64 0), (Value.int IntKind.i64 0), (Value.string { data := #[] })]), (TypeDesc.struct #[{ name := "K", type := 3, offset := 0, embedded := false, tag := "", pkgPath := "", byteOffset := 0 }, { name := "N", type := 3, offset := 1, embedded := false, tag := "", pkgPath := "", byteOffset := 8 }, { name := "T", type := 9, offset := 2, embedded := false, tag := "", pkgPath := "", byteOffset := 16 }])⟩ = true ∧ fieldsKnown Try.prog 70 = true ∧ fillF Try.prog 70 (zeroOf ⟨3, 32, (Value.agg #[(Value.int IntKind.i64 0), (Value.int IntKind.i64 0), (Value.string { data := #[] })]), (TypeDesc.struct #[{ name := "K", type := 3, offset := 0, embedded := false, tag := "", pkgPath := "", byteOffset := 0 }, { name := "N", type := 3, offset := 1, embedded := false, tag := "", pkgPath := "", byteOffset := 8 }, { name := "T", type := 9, offset := 2, embedded := false, tag := "", pkgPath := "", byteOffset := 16 }])⟩).cells ps (fun cs => K (.agg cs))) := buildA_struct Try.underlying70 ty70 ps K
theorem fk70 : fieldsKnown Try.prog 70 = true := by kernel_rfl
theorem ty71 : tyOf Try.prog 71 = some ⟨5, 56, (Value.agg #[(Value.string { data := #[] }), (Value.int IntKind.i64 0), (Value.int IntKind.i64 0), (Value.int IntKind.i64 0), (Value.string { data := #[] })]), (TypeDesc.struct #[{ name := "Name", type := 9, offset := 0, embedded := false, tag := "", pkgPath := "", byteOffset := 0 }, { name := "Kind", type := 3, offset := 1, embedded := false, tag := "", pkgPath := "", byteOffset := 16 }, { name := "V", type := 70, offset := 2, embedded := false, tag := "", pkgPath := "", byteOffset := 24 }])⟩ := by kernel_rfl
theorem zo71 : zeroOf ⟨5, 56, (Value.agg #[(Value.string { data := #[] }), (Value.int IntKind.i64 0), (Value.int IntKind.i64 0), (Value.int IntKind.i64 0), (Value.string { data := #[] })]), (TypeDesc.struct #[{ name := "Name", type := 9, offset := 0, embedded := false, tag := "", pkgPath := "", byteOffset := 0 }, { name := "Kind", type := 3, offset := 1, embedded := false, tag := "", pkgPath := "", byteOffset := 16 }, { name := "V", type := 70, offset := 2, embedded := false, tag := "", pkgPath := "", byteOffset := 24 }])⟩ = .agg [.val (Value.string { data := #[] }), .val (Value.int IntKind.i64 0), .val (Value.int IntKind.i64 0), .val (Value.int IntKind.i64 0), .val (Value.string { data := #[] })] := by simp [zeroOf, ofVal, ofVal0, plain, AV.single]
theorem zk71 : zeroOK ⟨5, 56, (Value.agg #[(Value.string { data := #[] }), (Value.int IntKind.i64 0), (Value.int IntKind.i64 0), (Value.int IntKind.i64 0), (Value.string { data := #[] })]), (TypeDesc.struct #[{ name := "Name", type := 9, offset := 0, embedded := false, tag := "", pkgPath := "", byteOffset := 0 }, { name := "Kind", type := 3, offset := 1, embedded := false, tag := "", pkgPath := "", byteOffset := 16 }, { name := "V", type := 70, offset := 2, embedded := false, tag := "", pkgPath := "", byteOffset := 24 }])⟩ = true := by simp [zeroOK, zo71, allOne, AV.cells, AV.single]
theorem fl71_0 : fldOf Try.prog 71 0 = some (0, ⟨1, 16, (Value.string { data := #[] }), TypeDesc.string⟩) := by kernel_rfl
theorem fl71_1 : fldOf Try.prog 71 1 = some (1, ⟨1, 8, (Value.int IntKind.i64 0), (TypeDesc.int IntKind.i64)⟩) := by kernel_rfl
theorem fl71_2 : fldOf Try.prog 71 2 = some (2, ⟨3, 32, (Value.agg #[(Value.int IntKind.i64 0), (Value.int IntKind.i64 0), (Value.string { data := #[] })]), (TypeDesc.struct #[{ name := "K", type := 3, offset := 0, embedded := false, tag := "", pkgPath := "", byteOffset := 0 }, { name := "N", type := 3, offset := 1, embedded := false, tag := "", pkgPath := "", byteOffset := 8 }, { name := "T", type := 9, offset := 2, embedded := false, tag := "", pkgPath := "", byteOffset := 16 }])⟩) := by kernel_rfl
theorem bu71 (ps : List (Nat × AV)) (K : AV → Prop) : buildA Try.prog 71 ps K = (zeroOK ⟨5, 56, (Value.agg #[(Value.string { data := #[] }), (Value.int IntKind.i64 0), (Value.int IntKind.i64 0), (Value.int IntKind.i64 0), (Value.string { data := #[] })]), (TypeDesc.struct #[{ name := "Name", type := 9, offset := 0, embedded := false, tag := "", pkgPath := "", byteOffset := 0 }, { name := "Kind", type := 3, offset := 1, embedded := false, tag := "", pkgPath := "", byteOffset := 16 }, { name := "V", type := 70, offset := 2, embedded := false, tag := "", pkgPath := "", byteOffset := 24 }])⟩ = true ∧ Ty.isAgg ⟨5, 56, (Value.agg #[(Value.string { data := #[] }), (Value.int IntKind.i64 0), (Value.int IntKind.i64 0), (Value.int IntKind.i64 0), (Value.string { data := #[] })]), (TypeDesc.struct #[{ name := "Name", type := 9, offset := 0, embedded := false, tag := "", pkgPath := "", byteOffset := 0 }, { name := "Kind", type := 3, offset := 1, embedded := false, tag := "", pkgPath := "", byteOffset := 16 }, { name := "V", type := 70, offset := 2, embedded := false, tag := "", pkgPath := "", byteOffset := 24 }])⟩ = true ∧ fieldsKnown Try.prog 71 = true ∧ fillF Try.prog 71 (zeroOf ⟨5, 56, (Value.agg #[(Value.string { data := #[] }), (Value.int IntKind.i64 0), (Value.int IntKind.i64 0), (Value.int IntKind.i64 0), (Value.string { data := #[] })]), (TypeDesc.struct #[{ name := "Name", type := 9, offset := 0, embedded := false, tag := "", pkgPath := "", byteOffset := 0 }, { name := "Kind", type := 3, offset := 1, embedded := false, tag := "", pkgPath := "", byteOffset := 16 }, { name := "V", type := 70, offset := 2, embedded := false, tag := "", pkgPath := "", byteOffset := 24 }])⟩).cells ps (fun cs => K (.agg cs))) := buildA_struct Try.underlying71 ty71 ps K
theorem fk71 : fieldsKnown Try.prog 71 = true := by kernel_rfl
theorem ty72 : tyOf Try.prog 72 = some ⟨5, 56, (Value.agg #[(Value.string { data := #[] }), (Value.int IntKind.i64 0), (Value.int IntKind.i64 0), (Value.int IntKind.i64 0), (Value.string { data := #[] })]), (TypeDesc.struct #[{ name := "Name", type := 9, offset := 0, embedded := false, tag := "", pkgPath := "", byteOffset := 0 }, { name := "Kind", type := 3, offset := 1, embedded := false, tag := "", pkgPath := "", byteOffset := 16 }, { name := "V", type := 70, offset := 2, embedded := false, tag := "", pkgPath := "", byteOffset := 24 }])⟩ := by kernel_rfl
theorem zo72 : zeroOf ⟨5, 56, (Value.agg #[(Value.string { data := #[] }), (Value.int IntKind.i64 0), (Value.int IntKind.i64 0), (Value.int IntKind.i64 0), (Value.string { data := #[] })]), (TypeDesc.struct #[{ name := "Name", type := 9, offset := 0, embedded := false, tag := "", pkgPath := "", byteOffset := 0 }, { name := "Kind", type := 3, offset := 1, embedded := false, tag := "", pkgPath := "", byteOffset := 16 }, { name := "V", type := 70, offset := 2, embedded := false, tag := "", pkgPath := "", byteOffset := 24 }])⟩ = .agg [.val (Value.string { data := #[] }), .val (Value.int IntKind.i64 0), .val (Value.int IntKind.i64 0), .val (Value.int IntKind.i64 0), .val (Value.string { data := #[] })] := by simp [zeroOf, ofVal, ofVal0, plain, AV.single]
theorem zk72 : zeroOK ⟨5, 56, (Value.agg #[(Value.string { data := #[] }), (Value.int IntKind.i64 0), (Value.int IntKind.i64 0), (Value.int IntKind.i64 0), (Value.string { data := #[] })]), (TypeDesc.struct #[{ name := "Name", type := 9, offset := 0, embedded := false, tag := "", pkgPath := "", byteOffset := 0 }, { name := "Kind", type := 3, offset := 1, embedded := false, tag := "", pkgPath := "", byteOffset := 16 }, { name := "V", type := 70, offset := 2, embedded := false, tag := "", pkgPath := "", byteOffset := 24 }])⟩ = true := by simp [zeroOK, zo72, allOne, AV.cells, AV.single]
theorem fl72_0 : fldOf Try.prog 72 0 = some (0, ⟨1, 16, (Value.string { data := #[] }), TypeDesc.string⟩) := by kernel_rfl
theorem fl72_1 : fldOf Try.prog 72 1 = some (1, ⟨1, 8, (Value.int IntKind.i64 0), (TypeDesc.int IntKind.i64)⟩) := by kernel_rfl
theorem fl72_2 : fldOf Try.prog 72 2 = some (2, ⟨3, 32, (Value.agg #[(Value.int IntKind.i64 0), (Value.int IntKind.i64 0), (Value.string { data := #[] })]), (TypeDesc.struct #[{ name := "K", type := 3, offset := 0, embedded := false, tag := "", pkgPath := "", byteOffset := 0 }, { name := "N", type := 3, offset := 1, embedded := false, tag := "", pkgPath := "", byteOffset := 8 }, { name := "T", type := 9, offset := 2, embedded := false, tag := "", pkgPath := "", byteOffset := 16 }])⟩) := by kernel_rfl
theorem bu72 (ps : List (Nat × AV)) (K : AV → Prop) : buildA Try.prog 72 ps K = (zeroOK ⟨5, 56, (Value.agg #[(Value.string { data := #[] }), (Value.int IntKind.i64 0), (Value.int IntKind.i64 0), (Value.int IntKind.i64 0), (Value.string { data := #[] })]), (TypeDesc.struct #[{ name := "Name", type := 9, offset := 0, embedded := false, tag := "", pkgPath := "", byteOffset := 0 }, { name := "Kind", type := 3, offset := 1, embedded := false, tag := "", pkgPath := "", byteOffset := 16 }, { name := "V", type := 70, offset := 2, embedded := false, tag := "", pkgPath := "", byteOffset := 24 }])⟩ = true ∧ Ty.isAgg ⟨5, 56, (Value.agg #[(Value.string { data := #[] }), (Value.int IntKind.i64 0), (Value.int IntKind.i64 0), (Value.int IntKind.i64 0), (Value.string { data := #[] })]), (TypeDesc.struct #[{ name := "Name", type := 9, offset := 0, embedded := false, tag := "", pkgPath := "", byteOffset := 0 }, { name := "Kind", type := 3, offset := 1, embedded := false, tag := "", pkgPath := "", byteOffset := 16 }, { name := "V", type := 70, offset := 2, embedded := false, tag := "", pkgPath := "", byteOffset := 24 }])⟩ = true ∧ fieldsKnown Try.prog 72 = true ∧ fillF Try.prog 72 (zeroOf ⟨5, 56, (Value.agg #[(Value.string { data := #[] }), (Value.int IntKind.i64 0), (Value.int IntKind.i64 0), (Value.int IntKind.i64 0), (Value.string { data := #[] })]), (TypeDesc.struct #[{ name := "Name", type := 9, offset := 0, embedded := false, tag := "", pkgPath := "", byteOffset := 0 }, { name := "Kind", type := 3, offset := 1, embedded := false, tag := "", pkgPath := "", byteOffset := 16 }, { name := "V", type := 70, offset := 2, embedded := false, tag := "", pkgPath := "", byteOffset := 24 }])⟩).cells ps (fun cs => K (.agg cs))) := buildA_struct Try.underlying72 ty72 ps K
theorem fk72 : fieldsKnown Try.prog 72 = true := by kernel_rfl
theorem ty73 : tyOf Try.prog 73 = some ⟨8, 88, (Value.agg #[(Value.int IntKind.i64 0), (Value.int IntKind.i64 0), (Value.string { data := #[] }), (Value.string { data := #[] }), (Value.int IntKind.i64 0), (Value.int IntKind.i64 0), (Value.int IntKind.i64 0), (Value.string { data := #[] })]), (TypeDesc.struct #[{ name := "Kind", type := 3, offset := 0, embedded := false, tag := "", pkgPath := "", byteOffset := 0 }, { name := "Oid", type := 3, offset := 1, embedded := false, tag := "", pkgPath := "", byteOffset := 8 }, { name := "Name", type := 9, offset := 2, embedded := false, tag := "", pkgPath := "", byteOffset := 16 }, { name := "Slot", type := 72, offset := 3, embedded := false, tag := "", pkgPath := "", byteOffset := 32 }])⟩ := by kernel_rfl
theorem zo73 : zeroOf ⟨8, 88, (Value.agg #[(Value.int IntKind.i64 0), (Value.int IntKind.i64 0), (Value.string { data := #[] }), (Value.string { data := #[] }), (Value.int IntKind.i64 0), (Value.int IntKind.i64 0), (Value.int IntKind.i64 0), (Value.string { data := #[] })]), (TypeDesc.struct #[{ name := "Kind", type := 3, offset := 0, embedded := false, tag := "", pkgPath := "", byteOffset := 0 }, { name := "Oid", type := 3, offset := 1, embedded := false, tag := "", pkgPath := "", byteOffset := 8 }, { name := "Name", type := 9, offset := 2, embedded := false, tag := "", pkgPath := "", byteOffset := 16 }, { name := "Slot", type := 72, offset := 3, embedded := false, tag := "", pkgPath := "", byteOffset := 32 }])⟩ = .agg [.val (Value.int IntKind.i64 0), .val (Value.int IntKind.i64 0), .val (Value.string { data := #[] }), .val (Value.string { data := #[] }), .val (Value.int IntKind.i64 0), .val (Value.int IntKind.i64 0), .val (Value.int IntKind.i64 0), .val (Value.string { data := #[] })] := by simp [zeroOf, ofVal, ofVal0, plain, AV.single]
theorem zk73 : zeroOK ⟨8, 88, (Value.agg #[(Value.int IntKind.i64 0), (Value.int IntKind.i64 0), (Value.string { data := #[] }), (Value.string { data := #[] }), (Value.int IntKind.i64 0), (Value.int IntKind.i64 0), (Value.int IntKind.i64 0), (Value.string { data := #[] })]), (TypeDesc.struct #[{ name := "Kind", type := 3, offset := 0, embedded := false, tag := "", pkgPath := "", byteOffset := 0 }, { name := "Oid", type := 3, offset := 1, embedded := false, tag := "", pkgPath := "", byteOffset := 8 }, { name := "Name", type := 9, offset := 2, embedded := false, tag := "", pkgPath := "", byteOffset := 16 }, { name := "Slot", type := 72, offset := 3, embedded := false, tag := "", pkgPath := "", byteOffset := 32 }])⟩ = true := by simp [zeroOK, zo73, allOne, AV.cells, AV.single]
theorem fl73_0 : fldOf Try.prog 73 0 = some (0, ⟨1, 8, (Value.int IntKind.i64 0), (TypeDesc.int IntKind.i64)⟩) := by kernel_rfl
theorem fl73_1 : fldOf Try.prog 73 1 = some (1, ⟨1, 8, (Value.int IntKind.i64 0), (TypeDesc.int IntKind.i64)⟩) := by kernel_rfl
theorem fl73_2 : fldOf Try.prog 73 2 = some (2, ⟨1, 16, (Value.string { data := #[] }), TypeDesc.string⟩) := by kernel_rfl
theorem fl73_3 : fldOf Try.prog 73 3 = some (3, ⟨5, 56, (Value.agg #[(Value.string { data := #[] }), (Value.int IntKind.i64 0), (Value.int IntKind.i64 0), (Value.int IntKind.i64 0), (Value.string { data := #[] })]), (TypeDesc.struct #[{ name := "Name", type := 9, offset := 0, embedded := false, tag := "", pkgPath := "", byteOffset := 0 }, { name := "Kind", type := 3, offset := 1, embedded := false, tag := "", pkgPath := "", byteOffset := 16 }, { name := "V", type := 70, offset := 2, embedded := false, tag := "", pkgPath := "", byteOffset := 24 }])⟩) := by kernel_rfl
theorem bu73 (ps : List (Nat × AV)) (K : AV → Prop) : buildA Try.prog 73 ps K = (zeroOK ⟨8, 88, (Value.agg #[(Value.int IntKind.i64 0), (Value.int IntKind.i64 0), (Value.string { data := #[] }), (Value.string { data := #[] }), (Value.int IntKind.i64 0), (Value.int IntKind.i64 0), (Value.int IntKind.i64 0), (Value.string { data := #[] })]), (TypeDesc.struct #[{ name := "Kind", type := 3, offset := 0, embedded := false, tag := "", pkgPath := "", byteOffset := 0 }, { name := "Oid", type := 3, offset := 1, embedded := false, tag := "", pkgPath := "", byteOffset := 8 }, { name := "Name", type := 9, offset := 2, embedded := false, tag := "", pkgPath := "", byteOffset := 16 }, { name := "Slot", type := 72, offset := 3, embedded := false, tag := "", pkgPath := "", byteOffset := 32 }])⟩ = true ∧ Ty.isAgg ⟨8, 88, (Value.agg #[(Value.int IntKind.i64 0), (Value.int IntKind.i64 0), (Value.string { data := #[] }), (Value.string { data := #[] }), (Value.int IntKind.i64 0), (Value.int IntKind.i64 0), (Value.int IntKind.i64 0), (Value.string { data := #[] })]), (TypeDesc.struct #[{ name := "Kind", type := 3, offset := 0, embedded := false, tag := "", pkgPath := "", byteOffset := 0 }, { name := "Oid", type := 3, offset := 1, embedded := false, tag := "", pkgPath := "", byteOffset := 8 }, { name := "Name", type := 9, offset := 2, embedded := false, tag := "", pkgPath := "", byteOffset := 16 }, { name := "Slot", type := 72, offset := 3, embedded := false, tag := "", pkgPath := "", byteOffset := 32 }])⟩ = true ∧ fieldsKnown Try.prog 73 = true ∧ fillF Try.prog 73 (zeroOf ⟨8, 88, (Value.agg #[(Value.int IntKind.i64 0), (Value.int IntKind.i64 0), (Value.string { data := #[] }), (Value.string { data := #[] }), (Value.int IntKind.i64 0), (Value.int IntKind.i64 0), (Value.int IntKind.i64 0), (Value.string { data := #[] })]), (TypeDesc.struct #[{ name := "Kind", type := 3, offset := 0, embedded := false, tag := "", pkgPath := "", byteOffset := 0 }, { name := "Oid", type := 3, offset := 1, embedded := false, tag := "", pkgPath := "", byteOffset := 8 }, { name := "Name", type := 9, offset := 2, embedded := false, tag := "", pkgPath := "", byteOffset := 16 }, { name := "Slot", type := 72, offset := 3, embedded := false, tag := "", pkgPath := "", byteOffset := 32 }])⟩).cells ps (fun cs => K (.agg cs))) := buildA_struct Try.underlying73 ty73 ps K
theorem fk73 : fieldsKnown Try.prog 73 = true := by kernel_rfl
theorem ty74 : tyOf Try.prog 74 = some ⟨8, 88, (Value.agg #[(Value.int IntKind.i64 0), (Value.int IntKind.i64 0), (Value.string { data := #[] }), (Value.string { data := #[] }), (Value.int IntKind.i64 0), (Value.int IntKind.i64 0), (Value.int IntKind.i64 0), (Value.string { data := #[] })]), (TypeDesc.struct #[{ name := "Kind", type := 3, offset := 0, embedded := false, tag := "", pkgPath := "", byteOffset := 0 }, { name := "Oid", type := 3, offset := 1, embedded := false, tag := "", pkgPath := "", byteOffset := 8 }, { name := "Name", type := 9, offset := 2, embedded := false, tag := "", pkgPath := "", byteOffset := 16 }, { name := "Slot", type := 72, offset := 3, embedded := false, tag := "", pkgPath := "", byteOffset := 32 }])⟩ := by kernel_rfl
theorem zo74 : zeroOf ⟨8, 88, (Value.agg #[(Value.int IntKind.i64 0), (Value.int IntKind.i64 0), (Value.string { data := #[] }), (Value.string { data := #[] }), (Value.int IntKind.i64 0), (Value.int IntKind.i64 0), (Value.int IntKind.i64 0), (Value.string { data := #[] })]), (TypeDesc.struct #[{ name := "Kind", type := 3, offset := 0, embedded := false, tag := "", pkgPath := "", byteOffset := 0 }, { name := "Oid", type := 3, offset := 1, embedded := false, tag := "", pkgPath := "", byteOffset := 8 }, { name := "Name", type := 9, offset := 2, embedded := false, tag := "", pkgPath := "", byteOffset := 16 }, { name := "Slot", type := 72, offset := 3, embedded := false, tag := "", pkgPath := "", byteOffset := 32 }])⟩ = .agg [.val (Value.int IntKind.i64 0), .val (Value.int IntKind.i64 0), .val (Value.string { data := #[] }), .val (Value.string { data := #[] }), .val (Value.int IntKind.i64 0), .val (Value.int IntKind.i64 0), .val (Value.int IntKind.i64 0), .val (Value.string { data := #[] })] := by simp [zeroOf, ofVal, ofVal0, plain, AV.single]
theorem zk74 : zeroOK ⟨8, 88, (Value.agg #[(Value.int IntKind.i64 0), (Value.int IntKind.i64 0), (Value.string { data := #[] }), (Value.string { data := #[] }), (Value.int IntKind.i64 0), (Value.int IntKind.i64 0), (Value.int IntKind.i64 0), (Value.string { data := #[] })]), (TypeDesc.struct #[{ name := "Kind", type := 3, offset := 0, embedded := false, tag := "", pkgPath := "", byteOffset := 0 }, { name := "Oid", type := 3, offset := 1, embedded := false, tag := "", pkgPath := "", byteOffset := 8 }, { name := "Name", type := 9, offset := 2, embedded := false, tag := "", pkgPath := "", byteOffset := 16 }, { name := "Slot", type := 72, offset := 3, embedded := false, tag := "", pkgPath := "", byteOffset := 32 }])⟩ = true := by simp [zeroOK, zo74, allOne, AV.cells, AV.single]
theorem fl74_0 : fldOf Try.prog 74 0 = some (0, ⟨1, 8, (Value.int IntKind.i64 0), (TypeDesc.int IntKind.i64)⟩) := by kernel_rfl
theorem fl74_1 : fldOf Try.prog 74 1 = some (1, ⟨1, 8, (Value.int IntKind.i64 0), (TypeDesc.int IntKind.i64)⟩) := by kernel_rfl
theorem fl74_2 : fldOf Try.prog 74 2 = some (2, ⟨1, 16, (Value.string { data := #[] }), TypeDesc.string⟩) := by kernel_rfl
theorem fl74_3 : fldOf Try.prog 74 3 = some (3, ⟨5, 56, (Value.agg #[(Value.string { data := #[] }), (Value.int IntKind.i64 0), (Value.int IntKind.i64 0), (Value.int IntKind.i64 0), (Value.string { data := #[] })]), (TypeDesc.struct #[{ name := "Name", type := 9, offset := 0, embedded := false, tag := "", pkgPath := "", byteOffset := 0 }, { name := "Kind", type := 3, offset := 1, embedded := false, tag := "", pkgPath := "", byteOffset := 16 }, { name := "V", type := 70, offset := 2, embedded := false, tag := "", pkgPath := "", byteOffset := 24 }])⟩) := by kernel_rfl
theorem bu74 (ps : List (Nat × AV)) (K : AV → Prop) : buildA Try.prog 74 ps K = (zeroOK ⟨8, 88, (Value.agg #[(Value.int IntKind.i64 0), (Value.int IntKind.i64 0), (Value.string { data := #[] }), (Value.string { data := #[] }), (Value.int IntKind.i64 0), (Value.int IntKind.i64 0), (Value.int IntKind.i64 0), (Value.string { data := #[] })]), (TypeDesc.struct #[{ name := "Kind", type := 3, offset := 0, embedded := false, tag := "", pkgPath := "", byteOffset := 0 }, { name := "Oid", type := 3, offset := 1, embedded := false, tag := "", pkgPath := "", byteOffset := 8 }, { name := "Name", type := 9, offset := 2, embedded := false, tag := "", pkgPath := "", byteOffset := 16 }, { name := "Slot", type := 72, offset := 3, embedded := false, tag := "", pkgPath := "", byteOffset := 32 }])⟩ = true ∧ Ty.isAgg ⟨8, 88, (Value.agg #[(Value.int IntKind.i64 0), (Value.int IntKind.i64 0), (Value.string { data := #[] }), (Value.string { data := #[] }), (Value.int IntKind.i64 0), (Value.int IntKind.i64 0), (Value.int IntKind.i64 0), (Value.string { data := #[] })]), (TypeDesc.struct #[{ name := "Kind", type := 3, offset := 0, embedded := false, tag := "", pkgPath := "", byteOffset := 0 }, { name := "Oid", type := 3, offset := 1, embedded := false, tag := "", pkgPath := "", byteOffset := 8 }, { name := "Name", type := 9, offset := 2, embedded := false, tag := "", pkgPath := "", byteOffset := 16 }, { name := "Slot", type := 72, offset := 3, embedded := false, tag := "", pkgPath := "", byteOffset := 32 }])⟩ = true ∧ fieldsKnown Try.prog 74 = true ∧ fillF Try.prog 74 (zeroOf ⟨8, 88, (Value.agg #[(Value.int IntKind.i64 0), (Value.int IntKind.i64 0), (Value.string { data := #[] }), (Value.string { data := #[] }), (Value.int IntKind.i64 0), (Value.int IntKind.i64 0), (Value.int IntKind.i64 0), (Value.string { data := #[] })]), (TypeDesc.struct #[{ name := "Kind", type := 3, offset := 0, embedded := false, tag := "", pkgPath := "", byteOffset := 0 }, { name := "Oid", type := 3, offset := 1, embedded := false, tag := "", pkgPath := "", byteOffset := 8 }, { name := "Name", type := 9, offset := 2, embedded := false, tag := "", pkgPath := "", byteOffset := 16 }, { name := "Slot", type := 72, offset := 3, embedded := false, tag := "", pkgPath := "", byteOffset := 32 }])⟩).cells ps (fun cs => K (.agg cs))) := buildA_struct Try.underlying74 ty74 ps K
theorem fk74 : fieldsKnown Try.prog 74 = true := by kernel_rfl
theorem ty75 : tyOf Try.prog 75 = some ⟨1, 0, (Value.tuple #[(Value.agg #[(Value.int IntKind.i64 0), (Value.int IntKind.i64 0), (Value.string { data := #[] }), (Value.string { data := #[] }), (Value.int IntKind.i64 0), (Value.int IntKind.i64 0), (Value.int IntKind.i64 0), (Value.string { data := #[] })]), (Value.int IntKind.i64 0)]), (TypeDesc.tuple #[74, 35])⟩ := by kernel_rfl
theorem ty76 : tyOf Try.prog 76 = some ⟨1, 8, Value.nilFunc, (TypeDesc.func #[22] #[74, 35] false)⟩ := by kernel_rfl
theorem zo76 : zeroOf ⟨1, 8, Value.nilFunc, (TypeDesc.func #[22] #[74, 35] false)⟩ = .val Value.nilFunc := by simp [zeroOf, ofVal, ofVal0, plain, AV.single]
theorem zk76 : zeroOK ⟨1, 8, Value.nilFunc, (TypeDesc.func #[22] #[74, 35] false)⟩ = true := by simp [zeroOK, zo76, allOne, AV.cells, AV.single]
theorem ty77 : tyOf Try.prog 77 = some ⟨1, 8, Value.nilFunc, (TypeDesc.func #[74] #[22] false)⟩ := by kernel_rfl
theorem zo77 : zeroOf ⟨1, 8, Value.nilFunc, (TypeDesc.func #[74] #[22] false)⟩ = .val Value.nilFunc := by simp [zeroOf, ofVal, ofVal0, plain, AV.single]
theorem zk77 : zeroOK ⟨1, 8, Value.nilFunc, (TypeDesc.func #[74] #[22] false)⟩ = true := by simp [zeroOK, zo77, allOne, AV.cells, AV.single]
theorem ty78 : tyOf Try.prog 78 = some ⟨1, 8, Value.nilFunc, (TypeDesc.func #[22, 22, 74] #[4] false)⟩ := by kernel_rfl
theorem zo78 : zeroOf ⟨1, 8, Value.nilFunc, (TypeDesc.func #[22, 22, 74] #[4] false)⟩ = .val Value.nilFunc := by simp [zeroOf, ofVal, ofVal0, plain, AV.single]
theorem zk78 : zeroOK ⟨1, 8, Value.nilFunc, (TypeDesc.func #[22, 22, 74] #[4] false)⟩ = true := by simp [zeroOK, zo78, allOne, AV.cells, AV.single]
theorem ty79 : tyOf Try.prog 79 = some ⟨1, 8, Value.nilFunc, (TypeDesc.func #[31, 22, 25, 74] #[4] false)⟩ := by kernel_rfl
theorem zo79 : zeroOf ⟨1, 8, Value.nilFunc, (TypeDesc.func #[31, 22, 25, 74] #[4] false)⟩ = .val Value.nilFunc := by simp [zeroOf, ofVal, ofVal0, plain, AV.single]
theorem zk79 : zeroOK ⟨1, 8, Value.nilFunc, (TypeDesc.func #[31, 22, 25, 74] #[4] false)⟩ = true := by simp [zeroOK, zo79, allOne, AV.cells, AV.single]
theorem ty80 : tyOf Try.prog 80 = some ⟨1, 8, Value.nilFunc, (TypeDesc.func #[125] #[] false)⟩ := by kernel_rfl
theorem zo80 : zeroOf ⟨1, 8, Value.nilFunc, (TypeDesc.func #[125] #[] false)⟩ = .val Value.nilFunc := by simp [zeroOf, ofVal, ofVal0, plain, AV.single]
theorem zk80 : zeroOK ⟨1, 8, Value.nilFunc, (TypeDesc.func #[125] #[] false)⟩ = true := by simp [zeroOK, zo80, allOne, AV.cells, AV.single]
theorem ty81 : tyOf Try.prog 81 = some ⟨1, 8, Value.nilFunc, (TypeDesc.func #[125] #[] false)⟩ := by kernel_rfl
theorem zo81 : zeroOf ⟨1, 8, Value.nilFunc, (TypeDesc.func #[125] #[] false)⟩ = .val Value.nilFunc := by simp [zeroOf, ofVal, ofVal0, plain, AV.single]
theorem zk81 : zeroOK ⟨1, 8, Value.nilFunc, (TypeDesc.func #[125] #[] false)⟩ = true := by simp [zeroOK, zo81, allOne, AV.cells, AV.single]
theorem ty82 : tyOf Try.prog 82 = some ⟨1, 8, Value.nilFunc, (TypeDesc.func #[22] #[81] false)⟩ := by kernel_rfl
theorem zo82 : zeroOf ⟨1, 8, Value.nilFunc, (TypeDesc.func #[22] #[81] false)⟩ = .val Value.nilFunc := by simp [zeroOf, ofVal, ofVal0, plain, AV.single]
theorem zk82 : zeroOK ⟨1, 8, Value.nilFunc, (TypeDesc.func #[22] #[81] false)⟩ = true := by simp [zeroOK, zo82, allOne, AV.cells, AV.single]
theorem ty83 : tyOf Try.prog 83 = some ⟨1, 8, Value.nilFunc, (TypeDesc.func #[29, 85] #[4] false)⟩ := by kernel_rfl
theorem zo83 : zeroOf ⟨1, 8, Value.nilFunc, (TypeDesc.func #[29, 85] #[4] false)⟩ = .val Value.nilFunc := by simp [zeroOf, ofVal, ofVal0, plain, AV.single]
theorem zk83 : zeroOK ⟨1, 8, Value.nilFunc, (TypeDesc.func #[29, 85] #[4] false)⟩ = true := by simp [zeroOK, zo83, allOne, AV.cells, AV.single]
theorem ty84 : tyOf Try.prog 84 = some ⟨1, 8, Value.nilFunc, (TypeDesc.func #[39, 3] #[4] false)⟩ := by kernel_rfl
theorem zo84 : zeroOf ⟨1, 8, Value.nilFunc, (TypeDesc.func #[39, 3] #[4] false)⟩ = .val Value.nilFunc := by simp [zeroOf, ofVal, ofVal0, plain, AV.single]
theorem zk84 : zeroOK ⟨1, 8, Value.nilFunc, (TypeDesc.func #[39, 3] #[4] false)⟩ = true := by simp [zeroOK, zo84, allOne, AV.cells, AV.single]
theorem ty85 : tyOf Try.prog 85 = some ⟨1, 8, Value.nilFunc, (TypeDesc.func #[39] #[4] false)⟩ := by kernel_rfl
theorem zo85 : zeroOf ⟨1, 8, Value.nilFunc, (TypeDesc.func #[39] #[4] false)⟩ = .val Value.nilFunc := by simp [zeroOf, ofVal, ofVal0, plain, AV.single]
theorem zk85 : zeroOK ⟨1, 8, Value.nilFunc, (TypeDesc.func #[39] #[4] false)⟩ = true := by simp [zeroOK, zo85, allOne, AV.cells, AV.single]
theorem ty86 : tyOf Try.prog 86 = some ⟨1, 8, Value.nilFunc, (TypeDesc.func #[29, 87] #[29] false)⟩ := by kernel_rfl
theorem zo86 : zeroOf ⟨1, 8, Value.nilFunc, (TypeDesc.func #[29, 87] #[29] false)⟩ = .val Value.nilFunc := by simp [zeroOf, ofVal, ofVal0, plain, AV.single]
theorem zk86 : zeroOK ⟨1, 8, Value.nilFunc, (TypeDesc.func #[29, 87] #[29] false)⟩ = true := by simp [zeroOK, zo86, allOne, AV.cells, AV.single]
theorem ty87 : tyOf Try.prog 87 = some ⟨1, 8, Value.nilFunc, (TypeDesc.func #[39] #[39] false)⟩ := by kernel_rfl
theorem zo87 : zeroOf ⟨1, 8, Value.nilFunc, (TypeDesc.func #[39] #[39] false)⟩ = .val Value.nilFunc := by simp [zeroOf, ofVal, ofVal0, plain, AV.single]
theorem zk87 : zeroOK ⟨1, 8, Value.nilFunc, (TypeDesc.func #[39] #[39] false)⟩ = true := by simp [zeroOK, zo87, allOne, AV.cells, AV.single]
theorem ty88 : tyOf Try.prog 88 = some ⟨4, 80, (Value.agg #[(Value.slice none 0 0), (Value.slice none 0 0), (Value.slice none 0 0), (Value.int IntKind.i64 0)]), (TypeDesc.struct #[{ name := "Disk", type := 31, offset := 0, embedded := true, tag := "", pkgPath := "", byteOffset := 0 }, { name := "seen", type := 22, offset := 2, embedded := false, tag := "", pkgPath := "proteus/disk", byteOffset := 48 }, { name := "half", type := 3, offset := 3, embedded := false, tag := "", pkgPath := "proteus/disk", byteOffset := 72 }])⟩ := by kernel_rfl
theorem zo88 : zeroOf ⟨4, 80, (Value.agg #[(Value.slice none 0 0), (Value.slice none 0 0), (Value.slice none 0 0), (Value.int IntKind.i64 0)]), (TypeDesc.struct #[{ name := "Disk", type := 31, offset := 0, embedded := true, tag := "", pkgPath := "", byteOffset := 0 }, { name := "seen", type := 22, offset := 2, embedded := false, tag := "", pkgPath := "proteus/disk", byteOffset := 48 }, { name := "half", type := 3, offset := 3, embedded := false, tag := "", pkgPath := "proteus/disk", byteOffset := 72 }])⟩ = .agg [.sl true [], .sl true [], .sl true [], .val (Value.int IntKind.i64 0)] := by simp [zeroOf, ofVal, ofVal0, plain, AV.single]
theorem zk88 : zeroOK ⟨4, 80, (Value.agg #[(Value.slice none 0 0), (Value.slice none 0 0), (Value.slice none 0 0), (Value.int IntKind.i64 0)]), (TypeDesc.struct #[{ name := "Disk", type := 31, offset := 0, embedded := true, tag := "", pkgPath := "", byteOffset := 0 }, { name := "seen", type := 22, offset := 2, embedded := false, tag := "", pkgPath := "proteus/disk", byteOffset := 48 }, { name := "half", type := 3, offset := 3, embedded := false, tag := "", pkgPath := "proteus/disk", byteOffset := 72 }])⟩ = true := by simp [zeroOK, zo88, allOne, AV.cells, AV.single]
theorem fl88_0 : fldOf Try.prog 88 0 = some (0, ⟨2, 48, (Value.agg #[(Value.slice none 0 0), (Value.slice none 0 0)]), (TypeDesc.struct #[{ name := "Bytes", type := 22, offset := 0, embedded := false, tag := "", pkgPath := "", byteOffset := 0 }, { name := "Queue", type := 29, offset := 1, embedded := false, tag := "", pkgPath := "", byteOffset := 24 }])⟩) := by kernel_rfl
theorem fl88_1 : fldOf Try.prog 88 1 = some (2, ⟨1, 24, (Value.slice none 0 0), (TypeDesc.slice 5)⟩) := by kernel_rfl
theorem fl88_2 : fldOf Try.prog 88 2 = some (3, ⟨1, 8, (Value.int IntKind.i64 0), (TypeDesc.int IntKind.i64)⟩) := by kernel_rfl
theorem bu88 (ps : List (Nat × AV)) (K : AV → Prop) : buildA Try.prog 88 ps K = (zeroOK ⟨4, 80, (Value.agg #[(Value.slice none 0 0), (Value.slice none 0 0), (Value.slice none 0 0), (Value.int IntKind.i64 0)]), (TypeDesc.struct #[{ name := "Disk", type := 31, offset := 0, embedded := true, tag := "", pkgPath := "", byteOffset := 0 }, { name := "seen", type := 22, offset := 2, embedded := false, tag := "", pkgPath := "proteus/disk", byteOffset := 48 }, { name := "half", type := 3, offset := 3, embedded := false, tag := "", pkgPath := "proteus/disk", byteOffset := 72 }])⟩ = true ∧ Ty.isAgg ⟨4, 80, (Value.agg #[(Value.slice none 0 0), (Value.slice none 0 0), (Value.slice none 0 0), (Value.int IntKind.i64 0)]), (TypeDesc.struct #[{ name := "Disk", type := 31, offset := 0, embedded := true, tag := "", pkgPath := "", byteOffset := 0 }, { name := "seen", type := 22, offset := 2, embedded := false, tag := "", pkgPath := "proteus/disk", byteOffset := 48 }, { name := "half", type := 3, offset := 3, embedded := false, tag := "", pkgPath := "proteus/disk", byteOffset := 72 }])⟩ = true ∧ fieldsKnown Try.prog 88 = true ∧ fillF Try.prog 88 (zeroOf ⟨4, 80, (Value.agg #[(Value.slice none 0 0), (Value.slice none 0 0), (Value.slice none 0 0), (Value.int IntKind.i64 0)]), (TypeDesc.struct #[{ name := "Disk", type := 31, offset := 0, embedded := true, tag := "", pkgPath := "", byteOffset := 0 }, { name := "seen", type := 22, offset := 2, embedded := false, tag := "", pkgPath := "proteus/disk", byteOffset := 48 }, { name := "half", type := 3, offset := 3, embedded := false, tag := "", pkgPath := "proteus/disk", byteOffset := 72 }])⟩).cells ps (fun cs => K (.agg cs))) := buildA_struct Try.underlying88 ty88 ps K
theorem fk88 : fieldsKnown Try.prog 88 = true := by kernel_rfl
theorem ty89 : tyOf Try.prog 89 = some ⟨4, 80, (Value.agg #[(Value.slice none 0 0), (Value.slice none 0 0), (Value.slice none 0 0), (Value.int IntKind.i64 0)]), (TypeDesc.struct #[{ name := "Disk", type := 31, offset := 0, embedded := true, tag := "", pkgPath := "", byteOffset := 0 }, { name := "seen", type := 22, offset := 2, embedded := false, tag := "", pkgPath := "proteus/disk", byteOffset := 48 }, { name := "half", type := 3, offset := 3, embedded := false, tag := "", pkgPath := "proteus/disk", byteOffset := 72 }])⟩ := by kernel_rfl
theorem zo89 : zeroOf ⟨4, 80, (Value.agg #[(Value.slice none 0 0), (Value.slice none 0 0), (Value.slice none 0 0), (Value.int IntKind.i64 0)]), (TypeDesc.struct #[{ name := "Disk", type := 31, offset := 0, embedded := true, tag := "", pkgPath := "", byteOffset := 0 }, { name := "seen", type := 22, offset := 2, embedded := false, tag := "", pkgPath := "proteus/disk", byteOffset := 48 }, { name := "half", type := 3, offset := 3, embedded := false, tag := "", pkgPath := "proteus/disk", byteOffset := 72 }])⟩ = .agg [.sl true [], .sl true [], .sl true [], .val (Value.int IntKind.i64 0)] := by simp [zeroOf, ofVal, ofVal0, plain, AV.single]
theorem zk89 : zeroOK ⟨4, 80, (Value.agg #[(Value.slice none 0 0), (Value.slice none 0 0), (Value.slice none 0 0), (Value.int IntKind.i64 0)]), (TypeDesc.struct #[{ name := "Disk", type := 31, offset := 0, embedded := true, tag := "", pkgPath := "", byteOffset := 0 }, { name := "seen", type := 22, offset := 2, embedded := false, tag := "", pkgPath := "proteus/disk", byteOffset := 48 }, { name := "half", type := 3, offset := 3, embedded := false, tag := "", pkgPath := "proteus/disk", byteOffset := 72 }])⟩ = true := by simp [zeroOK, zo89, allOne, AV.cells, AV.single]
theorem fl89_0 : fldOf Try.prog 89 0 = some (0, ⟨2, 48, (Value.agg #[(Value.slice none 0 0), (Value.slice none 0 0)]), (TypeDesc.struct #[{ name := "Bytes", type := 22, offset := 0, embedded := false, tag := "", pkgPath := "", byteOffset := 0 }, { name := "Queue", type := 29, offset := 1, embedded := false, tag := "", pkgPath := "", byteOffset := 24 }])⟩) := by kernel_rfl
theorem fl89_1 : fldOf Try.prog 89 1 = some (2, ⟨1, 24, (Value.slice none 0 0), (TypeDesc.slice 5)⟩) := by kernel_rfl
theorem fl89_2 : fldOf Try.prog 89 2 = some (3, ⟨1, 8, (Value.int IntKind.i64 0), (TypeDesc.int IntKind.i64)⟩) := by kernel_rfl
theorem bu89 (ps : List (Nat × AV)) (K : AV → Prop) : buildA Try.prog 89 ps K = (zeroOK ⟨4, 80, (Value.agg #[(Value.slice none 0 0), (Value.slice none 0 0), (Value.slice none 0 0), (Value.int IntKind.i64 0)]), (TypeDesc.struct #[{ name := "Disk", type := 31, offset := 0, embedded := true, tag := "", pkgPath := "", byteOffset := 0 }, { name := "seen", type := 22, offset := 2, embedded := false, tag := "", pkgPath := "proteus/disk", byteOffset := 48 }, { name := "half", type := 3, offset := 3, embedded := false, tag := "", pkgPath := "proteus/disk", byteOffset := 72 }])⟩ = true ∧ Ty.isAgg ⟨4, 80, (Value.agg #[(Value.slice none 0 0), (Value.slice none 0 0), (Value.slice none 0 0), (Value.int IntKind.i64 0)]), (TypeDesc.struct #[{ name := "Disk", type := 31, offset := 0, embedded := true, tag := "", pkgPath := "", byteOffset := 0 }, { name := "seen", type := 22, offset := 2, embedded := false, tag := "", pkgPath := "proteus/disk", byteOffset := 48 }, { name := "half", type := 3, offset := 3, embedded := false, tag := "", pkgPath := "proteus/disk", byteOffset := 72 }])⟩ = true ∧ fieldsKnown Try.prog 89 = true ∧ fillF Try.prog 89 (zeroOf ⟨4, 80, (Value.agg #[(Value.slice none 0 0), (Value.slice none 0 0), (Value.slice none 0 0), (Value.int IntKind.i64 0)]), (TypeDesc.struct #[{ name := "Disk", type := 31, offset := 0, embedded := true, tag := "", pkgPath := "", byteOffset := 0 }, { name := "seen", type := 22, offset := 2, embedded := false, tag := "", pkgPath := "proteus/disk", byteOffset := 48 }, { name := "half", type := 3, offset := 3, embedded := false, tag := "", pkgPath := "proteus/disk", byteOffset := 72 }])⟩).cells ps (fun cs => K (.agg cs))) := buildA_struct Try.underlying89 ty89 ps K
theorem fk89 : fieldsKnown Try.prog 89 = true := by kernel_rfl
theorem ty90 : tyOf Try.prog 90 = some ⟨1, 8, (Value.pointer none), (TypeDesc.pointer 89)⟩ := by kernel_rfl
theorem zo90 : zeroOf ⟨1, 8, (Value.pointer none), (TypeDesc.pointer 89)⟩ = .val (Value.pointer none) := by simp [zeroOf, ofVal, ofVal0, plain, AV.single]
theorem zk90 : zeroOK ⟨1, 8, (Value.pointer none), (TypeDesc.pointer 89)⟩ = true := by simp [zeroOK, zo90, allOne, AV.cells, AV.single]
theorem ty91 : tyOf Try.prog 91 = some ⟨1, 8, Value.nilFunc, (TypeDesc.func #[31] #[90] false)⟩ := by kernel_rfl
theorem zo91 : zeroOf ⟨1, 8, Value.nilFunc, (TypeDesc.func #[31] #[90] false)⟩ = .val Value.nilFunc := by simp [zeroOf, ofVal, ofVal0, plain, AV.single]
theorem zk91 : zeroOK ⟨1, 8, Value.nilFunc, (TypeDesc.func #[31] #[90] false)⟩ = true := by simp [zeroOK, zo91, allOne, AV.cells, AV.single]
theorem ty92 : tyOf Try.prog 92 = some ⟨1, 8, Value.nilFunc, (TypeDesc.func #[22, 29, 93] #[22] false)⟩ := by kernel_rfl
theorem zo92 : zeroOf ⟨1, 8, Value.nilFunc, (TypeDesc.func #[22, 29, 93] #[22] false)⟩ = .val Value.nilFunc := by simp [zeroOf, ofVal, ofVal0, plain, AV.single]
theorem zk92 : zeroOK ⟨1, 8, Value.nilFunc, (TypeDesc.func #[22, 29, 93] #[22] false)⟩ = true := by simp [zeroOK, zo92, allOne, AV.cells, AV.single]
theorem ty93 : tyOf Try.prog 93 = some ⟨1, 8, Value.nilFunc, (TypeDesc.func #[3] #[3] false)⟩ := by kernel_rfl
theorem zo93 : zeroOf ⟨1, 8, Value.nilFunc, (TypeDesc.func #[3] #[3] false)⟩ = .val Value.nilFunc := by simp [zeroOf, ofVal, ofVal0, plain, AV.single]
theorem zk93 : zeroOK ⟨1, 8, Value.nilFunc, (TypeDesc.func #[3] #[3] false)⟩ = true := by simp [zeroOK, zo93, allOne, AV.cells, AV.single]
theorem ty94 : tyOf Try.prog 94 = some ⟨1, 0, (Value.tuple #[(Value.pointer none), (Value.int IntKind.i64 0)]), (TypeDesc.tuple #[90, 35])⟩ := by kernel_rfl
theorem ty95 : tyOf Try.prog 95 = some ⟨1, 8, Value.nilFunc, (TypeDesc.func #[31, 4] #[90, 35] false)⟩ := by kernel_rfl
theorem zo95 : zeroOf ⟨1, 8, Value.nilFunc, (TypeDesc.func #[31, 4] #[90, 35] false)⟩ = .val Value.nilFunc := by simp [zeroOf, ofVal, ofVal0, plain, AV.single]
theorem zk95 : zeroOK ⟨1, 8, Value.nilFunc, (TypeDesc.func #[31, 4] #[90, 35] false)⟩ = true := by simp [zeroOK, zo95, allOne, AV.cells, AV.single]
theorem ty96 : tyOf Try.prog 96 = some ⟨1, 8, Value.nilFunc, (TypeDesc.func #[] #[22] false)⟩ := by kernel_rfl
theorem zo96 : zeroOf ⟨1, 8, Value.nilFunc, (TypeDesc.func #[] #[22] false)⟩ = .val Value.nilFunc := by simp [zeroOf, ofVal, ofVal0, plain, AV.single]
theorem zk96 : zeroOK ⟨1, 8, Value.nilFunc, (TypeDesc.func #[] #[22] false)⟩ = true := by simp [zeroOK, zo96, allOne, AV.cells, AV.single]
theorem ty97 : tyOf Try.prog 97 = some ⟨1, 8, Value.nilFunc, (TypeDesc.func #[22] #[4] false)⟩ := by kernel_rfl
theorem zo97 : zeroOf ⟨1, 8, Value.nilFunc, (TypeDesc.func #[22] #[4] false)⟩ = .val Value.nilFunc := by simp [zeroOf, ofVal, ofVal0, plain, AV.single]
theorem zk97 : zeroOK ⟨1, 8, Value.nilFunc, (TypeDesc.func #[22] #[4] false)⟩ = true := by simp [zeroOK, zo97, allOne, AV.cells, AV.single]
theorem ty98 : tyOf Try.prog 98 = some ⟨1, 8, Value.nilFunc, (TypeDesc.func #[] #[39] false)⟩ := by kernel_rfl
theorem zo98 : zeroOf ⟨1, 8, Value.nilFunc, (TypeDesc.func #[] #[39] false)⟩ = .val Value.nilFunc := by simp [zeroOf, ofVal, ofVal0, plain, AV.single]
theorem zk98 : zeroOK ⟨1, 8, Value.nilFunc, (TypeDesc.func #[] #[39] false)⟩ = true := by simp [zeroOK, zo98, allOne, AV.cells, AV.single]
theorem ty99 : tyOf Try.prog 99 = some ⟨1, 8, Value.nilFunc, (TypeDesc.func #[3, 22] #[39] false)⟩ := by kernel_rfl
theorem zo99 : zeroOf ⟨1, 8, Value.nilFunc, (TypeDesc.func #[3, 22] #[39] false)⟩ = .val Value.nilFunc := by simp [zeroOf, ofVal, ofVal0, plain, AV.single]
theorem zk99 : zeroOK ⟨1, 8, Value.nilFunc, (TypeDesc.func #[3, 22] #[39] false)⟩ = true := by simp [zeroOK, zo99, allOne, AV.cells, AV.single]
theorem ty100 : tyOf Try.prog 100 = some ⟨1, 8, Value.nilFunc, (TypeDesc.func #[] #[3] false)⟩ := by kernel_rfl
theorem zo100 : zeroOf ⟨1, 8, Value.nilFunc, (TypeDesc.func #[] #[3] false)⟩ = .val Value.nilFunc := by simp [zeroOf, ofVal, ofVal0, plain, AV.single]
theorem zk100 : zeroOK ⟨1, 8, Value.nilFunc, (TypeDesc.func #[] #[3] false)⟩ = true := by simp [zeroOK, zo100, allOne, AV.cells, AV.single]
theorem ty101 : tyOf Try.prog 101 = some ⟨1, 0, (Value.tuple #[(Value.pointer none), (Value.int IntKind.i64 0), (Value.int IntKind.i64 0)]), (TypeDesc.tuple #[90, 3, 35])⟩ := by kernel_rfl
theorem ty102 : tyOf Try.prog 102 = some ⟨1, 8, Value.nilFunc, (TypeDesc.func #[31] #[90, 3, 35] false)⟩ := by kernel_rfl
theorem zo102 : zeroOf ⟨1, 8, Value.nilFunc, (TypeDesc.func #[31] #[90, 3, 35] false)⟩ = .val Value.nilFunc := by simp [zeroOf, ofVal, ofVal0, plain, AV.single]
theorem zk102 : zeroOK ⟨1, 8, Value.nilFunc, (TypeDesc.func #[31] #[90, 3, 35] false)⟩ = true := by simp [zeroOK, zo102, allOne, AV.cells, AV.single]
theorem ty103 : tyOf Try.prog 103 = some ⟨1, 8, Value.nilFunc, (TypeDesc.func #[32] #[4] false)⟩ := by kernel_rfl
theorem zo103 : zeroOf ⟨1, 8, Value.nilFunc, (TypeDesc.func #[32] #[4] false)⟩ = .val Value.nilFunc := by simp [zeroOf, ofVal, ofVal0, plain, AV.single]
theorem zk103 : zeroOK ⟨1, 8, Value.nilFunc, (TypeDesc.func #[32] #[4] false)⟩ = true := by simp [zeroOK, zo103, allOne, AV.cells, AV.single]
theorem ty104 : tyOf Try.prog 104 = some ⟨1, 8, Value.nilFunc, (TypeDesc.func #[3, 32] #[4] false)⟩ := by kernel_rfl
theorem zo104 : zeroOf ⟨1, 8, Value.nilFunc, (TypeDesc.func #[3, 32] #[4] false)⟩ = .val Value.nilFunc := by simp [zeroOf, ofVal, ofVal0, plain, AV.single]
theorem zk104 : zeroOK ⟨1, 8, Value.nilFunc, (TypeDesc.func #[3, 32] #[4] false)⟩ = true := by simp [zeroOK, zo104, allOne, AV.cells, AV.single]
theorem ty105 : tyOf Try.prog 105 = some ⟨1, 0, (Value.tuple #[(Value.slice none 0 0), (Value.int IntKind.i64 0), (Value.int IntKind.i64 0)]), (TypeDesc.tuple #[25, 3, 3])⟩ := by kernel_rfl
theorem ty106 : tyOf Try.prog 106 = some ⟨1, 8, Value.nilFunc, (TypeDesc.func #[22] #[25, 3, 3] false)⟩ := by kernel_rfl
theorem zo106 : zeroOf ⟨1, 8, Value.nilFunc, (TypeDesc.func #[22] #[25, 3, 3] false)⟩ = .val Value.nilFunc := by simp [zeroOf, ofVal, ofVal0, plain, AV.single]
theorem zk106 : zeroOK ⟨1, 8, Value.nilFunc, (TypeDesc.func #[22] #[25, 3, 3] false)⟩ = true := by simp [zeroOK, zo106, allOne, AV.cells, AV.single]
theorem ty107 : tyOf Try.prog 107 = some ⟨1, 8, Value.nilFunc, (TypeDesc.func #[31] #[22] false)⟩ := by kernel_rfl
theorem zo107 : zeroOf ⟨1, 8, Value.nilFunc, (TypeDesc.func #[31] #[22] false)⟩ = .val Value.nilFunc := by simp [zeroOf, ofVal, ofVal0, plain, AV.single]
theorem zk107 : zeroOK ⟨1, 8, Value.nilFunc, (TypeDesc.func #[31] #[22] false)⟩ = true := by simp [zeroOK, zo107, allOne, AV.cells, AV.single]
theorem ty108 : tyOf Try.prog 108 = some ⟨1, 8, Value.nilFunc, (TypeDesc.func #[3] #[4] false)⟩ := by kernel_rfl
theorem zo108 : zeroOf ⟨1, 8, Value.nilFunc, (TypeDesc.func #[3] #[4] false)⟩ = .val Value.nilFunc := by simp [zeroOf, ofVal, ofVal0, plain, AV.single]
theorem zk108 : zeroOK ⟨1, 8, Value.nilFunc, (TypeDesc.func #[3] #[4] false)⟩ = true := by simp [zeroOK, zo108, allOne, AV.cells, AV.single]
theorem ty109 : tyOf Try.prog 109 = some ⟨1, 8, Value.nilFunc, (TypeDesc.func #[3, 39] #[4] false)⟩ := by kernel_rfl
theorem zo109 : zeroOf ⟨1, 8, Value.nilFunc, (TypeDesc.func #[3, 39] #[4] false)⟩ = .val Value.nilFunc := by simp [zeroOf, ofVal, ofVal0, plain, AV.single]
theorem zk109 : zeroOK ⟨1, 8, Value.nilFunc, (TypeDesc.func #[3, 39] #[4] false)⟩ = true := by simp [zeroOK, zo109, allOne, AV.cells, AV.single]
theorem ty110 : tyOf Try.prog 110 = some ⟨1, 8, Value.nilFunc, (TypeDesc.func #[31] #[31] false)⟩ := by kernel_rfl
theorem zo110 : zeroOf ⟨1, 8, Value.nilFunc, (TypeDesc.func #[31] #[31] false)⟩ = .val Value.nilFunc := by simp [zeroOf, ofVal, ofVal0, plain, AV.single]
theorem zk110 : zeroOK ⟨1, 8, Value.nilFunc, (TypeDesc.func #[31] #[31] false)⟩ = true := by simp [zeroOK, zo110, allOne, AV.cells, AV.single]
theorem ty111 : tyOf Try.prog 111 = some ⟨1, 8, Value.nilFunc, (TypeDesc.func #[22, 22] #[4] false)⟩ := by kernel_rfl
theorem zo111 : zeroOf ⟨1, 8, Value.nilFunc, (TypeDesc.func #[22, 22] #[4] false)⟩ = .val Value.nilFunc := by simp [zeroOf, ofVal, ofVal0, plain, AV.single]
theorem zk111 : zeroOK ⟨1, 8, Value.nilFunc, (TypeDesc.func #[22, 22] #[4] false)⟩ = true := by simp [zeroOK, zo111, allOne, AV.cells, AV.single]
theorem ty112 : tyOf Try.prog 112 = some ⟨1, 8, Value.nilFunc, (TypeDesc.func #[29, 29, 113] #[4] false)⟩ := by kernel_rfl
theorem zo112 : zeroOf ⟨1, 8, Value.nilFunc, (TypeDesc.func #[29, 29, 113] #[4] false)⟩ = .val Value.nilFunc := by simp [zeroOf, ofVal, ofVal0, plain, AV.single]
theorem zk112 : zeroOK ⟨1, 8, Value.nilFunc, (TypeDesc.func #[29, 29, 113] #[4] false)⟩ = true := by simp [zeroOK, zo112, allOne, AV.cells, AV.single]
theorem ty113 : tyOf Try.prog 113 = some ⟨1, 8, Value.nilFunc, (TypeDesc.func #[39, 39] #[4] false)⟩ := by kernel_rfl
theorem zo113 : zeroOf ⟨1, 8, Value.nilFunc, (TypeDesc.func #[39, 39] #[4] false)⟩ = .val Value.nilFunc := by simp [zeroOf, ofVal, ofVal0, plain, AV.single]
theorem zk113 : zeroOK ⟨1, 8, Value.nilFunc, (TypeDesc.func #[39, 39] #[4] false)⟩ = true := by simp [zeroOK, zo113, allOne, AV.cells, AV.single]
theorem ty114 : tyOf Try.prog 114 = some ⟨0, 0, (Value.agg #[]), (TypeDesc.struct #[])⟩ := by kernel_rfl
theorem zo114 : zeroOf ⟨0, 0, (Value.agg #[]), (TypeDesc.struct #[])⟩ = .agg [] := by simp [zeroOf, ofVal, ofVal0, plain, AV.single]
theorem zk114 : zeroOK ⟨0, 0, (Value.agg #[]), (TypeDesc.struct #[])⟩ = true := by simp [zeroOK, zo114, allOne, AV.cells, AV.single]
theorem bu114 (ps : List (Nat × AV)) (K : AV → Prop) : buildA Try.prog 114 ps K = (zeroOK ⟨0, 0, (Value.agg #[]), (TypeDesc.struct #[])⟩ = true ∧ Ty.isAgg ⟨0, 0, (Value.agg #[]), (TypeDesc.struct #[])⟩ = true ∧ fieldsKnown Try.prog 114 = true ∧ fillF Try.prog 114 (zeroOf ⟨0, 0, (Value.agg #[]), (TypeDesc.struct #[])⟩).cells ps (fun cs => K (.agg cs))) := buildA_struct Try.underlying114 ty114 ps K
theorem fk114 : fieldsKnown Try.prog 114 = true := by kernel_rfl
theorem ty115 : tyOf Try.prog 115 = some ⟨0, 0, (Value.agg #[]), (TypeDesc.struct #[])⟩ := by kernel_rfl
theorem zo115 : zeroOf ⟨0, 0, (Value.agg #[]), (TypeDesc.struct #[])⟩ = .agg [] := by simp [zeroOf, ofVal, ofVal0, plain, AV.single]
theorem zk115 : zeroOK ⟨0, 0, (Value.agg #[]), (TypeDesc.struct #[])⟩ = true := by simp [zeroOK, zo115, allOne, AV.cells, AV.single]
theorem bu115 (ps : List (Nat × AV)) (K : AV → Prop) : buildA Try.prog 115 ps K = (zeroOK ⟨0, 0, (Value.agg #[]), (TypeDesc.struct #[])⟩ = true ∧ Ty.isAgg ⟨0, 0, (Value.agg #[]), (TypeDesc.struct #[])⟩ = true ∧ fieldsKnown Try.prog 115 = true ∧ fillF Try.prog 115 (zeroOf ⟨0, 0, (Value.agg #[]), (TypeDesc.struct #[])⟩).cells ps (fun cs => K (.agg cs))) := buildA_struct Try.underlying115 ty115 ps K
theorem fk115 : fieldsKnown Try.prog 115 = true := by kernel_rfl
theorem ty116 : tyOf Try.prog 116 = some ⟨1, 8, Value.nilFunc, (TypeDesc.func #[3] #[22] false)⟩ := by kernel_rfl
theorem zo116 : zeroOf ⟨1, 8, Value.nilFunc, (TypeDesc.func #[3] #[22] false)⟩ = .val Value.nilFunc := by simp [zeroOf, ofVal, ofVal0, plain, AV.single]
theorem zk116 : zeroOK ⟨1, 8, Value.nilFunc, (TypeDesc.func #[3] #[22] false)⟩ = true := by simp [zeroOK, zo116, allOne, AV.cells, AV.single]
theorem ty117 : tyOf Try.prog 117 = some ⟨1, 8, (Value.int IntKind.u64 0), (TypeDesc.int IntKind.u64)⟩ := by kernel_rfl
theorem zo117 : zeroOf ⟨1, 8, (Value.int IntKind.u64 0), (TypeDesc.int IntKind.u64)⟩ = .val (Value.int IntKind.u64 0) := by simp [zeroOf, ofVal, ofVal0, plain, AV.single]
theorem zk117 : zeroOK ⟨1, 8, (Value.int IntKind.u64 0), (TypeDesc.int IntKind.u64)⟩ = true := by simp [zeroOK, zo117, allOne, AV.cells, AV.single]
theorem ty118 : tyOf Try.prog 118 = some ⟨1, 8, (Value.int IntKind.u64 0), (TypeDesc.int IntKind.u64)⟩ := by kernel_rfl
theorem zo118 : zeroOf ⟨1, 8, (Value.int IntKind.u64 0), (TypeDesc.int IntKind.u64)⟩ = .val (Value.int IntKind.u64 0) := by simp [zeroOf, ofVal, ofVal0, plain, AV.single]
theorem zk118 : zeroOK ⟨1, 8, (Value.int IntKind.u64 0), (TypeDesc.int IntKind.u64)⟩ = true := by simp [zeroOK, zo118, allOne, AV.cells, AV.single]
theorem ty119 : tyOf Try.prog 119 = some ⟨1, 8, Value.nilFunc, (TypeDesc.func #[] #[9] false)⟩ := by kernel_rfl
theorem zo119 : zeroOf ⟨1, 8, Value.nilFunc, (TypeDesc.func #[] #[9] false)⟩ = .val Value.nilFunc := by simp [zeroOf, ofVal, ofVal0, plain, AV.single]
theorem zk119 : zeroOK ⟨1, 8, Value.nilFunc, (TypeDesc.func #[] #[9] false)⟩ = true := by simp [zeroOK, zo119, allOne, AV.cells, AV.single]
theorem mixed : Try.prog.follows .mixedOrders = true := by kernel_rfl
attribute [go_sem] ty0 ty1 zo1 zk1 ty2 zo2 zk2 ty3 zo3 zk3 ty4 zo4 zk4 ty5 zo5 zk5 ty6 zo6 zk6 ty7 zo7 zk7 fl7_0 fl7_1 fl7_2 fl7_3 fk7 ty8 zo8 zk8 fl8_0 fl8_1 fl8_2 fl8_3 fk8 ty9 zo9 zk9 ty10 zo10 zk10 ty11 zo11 zk11 ty12 zo12 zk12 ty13 zo13 zk13 fl13_0 fl13_1 fk13 ty14 zo14 zk14 fl14_0 fl14_1 fk14 ty15 zo15 zk15 ty16 zo16 zk16 ty17 zo17 zk17 ty18 zo18 zk18 fl18_0 fk18 ty19 zo19 zk19 fl19_0 fk19 ty20 zo20 zk20 ty21 zo21 zk21 ty22 zo22 zk22 el22 ty23 zo23 zk23 ty24 zo24 zk24 ty25 zo25 zk25 el25 ty26 ty27 zo27 zk27 ty28 zo28 zk28 ty29 zo29 zk29 el29 ty30 zo30 zk30 fl30_0 fl30_1 fk30 ty31 zo31 zk31 fl31_0 fl31_1 fk31 ty32 zo32 zk32 el32 ty33 zo33 zk33 ty34 zo34 zk34 ty35 zo35 zk35 ty36 ty37 zo37 zk37 ty38 zo38 zk38 fl38_0 fl38_1 fl38_2 fk38 ty39 zo39 zk39 fl39_0 fl39_1 fl39_2 fk39 ty40 zo40 zk40 ty41 zo41 zk41 ty42 zo42 zk42 ty43 ty44 zo44 zk44 ty45 ty46 zo46 zk46 ty47 ty48 zo48 zk48 ty49 zo49 zk49 ty50 ty51 zo51 zk51 ty52 zo52 zk52 ty53 zo53 zk53 ty54 zo54 zk54 el54 ty55 zo55 zk55 ty56 ty57 zo57 zk57 ty58 zo58 zk58 ty59 zo59 zk59 fl59_0 fl59_1 fl59_2 fl59_3 fl59_4 fl59_5 fk59 ty60 zo60 zk60 fl60_0 fl60_1 fl60_2 fl60_3 fl60_4 fl60_5 fk60 ty61 zo61 zk61 ty62 zo62 zk62 fl62_0 fl62_1 fl62_2 fl62_3 fk62 ty63 zo63 zk63 fl63_0 fl63_1 fl63_2 fl63_3 fk63 ty64 zo64 zk64 ty65 zo65 zk65 ty66 zo66 zk66 ty67 zo67 zk67 ty68 zo68 zk68 ty69 zo69 zk69 fl69_0 fl69_1 fl69_2 fk69 ty70 zo70 zk70 fl70_0 fl70_1 fl70_2 fk70 ty71 zo71 zk71 fl71_0 fl71_1 fl71_2 fk71 ty72 zo72 zk72 fl72_0 fl72_1 fl72_2 fk72 ty73 zo73 zk73 fl73_0 fl73_1 fl73_2 fl73_3 fk73 ty74 zo74 zk74 fl74_0 fl74_1 fl74_2 fl74_3 fk74 ty75 ty76 zo76 zk76 ty77 zo77 zk77 ty78 zo78 zk78 ty79 zo79 zk79 ty80 zo80 zk80 ty81 zo81 zk81 ty82 zo82 zk82 ty83 zo83 zk83 ty84 zo84 zk84 ty85 zo85 zk85 ty86 zo86 zk86 ty87 zo87 zk87 ty88 zo88 zk88 fl88_0 fl88_1 fl88_2 fk88 ty89 zo89 zk89 fl89_0 fl89_1 fl89_2 fk89 ty90 zo90 zk90 ty91 zo91 zk91 ty92 zo92 zk92 ty93 zo93 zk93 ty94 ty95 zo95 zk95 ty96 zo96 zk96 ty97 zo97 zk97 ty98 zo98 zk98 ty99 zo99 zk99 ty100 zo100 zk100 ty101 ty102 zo102 zk102 ty103 zo103 zk103 ty104 zo104 zk104 ty105 ty106 zo106 zk106 ty107 zo107 zk107 ty108 zo108 zk108 ty109 zo109 zk109 ty110 zo110 zk110 ty111 zo111 zk111 ty112 zo112 zk112 ty113 zo113 zk113 ty114 zo114 zk114 fk114 ty115 zo115 zk115 fk115 ty116 zo116 zk116 ty117 zo117 zk117 ty118 zo118 zk118 ty119 zo119 zk119
attribute [go_sem ↓] bu7 bu8 bu13 bu14 bu18 bu19 bu30 bu31 bu38 bu39 bu59 bu60 bu62 bu63 bu69 bu70 bu71 bu72 bu73 bu74 bu88 bu89 bu114 bu115
end Go.Proofs.Try

namespace Go.Proofs.Try
set_option linter.unusedSimpArgs false
open Go.PM

def digit (x : UInt8) : Bool := decide (16 ≤ x) && decide (x < 32)

theorem c99 (x : UInt8) : PureT Try.prog 99 [b8 x] (· = .val (.bool (digit x))) := by
  refine CallT.intro Try.func99 (by decide) rfl ?_
  simp -implicitDefEqProofs only [go_sem, ↓reduceIte, Nat.reduceLT, Nat.reduceEqDiff, Nat.reduceAdd, Nat.reduceSub, Nat.reduceBEq, reduceCtorEq, enterTm, Try.ntmps99, List.range'_succ, List.range'_zero, List.zip_cons_cons, List.zip_nil_left]
  refine CodeT.seqK fun K hK => CodeT.region ?_
  simp -implicitDefEqProofs only [go_sem, ↓reduceIte, Nat.reduceLT, Nat.reduceEqDiff, Nat.reduceAdd, Nat.reduceSub, Nat.reduceBEq, reduceCtorEq]
  repeat refine And.intro (by first | with_reducible rfl | assumption | omega | exact uni_bs _ | exact uni_bs [_] | exact uni_bs [_, _] | exact bs_byte _ | exact uni_bss _ | exact uni_bss [_] | exact Stable.refl _ | exact stable_last _ _ _ _ _ _ | trivial | rfl) ?_
  refine hK _ ?_; clear hK K
  cases hd : decide ((x.toNat : Int) ≥ 16)
  · refine CodeT.seqK fun K hK => CodeT.region ?_
    simp -implicitDefEqProofs only [go_sem, ↓reduceIte, Nat.reduceLT, Nat.reduceEqDiff, Nat.reduceAdd, Nat.reduceSub, Nat.reduceBEq, reduceCtorEq, hd]
    repeat refine And.intro (by first | with_reducible rfl | assumption | omega | exact uni_bs _ | exact uni_bs [_] | exact uni_bs [_, _] | exact bs_byte _ | exact uni_bss _ | exact uni_bss [_] | exact Stable.refl _ | exact stable_last _ _ _ _ _ _ | trivial | rfl) ?_
    refine hK _ ?_; clear hK K
    refine CodeT.ret ?_
    simp -implicitDefEqProofs only [go_sem, ↓reduceIte, Nat.reduceLT, Nat.reduceEqDiff, Nat.reduceAdd, Nat.reduceSub, Nat.reduceBEq, reduceCtorEq, Try.f99]
    refine ⟨rfl, _, rfl, ?_⟩
    rw [u8_16, u8_ge] at hd
    simp [digit, hd]
  · refine CodeT.seqK fun K hK => CodeT.region ?_
    simp -implicitDefEqProofs only [go_sem, ↓reduceIte, Nat.reduceLT, Nat.reduceEqDiff, Nat.reduceAdd, Nat.reduceSub, Nat.reduceBEq, reduceCtorEq, hd]
    repeat refine And.intro (by first | with_reducible rfl | assumption | omega | exact uni_bs _ | exact uni_bs [_] | exact uni_bs [_, _] | exact bs_byte _ | exact uni_bss _ | exact uni_bss [_] | exact Stable.refl _ | exact stable_last _ _ _ _ _ _ | trivial | rfl) ?_
    refine hK _ ?_; clear hK K
    refine CodeT.ret ?_
    simp -implicitDefEqProofs only [go_sem, ↓reduceIte, Nat.reduceLT, Nat.reduceEqDiff, Nat.reduceAdd, Nat.reduceSub, Nat.reduceBEq, reduceCtorEq, Try.f99]
    refine ⟨rfl, _, rfl, ?_⟩
    rw [u8_16, u8_ge] at hd
    rw [u8_32, u8_lt]
    simp [digit, hd]

theorem c50 (h : List Box) (l : List AV) : CallT Try.prog 50 [.sl false l] h (fun r h' => r = .ret (.fn 98 [.ptr h.length 0]) ∧ h' = h ++ [.cells [.sl false l]]) := by
  refine CallT.intro Try.func50 (by decide) rfl ?_
  simp -implicitDefEqProofs only [go_sem, ↓reduceIte, Nat.reduceLT, Nat.reduceEqDiff, Nat.reduceAdd, Nat.reduceSub, Nat.reduceBEq, reduceCtorEq, enterTm, Try.ntmps50, List.range'_succ, List.range'_zero, List.zip_cons_cons, List.zip_nil_left]
  refine CodeT.seqK fun K hK => CodeT.region ?_
  simp -implicitDefEqProofs only [go_sem, ↓reduceIte, Nat.reduceLT, Nat.reduceEqDiff, Nat.reduceAdd, Nat.reduceSub, Nat.reduceBEq, reduceCtorEq]
  repeat refine And.intro (by first | with_reducible rfl | assumption | omega | exact uni_bs _ | exact uni_bs [_] | exact uni_bs [_, _] | exact bs_byte _ | exact uni_bss _ | exact uni_bss [_] | exact Stable.refl _ | exact stable_last _ _ _ _ _ _ | trivial | rfl) ?_
  refine hK _ ?_; clear hK K
  refine CodeT.seqK fun K hK => CodeT.region ?_
  simp -implicitDefEqProofs only [go_sem, ↓reduceIte, Nat.reduceLT, Nat.reduceEqDiff, Nat.reduceAdd, Nat.reduceSub, Nat.reduceBEq, reduceCtorEq]
  repeat refine And.intro (by first | with_reducible rfl | assumption | omega | exact uni_bs _ | exact uni_bs [_] | exact uni_bs [_, _] | exact bs_byte _ | exact uni_bss _ | exact uni_bss [_] | exact Stable.refl _ | exact stable_last _ _ _ _ _ _ | trivial | rfl) ?_
  refine hK _ ?_; clear hK K
  refine CodeT.ret ?_
  simp -implicitDefEqProofs only [go_sem, ↓reduceIte, Nat.reduceLT, Nat.reduceEqDiff, Nat.reduceAdd, Nat.reduceSub, Nat.reduceBEq, reduceCtorEq, Try.f50]
end Go.Proofs.Try

namespace Go.Proofs.Try
set_option linter.unusedSimpArgs false
open Go.PM

def joinb (x y : UInt8) : UInt8 := 16 * (x - 16) + y - 16
def scan1 : List UInt8 → Option (List UInt8 × Nat)
  | [] => none
  | x :: r => if x = 255 then some ([], 1) else match r with
    | [] => none
    | y :: r' => if (digit x && digit y) = true then (scan1 r').map (fun p => (joinb x y :: p.1, p.2 + 2)) else none
def recs : Nat → List UInt8 → Nat → List (List UInt8 × Nat)
  | 0, _, _ => []
  | f + 1, l, at_ => match scan1 l with
    | none => []
    | some (p, m) => (p, at_ + m) :: recs f (l.drop m) (at_ + m)

theorem scan1_pos : ∀ {l : List UInt8} {p : List UInt8} {m : Nat}, scan1 l = some (p, m) → 1 ≤ m ∧ m ≤ l.length ∧ p.length * 2 + 1 = m
  | [], p, m, h => by simp [scan1] at h
  | [x], p, m, h => by
    simp only [scan1] at h
    split at h
    · simp at h; obtain ⟨rfl, rfl⟩ := h; simp
    · simp at h
  | x :: y :: r, p, m, h => by
    simp only [scan1] at h
    split at h
    · simp at h; obtain ⟨rfl, rfl⟩ := h; simp
    · split at h
      · rw [Option.map_eq_some_iff] at h
        obtain ⟨⟨p', m'⟩, h1, h2⟩ := h
        obtain ⟨k1, k2, k3⟩ := scan1_pos h1
        simp at h2
        obtain ⟨rfl, rfl⟩ := h2
        simp; omega
      · simp at h

theorem drop_cons {l : List UInt8} {i : Nat} (h : i < l.length) : l.drop i = l.getD i 0 :: l.drop (i + 1) := by
  rw [List.drop_eq_getElem_cons h]; simp [List.getD_eq_getElem?_getD, h]

theorem scan1_end {l : List UInt8} {i : Nat} (h : l.length ≤ i) : scan1 (l.drop i) = none := by rw [List.drop_eq_nil_of_le h]; rfl
theorem scan1_stop {l : List UInt8} {i : Nat} (h : i < l.length) (hx : l.getD i 0 = 255) : scan1 (l.drop i) = some ([], 1) := by rw [drop_cons h]; unfold scan1; simp only [if_pos hx]
theorem scan1_odd {l : List UInt8} {i : Nat} (h : i < l.length) (h2 : l.length ≤ i + 1) (hx : l.getD i 0 ≠ 255) : scan1 (l.drop i) = none := by
  rw [drop_cons h, List.drop_eq_nil_of_le h2]; simp only [scan1, if_neg hx]
theorem scan1_bad {l : List UInt8} {i : Nat} (h : i + 1 < l.length) (hx : l.getD i 0 ≠ 255) (hd : ¬ (digit (l.getD i 0) && digit (l.getD (i + 1) 0)) = true) : scan1 (l.drop i) = none := by
  rw [drop_cons (by omega), drop_cons h]; simp only [scan1, if_neg hx, if_neg hd]
theorem scan1_step {l : List UInt8} {i : Nat} (h : i + 1 < l.length) (hx : l.getD i 0 ≠ 255) (hd : (digit (l.getD i 0) && digit (l.getD (i + 1) 0)) = true) :
    scan1 (l.drop i) = (scan1 (l.drop (i + 2))).map (fun p => (joinb (l.getD i 0) (l.getD (i + 1) 0) :: p.1, p.2 + 2)) := by
  rw [drop_cons (by omega), drop_cons h]; simp only [scan1, if_neg hx, if_pos hd]

/-- What the loop over a record has so far. -/
def sofar (b : List UInt8) (at_ j : Nat) (r : List UInt8) : Prop :=
  r.length = j ∧ scan1 (b.drop at_) = (scan1 (b.drop (at_ + 2 * j))).map (fun p => (r ++ p.1, p.2 + 2 * j))

theorem sofar_0 (b : List UInt8) (at_ : Nat) : sofar b at_ 0 [] := by
  refine ⟨rfl, ?_⟩
  simp
theorem sofar_step {b : List UInt8} {at_ j : Nat} {r : List UInt8} (h : sofar b at_ j r) {i : Nat} (hi : i = at_ + 2 * j) (h1 : i + 1 < b.length) (hx : b.getD i 0 ≠ 255) (hd : (digit (b.getD i 0) && digit (b.getD (i + 1) 0)) = true) :
    sofar b at_ (j + 1) (r ++ [joinb (b.getD i 0) (b.getD (i + 1) 0)]) := by
  obtain ⟨h2, h3⟩ := h
  refine ⟨by simp [h2], ?_⟩
  rw [h3, ← hi, scan1_step h1 hx hd, show at_ + 2 * (j + 1) = i + 2 by omega]
  cases scan1 (b.drop (i + 2)) with
  | none => rfl
  | some p => simp; omega

theorem recs_len : ∀ (f : Nat) (l : List UInt8) (a : Nat), (recs f l a).length ≤ f := by
  intro f
  induction f with
  | zero => intro l a; simp [recs]
  | succ f ih =>
    intro l a
    simp only [recs]
    split
    · simp
    · simp; exact ih _ _

theorem keepsH_pre {n : Nat} : ∀ (h ext : List Box), (∀ b ∈ h, b.under n = true) → keepsH n (h ++ ext) h := by
  intro h
  induction h with
  | nil => intro ext _; exact keepsH_nil n ext ▸ trivial
  | cons b h ih => intro ext hu; exact ⟨.inr ⟨rfl, hu b List.mem_cons_self⟩, ih ext fun x hx => hu x (List.mem_cons_of_mem _ hx)⟩

theorem keepsH_refl {n : Nat} {h : List Box} (hu : ∀ b ∈ h, b.under n = true) : keepsH n h h := by
  have := keepsH_pre h [] hu
  rwa [List.append_nil] at this

theorem recs_end {b : List UInt8} {k at_ : Nat} (hk : k ≤ at_) (hat : at_ ≤ b.length) (hkn : k ≤ (recs (b.length + 1) b 0).length) (hrec : (recs (b.length + 1) b 0).drop k = recs (b.length + 1 - k) (b.drop at_) at_) (hs : scan1 (b.drop at_) = none) :
    k = (recs (b.length + 1) b 0).length := by
  generalize recs (b.length + 1) b 0 = R at *
  have : b.length + 1 - k = (b.length - k) + 1 := by omega
  rw [this] at hrec
  simp only [recs, hs] at hrec
  have := congrArg List.length hrec
  simp at this
  omega
theorem recs_next {b : List UInt8} {k at_ : Nat} {p : List UInt8} {m : Nat} (hk : k ≤ at_) (hat : at_ ≤ b.length) (hrec : (recs (b.length + 1) b 0).drop k = recs (b.length + 1 - k) (b.drop at_) at_) (hs : scan1 (b.drop at_) = some (p, m)) :
    (recs (b.length + 1) b 0)[k]? = some (p, at_ + m) ∧ (recs (b.length + 1) b 0).drop (k + 1) = recs (b.length + 1 - (k + 1)) (b.drop (at_ + m)) (at_ + m) := by
  generalize recs (b.length + 1) b 0 = R at *
  have : b.length + 1 - k = (b.length - k) + 1 := by omega
  rw [this] at hrec
  simp only [recs, hs] at hrec
  have h1 := congrArg (·[0]?) hrec
  have h2 := congrArg (List.drop 1) hrec
  simp only [List.getElem?_drop, Nat.add_zero, List.getElem?_cons_zero] at h1
  simp only [List.drop_drop, List.drop_succ_cons, List.drop_zero] at h2
  refine ⟨h1, ?_⟩
  rw [h2, show b.length + 1 - (k + 1) = b.length - k by omega]
theorem sofar_none {b : List UInt8} {at_ i j : Nat} {r : List UInt8} (h : sofar b at_ j r) (hij : i = at_ + 2 * j) (hs : scan1 (b.drop i) = none) : scan1 (b.drop at_) = none := by
  obtain ⟨_, h⟩ := h
  rw [h, ← hij, hs]; rfl
theorem sofar_some {b : List UInt8} {at_ i j : Nat} {r : List UInt8} (h : sofar b at_ j r) (hij : i = at_ + 2 * j) (hs : scan1 (b.drop i) = some ([], 1)) : scan1 (b.drop at_) = some (r, 2 * j + 1) := by
  obtain ⟨_, h⟩ := h
  rw [h, ← hij, hs]; simp; omega

set_option maxHeartbeats 4000000 in
theorem c98 (b : List UInt8) (l c : Nat) (hb : b.length ≤ 4000000) (J : Nat → List Box → Prop) (hc0 : List Box)
    (hJ : ∀ k hc, J k hc → hc.length = hc0.length ∧ hc[c]? = some (.cells [.sl false (bs b)]) ∧ allUnder hc) (hl : l < hc0.length)
    (hy : ∀ k hc p m, J k hc → (recs (b.length + 1) b 0)[k]? = some (p, m) → YieldT Try.prog l [.sl false (bs p), .val (.int .i64 (m : Nat))] hc (fun r h' => r = .ret (.val (.bool true)) ∧ J (k + 1) h'))
    (h0 : J 0 hc0) : CallT Try.prog 98 [.yld l, .ptr c 0] hc0 (fun r h' => (∃ x, r = .ret x) ∧ J (recs (b.length + 1) b 0).length h') := by
  refine CallT.less ?_
  refine CallT.intro Try.func98 (by decide) rfl ?_
  simp -implicitDefEqProofs only [go_sem, ↓reduceIte, Nat.reduceLT, Nat.reduceEqDiff, Nat.reduceAdd, Nat.reduceSub, Nat.reduceBEq, reduceCtorEq, enterTm, Try.ntmps98, List.range'_succ, List.range'_zero, List.zip_cons_cons, List.zip_nil_left]
  refine CodeT.scope ?_
  refine CodeT.seqK fun K hK => CodeT.region ?_
  simp -implicitDefEqProofs only [go_sem, ↓reduceIte, Nat.reduceLT, Nat.reduceEqDiff, Nat.reduceAdd, Nat.reduceSub, Nat.reduceBEq, reduceCtorEq]
  repeat refine And.intro (by first | with_reducible rfl | assumption | omega | exact uni_bs _ | exact uni_bs [_] | exact uni_bs [_, _] | exact bs_byte _ | exact uni_bss _ | exact uni_bss [_] | exact Stable.refl _ | exact stable_last _ _ _ _ _ _ | trivial | rfl) ?_
  refine hK _ ?_; clear hK K
  refine CodeT.seqK fun K hK => CodeT.label ?_
  simp -implicitDefEqProofs only [go_sem, ↓reduceIte, Nat.reduceLT, Nat.reduceEqDiff, Nat.reduceAdd, Nat.reduceSub, Nat.reduceBEq, reduceCtorEq]
  repeat refine And.intro (by first | with_reducible rfl | assumption | omega | exact uni_bs _ | exact uni_bs [_] | exact uni_bs [_, _] | exact bs_byte _ | exact uni_bss _ | exact uni_bss [_] | exact Stable.refl _ | exact stable_last _ _ _ _ _ _ | trivial | rfl) ?_
  refine hK _ ?_; clear hK K
  refine CodeT.block ?_
  refine CodeT.loop (fun n s => ∃ at_ k hc, J k hc ∧ at_ ≤ b.length ∧ k ≤ at_ ∧ k ≤ (recs (b.length + 1) b 0).length ∧ (recs (b.length + 1) b 0).drop k = recs (b.length + 1 - k) (b.drop at_) at_ ∧ n = b.length - at_ ∧
    s = ⟨⟨63, [(3, .val (.int .i64 (at_ : Nat))), (0, .yld l), (1, .ptr c 0)]⟩, hc, []⟩) (n := b.length) ?_ ?_
  · exact ⟨0, 0, hc0, h0, Nat.zero_le _, Nat.le_refl _, Nat.zero_le _, rfl, rfl, rfl⟩
  rintro n s ⟨at_, k, hc, hj, hat, hk, hkn, hrec, rfl, rfl⟩
  obtain ⟨hlen, hcell, hun⟩ := hJ k hc hj
  have hcl : c < hc.length := (List.getElem?_eq_some_iff.1 hcell).1
  have hll : l < hc.length := hlen ▸ hl
  refine CodeT.lessN (CodeT.block ?_)
  refine CodeT.seqK fun K hK => CodeT.region ?_
  simp -implicitDefEqProofs only [go_sem, ↓reduceIte, Nat.reduceLT, Nat.reduceEqDiff, Nat.reduceAdd, Nat.reduceSub, Nat.reduceBEq, reduceCtorEq]
  repeat refine And.intro (by first | with_reducible rfl | assumption | omega | exact uni_bs _ | exact uni_bs [_] | exact uni_bs [_, _] | exact bs_byte _ | exact uni_bss _ | exact uni_bss [_] | exact Stable.refl _ | exact stable_last _ _ _ _ _ _ | trivial | rfl) ?_
  refine hK _ ?_; clear hK K
  refine CodeT.seqK fun K hK => ?_
  refine CodeT.seqK fun K2 hK2 => CodeT.region ?_
  simp -implicitDefEqProofs only [go_sem, ↓reduceIte, Nat.reduceLT, Nat.reduceEqDiff, Nat.reduceAdd, Nat.reduceSub, Nat.reduceBEq, reduceCtorEq]
  repeat refine And.intro (by first | with_reducible rfl | assumption | omega | exact uni_bs _ | exact uni_bs [_] | exact uni_bs [_, _] | exact bs_byte _ | exact uni_bss _ | exact uni_bss [_] | exact Stable.refl _ | exact stable_last _ _ _ _ _ _ | trivial | rfl) ?_
  refine hK2 _ ?_; clear hK2 K2
  refine CodeT.promote 4 1 rfl (CodeT.block ?_)
  simp -implicitDefEqProofs only [go_sem, ↓reduceIte, Nat.reduceLT, Nat.reduceEqDiff, Nat.reduceAdd, Nat.reduceSub, Nat.reduceBEq, reduceCtorEq]
  refine CodeT.weak (s' := ⟨⟨63, [(5, .val (.int .i64 (at_ : Nat))), (4, .hsl hc.length 0 0 0), (3, .val (.int .i64 (at_ : Nat))), (0, .yld l), (1, .ptr c 0)]⟩, hc ++ [.row true 0 1 (bs [])], []⟩) ⟨rfl, ?_, keepsH_refl ?_, rfl, keepsD_nil _⟩ rfl ?_
  · simp [go_sem]; omega
  · intro x hx
    rcases List.mem_append.1 hx with hx | hx
    · exact under_mono (by simp) (hun x hx)
    · simp at hx; subst hx; rfl
  refine CodeT.loop (fun n s => ∃ i j r, sofar b at_ j r ∧ i = at_ + 2 * j ∧ i ≤ b.length ∧ n = b.length - i ∧
    s = ⟨⟨63, [(5, .val (.int .i64 (i : Nat))), (4, .hsl hc.length j 0 j), (3, .val (.int .i64 (at_ : Nat))), (0, .yld l), (1, .ptr c 0)]⟩, hc ++ [.row true j 1 (bs r)], []⟩) (n := b.length - at_) ?_ ?_
  · exact ⟨at_, 0, [], sofar_0 b at_, rfl, hat, rfl, rfl⟩
  rintro n s ⟨i, j, r, hsf, hij, hib, rfl, rfl⟩
  have hw1 : IntKind.i64.wrap ((i : Int) + 1) = ((i + 1 : Nat) : Int) := by rw [i64_in] <;> omega
  have hw2 : IntKind.i64.wrap ((i : Int) + 2) = ((i + 2 : Nat) : Int) := by rw [i64_in] <;> omega
  have hnone : scan1 (b.drop i) = none → k = (recs (b.length + 1) b 0).length := fun hs => recs_end hk hat hkn hrec (sofar_none hsf hij hs)
  refine CodeT.lessN ?_
  refine CodeT.seqK fun K2 hK2 => ?_
  refine CodeT.seqK fun K3 hK3 => CodeT.region ?_
  simp -implicitDefEqProofs only [go_sem, ↓reduceIte, Nat.reduceLT, Nat.reduceEqDiff, Nat.reduceAdd, Nat.reduceSub, Nat.reduceBEq, reduceCtorEq, get_pre hcell, bs_length]
  repeat refine And.intro (by first | with_reducible rfl | assumption | omega | exact uni_bs _ | exact uni_bs [_] | exact uni_bs [_, _] | exact bs_byte _ | exact uni_bss _ | exact uni_bss [_] | exact Stable.refl _ | exact stable_last _ _ _ _ _ _ | trivial | rfl) ?_
  refine hK3 _ ?_; clear hK3 K3
  refine CodeT.cond rfl (fun ht => CodeT.skip ?_) (fun hf => CodeT.exit ?_)
  · simp -implicitDefEqProofs only [go_sem, ↓reduceIte, Nat.reduceLT, Nat.reduceEqDiff, Nat.reduceAdd, Nat.reduceSub, Nat.reduceBEq, reduceCtorEq]
    repeat refine And.intro (by first | with_reducible rfl | assumption | omega | exact uni_bs _ | exact uni_bs [_] | exact uni_bs [_, _] | exact bs_byte _ | exact uni_bss _ | exact uni_bss [_] | exact Stable.refl _ | exact stable_last _ _ _ _ _ _ | trivial | rfl) ?_
    refine hK2 _ ?_; clear hK2 K2
    have hlt : i < b.length := by simp at ht; exact ht
    refine CodeT.seqK fun K2 hK2 => ?_
    refine CodeT.block ?_
    refine CodeT.seqK fun K3 hK3 => ?_
    refine CodeT.seqK fun K4 hK4 => CodeT.region ?_
    simp -implicitDefEqProofs only [go_sem, ↓reduceIte, Nat.reduceLT, Nat.reduceEqDiff, Nat.reduceAdd, Nat.reduceSub, Nat.reduceBEq, reduceCtorEq, get_pre hcell, bs_length, Int.toNat_natCast, bs_getD hlt]
    repeat refine And.intro (by first | with_reducible rfl | assumption | omega | exact uni_bs _ | exact uni_bs [_] | exact uni_bs [_, _] | exact bs_byte _ | exact uni_bss _ | exact uni_bss [_] | exact Stable.refl _ | exact stable_last _ _ _ _ _ _ | trivial | rfl) ?_
    refine hK4 _ ?_; clear hK4 K4
    refine CodeT.cond rfl (fun ht => ?_) (fun hf => CodeT.skip ?_)
    · have hx : b.getD i 0 = 255 := by rw [u8_255, u8_eq] at ht; simpa using ht
      obtain ⟨hget, hdrop⟩ := recs_next hk hat hrec (sofar_some hsf hij (scan1_stop hlt hx))
      have hai : at_ + (2 * j + 1) = i + 1 := by omega
      rw [hai] at hget hdrop
      refine CodeT.seqK fun K4 hK4 => CodeT.region ?_
      simp -implicitDefEqProofs only [go_sem, ↓reduceIte, Nat.reduceLT, Nat.reduceEqDiff, Nat.reduceAdd, Nat.reduceSub, Nat.reduceBEq, reduceCtorEq, hw1]
      repeat refine And.intro (by first | with_reducible rfl | assumption | omega | exact uni_bs _ | exact uni_bs [_] | exact uni_bs [_, _] | exact bs_byte _ | exact uni_bss _ | exact uni_bss [_] | exact Stable.refl _ | exact stable_last _ _ _ _ _ _ | trivial | rfl) ?_
      refine hK4 _ ?_; clear hK4 K4
      have htk : List.take j (bs r) = bs r := by rw [List.take_of_length_le (by rw [bs_length, hsf.1]; omega)]
      refine CodeT.freeze 4 ?_
      simp -implicitDefEqProofs only [go_sem, ↓reduceIte, Nat.reduceLT, Nat.reduceEqDiff, Nat.reduceAdd, Nat.reduceSub, Nat.reduceBEq, reduceCtorEq, push_get', push_set, htk]
      refine ⟨by rw [bs_length, hsf.1]; omega, ?_⟩
      refine CodeT.seqK fun K4 hK4 => ?_
      refine CodeT.seqK fun K5 hK5 => CodeT.region ?_
      simp -implicitDefEqProofs only [go_sem, ↓reduceIte, Nat.reduceLT, Nat.reduceEqDiff, Nat.reduceAdd, Nat.reduceSub, Nat.reduceBEq, reduceCtorEq]
      refine YieldT.mono (YieldT.pre [_] hun rfl (fun r h' hh => ((hJ _ _ hh.2).1).trans hlen.symm) (hy k hc r (i + 1) hj hget)) ?_
      rintro r' h'' ⟨hc', ⟨rfl, hj'⟩, rfl⟩
      obtain ⟨hlen', hcell', hun'⟩ := hJ _ _ hj'
      simp -implicitDefEqProofs only [go_sem, ↓reduceIte, Nat.reduceLT, Nat.reduceEqDiff, Nat.reduceAdd, Nat.reduceSub, Nat.reduceBEq, reduceCtorEq]
      repeat refine And.intro (by first | with_reducible rfl | assumption | omega | exact uni_bs _ | exact uni_bs [_] | exact uni_bs [_, _] | exact bs_byte _ | exact uni_bss _ | exact uni_bss [_] | exact Stable.refl _ | exact stable_last _ _ _ _ _ _ | trivial | rfl) ?_
      refine hK5 _ ?_; clear hK5 K5
      refine CodeT.cond rfl (fun ht => by cases ht) (fun hf => CodeT.skip ?_)
      simp -implicitDefEqProofs only [go_sem, ↓reduceIte, Nat.reduceLT, Nat.reduceEqDiff, Nat.reduceAdd, Nat.reduceSub, Nat.reduceBEq, reduceCtorEq]
      repeat refine And.intro (by first | with_reducible rfl | assumption | omega | exact uni_bs _ | exact uni_bs [_] | exact uni_bs [_, _] | exact bs_byte _ | exact uni_bss _ | exact uni_bss [_] | exact Stable.refl _ | exact stable_last _ _ _ _ _ _ | trivial | rfl) ?_
      refine hK4 _ ?_; clear hK4 K4
      refine CodeT.exit ?_
      simp -implicitDefEqProofs only [go_sem, ↓reduceIte, Nat.reduceLT, Nat.reduceEqDiff, Nat.reduceAdd, Nat.reduceSub, Nat.reduceBEq, reduceCtorEq]
      refine ⟨⟨⟨63, [(3, .val (.int .i64 ((i + 1 : Nat) : Int))), (0, .yld l), (1, .ptr c 0)]⟩, hc', []⟩, ⟨rfl, ?_, keepsH_pre _ _ hun', rfl, keepsD_nil _⟩, by rw [hlen, ← hlen']; exact Nat.le_refl _, b.length - (i + 1), by omega, i + 1, k + 1, hc', hj', by omega, by omega, (List.getElem?_eq_some_iff.1 hget).1, hdrop, rfl, rfl⟩
      have : hc'.length = hc.length := by rw [hlen', hlen]
      simp [go_sem]; omega
    · have hx : b.getD i 0 ≠ 255 := by rw [u8_255, u8_eq] at hf; simpa using hf
      simp -implicitDefEqProofs only [go_sem, ↓reduceIte, Nat.reduceLT, Nat.reduceEqDiff, Nat.reduceAdd, Nat.reduceSub, Nat.reduceBEq, reduceCtorEq]
      repeat refine And.intro (by first | with_reducible rfl | assumption | omega | exact uni_bs _ | exact uni_bs [_] | exact uni_bs [_, _] | exact bs_byte _ | exact uni_bss _ | exact uni_bss [_] | exact Stable.refl _ | exact stable_last _ _ _ _ _ _ | trivial | rfl) ?_
      refine hK3 _ ?_; clear hK3 K3
      refine CodeT.seqK fun K3 hK3 => ?_
      cases hc1 : decide (((i + 1 : Nat) : Int) ≥ (b.length : Int))
      · have hlt1 : i + 1 < b.length := by simp at hc1; omega
        cases hd0 : digit (b.getD i 0)
        · refine CodeT.seqK fun K4 hK4 => CodeT.region ?_
          simp -implicitDefEqProofs only [go_sem, ↓reduceIte, Nat.reduceLT, Nat.reduceEqDiff, Nat.reduceAdd, Nat.reduceSub, Nat.reduceBEq, reduceCtorEq, get_pre hcell, bs_length, Int.toNat_natCast, bs_getD hlt, bs_getD hlt1, hw1, hc1]
          repeat refine And.intro (by first | with_reducible rfl | assumption | omega | exact uni_bs _ | exact uni_bs [_] | exact uni_bs [_, _] | exact bs_byte _ | exact uni_bss _ | exact uni_bss [_] | exact Stable.refl _ | exact stable_last _ _ _ _ _ _ | trivial | rfl) ?_
          refine PureT.go (c99 _) rfl fun x hx => ?_
          subst hx
          simp -implicitDefEqProofs only [go_sem, ↓reduceIte, Nat.reduceLT, Nat.reduceEqDiff, Nat.reduceAdd, Nat.reduceSub, Nat.reduceBEq, reduceCtorEq, hd0]
          repeat refine And.intro (by first | with_reducible rfl | assumption | omega | exact uni_bs _ | exact uni_bs [_] | exact uni_bs [_, _] | exact bs_byte _ | exact uni_bss _ | exact uni_bss [_] | exact Stable.refl _ | exact stable_last _ _ _ _ _ _ | trivial | rfl) ?_
          refine hK4 _ ?_; clear hK4 K4
          refine CodeT.cond rfl (fun ht => CodeT.exit ?_) (fun hf => by cases hf)
          simp -implicitDefEqProofs only [go_sem, ↓reduceIte, Nat.reduceLT, Nat.reduceEqDiff, Nat.reduceAdd, Nat.reduceSub, Nat.reduceBEq, reduceCtorEq, Try.f98]
          exact ⟨hc, keepsH_pre _ _ hun, by rw [hlen]; exact Nat.le_refl _, rfl, ⟨_, rfl⟩, hnone (scan1_bad hlt1 hx (by rw [hd0]; simp)) ▸ hj⟩
        · cases hd1 : digit (b.getD (i + 1) 0)
          · refine CodeT.seqK fun K4 hK4 => CodeT.region ?_
            simp -implicitDefEqProofs only [go_sem, ↓reduceIte, Nat.reduceLT, Nat.reduceEqDiff, Nat.reduceAdd, Nat.reduceSub, Nat.reduceBEq, reduceCtorEq, get_pre hcell, bs_length, Int.toNat_natCast, bs_getD hlt, bs_getD hlt1, hw1, hc1]
            repeat refine And.intro (by first | with_reducible rfl | assumption | omega | exact uni_bs _ | exact uni_bs [_] | exact uni_bs [_, _] | exact bs_byte _ | exact uni_bss _ | exact uni_bss [_] | exact Stable.refl _ | exact stable_last _ _ _ _ _ _ | trivial | rfl) ?_
            refine PureT.go (c99 _) rfl fun x hx => ?_
            subst hx
            simp -implicitDefEqProofs only [go_sem, ↓reduceIte, Nat.reduceLT, Nat.reduceEqDiff, Nat.reduceAdd, Nat.reduceSub, Nat.reduceBEq, reduceCtorEq, hd0, get_pre hcell, bs_length, Int.toNat_natCast, bs_getD hlt, bs_getD hlt1, hw1, hc1]
            repeat refine And.intro (by first | with_reducible rfl | assumption | omega | exact uni_bs _ | exact uni_bs [_] | exact uni_bs [_, _] | exact bs_byte _ | exact uni_bss _ | exact uni_bss [_] | exact Stable.refl _ | exact stable_last _ _ _ _ _ _ | trivial | rfl) ?_
            refine PureT.go (c99 _) rfl fun x hx => ?_
            subst hx
            simp -implicitDefEqProofs only [go_sem, ↓reduceIte, Nat.reduceLT, Nat.reduceEqDiff, Nat.reduceAdd, Nat.reduceSub, Nat.reduceBEq, reduceCtorEq, hd1]
            repeat refine And.intro (by first | with_reducible rfl | assumption | omega | exact uni_bs _ | exact uni_bs [_] | exact uni_bs [_, _] | exact bs_byte _ | exact uni_bss _ | exact uni_bss [_] | exact Stable.refl _ | exact stable_last _ _ _ _ _ _ | trivial | rfl) ?_
            refine hK4 _ ?_; clear hK4 K4
            refine CodeT.cond rfl (fun ht => CodeT.exit ?_) (fun hf => by cases hf)
            simp -implicitDefEqProofs only [go_sem, ↓reduceIte, Nat.reduceLT, Nat.reduceEqDiff, Nat.reduceAdd, Nat.reduceSub, Nat.reduceBEq, reduceCtorEq, Try.f98]
            exact ⟨hc, keepsH_pre _ _ hun, by rw [hlen]; exact Nat.le_refl _, rfl, ⟨_, rfl⟩, hnone (scan1_bad hlt1 hx (by rw [hd1]; simp)) ▸ hj⟩
          · refine CodeT.seqK fun K4 hK4 => CodeT.region ?_
            simp -implicitDefEqProofs only [go_sem, ↓reduceIte, Nat.reduceLT, Nat.reduceEqDiff, Nat.reduceAdd, Nat.reduceSub, Nat.reduceBEq, reduceCtorEq, get_pre hcell, bs_length, Int.toNat_natCast, bs_getD hlt, bs_getD hlt1, hw1, hc1]
            repeat refine And.intro (by first | with_reducible rfl | assumption | omega | exact uni_bs _ | exact uni_bs [_] | exact uni_bs [_, _] | exact bs_byte _ | exact uni_bss _ | exact uni_bss [_] | exact Stable.refl _ | exact stable_last _ _ _ _ _ _ | trivial | rfl) ?_
            refine PureT.go (c99 _) rfl fun x hx => ?_
            subst hx
            simp -implicitDefEqProofs only [go_sem, ↓reduceIte, Nat.reduceLT, Nat.reduceEqDiff, Nat.reduceAdd, Nat.reduceSub, Nat.reduceBEq, reduceCtorEq, hd0, get_pre hcell, bs_length, Int.toNat_natCast, bs_getD hlt, bs_getD hlt1, hw1, hc1]
            repeat refine And.intro (by first | with_reducible rfl | assumption | omega | exact uni_bs _ | exact uni_bs [_] | exact uni_bs [_, _] | exact bs_byte _ | exact uni_bss _ | exact uni_bss [_] | exact Stable.refl _ | exact stable_last _ _ _ _ _ _ | trivial | rfl) ?_
            refine PureT.go (c99 _) rfl fun x hx => ?_
            subst hx
            simp -implicitDefEqProofs only [go_sem, ↓reduceIte, Nat.reduceLT, Nat.reduceEqDiff, Nat.reduceAdd, Nat.reduceSub, Nat.reduceBEq, reduceCtorEq, hd1]
            repeat refine And.intro (by first | with_reducible rfl | assumption | omega | exact uni_bs _ | exact uni_bs [_] | exact uni_bs [_, _] | exact bs_byte _ | exact uni_bss _ | exact uni_bss [_] | exact Stable.refl _ | exact stable_last _ _ _ _ _ _ | trivial | rfl) ?_
            refine hK4 _ ?_; clear hK4 K4
            refine CodeT.cond rfl (fun ht => by cases ht) (fun hf => CodeT.skip ?_)
            simp -implicitDefEqProofs only [go_sem, ↓reduceIte, Nat.reduceLT, Nat.reduceEqDiff, Nat.reduceAdd, Nat.reduceSub, Nat.reduceBEq, reduceCtorEq]
            repeat refine And.intro (by first | with_reducible rfl | assumption | omega | exact uni_bs _ | exact uni_bs [_] | exact uni_bs [_, _] | exact bs_byte _ | exact uni_bss _ | exact uni_bss [_] | exact Stable.refl _ | exact stable_last _ _ _ _ _ _ | trivial | rfl) ?_
            refine hK3 _ ?_; clear hK3 K3
            refine CodeT.drawnL [(0, .free), (1, .read), (2, .free), (3, .read), (4, .read), (5, .free), (6, .free), (7, .read), (8, .free), (9, .free), (10, .read), (11, .read), (12, .free), (13, .free), (14, .upd), (15, .upd), (16, .free)] mixed (by kernel_rfl) ?_
            simp -implicitDefEqProofs only [go_sem, ↓reduceIte, Nat.reduceLT, Nat.reduceEqDiff, Nat.reduceAdd, Nat.reduceSub, Nat.reduceBEq, reduceCtorEq, get_pre hcell, bs_length, Int.toNat_natCast, bs_getD hlt, bs_getD hlt1, hw1, push_get', push_set]
            have hrl := hsf.1
            repeat refine And.intro (by first | with_reducible rfl | assumption | omega | exact uni_bs _ | exact uni_bs [_] | exact uni_bs [_, _] | exact bs_byte _ | exact uni_bss _ | exact uni_bss [_] | exact Stable.refl _ | exact stable_last _ _ _ _ _ _ | trivial | rfl) ?_
            simp -implicitDefEqProofs only [joined, bs_snoc]
            repeat refine And.intro (by first | with_reducible rfl | assumption | omega | exact uni_bs _ | exact uni_bs [_] | exact uni_bs [_, _] | exact bs_byte _ | exact uni_bss _ | exact uni_bss [_] | exact Stable.refl _ | exact stable_last _ _ _ _ _ _ | trivial | rfl) ?_
            refine hK2 _ ?_; clear hK2 K2
            refine CodeT.region ?_
            simp -implicitDefEqProofs only [go_sem, ↓reduceIte, Nat.reduceLT, Nat.reduceEqDiff, Nat.reduceAdd, Nat.reduceSub, Nat.reduceBEq, reduceCtorEq, hw2]
            repeat refine And.intro (by first | with_reducible rfl | assumption | omega | exact uni_bs _ | exact uni_bs [_] | exact uni_bs [_, _] | exact bs_byte _ | exact uni_bss _ | exact uni_bss [_] | exact Stable.refl _ | exact stable_last _ _ _ _ _ _ | trivial | rfl) ?_
            refine ⟨⟨⟨63, [(5, .val (.int .i64 ((i + 2 : Nat) : Int))), (4, .hsl hc.length (j + 1) 0 (j + 1)), (3, .val (.int .i64 (at_ : Nat))), (0, .yld l), (1, .ptr c 0)]⟩, hc ++ [.row true (j + 1) 1 (bs (r ++ [joinb (b.getD i 0) (b.getD (i + 1) 0)]))], []⟩, ⟨rfl, ?_, keepsH_refl ?_, rfl, keepsD_nil _⟩, by simp, b.length - (i + 2), by omega, i + 2, j + 1, _, sofar_step hsf hij hlt1 hx (by rw [hd0, hd1]; rfl), by omega, by omega, rfl, rfl⟩
            · simp [go_sem, hrl]; omega
            · intro x hx
              rcases List.mem_append.1 hx with hx | hx
              · exact under_mono (by simp) (hun x hx)
              · simp at hx; subst hx; rfl
      · refine CodeT.seqK fun K4 hK4 => CodeT.region ?_
        simp -implicitDefEqProofs only [go_sem, ↓reduceIte, Nat.reduceLT, Nat.reduceEqDiff, Nat.reduceAdd, Nat.reduceSub, Nat.reduceBEq, reduceCtorEq, get_pre hcell, bs_length, hw1, hc1]
        repeat refine And.intro (by first | with_reducible rfl | assumption | omega | exact uni_bs _ | exact uni_bs [_] | exact uni_bs [_, _] | exact bs_byte _ | exact uni_bss _ | exact uni_bss [_] | exact Stable.refl _ | exact stable_last _ _ _ _ _ _ | trivial | rfl) ?_
        refine hK4 _ ?_; clear hK4 K4
        refine CodeT.cond rfl (fun ht => CodeT.exit ?_) (fun hf => by cases hf)
        simp -implicitDefEqProofs only [go_sem, ↓reduceIte, Nat.reduceLT, Nat.reduceEqDiff, Nat.reduceAdd, Nat.reduceSub, Nat.reduceBEq, reduceCtorEq, Try.f98]
        exact ⟨hc, keepsH_pre _ _ hun, by rw [hlen]; exact Nat.le_refl _, rfl, ⟨_, rfl⟩, hnone (scan1_odd hlt (by simp at hc1; omega) hx) ▸ hj⟩
  · simp -implicitDefEqProofs only [go_sem, ↓reduceIte, Nat.reduceLT, Nat.reduceEqDiff, Nat.reduceAdd, Nat.reduceSub, Nat.reduceBEq, reduceCtorEq]
    clear hK2 K2
    repeat refine And.intro (by first | with_reducible rfl | assumption | omega | exact uni_bs _ | exact uni_bs [_] | exact uni_bs [_, _] | exact bs_byte _ | exact uni_bss _ | exact uni_bss [_] | exact Stable.refl _ | exact stable_last _ _ _ _ _ _ | trivial | rfl) ?_
    refine hK _ ?_; clear hK K
    refine CodeT.exit ?_
    simp -implicitDefEqProofs only [go_sem, ↓reduceIte, Nat.reduceLT, Nat.reduceEqDiff, Nat.reduceAdd, Nat.reduceSub, Nat.reduceBEq, reduceCtorEq, Try.f98]
    exact ⟨hc, keepsH_pre _ _ hun, by rw [hlen]; exact Nat.le_refl _, rfl, ⟨_, rfl⟩, hnone (scan1_end (by simp at hf; omega)) ▸ hj⟩
end Go.Proofs.Try

namespace Go.Proofs.Try
set_option linter.unusedSimpArgs false
open Go.PM

def parseAll (b : List UInt8) : List (List UInt8 × Nat) := recs (b.length + 1) b 0
def parseR (b : List UInt8) : List (List UInt8) := (parseAll b).map (·.1)
def endAt (l : List (List UInt8 × Nat)) : Nat := (l.getLast?.map (·.2)).getD 0
def parseE (b : List UInt8) : Nat := endAt (parseAll b)

theorem seq98 (b : List UInt8) (c : Nat) (hb : b.length ≤ 4000000) : SeqT Try.prog 98 [.ptr c 0] (fun hc => hc[c]? = some (.cells [.sl false (bs b)])) ((parseAll b).map fun p => [.sl false (bs p.1), .val (.int .i64 (p.2 : Nat))]) := by
  intro l J hc0 hJ hl hy h0
  rw [List.length_map]
  refine c98 b l c hb J hc0 hJ hl (fun k hc p m hj hk => hy k hc _ hj ?_) h0
  rw [List.getElem?_map, show (parseAll b)[k]? = some (p, m) from hk]
  rfl

theorem parse_take {b : List UInt8} {k : Nat} {p : List UInt8} {m : Nat} (h : (parseAll b)[k]? = some (p, m)) :
    (parseR b).take (k + 1) = (parseR b).take k ++ [p] ∧ endAt ((parseAll b).take (k + 1)) = m ∧ k < (parseAll b).length := by
  refine ⟨?_, ?_, (List.getElem?_eq_some_iff.1 h).1⟩
  · rw [List.take_add_one, parseR, List.getElem?_map, h]; rfl
  · rw [List.take_add_one, h]; simp [endAt]
theorem parse_len (b : List UInt8) : (parseAll b).length ≤ b.length + 1 := recs_len _ _ _
theorem parseR_len (b : List UInt8) : (parseR b).length = (parseAll b).length := by simp [parseR]

theorem c14 (b : List UInt8) (hb : b.length ≤ 4000000) : PureT Try.prog 14 [.sl false (bs b)] (· = .tup [.sl false (bss (parseR b)), .val (.int .i64 (parseE b : Nat))]) := by
  refine CallT.res ?_
  refine CallT.intro Try.func14 (by decide) rfl ?_
  simp -implicitDefEqProofs only [go_sem, ↓reduceIte, Nat.reduceLT, Nat.reduceEqDiff, Nat.reduceAdd, Nat.reduceSub, Nat.reduceBEq, reduceCtorEq, enterTm, Try.ntmps14, List.range'_succ, List.range'_zero, List.zip_cons_cons, List.zip_nil_left]
  refine CodeT.seqK fun K hK => CodeT.region ?_
  simp -implicitDefEqProofs only [go_sem, ↓reduceIte, Nat.reduceLT, Nat.reduceEqDiff, Nat.reduceAdd, Nat.reduceSub, Nat.reduceBEq, reduceCtorEq]
  repeat refine And.intro (by first | with_reducible rfl | assumption | omega | exact uni_bs _ | exact uni_bs [_] | exact uni_bs [_, _] | exact bs_byte _ | exact uni_bss _ | exact uni_bss [_] | exact Stable.refl _ | exact stable_last _ _ _ _ _ _ | trivial | rfl) ?_
  refine hK _ ?_; clear hK K
  refine CodeT.seqK fun K hK => CodeT.region ?_
  simp -implicitDefEqProofs only [go_sem, ↓reduceIte, Nat.reduceLT, Nat.reduceEqDiff, Nat.reduceAdd, Nat.reduceSub, Nat.reduceBEq, reduceCtorEq]
  repeat refine And.intro (by first | with_reducible rfl | assumption | omega | exact uni_bs _ | exact uni_bs [_] | exact uni_bs [_, _] | exact bs_byte _ | exact uni_bss _ | exact uni_bss [_] | exact Stable.refl _ | exact stable_last _ _ _ _ _ _ | trivial | rfl) ?_
  refine hK _ ?_; clear hK K
  refine CodeT.seqK fun K hK => CodeT.region ?_
  simp -implicitDefEqProofs only [go_sem, ↓reduceIte, Nat.reduceLT, Nat.reduceEqDiff, Nat.reduceAdd, Nat.reduceSub, Nat.reduceBEq, reduceCtorEq]
  repeat refine And.intro (by first | with_reducible rfl | assumption | omega | exact uni_bs _ | exact uni_bs [_] | exact uni_bs [_, _] | exact bs_byte _ | exact uni_bss _ | exact uni_bss [_] | exact Stable.refl _ | exact stable_last _ _ _ _ _ _ | trivial | rfl) ?_
  refine hK _ ?_; clear hK K
  refine CodeT.promoteBox 0 0 1 rfl rfl ?_
  refine CodeT.seqK fun K hK => CodeT.seqK fun K1 hK1 => CodeT.region ?_
  simp -implicitDefEqProofs only [go_sem, ↓reduceIte, Nat.reduceLT, Nat.reduceEqDiff, Nat.reduceAdd, Nat.reduceSub, Nat.reduceBEq, reduceCtorEq]
  refine (c50 _ _).mono ?_
  rintro r h' ⟨rfl, rfl⟩
  simp -implicitDefEqProofs only [go_sem, ↓reduceIte, Nat.reduceLT, Nat.reduceEqDiff, Nat.reduceAdd, Nat.reduceSub, Nat.reduceBEq, reduceCtorEq]
  repeat refine And.intro (by first | with_reducible rfl | assumption | omega | exact uni_bs _ | exact uni_bs [_] | exact uni_bs [_, _] | exact bs_byte _ | exact uni_bss _ | exact uni_bss [_] | exact Stable.refl _ | exact stable_last _ _ _ _ _ _ | trivial | rfl) ?_
  refine hK1 _ ?_; clear hK1 K1
  refine CodeT.block ?_
  refine CodeT.rangeAll rfl (seq98 b 3 hb) (fun k => [.cells [.hsl 2 k 0 k], .cells [.val (.int .i64 (endAt ((parseAll b).take k) : Nat))], .row true k 1 (bss ((parseR b).take k)), .cells [.sl false (bs b)]]) rfl (fun _ => rfl) (fun _ _ => rfl) (fun k x hx => ?_) rfl (fun args ha => ?_) (fun k args fn hk => ?_) (fun fn => ?_)
  · simp at hx
    rcases hx with rfl | rfl | rfl | rfl <;> rfl
  · obtain ⟨p, _, rfl⟩ := List.mem_map.1 ha
    rfl
  · rw [List.getElem?_map, Option.map_eq_some_iff] at hk
    obtain ⟨⟨p, m⟩, hk, rfl⟩ := hk
    simp -implicitDefEqProofs only [go_sem, ↓reduceIte, Nat.reduceLT, Nat.reduceEqDiff, Nat.reduceAdd, Nat.reduceSub, Nat.reduceBEq, reduceCtorEq]
    refine CodeT.seqK fun K hK => CodeT.region ?_
    simp -implicitDefEqProofs only [go_sem, ↓reduceIte, Nat.reduceLT, Nat.reduceEqDiff, Nat.reduceAdd, Nat.reduceSub, Nat.reduceBEq, reduceCtorEq]
    repeat refine And.intro (by first | with_reducible rfl | assumption | omega | exact uni_bs _ | exact uni_bs [_] | exact uni_bs [_, _] | exact bs_byte _ | exact uni_bss _ | exact uni_bss [_] | exact Stable.refl _ | exact stable_last _ _ _ _ _ _ | trivial | rfl) ?_
    refine hK _ ?_; clear hK K
    refine CodeT.region ?_
    simp -implicitDefEqProofs only [go_sem, ↓reduceIte, Nat.reduceLT, Nat.reduceEqDiff, Nat.reduceAdd, Nat.reduceSub, Nat.reduceBEq, reduceCtorEq]
    repeat refine And.intro (by first | with_reducible rfl | assumption | omega | exact uni_bs _ | exact uni_bs [_] | exact uni_bs [_, _] | exact bs_byte _ | exact uni_bss _ | exact uni_bss [_] | exact Stable.refl _ | exact stable_last _ _ _ _ _ _ | trivial | rfl) ?_
    obtain ⟨h1, h2, h3⟩ := parse_take hk
    have h4 := parse_len b
    refine CodeT.block ?_
    refine CodeT.seqK fun K hK => CodeT.region ?_
    simp -implicitDefEqProofs only [go_sem, ↓reduceIte, Nat.reduceLT, Nat.reduceEqDiff, Nat.reduceAdd, Nat.reduceSub, Nat.reduceBEq, reduceCtorEq, bss_length, List.length_take, parseR_len, Nat.min_eq_left (Nat.le_of_lt h3), bss_snoc, ← h1]
    repeat refine And.intro (by first | with_reducible rfl | assumption | omega | exact uni_bs _ | exact uni_bs [_] | exact uni_bs [_, _] | exact bs_byte _ | exact uni_bss _ | exact uni_bss [_] | exact Stable.refl _ | exact stable_last _ _ _ _ _ _ | trivial | rfl) ?_
    refine hK _ ?_; clear hK K
    refine CodeT.region ?_
    simp -implicitDefEqProofs only [go_sem, ↓reduceIte, Nat.reduceLT, Nat.reduceEqDiff, Nat.reduceAdd, Nat.reduceSub, Nat.reduceBEq, reduceCtorEq, h2]
    repeat refine And.intro (by first | with_reducible rfl | assumption | omega | exact uni_bs _ | exact uni_bs [_] | exact uni_bs [_, _] | exact bs_byte _ | exact uni_bss _ | exact uni_bss [_] | exact Stable.refl _ | exact stable_last _ _ _ _ _ _ | trivial | rfl) ?_
    exact Nat.le_refl _
  · simp -implicitDefEqProofs only [go_sem, ↓reduceIte, Nat.reduceLT, Nat.reduceEqDiff, Nat.reduceAdd, Nat.reduceSub, Nat.reduceBEq, reduceCtorEq, List.length_map]
    repeat refine And.intro (by first | with_reducible rfl | assumption | omega | exact uni_bs _ | exact uni_bs [_] | exact uni_bs [_, _] | exact bs_byte _ | exact uni_bss _ | exact uni_bss [_] | exact Stable.refl _ | exact stable_last _ _ _ _ _ _ | trivial | rfl) ?_
    refine hK _ ?_; clear hK K
    refine CodeT.seqK fun K hK => CodeT.drawnL [(0, .read), (1, .read), (2, .free), (3, .free)] mixed (by kernel_rfl) ?_
    simp -implicitDefEqProofs only [go_sem, ↓reduceIte, Nat.reduceLT, Nat.reduceEqDiff, Nat.reduceAdd, Nat.reduceSub, Nat.reduceBEq, reduceCtorEq]
    repeat refine And.intro (by first | with_reducible rfl | assumption | omega | exact uni_bs _ | exact uni_bs [_] | exact uni_bs [_, _] | exact bs_byte _ | exact uni_bss _ | exact uni_bss [_] | exact Stable.refl _ | exact stable_last _ _ _ _ _ _ | trivial | rfl) ?_
    refine hK _ ?_; clear hK K
    refine CodeT.ret ?_
    simp -implicitDefEqProofs only [go_sem, ↓reduceIte, Nat.reduceLT, Nat.reduceEqDiff, Nat.reduceAdd, Nat.reduceSub, Nat.reduceBEq, reduceCtorEq, Try.f14, List.take_length, bss_length, parseR_len]
    have h5 : List.take (parseAll b).length (parseR b) = parseR b := List.take_of_length_le (by rw [parseR_len]; exact Nat.le_refl _)
    rw [h5]
    refine ⟨by rw [parseR_len]; exact Nat.le_refl _, rfl, _, rfl, ?_⟩
    rw [List.take_of_length_le (by rw [bss_length, parseR_len]; exact Nat.le_refl _)]
    rfl
end Go.Proofs.Try

namespace Go.Proofs.Try
set_option linter.unusedSimpArgs false
open Go.PM

structure DOp where
  flush : Bool
  at_ : Int
  bytes : List UInt8
structure Dsk where
  bytes : List UInt8
  queue : List DOp
def opv (o : DOp) : AV := .agg [.val (.bool o.flush), .val (.int .i64 o.at_), .sl false (bs o.bytes)]
def opvs (l : List DOp) : List AV := l.map opv
def dkv (d : Dsk) : AV := .agg [.sl false (bs d.bytes), .sl false (opvs d.queue)]
def kpv (d : Dsk) (seen : List UInt8) (half : Int) : AV := .cptr [.sl false (bs d.bytes), .sl false (opvs d.queue), .sl false (bs seen), .val (.int .i64 half)]

theorem half_len {n : Nat} (h : n ≤ 4000000) : IntKind.i64.wrap ((n : Int).tdiv 2) = ((n / 2 : Nat) : Int) := by
  have : (n : Int).tdiv 2 = ((n / 2 : Nat) : Int) := (Int.ofNat_tdiv n 2).symm
  rw [this, i64_in] <;> omega

theorem c66 (d : Dsk) (seen : List UInt8) (half : Int) (hd : d.bytes.length ≤ 4000000) : PureT Try.prog 66 [kpv d seen half] (· = .val (.int .i64 ((d.bytes.length / 2 : Nat) : Int))) := by
  unfold kpv
  refine CallT.intro Try.func66 (by decide) rfl ?_
  simp -implicitDefEqProofs only [go_sem, ↓reduceIte, Nat.reduceLT, Nat.reduceEqDiff, Nat.reduceAdd, Nat.reduceSub, Nat.reduceBEq, reduceCtorEq, enterTm, Try.ntmps66, List.range'_succ, List.range'_zero, List.zip_cons_cons, List.zip_nil_left]
  refine CodeT.seqK fun K hK => CodeT.region ?_
  simp -implicitDefEqProofs only [go_sem, ↓reduceIte, Nat.reduceLT, Nat.reduceEqDiff, Nat.reduceAdd, Nat.reduceSub, Nat.reduceBEq, reduceCtorEq]
  repeat refine And.intro (by first | with_reducible rfl | assumption | omega | exact uni_bs _ | exact uni_bs [_] | exact uni_bs [_, _] | exact bs_byte _ | exact uni_bss _ | exact uni_bss [_] | exact Stable.refl _ | exact stable_last _ _ _ _ _ _ | trivial | rfl) ?_
  refine hK _ ?_; clear hK K
  refine CodeT.seqK fun K hK => CodeT.region ?_
  simp -implicitDefEqProofs only [go_sem, ↓reduceIte, Nat.reduceLT, Nat.reduceEqDiff, Nat.reduceAdd, Nat.reduceSub, Nat.reduceBEq, reduceCtorEq, bs_length, half_len hd]
  repeat refine And.intro (by first | with_reducible rfl | assumption | omega | exact uni_bs _ | exact uni_bs [_] | exact uni_bs [_, _] | exact bs_byte _ | exact uni_bss _ | exact uni_bss [_] | exact Stable.refl _ | exact stable_last _ _ _ _ _ _ | trivial | rfl) ?_
  refine hK _ ?_; clear hK K
  refine CodeT.ret ?_
  simp -implicitDefEqProofs only [go_sem, ↓reduceIte, Nat.reduceLT, Nat.reduceEqDiff, Nat.reduceAdd, Nat.reduceSub, Nat.reduceBEq, reduceCtorEq, Try.f66]
  exact ⟨rfl, _, rfl, rfl⟩

theorem c106 (x : UInt8) : PureT Try.prog 106 [b8 x] (· = .val (.bool (x != 0))) := by
  refine CallT.intro Try.func106 (by decide) rfl ?_
  simp -implicitDefEqProofs only [go_sem, ↓reduceIte, Nat.reduceLT, Nat.reduceEqDiff, Nat.reduceAdd, Nat.reduceSub, Nat.reduceBEq, reduceCtorEq, enterTm, Try.ntmps106, List.range'_succ, List.range'_zero, List.zip_cons_cons, List.zip_nil_left]
  refine CodeT.seqK fun K hK => CodeT.region ?_
  simp -implicitDefEqProofs only [go_sem, ↓reduceIte, Nat.reduceLT, Nat.reduceEqDiff, Nat.reduceAdd, Nat.reduceSub, Nat.reduceBEq, reduceCtorEq]
  repeat refine And.intro (by first | with_reducible rfl | assumption | omega | exact uni_bs _ | exact uni_bs [_] | exact uni_bs [_, _] | exact bs_byte _ | exact uni_bss _ | exact uni_bss [_] | exact Stable.refl _ | exact stable_last _ _ _ _ _ _ | trivial | rfl) ?_
  refine hK _ ?_; clear hK K
  refine CodeT.seqK fun K hK => CodeT.region ?_
  simp -implicitDefEqProofs only [go_sem, ↓reduceIte, Nat.reduceLT, Nat.reduceEqDiff, Nat.reduceAdd, Nat.reduceSub, Nat.reduceBEq, reduceCtorEq]
  repeat refine And.intro (by first | with_reducible rfl | assumption | omega | exact uni_bs _ | exact uni_bs [_] | exact uni_bs [_, _] | exact bs_byte _ | exact uni_bss _ | exact uni_bss [_] | exact Stable.refl _ | exact stable_last _ _ _ _ _ _ | trivial | rfl) ?_
  refine hK _ ?_; clear hK K
  refine CodeT.ret ?_
  simp -implicitDefEqProofs only [go_sem, ↓reduceIte, Nat.reduceLT, Nat.reduceEqDiff, Nat.reduceAdd, Nat.reduceSub, Nat.reduceBEq, reduceCtorEq, Try.f106]
  refine ⟨rfl, _, rfl, ?_⟩
  rw [u8_0, u8_ne]

def idxOf (p : UInt8 → Bool) (l : List UInt8) : Int := match l.findIdx? p with
  | some i => (i : Int)
  | none => -1

theorem idx_here {p : UInt8 → Bool} {l : List UInt8} {i : Nat} (hi : i < l.length) (hn : ∀ j, j < i → p (l.getD j 0) = false) (hp : p (l.getD i 0) = true) : idxOf p l = i := by
  have : l.findIdx? p = some i := by
    rw [List.findIdx?_eq_some_iff_getElem]
    refine ⟨hi, ?_, fun j hj => ?_⟩
    · simpa [List.getD_eq_getElem?_getD, hi] using hp
    · have := hn j hj
      have hj' : j < l.length := by omega
      simpa [List.getD_eq_getElem?_getD, hj'] using this
  simp [idxOf, this]
theorem idx_none {p : UInt8 → Bool} {l : List UInt8} (hn : ∀ j, j < l.length → p (l.getD j 0) = false) : idxOf p l = -1 := by
  have : l.findIdx? p = none := by
    rw [List.findIdx?_eq_none_iff]
    intro x hx
    obtain ⟨j, hj, rfl⟩ := List.mem_iff_getElem.1 hx
    have := hn j hj
    simpa [List.getD_eq_getElem?_getD, hj] using this
  simp [idxOf, this]

theorem c109 (l : List UInt8) (f : FuncId) (p : UInt8 → Bool) (hf : ∀ x, PureT Try.prog f [b8 x] (· = .val (.bool (p x)))) (hl : l.length ≤ 4000000) : PureT Try.prog 109 [.sl false (bs l), .fn f []] (· = .val (.int .i64 (idxOf p l))) := by
  refine CallT.intro Try.func109 (by decide) rfl ?_
  simp -implicitDefEqProofs only [go_sem, ↓reduceIte, Nat.reduceLT, Nat.reduceEqDiff, Nat.reduceAdd, Nat.reduceSub, Nat.reduceBEq, reduceCtorEq, enterTm, Try.ntmps109, List.range'_succ, List.range'_zero, List.zip_cons_cons, List.zip_nil_left]
  refine CodeT.seqK fun K hK => CodeT.region ?_
  simp -implicitDefEqProofs only [go_sem, ↓reduceIte, Nat.reduceLT, Nat.reduceEqDiff, Nat.reduceAdd, Nat.reduceSub, Nat.reduceBEq, reduceCtorEq]
  repeat refine And.intro (by first | with_reducible rfl | assumption | omega | exact uni_bs _ | exact uni_bs [_] | exact uni_bs [_, _] | exact bs_byte _ | exact uni_bss _ | exact uni_bss [_] | exact Stable.refl _ | exact stable_last _ _ _ _ _ _ | trivial | rfl) ?_
  refine hK _ ?_; clear hK K
  refine CodeT.seqK fun K hK => ?_
  refine CodeT.seqK fun K2 hK2 => CodeT.region ?_
  simp -implicitDefEqProofs only [go_sem, ↓reduceIte, Nat.reduceLT, Nat.reduceEqDiff, Nat.reduceAdd, Nat.reduceSub, Nat.reduceBEq, reduceCtorEq, bs_length]
  repeat refine And.intro (by first | with_reducible rfl | assumption | omega | exact uni_bs _ | exact uni_bs [_] | exact uni_bs [_, _] | exact bs_byte _ | exact uni_bss _ | exact uni_bss [_] | exact Stable.refl _ | exact stable_last _ _ _ _ _ _ | trivial | rfl) ?_
  refine hK2 _ ?_; clear hK2 K2
  refine CodeT.block ?_
  refine CodeT.weak (s' := ⟨⟨19, [(8, .val (.int .i64 0)), (7, .val (.int .i64 (l.length : Nat))), (0, .sl false (bs l)), (1, .fn f [])]⟩, [], []⟩) ⟨rfl, by simp [go_sem], trivial, rfl, keepsD_nil _⟩ rfl ?_
  refine CodeT.loop (fun n s => ∃ i, i ≤ l.length ∧ (∀ j, j < i → p (l.getD j 0) = false) ∧ n = l.length - i ∧ s = ⟨⟨19, [(8, .val (.int .i64 (i : Nat))), (7, .val (.int .i64 (l.length : Nat))), (0, .sl false (bs l)), (1, .fn f [])]⟩, [], []⟩) (n := l.length) ?_ ?_
  · exact ⟨0, Nat.zero_le _, fun j hj => absurd hj (Nat.not_lt_zero _), rfl, rfl⟩
  rintro n s ⟨i, hi, hn, rfl, rfl⟩
  refine CodeT.lessN ?_
  refine CodeT.seqK fun K2 hK2 => CodeT.region ?_
  simp -implicitDefEqProofs only [go_sem, ↓reduceIte, Nat.reduceLT, Nat.reduceEqDiff, Nat.reduceAdd, Nat.reduceSub, Nat.reduceBEq, reduceCtorEq]
  repeat refine And.intro (by first | with_reducible rfl | assumption | omega | exact uni_bs _ | exact uni_bs [_] | exact uni_bs [_, _] | exact bs_byte _ | exact uni_bss _ | exact uni_bss [_] | exact Stable.refl _ | exact stable_last _ _ _ _ _ _ | trivial | rfl) ?_
  refine hK2 _ ?_; clear hK2 K2
  refine CodeT.seqK fun K2 hK2 => CodeT.cond rfl (fun ht => CodeT.skip ?_) (fun hf' => CodeT.exit ?_)
  · simp -implicitDefEqProofs only [go_sem, ↓reduceIte, Nat.reduceLT, Nat.reduceEqDiff, Nat.reduceAdd, Nat.reduceSub, Nat.reduceBEq, reduceCtorEq]
    repeat refine And.intro (by first | with_reducible rfl | assumption | omega | exact uni_bs _ | exact uni_bs [_] | exact uni_bs [_, _] | exact bs_byte _ | exact uni_bss _ | exact uni_bss [_] | exact Stable.refl _ | exact stable_last _ _ _ _ _ _ | trivial | rfl) ?_
    refine hK2 _ ?_; clear hK2 K2
    have hlt : i < l.length := by simp at ht; exact ht
    have hw1 : IntKind.i64.wrap ((i : Int) + 1) = ((i + 1 : Nat) : Int) := by rw [i64_in] <;> omega
    refine CodeT.seqK fun K2 hK2 => ?_
    refine CodeT.block ?_
    refine CodeT.seqK fun K3 hK3 => CodeT.region ?_
    simp -implicitDefEqProofs only [go_sem, ↓reduceIte, Nat.reduceLT, Nat.reduceEqDiff, Nat.reduceAdd, Nat.reduceSub, Nat.reduceBEq, reduceCtorEq]
    repeat refine And.intro (by first | with_reducible rfl | assumption | omega | exact uni_bs _ | exact uni_bs [_] | exact uni_bs [_, _] | exact bs_byte _ | exact uni_bss _ | exact uni_bss [_] | exact Stable.refl _ | exact stable_last _ _ _ _ _ _ | trivial | rfl) ?_
    refine hK3 _ ?_; clear hK3 K3
    refine CodeT.seqK fun K3 hK3 => ?_
    refine CodeT.region ?_
    simp -implicitDefEqProofs only [go_sem, ↓reduceIte, Nat.reduceLT, Nat.reduceEqDiff, Nat.reduceAdd, Nat.reduceSub, Nat.reduceBEq, reduceCtorEq, Int.toNat_natCast, bs_getD hlt, bs_length]
    repeat refine And.intro (by first | with_reducible rfl | assumption | omega | exact uni_bs _ | exact uni_bs [_] | exact uni_bs [_, _] | exact bs_byte _ | exact uni_bss _ | exact uni_bss [_] | exact Stable.refl _ | exact stable_last _ _ _ _ _ _ | trivial | rfl) ?_
    refine PureT.go (hf _) rfl fun x hx => ?_
    subst hx
    simp -implicitDefEqProofs only [go_sem, ↓reduceIte, Nat.reduceLT, Nat.reduceEqDiff, Nat.reduceAdd, Nat.reduceSub, Nat.reduceBEq, reduceCtorEq]
    repeat refine And.intro (by first | with_reducible rfl | assumption | omega | exact uni_bs _ | exact uni_bs [_] | exact uni_bs [_, _] | exact bs_byte _ | exact uni_bss _ | exact uni_bss [_] | exact Stable.refl _ | exact stable_last _ _ _ _ _ _ | trivial | rfl) ?_
    refine hK3 _ ?_; clear hK3 K3
    cases hpx : p (l.getD i 0)
    · refine CodeT.cond rfl (fun ht => by cases ht) (fun hf' => CodeT.skip ?_)
      simp -implicitDefEqProofs only [go_sem, ↓reduceIte, Nat.reduceLT, Nat.reduceEqDiff, Nat.reduceAdd, Nat.reduceSub, Nat.reduceBEq, reduceCtorEq]
      repeat refine And.intro (by first | with_reducible rfl | assumption | omega | exact uni_bs _ | exact uni_bs [_] | exact uni_bs [_, _] | exact bs_byte _ | exact uni_bss _ | exact uni_bss [_] | exact Stable.refl _ | exact stable_last _ _ _ _ _ _ | trivial | rfl) ?_
      refine hK2 _ ?_; clear hK2 K2
      refine CodeT.region ?_
      simp -implicitDefEqProofs only [go_sem, ↓reduceIte, Nat.reduceLT, Nat.reduceEqDiff, Nat.reduceAdd, Nat.reduceSub, Nat.reduceBEq, reduceCtorEq, hw1]
      repeat refine And.intro (by first | with_reducible rfl | assumption | omega | exact uni_bs _ | exact uni_bs [_] | exact uni_bs [_, _] | exact bs_byte _ | exact uni_bss _ | exact uni_bss [_] | exact Stable.refl _ | exact stable_last _ _ _ _ _ _ | trivial | rfl) ?_
      refine ⟨⟨⟨19, [(8, .val (.int .i64 ((i + 1 : Nat) : Int))), (7, .val (.int .i64 (l.length : Nat))), (0, .sl false (bs l)), (1, .fn f [])]⟩, [], []⟩, ⟨rfl, ?_, trivial, rfl, keepsD_nil _⟩, Nat.le_refl _, l.length - (i + 1), by omega, i + 1, hlt, fun j hj => ?_, rfl, rfl⟩
      · simp [go_sem]
      · rcases Nat.lt_or_eq_of_le (Nat.le_of_lt_succ hj) with h | h
        · exact hn j h
        · rw [h]; exact hpx
    · refine CodeT.cond rfl (fun ht => ?_) (fun hf' => by cases hf')
      refine CodeT.seqK fun K4 hK4 => CodeT.region ?_
      simp -implicitDefEqProofs only [go_sem, ↓reduceIte, Nat.reduceLT, Nat.reduceEqDiff, Nat.reduceAdd, Nat.reduceSub, Nat.reduceBEq, reduceCtorEq]
      repeat refine And.intro (by first | with_reducible rfl | assumption | omega | exact uni_bs _ | exact uni_bs [_] | exact uni_bs [_, _] | exact bs_byte _ | exact uni_bss _ | exact uni_bss [_] | exact Stable.refl _ | exact stable_last _ _ _ _ _ _ | trivial | rfl) ?_
      refine hK4 _ ?_; clear hK4 K4
      refine CodeT.ret ?_
      simp -implicitDefEqProofs only [go_sem, ↓reduceIte, Nat.reduceLT, Nat.reduceEqDiff, Nat.reduceAdd, Nat.reduceSub, Nat.reduceBEq, reduceCtorEq, Try.f109]
      refine ⟨rfl, _, rfl, ?_⟩
      rw [idx_here hlt hn hpx]
  · simp -implicitDefEqProofs only [go_sem, ↓reduceIte, Nat.reduceLT, Nat.reduceEqDiff, Nat.reduceAdd, Nat.reduceSub, Nat.reduceBEq, reduceCtorEq]
    clear hK2 K2
    repeat refine And.intro (by first | with_reducible rfl | assumption | omega | exact uni_bs _ | exact uni_bs [_] | exact uni_bs [_, _] | exact bs_byte _ | exact uni_bss _ | exact uni_bss [_] | exact Stable.refl _ | exact stable_last _ _ _ _ _ _ | trivial | rfl) ?_
    refine hK _ ?_; clear hK K
    refine CodeT.seqK fun K hK => CodeT.region ?_
    simp -implicitDefEqProofs only [go_sem, ↓reduceIte, Nat.reduceLT, Nat.reduceEqDiff, Nat.reduceAdd, Nat.reduceSub, Nat.reduceBEq, reduceCtorEq]
    repeat refine And.intro (by first | with_reducible rfl | assumption | omega | exact uni_bs _ | exact uni_bs [_] | exact uni_bs [_, _] | exact bs_byte _ | exact uni_bss _ | exact uni_bss [_] | exact Stable.refl _ | exact stable_last _ _ _ _ _ _ | trivial | rfl) ?_
    refine hK _ ?_; clear hK K
    refine CodeT.ret ?_
    simp -implicitDefEqProofs only [go_sem, ↓reduceIte, Nat.reduceLT, Nat.reduceEqDiff, Nat.reduceAdd, Nat.reduceSub, Nat.reduceBEq, reduceCtorEq, Try.f109]
    refine ⟨rfl, _, rfl, ?_⟩
    have hil : i = l.length := by simp at hf'; omega
    subst hil
    rw [idx_none hn]

def anyB (p : UInt8 → Bool) (l : List UInt8) : Bool := l.any p

end Go.Proofs.Try

namespace Go.Proofs.Try
set_option linter.unusedSimpArgs false
open Go.PM

theorem idx_ge (p : UInt8 → Bool) (l : List UInt8) : decide (idxOf p l ≥ 0) = l.any p := by
  unfold idxOf
  cases h : l.findIdx? p with
  | none =>
    rw [List.findIdx?_eq_none_iff] at h
    have : l.any p = false := by rw [List.any_eq_false]; intro x hx; rw [h x hx]; simp
    rw [this]; rfl
  | some i =>
    have hi := List.findIdx?_eq_some_iff_getElem.1 h
    obtain ⟨h1, h2, _⟩ := hi
    have : l.any p = true := by rw [List.any_eq_true]; exact ⟨l[i], List.getElem_mem h1, h2⟩
    rw [this]; simp

theorem c105 (l : List UInt8) (f : FuncId) (p : UInt8 → Bool) (hf : ∀ x, PureT Try.prog f [b8 x] (· = .val (.bool (p x)))) (hl : l.length ≤ 4000000) : PureT Try.prog 105 [.sl false (bs l), .fn f []] (· = .val (.bool (l.any p))) := by
  refine CallT.intro Try.func105 (by decide) rfl ?_
  simp -implicitDefEqProofs only [go_sem, ↓reduceIte, Nat.reduceLT, Nat.reduceEqDiff, Nat.reduceAdd, Nat.reduceSub, Nat.reduceBEq, reduceCtorEq, enterTm, Try.ntmps105, List.range'_succ, List.range'_zero, List.zip_cons_cons, List.zip_nil_left]
  refine CodeT.seqK fun K hK => CodeT.region ?_
  simp -implicitDefEqProofs only [go_sem, ↓reduceIte, Nat.reduceLT, Nat.reduceEqDiff, Nat.reduceAdd, Nat.reduceSub, Nat.reduceBEq, reduceCtorEq]
  repeat refine And.intro (by first | with_reducible rfl | assumption | omega | exact uni_bs _ | exact uni_bs [_] | exact uni_bs [_, _] | exact bs_byte _ | exact uni_bss _ | exact uni_bss [_] | exact Stable.refl _ | exact stable_last _ _ _ _ _ _ | trivial | rfl) ?_
  refine hK _ ?_; clear hK K
  refine CodeT.seqK fun K hK => CodeT.region ?_
  simp -implicitDefEqProofs only [go_sem, ↓reduceIte, Nat.reduceLT, Nat.reduceEqDiff, Nat.reduceAdd, Nat.reduceSub, Nat.reduceBEq, reduceCtorEq]
  repeat refine And.intro (by first | with_reducible rfl | assumption | omega | exact uni_bs _ | exact uni_bs [_] | exact uni_bs [_, _] | exact bs_byte _ | exact uni_bss _ | exact uni_bss [_] | exact Stable.refl _ | exact stable_last _ _ _ _ _ _ | trivial | rfl) ?_
  refine PureT.go (c109 l f p hf hl) rfl fun x hx => ?_
  subst hx
  simp -implicitDefEqProofs only [go_sem, ↓reduceIte, Nat.reduceLT, Nat.reduceEqDiff, Nat.reduceAdd, Nat.reduceSub, Nat.reduceBEq, reduceCtorEq, idx_ge]
  repeat refine And.intro (by first | with_reducible rfl | assumption | omega | exact uni_bs _ | exact uni_bs [_] | exact uni_bs [_, _] | exact bs_byte _ | exact uni_bss _ | exact uni_bss [_] | exact Stable.refl _ | exact stable_last _ _ _ _ _ _ | trivial | rfl) ?_
  refine hK _ ?_; clear hK K
  refine CodeT.ret ?_
  simp -implicitDefEqProofs only [go_sem, ↓reduceIte, Nat.reduceLT, Nat.reduceEqDiff, Nat.reduceAdd, Nat.reduceSub, Nat.reduceBEq, reduceCtorEq, Try.f105]
  exact ⟨rfl, _, rfl, rfl⟩

def zerosB (l : List UInt8) : Bool := !l.any (· != 0)
theorem c63 (l : List UInt8) (hl : l.length ≤ 4000000) : PureT Try.prog 63 [.sl false (bs l)] (· = .val (.bool (zerosB l))) := by
  refine CallT.intro Try.func63 (by decide) rfl ?_
  simp -implicitDefEqProofs only [go_sem, ↓reduceIte, Nat.reduceLT, Nat.reduceEqDiff, Nat.reduceAdd, Nat.reduceSub, Nat.reduceBEq, reduceCtorEq, enterTm, Try.ntmps63, List.range'_succ, List.range'_zero, List.zip_cons_cons, List.zip_nil_left]
  refine CodeT.seqK fun K hK => CodeT.region ?_
  simp -implicitDefEqProofs only [go_sem, ↓reduceIte, Nat.reduceLT, Nat.reduceEqDiff, Nat.reduceAdd, Nat.reduceSub, Nat.reduceBEq, reduceCtorEq]
  repeat refine And.intro (by first | with_reducible rfl | assumption | omega | exact uni_bs _ | exact uni_bs [_] | exact uni_bs [_, _] | exact bs_byte _ | exact uni_bss _ | exact uni_bss [_] | exact Stable.refl _ | exact stable_last _ _ _ _ _ _ | trivial | rfl) ?_
  refine hK _ ?_; clear hK K
  refine CodeT.seqK fun K hK => CodeT.region ?_
  simp -implicitDefEqProofs only [go_sem, ↓reduceIte, Nat.reduceLT, Nat.reduceEqDiff, Nat.reduceAdd, Nat.reduceSub, Nat.reduceBEq, reduceCtorEq]
  repeat refine And.intro (by first | with_reducible rfl | assumption | omega | exact uni_bs _ | exact uni_bs [_] | exact uni_bs [_, _] | exact bs_byte _ | exact uni_bss _ | exact uni_bss [_] | exact Stable.refl _ | exact stable_last _ _ _ _ _ _ | trivial | rfl) ?_
  refine PureT.go (c105 l 106 _ c106 hl) rfl fun x hx => ?_
  subst hx
  simp -implicitDefEqProofs only [go_sem, ↓reduceIte, Nat.reduceLT, Nat.reduceEqDiff, Nat.reduceAdd, Nat.reduceSub, Nat.reduceBEq, reduceCtorEq]
  repeat refine And.intro (by first | with_reducible rfl | assumption | omega | exact uni_bs _ | exact uni_bs [_] | exact uni_bs [_, _] | exact bs_byte _ | exact uni_bss _ | exact uni_bss [_] | exact Stable.refl _ | exact stable_last _ _ _ _ _ _ | trivial | rfl) ?_
  refine hK _ ?_; clear hK K
  refine CodeT.ret ?_
  simp -implicitDefEqProofs only [go_sem, ↓reduceIte, Nat.reduceLT, Nat.reduceEqDiff, Nat.reduceAdd, Nat.reduceSub, Nat.reduceBEq, reduceCtorEq, Try.f63]
  exact ⟨rfl, _, rfl, rfl⟩

def halfAt (b : List UInt8) : Nat := if b.getD 0 0 = 0 then 1 else 1 + b.length / 2
theorem c103 (b : List UInt8) (h0 : 0 < b.length) (hb : b.length ≤ 4000000) : PureT Try.prog 103 [.sl false (bs b)] (· = .val (.int .i64 (halfAt b : Nat))) := by
  refine CallT.intro Try.func103 (by decide) rfl ?_
  simp -implicitDefEqProofs only [go_sem, ↓reduceIte, Nat.reduceLT, Nat.reduceEqDiff, Nat.reduceAdd, Nat.reduceSub, Nat.reduceBEq, reduceCtorEq, enterTm, Try.ntmps103, List.range'_succ, List.range'_zero, List.zip_cons_cons, List.zip_nil_left]
  refine CodeT.seqK fun K hK => CodeT.region ?_
  simp -implicitDefEqProofs only [go_sem, ↓reduceIte, Nat.reduceLT, Nat.reduceEqDiff, Nat.reduceAdd, Nat.reduceSub, Nat.reduceBEq, reduceCtorEq]
  repeat refine And.intro (by first | with_reducible rfl | assumption | omega | exact uni_bs _ | exact uni_bs [_] | exact uni_bs [_, _] | exact bs_byte _ | exact uni_bss _ | exact uni_bss [_] | exact Stable.refl _ | exact stable_last _ _ _ _ _ _ | trivial | rfl) ?_
  refine hK _ ?_; clear hK K
  refine CodeT.seqK fun K hK => ?_
  refine CodeT.seqK fun K1 hK1 => CodeT.region ?_
  simp -implicitDefEqProofs only [go_sem, ↓reduceIte, Nat.reduceLT, Nat.reduceEqDiff, Nat.reduceAdd, Nat.reduceSub, Nat.reduceBEq, reduceCtorEq, bs_getD h0, bs_length]
  repeat refine And.intro (by first | with_reducible rfl | assumption | omega | exact uni_bs _ | exact uni_bs [_] | exact uni_bs [_, _] | exact bs_byte _ | exact uni_bss _ | exact uni_bss [_] | exact Stable.refl _ | exact stable_last _ _ _ _ _ _ | trivial | rfl) ?_
  refine hK1 _ ?_; clear hK1 K1
  refine CodeT.cond rfl (fun ht => ?_) (fun hf => CodeT.skip ?_)
  · have hx : b.getD 0 0 = 0 := by rw [u8_0, u8_eq] at ht; simpa using ht
    refine CodeT.seqK fun K1 hK1 => CodeT.region ?_
    simp -implicitDefEqProofs only [go_sem, ↓reduceIte, Nat.reduceLT, Nat.reduceEqDiff, Nat.reduceAdd, Nat.reduceSub, Nat.reduceBEq, reduceCtorEq]
    repeat refine And.intro (by first | with_reducible rfl | assumption | omega | exact uni_bs _ | exact uni_bs [_] | exact uni_bs [_, _] | exact bs_byte _ | exact uni_bss _ | exact uni_bss [_] | exact Stable.refl _ | exact stable_last _ _ _ _ _ _ | trivial | rfl) ?_
    refine hK1 _ ?_; clear hK1 K1
    refine CodeT.ret ?_
    simp -implicitDefEqProofs only [go_sem, ↓reduceIte, Nat.reduceLT, Nat.reduceEqDiff, Nat.reduceAdd, Nat.reduceSub, Nat.reduceBEq, reduceCtorEq, Try.f103]
    refine ⟨rfl, _, rfl, ?_⟩
    rw [halfAt, if_pos hx]; rfl
  · have hx : ¬ b.getD 0 0 = 0 := by rw [u8_0, u8_eq] at hf; simpa using hf
    simp -implicitDefEqProofs only [go_sem, ↓reduceIte, Nat.reduceLT, Nat.reduceEqDiff, Nat.reduceAdd, Nat.reduceSub, Nat.reduceBEq, reduceCtorEq]
    repeat refine And.intro (by first | with_reducible rfl | assumption | omega | exact uni_bs _ | exact uni_bs [_] | exact uni_bs [_, _] | exact bs_byte _ | exact uni_bss _ | exact uni_bss [_] | exact Stable.refl _ | exact stable_last _ _ _ _ _ _ | trivial | rfl) ?_
    refine hK _ ?_; clear hK K
    have hw : IntKind.i64.wrap (1 + ((b.length / 2 : Nat) : Int)) = ((1 + b.length / 2 : Nat) : Int) := by rw [i64_in] <;> omega
    refine CodeT.seqK fun K hK => CodeT.region ?_
    simp -implicitDefEqProofs only [go_sem, ↓reduceIte, Nat.reduceLT, Nat.reduceEqDiff, Nat.reduceAdd, Nat.reduceSub, Nat.reduceBEq, reduceCtorEq, bs_length, half_len hb, hw]
    repeat refine And.intro (by first | with_reducible rfl | assumption | omega | exact uni_bs _ | exact uni_bs [_] | exact uni_bs [_, _] | exact bs_byte _ | exact uni_bss _ | exact uni_bss [_] | exact Stable.refl _ | exact stable_last _ _ _ _ _ _ | trivial | rfl) ?_
    refine hK _ ?_; clear hK K
    refine CodeT.ret ?_
    simp -implicitDefEqProofs only [go_sem, ↓reduceIte, Nat.reduceLT, Nat.reduceEqDiff, Nat.reduceAdd, Nat.reduceSub, Nat.reduceBEq, reduceCtorEq, Try.f103]
    refine ⟨rfl, _, rfl, ?_⟩
    rw [halfAt, if_neg hx]

theorem c104 (d : Dsk) (seen : List UInt8) (half : Int) (b : List UInt8) (h : Nat) (hd : d.bytes.length ≤ 4000000) (hb : b.length ≤ 4000000) (hh : h + d.bytes.length / 2 ≤ b.length) :
    PureT Try.prog 104 [kpv d seen half, .sl false (bs b), .val (.int .i64 (h : Nat))] (· = .sl false (bs ((b.drop h).take (d.bytes.length / 2)))) := by
  have hw : IntKind.i64.wrap ((h : Int) + ((d.bytes.length / 2 : Nat) : Int)) = ((h + d.bytes.length / 2 : Nat) : Int) := by rw [i64_in] <;> omega
  refine CallT.intro Try.func104 (by decide) rfl ?_
  simp -implicitDefEqProofs only [go_sem, ↓reduceIte, Nat.reduceLT, Nat.reduceEqDiff, Nat.reduceAdd, Nat.reduceSub, Nat.reduceBEq, reduceCtorEq, enterTm, Try.ntmps104, List.range'_succ, List.range'_zero, List.zip_cons_cons, List.zip_nil_left]
  refine CodeT.seqK fun K hK => CodeT.region ?_
  simp -implicitDefEqProofs only [go_sem, ↓reduceIte, Nat.reduceLT, Nat.reduceEqDiff, Nat.reduceAdd, Nat.reduceSub, Nat.reduceBEq, reduceCtorEq]
  repeat refine And.intro (by first | with_reducible rfl | assumption | omega | exact uni_bs _ | exact uni_bs [_] | exact uni_bs [_, _] | exact bs_byte _ | exact uni_bss _ | exact uni_bss [_] | exact Stable.refl _ | exact stable_last _ _ _ _ _ _ | trivial | rfl) ?_
  refine hK _ ?_; clear hK K
  refine CodeT.seqK fun K hK => CodeT.region ?_
  simp -implicitDefEqProofs only [go_sem, ↓reduceIte, Nat.reduceLT, Nat.reduceEqDiff, Nat.reduceAdd, Nat.reduceSub, Nat.reduceBEq, reduceCtorEq]
  repeat refine And.intro (by first | with_reducible rfl | assumption | omega | exact uni_bs _ | exact uni_bs [_] | exact uni_bs [_, _] | exact bs_byte _ | exact uni_bss _ | exact uni_bss [_] | exact Stable.refl _ | exact stable_last _ _ _ _ _ _ | trivial | rfl) ?_
  refine PureT.go (c66 d seen half hd) rfl fun x hx => ?_
  subst hx
  simp -implicitDefEqProofs only [go_sem, ↓reduceIte, Nat.reduceLT, Nat.reduceEqDiff, Nat.reduceAdd, Nat.reduceSub, Nat.reduceBEq, reduceCtorEq, bs_length, hw, bs_take, bs_drop]
  repeat refine And.intro (by first | with_reducible rfl | assumption | omega | exact uni_bs _ | exact uni_bs [_] | exact uni_bs [_, _] | exact bs_byte _ | exact uni_bss _ | exact uni_bss [_] | exact Stable.refl _ | exact stable_last _ _ _ _ _ _ | trivial | rfl) ?_
  refine hK _ ?_; clear hK K
  refine CodeT.ret ?_
  simp -implicitDefEqProofs only [go_sem, ↓reduceIte, Nat.reduceLT, Nat.reduceEqDiff, Nat.reduceAdd, Nat.reduceSub, Nat.reduceBEq, reduceCtorEq, Try.f104]
  refine ⟨rfl, _, rfl, ?_⟩
  rw [List.drop_take, show h + d.bytes.length / 2 - h = d.bytes.length / 2 by omega]

def usedB (d : Dsk) (seen : List UInt8) (half : Nat) : List UInt8 := (seen.drop half).take (d.bytes.length / 2)
theorem c62 (d : Dsk) (seen : List UInt8) (half : Nat) (hd : d.bytes.length ≤ 4000000) (hs : seen.length ≤ 4000000) (hh : half + d.bytes.length / 2 ≤ seen.length) :
    PureT Try.prog 62 [kpv d seen half] (· = .sl false (bs (usedB d seen half))) := by
  refine CallT.intro Try.func62 (by decide) rfl ?_
  simp -implicitDefEqProofs only [go_sem, ↓reduceIte, Nat.reduceLT, Nat.reduceEqDiff, Nat.reduceAdd, Nat.reduceSub, Nat.reduceBEq, reduceCtorEq, enterTm, Try.ntmps62, List.range'_succ, List.range'_zero, List.zip_cons_cons, List.zip_nil_left]
  refine CodeT.seqK fun K hK => CodeT.region ?_
  simp -implicitDefEqProofs only [go_sem, ↓reduceIte, Nat.reduceLT, Nat.reduceEqDiff, Nat.reduceAdd, Nat.reduceSub, Nat.reduceBEq, reduceCtorEq]
  repeat refine And.intro (by first | with_reducible rfl | assumption | omega | exact uni_bs _ | exact uni_bs [_] | exact uni_bs [_, _] | exact bs_byte _ | exact uni_bss _ | exact uni_bss [_] | exact Stable.refl _ | exact stable_last _ _ _ _ _ _ | trivial | rfl) ?_
  refine hK _ ?_; clear hK K
  refine CodeT.seqK fun K hK => CodeT.drawnL [(0, .free), (1, .free), (2, .free), (3, .free), (4, .read), (5, .free), (6, .free), (7, .free), (8, .read), (9, .free), (10, .free)] mixed (by kernel_rfl) ?_
  simp -implicitDefEqProofs only [go_sem, ↓reduceIte, Nat.reduceLT, Nat.reduceEqDiff, Nat.reduceAdd, Nat.reduceSub, Nat.reduceBEq, reduceCtorEq, kpv]
  repeat refine And.intro (by first | with_reducible rfl | omega) ?_
  refine CallF.go (c104 d seen half seen half hd hs hh) rfl ?_
  simp -implicitDefEqProofs only [go_sem, ↓reduceIte, Nat.reduceLT, Nat.reduceEqDiff, Nat.reduceAdd, Nat.reduceSub, Nat.reduceBEq, reduceCtorEq]
  repeat refine And.intro (by first | with_reducible rfl | assumption | omega | exact uni_bs _ | exact uni_bs [_] | exact uni_bs [_, _] | exact bs_byte _ | exact uni_bss _ | exact uni_bss [_] | exact Stable.refl _ | exact stable_last _ _ _ _ _ _ | trivial | rfl) ?_
  refine hK _ ?_; clear hK K
  refine CodeT.ret ?_
  simp -implicitDefEqProofs only [go_sem, ↓reduceIte, Nat.reduceLT, Nat.reduceEqDiff, Nat.reduceAdd, Nat.reduceSub, Nat.reduceBEq, reduceCtorEq, Try.f62]
  exact ⟨rfl, _, rfl, rfl⟩

theorem c78 (d : Dsk) (seen : List UInt8) (half : Nat) (hd : d.bytes.length ≤ 4000000) (hh : half ≤ 4000000) :
    PureT Try.prog 78 [kpv d seen half] (· = .val (.int .i64 (2 + ((d.bytes.length / 2 : Nat) : Int) - (half : Nat)))) := by
  have hw : IntKind.i64.wrap (2 + ((d.bytes.length / 2 : Nat) : Int)) = 2 + ((d.bytes.length / 2 : Nat) : Int) := by rw [i64_in] <;> omega
  have hw2 : IntKind.i64.wrap (2 + ((d.bytes.length / 2 : Nat) : Int) - (half : Nat)) = 2 + ((d.bytes.length / 2 : Nat) : Int) - (half : Nat) := by rw [i64_in] <;> omega
  refine CallT.intro Try.func78 (by decide) rfl ?_
  simp -implicitDefEqProofs only [go_sem, ↓reduceIte, Nat.reduceLT, Nat.reduceEqDiff, Nat.reduceAdd, Nat.reduceSub, Nat.reduceBEq, reduceCtorEq, enterTm, Try.ntmps78, List.range'_succ, List.range'_zero, List.zip_cons_cons, List.zip_nil_left]
  refine CodeT.seqK fun K hK => CodeT.region ?_
  simp -implicitDefEqProofs only [go_sem, ↓reduceIte, Nat.reduceLT, Nat.reduceEqDiff, Nat.reduceAdd, Nat.reduceSub, Nat.reduceBEq, reduceCtorEq]
  repeat refine And.intro (by first | with_reducible rfl | assumption | omega | exact uni_bs _ | exact uni_bs [_] | exact uni_bs [_, _] | exact bs_byte _ | exact uni_bss _ | exact uni_bss [_] | exact Stable.refl _ | exact stable_last _ _ _ _ _ _ | trivial | rfl) ?_
  refine hK _ ?_; clear hK K
  refine CodeT.seqK fun K hK => CodeT.drawnL [(0, .free), (1, .free), (2, .free), (3, .free), (4, .free), (5, .free), (6, .read), (7, .free), (8, .free)] mixed (by kernel_rfl) ?_
  simp -implicitDefEqProofs only [go_sem, ↓reduceIte, Nat.reduceLT, Nat.reduceEqDiff, Nat.reduceAdd, Nat.reduceSub, Nat.reduceBEq, reduceCtorEq, kpv]
  repeat refine And.intro (by first | with_reducible rfl | omega) ?_
  refine CallF.go (c66 d seen half hd) rfl ?_
  simp -implicitDefEqProofs only [go_sem, ↓reduceIte, Nat.reduceLT, Nat.reduceEqDiff, Nat.reduceAdd, Nat.reduceSub, Nat.reduceBEq, reduceCtorEq, hw, hw2]
  repeat refine And.intro (by first | with_reducible rfl | assumption | omega | exact uni_bs _ | exact uni_bs [_] | exact uni_bs [_, _] | exact bs_byte _ | exact uni_bss _ | exact uni_bss [_] | exact Stable.refl _ | exact stable_last _ _ _ _ _ _ | trivial | rfl) ?_
  refine hK _ ?_; clear hK K
  refine CodeT.ret ?_
  simp -implicitDefEqProofs only [go_sem, ↓reduceIte, Nat.reduceLT, Nat.reduceEqDiff, Nat.reduceAdd, Nat.reduceSub, Nat.reduceBEq, reduceCtorEq, Try.f78]
  exact ⟨rfl, _, rfl, rfl⟩

theorem c64 : PureT Try.prog 64 [] (· = opv ⟨true, 0, []⟩) := by
  refine CallT.laxR ?_
  refine CallT.intro Try.func64 (by decide) rfl ?_
  simp -implicitDefEqProofs only [go_sem, ↓reduceIte, Nat.reduceLT, Nat.reduceEqDiff, Nat.reduceAdd, Nat.reduceSub, Nat.reduceBEq, reduceCtorEq, enterTm, Try.ntmps64, List.range'_succ, List.range'_zero, List.zip_cons_cons, List.zip_nil_left]
  refine CodeT.seqK fun K hK => CodeT.region ?_
  simp -implicitDefEqProofs only [go_sem, ↓reduceIte, Nat.reduceLT, Nat.reduceEqDiff, Nat.reduceAdd, Nat.reduceSub, Nat.reduceBEq, reduceCtorEq]
  repeat refine And.intro (by first | with_reducible rfl | assumption | omega | exact uni_bs _ | exact uni_bs [_] | exact uni_bs [_, _] | exact bs_byte _ | exact uni_bss _ | exact uni_bss [_] | exact Stable.refl _ | exact stable_last _ _ _ _ _ _ | trivial | rfl) ?_
  refine hK _ ?_; clear hK K
  refine CodeT.seqK fun K hK => CodeT.region ?_
  simp -implicitDefEqProofs only [go_sem, ↓reduceIte, Nat.reduceLT, Nat.reduceEqDiff, Nat.reduceAdd, Nat.reduceSub, Nat.reduceBEq, reduceCtorEq]
  repeat refine And.intro (by first | with_reducible rfl | assumption | omega | exact uni_bs _ | exact uni_bs [_] | exact uni_bs [_, _] | exact bs_byte _ | exact uni_bss _ | exact uni_bss [_] | exact Stable.refl _ | exact stable_last _ _ _ _ _ _ | trivial | rfl) ?_
  refine hK _ ?_; clear hK K
  refine CodeT.ret ?_
  simp -implicitDefEqProofs only [go_sem, ↓reduceIte, Nat.reduceLT, Nat.reduceEqDiff, Nat.reduceAdd, Nat.reduceSub, Nat.reduceBEq, reduceCtorEq, Try.f64]
  refine ⟨by decide, rfl, _, rfl, rfl⟩

theorem c65 (n : Int) (b : List UInt8) : PureT Try.prog 65 [.val (.int .i64 n), .sl false (bs b)] (· = opv ⟨false, n, b⟩) := by
  refine CallT.intro Try.func65 (by decide) rfl ?_
  simp -implicitDefEqProofs only [go_sem, ↓reduceIte, Nat.reduceLT, Nat.reduceEqDiff, Nat.reduceAdd, Nat.reduceSub, Nat.reduceBEq, reduceCtorEq, enterTm, Try.ntmps65, List.range'_succ, List.range'_zero, List.zip_cons_cons, List.zip_nil_left]
  refine CodeT.seqK fun K hK => CodeT.region ?_
  simp -implicitDefEqProofs only [go_sem, ↓reduceIte, Nat.reduceLT, Nat.reduceEqDiff, Nat.reduceAdd, Nat.reduceSub, Nat.reduceBEq, reduceCtorEq]
  repeat refine And.intro (by first | with_reducible rfl | assumption | omega | exact uni_bs _ | exact uni_bs [_] | exact uni_bs [_, _] | exact bs_byte _ | exact uni_bss _ | exact uni_bss [_] | exact Stable.refl _ | exact stable_last _ _ _ _ _ _ | trivial | rfl) ?_
  refine hK _ ?_; clear hK K
  refine CodeT.seqK fun K hK => CodeT.region ?_
  simp -implicitDefEqProofs only [go_sem, ↓reduceIte, Nat.reduceLT, Nat.reduceEqDiff, Nat.reduceAdd, Nat.reduceSub, Nat.reduceBEq, reduceCtorEq]
  repeat refine And.intro (by first | with_reducible rfl | assumption | omega | exact uni_bs _ | exact uni_bs [_] | exact uni_bs [_, _] | exact bs_byte _ | exact uni_bss _ | exact uni_bss [_] | exact Stable.refl _ | exact stable_last _ _ _ _ _ _ | trivial | rfl) ?_
  refine hK _ ?_; clear hK K
  refine CodeT.ret ?_
  simp -implicitDefEqProofs only [go_sem, ↓reduceIte, Nat.reduceLT, Nat.reduceEqDiff, Nat.reduceAdd, Nat.reduceSub, Nat.reduceBEq, reduceCtorEq, Try.f65]
  refine ⟨by decide, rfl, _, rfl, rfl⟩

def sizeB (n : Nat) : Bool := decide (n % 2 = 1) && decide (64 ≤ n / 2) && decide (n / 2 ≤ 1048576)
theorem c80 (n : Nat) (hn : n ≤ 4000000) : PureT Try.prog 80 [.val (.int .i64 (n : Nat))] (· = .val (.bool (sizeB n))) := by
  have hm : ((n : Int).tmod 2 == 1) = decide (n % 2 = 1) := by
    have : (n : Int).tmod 2 = ((n % 2 : Nat) : Int) := (Int.ofNat_tmod n 2).symm
    rw [this, Bool.eq_iff_iff]; simp; omega
  have h1 : decide (((n / 2 : Nat) : Int) ≥ 64) = decide (64 ≤ n / 2) := by rw [Bool.eq_iff_iff]; simp; omega
  have h2 : decide (((n / 2 : Nat) : Int) ≤ 1048576) = decide (n / 2 ≤ 1048576) := by rw [Bool.eq_iff_iff]; simp; omega
  refine CallT.intro Try.func80 (by decide) rfl ?_
  simp -implicitDefEqProofs only [go_sem, ↓reduceIte, Nat.reduceLT, Nat.reduceEqDiff, Nat.reduceAdd, Nat.reduceSub, Nat.reduceBEq, reduceCtorEq, enterTm, Try.ntmps80, List.range'_succ, List.range'_zero, List.zip_cons_cons, List.zip_nil_left]
  refine CodeT.seqK fun K hK => CodeT.region ?_
  simp -implicitDefEqProofs only [go_sem, ↓reduceIte, Nat.reduceLT, Nat.reduceEqDiff, Nat.reduceAdd, Nat.reduceSub, Nat.reduceBEq, reduceCtorEq]
  repeat refine And.intro (by first | with_reducible rfl | assumption | omega | exact uni_bs _ | exact uni_bs [_] | exact uni_bs [_, _] | exact bs_byte _ | exact uni_bss _ | exact uni_bss [_] | exact Stable.refl _ | exact stable_last _ _ _ _ _ _ | trivial | rfl) ?_
  refine hK _ ?_; clear hK K
  cases a1 : decide (n % 2 = 1) <;> cases a2 : decide (64 ≤ n / 2) <;> cases a3 : decide (n / 2 ≤ 1048576)
  all_goals
    refine CodeT.seqK fun K hK => CodeT.region ?_
    simp -implicitDefEqProofs only [go_sem, ↓reduceIte, Nat.reduceLT, Nat.reduceEqDiff, Nat.reduceAdd, Nat.reduceSub, Nat.reduceBEq, reduceCtorEq, hm, half_len hn, h1, h2, a1, a2, a3]
    repeat refine And.intro (by first | with_reducible rfl | assumption | omega | exact uni_bs _ | exact uni_bs [_] | exact uni_bs [_, _] | exact bs_byte _ | exact uni_bss _ | exact uni_bss [_] | exact Stable.refl _ | exact stable_last _ _ _ _ _ _ | trivial | rfl) ?_
    refine hK _ ?_; clear hK K
    refine CodeT.ret ?_
    simp -implicitDefEqProofs only [go_sem, ↓reduceIte, Nat.reduceLT, Nat.reduceEqDiff, Nat.reduceAdd, Nat.reduceSub, Nat.reduceBEq, reduceCtorEq, Try.f80]
    exact ⟨rfl, _, rfl, by simp only [sizeB, a1, a2, a3]; rfl⟩
end Go.Proofs.Try

namespace Go.Proofs.Try
set_option linter.unusedSimpArgs false
open Go.PM

def fitsB (o : DOp) (n : Nat) : Bool := if o.flush = true then o.at_ == 0 && decide (o.bytes.length = 0) else decide (0 < o.bytes.length) && decide (o.at_ ≥ 0) && decide (o.at_ ≤ (n : Int)) && decide ((o.bytes.length : Int) ≤ (n : Int) - o.at_)

theorem c54 (o : DOp) (n : Nat) (hn : n ≤ 4000000) : PureT Try.prog 54 [opv o, .val (.int .i64 (n : Nat))] (· = .val (.bool (fitsB o n))) := by
  obtain ⟨fl, at_, bytes⟩ := o
  unfold opv
  refine CallT.intro Try.func54 (by decide) rfl ?_
  simp -implicitDefEqProofs only [go_sem, ↓reduceIte, Nat.reduceLT, Nat.reduceEqDiff, Nat.reduceAdd, Nat.reduceSub, Nat.reduceBEq, reduceCtorEq, enterTm, Try.ntmps54, List.range'_succ, List.range'_zero, List.zip_cons_cons, List.zip_nil_left]
  refine CodeT.seqK fun K hK => CodeT.region ?_
  simp -implicitDefEqProofs only [go_sem, ↓reduceIte, Nat.reduceLT, Nat.reduceEqDiff, Nat.reduceAdd, Nat.reduceSub, Nat.reduceBEq, reduceCtorEq]
  repeat refine And.intro (by first | with_reducible rfl | assumption | omega | exact uni_bs _ | exact uni_bs [_] | exact uni_bs [_, _] | exact bs_byte _ | exact uni_bss _ | exact uni_bss [_] | exact Stable.refl _ | exact stable_last _ _ _ _ _ _ | trivial | rfl) ?_
  refine hK _ ?_; clear hK K
  refine CodeT.seqK fun K hK => ?_
  refine CodeT.seqK fun K1 hK1 => CodeT.region ?_
  simp -implicitDefEqProofs only [go_sem, ↓reduceIte, Nat.reduceLT, Nat.reduceEqDiff, Nat.reduceAdd, Nat.reduceSub, Nat.reduceBEq, reduceCtorEq]
  repeat refine And.intro (by first | with_reducible rfl | assumption | omega | exact uni_bs _ | exact uni_bs [_] | exact uni_bs [_, _] | exact bs_byte _ | exact uni_bss _ | exact uni_bss [_] | exact Stable.refl _ | exact stable_last _ _ _ _ _ _ | trivial | rfl) ?_
  refine hK1 _ ?_; clear hK1 K1
  have hz : ((bytes.length : Int) == 0) = decide (bytes.length = 0) := by rw [Bool.eq_iff_iff]; simp
  have hp : decide ((bytes.length : Int) > 0) = decide (0 < bytes.length) := by rw [Bool.eq_iff_iff]; simp
  refine CodeT.cond rfl (fun ht => ?_) (fun hf => CodeT.skip ?_)
  · subst ht
    cases a1 : (at_ == 0)
    all_goals
      refine CodeT.seqK fun K1 hK1 => CodeT.region ?_
      simp -implicitDefEqProofs only [go_sem, ↓reduceIte, Nat.reduceLT, Nat.reduceEqDiff, Nat.reduceAdd, Nat.reduceSub, Nat.reduceBEq, reduceCtorEq, bs_length, a1, hz]
      repeat refine And.intro (by first | with_reducible rfl | assumption | omega | exact uni_bs _ | exact uni_bs [_] | exact uni_bs [_, _] | exact bs_byte _ | exact uni_bss _ | exact uni_bss [_] | exact Stable.refl _ | exact stable_last _ _ _ _ _ _ | trivial | rfl) ?_
      refine hK1 _ ?_; clear hK1 K1
      refine CodeT.ret ?_
      simp -implicitDefEqProofs only [go_sem, ↓reduceIte, Nat.reduceLT, Nat.reduceEqDiff, Nat.reduceAdd, Nat.reduceSub, Nat.reduceBEq, reduceCtorEq, Try.f54]
      exact ⟨rfl, _, rfl, by simp [fitsB, a1]⟩
  · subst hf
    simp -implicitDefEqProofs only [go_sem, ↓reduceIte, Nat.reduceLT, Nat.reduceEqDiff, Nat.reduceAdd, Nat.reduceSub, Nat.reduceBEq, reduceCtorEq]
    repeat refine And.intro (by first | with_reducible rfl | assumption | omega | exact uni_bs _ | exact uni_bs [_] | exact uni_bs [_, _] | exact bs_byte _ | exact uni_bss _ | exact uni_bss [_] | exact Stable.refl _ | exact stable_last _ _ _ _ _ _ | trivial | rfl) ?_
    refine hK _ ?_; clear hK K
    cases a1 : decide (0 < bytes.length)
    · refine CodeT.seqK fun K hK => CodeT.region ?_
      simp -implicitDefEqProofs only [go_sem, ↓reduceIte, Nat.reduceLT, Nat.reduceEqDiff, Nat.reduceAdd, Nat.reduceSub, Nat.reduceBEq, reduceCtorEq, bs_length, hp, a1]
      repeat refine And.intro (by first | with_reducible rfl | assumption | omega | exact uni_bs _ | exact uni_bs [_] | exact uni_bs [_, _] | exact bs_byte _ | exact uni_bss _ | exact uni_bss [_] | exact Stable.refl _ | exact stable_last _ _ _ _ _ _ | trivial | rfl) ?_
      refine hK _ ?_; clear hK K
      refine CodeT.ret ?_
      simp -implicitDefEqProofs only [go_sem, ↓reduceIte, Nat.reduceLT, Nat.reduceEqDiff, Nat.reduceAdd, Nat.reduceSub, Nat.reduceBEq, reduceCtorEq, Try.f54]
      exact ⟨rfl, _, rfl, by simp [fitsB, a1]⟩
    · cases a2 : decide (at_ ≥ 0)
      · refine CodeT.seqK fun K hK => CodeT.region ?_
        simp -implicitDefEqProofs only [go_sem, ↓reduceIte, Nat.reduceLT, Nat.reduceEqDiff, Nat.reduceAdd, Nat.reduceSub, Nat.reduceBEq, reduceCtorEq, bs_length, hp, a1, a2]
        repeat refine And.intro (by first | with_reducible rfl | assumption | omega | exact uni_bs _ | exact uni_bs [_] | exact uni_bs [_, _] | exact bs_byte _ | exact uni_bss _ | exact uni_bss [_] | exact Stable.refl _ | exact stable_last _ _ _ _ _ _ | trivial | rfl) ?_
        refine hK _ ?_; clear hK K
        refine CodeT.ret ?_
        simp -implicitDefEqProofs only [go_sem, ↓reduceIte, Nat.reduceLT, Nat.reduceEqDiff, Nat.reduceAdd, Nat.reduceSub, Nat.reduceBEq, reduceCtorEq, Try.f54]
        exact ⟨rfl, _, rfl, by simp [fitsB, a1, a2]⟩
      · cases a3 : decide (at_ ≤ (n : Int))
        · refine CodeT.seqK fun K hK => CodeT.region ?_
          simp -implicitDefEqProofs only [go_sem, ↓reduceIte, Nat.reduceLT, Nat.reduceEqDiff, Nat.reduceAdd, Nat.reduceSub, Nat.reduceBEq, reduceCtorEq, bs_length, hp, a1, a2, a3]
          repeat refine And.intro (by first | with_reducible rfl | assumption | omega | exact uni_bs _ | exact uni_bs [_] | exact uni_bs [_, _] | exact bs_byte _ | exact uni_bss _ | exact uni_bss [_] | exact Stable.refl _ | exact stable_last _ _ _ _ _ _ | trivial | rfl) ?_
          refine hK _ ?_; clear hK K
          refine CodeT.ret ?_
          simp -implicitDefEqProofs only [go_sem, ↓reduceIte, Nat.reduceLT, Nat.reduceEqDiff, Nat.reduceAdd, Nat.reduceSub, Nat.reduceBEq, reduceCtorEq, Try.f54]
          exact ⟨rfl, _, rfl, by simp [fitsB, a1, a2, a3]⟩
        · have hw : IntKind.i64.wrap ((n : Int) - at_) = (n : Int) - at_ := by
            simp at a2 a3
            rw [i64_in] <;> omega
          refine CodeT.seqK fun K hK => CodeT.region ?_
          simp -implicitDefEqProofs only [go_sem, ↓reduceIte, Nat.reduceLT, Nat.reduceEqDiff, Nat.reduceAdd, Nat.reduceSub, Nat.reduceBEq, reduceCtorEq, bs_length, hp, a1, a2, a3, hw]
          repeat refine And.intro (by first | with_reducible rfl | assumption | omega | exact uni_bs _ | exact uni_bs [_] | exact uni_bs [_, _] | exact bs_byte _ | exact uni_bss _ | exact uni_bss [_] | exact Stable.refl _ | exact stable_last _ _ _ _ _ _ | trivial | rfl) ?_
          refine hK _ ?_; clear hK K
          refine CodeT.ret ?_
          simp -implicitDefEqProofs only [go_sem, ↓reduceIte, Nat.reduceLT, Nat.reduceEqDiff, Nat.reduceAdd, Nat.reduceSub, Nat.reduceBEq, reduceCtorEq, Try.f54]
          exact ⟨rfl, _, rfl, by simp only [fitsB, Bool.false_eq_true, if_false, a1, a2, a3, Bool.true_and]⟩
end Go.Proofs.Try
