/-
  This seat's code reads no package variable.
-/
import Derived.Test.YtnmghpieidlpbaaV3
import Derived.IntWalk
import Derived.KernelRfl
import Derived.Test.YtnmghpieidlpbaaProg
set_option linter.unusedVariables false
set_option linter.unusedSimpArgs false
set_option linter.unusedSectionVars false
namespace Go.PM
instance instGlobals : Globals := ⟨fun _ => none⟩
end Go.PM

namespace Go.PM

/-- A byte. -/
abbrev b8 (b : UInt8) : AV := .val (.int .u8 b.toNat)
def bs (l : List UInt8) : List AV := l.map b8

theorem bs_length (l : List UInt8) : (bs l).length = l.length := by simp [bs]
theorem bs_nil : bs [] = [] := rfl
theorem bs_cons (x : UInt8) (l : List UInt8) : bs (x :: l) = b8 x :: bs l := rfl
theorem bs_append (l l' : List UInt8) : bs l ++ bs l' = bs (l ++ l') := by simp [bs]
theorem bs_take (l : List UInt8) (n : Nat) : (bs l).take n = bs (l.take n) := by simp [bs]
theorem bs_drop (l : List UInt8) (n : Nat) : (bs l).drop n = bs (l.drop n) := by simp [bs]
theorem bs_set (l : List UInt8) (n : Nat) (x : UInt8) : (bs l).set n (b8 x) = bs (l.set n x) := by simp [bs, List.map_set]
theorem bs_getD {l : List UInt8} {i : Nat} (h : i < l.length) : (bs l).getD i .dead = b8 (l.getD i 0) := by
  simp [bs, List.getD_eq_getElem?_getD, h]
theorem bs_snoc (l : List UInt8) (x : UInt8) : bs l ++ [.val (.int .u8 x.toNat)] = bs (l ++ [x]) := by simp [bs]
theorem bs_snoc2 (l : List UInt8) (x y : UInt8) : bs l ++ [.val (.int .u8 x.toNat), .val (.int .u8 y.toNat)] = bs (l ++ [x, y]) := by simp [bs]
theorem bs_one (x : UInt8) : [AV.val (.int .u8 x.toNat)] = bs [x] := rfl
theorem bs_replicate (n : Nat) (x : UInt8) : List.replicate n (b8 x) = bs (List.replicate n x) := by simp [bs]
theorem uni_bs (l : List UInt8) : Uni 1 (bs l) := by
  intro e he
  obtain ⟨x, _, rfl⟩ := List.mem_map.1 he
  rfl
theorem bs_byte (l : List UInt8) : ∀ c : AV, c ∈ bs l → isByte c = true := by
  intro e he
  obtain ⟨x, _, rfl⟩ := List.mem_map.1 he
  rfl
theorem b8_cells (x : UInt8) : (b8 x).cells = [b8 x] := rfl
theorem b8_pure (x : UInt8) : (b8 x).pure0 = true := rfl
theorem underL_bs (n : Nat) (l : List UInt8) : underL n (bs l) = true := by
  induction l with
  | nil => rfl
  | cons x l ih => simp [bs_cons, underL, ih, b8, AV.under]
def strB (l : List UInt8) : ByteArray := ⟨l.toArray⟩
theorem byteVal_b8 (x : UInt8) : byteVal (b8 x) = x := by
  show UInt8.ofNat (Int.toNat (x.toNat : Int)) = x
  simp
theorem strOf_bs (l : List UInt8) : strOf (bs l) = strB l := by
  unfold strOf strB bs
  congr 1
  rw [List.map_map]
  have : byteVal ∘ b8 = id := by funext x; exact byteVal_b8 x
  rw [this, List.map_id]
theorem strB_beq (l l' : List UInt8) : (strB l == strB l') = (l == l') := by
  show (l.toArray == l'.toArray) = (l == l')
  rw [Bool.eq_iff_iff, beq_iff_eq, beq_iff_eq]
  exact ⟨fun e => by simpa using e, fun e => by rw [e]⟩

/-! ### Lists of lists of bytes -/
def bss (l : List (List UInt8)) : List AV := l.map fun p => .sl false (bs p)
theorem bss_length (l : List (List UInt8)) : (bss l).length = l.length := by simp [bss]
theorem bss_snoc (l : List (List UInt8)) (p : List UInt8) : bss l ++ [.sl false (bs p)] = bss (l ++ [p]) := by simp [bss]
theorem bss_getD {l : List (List UInt8)} {i : Nat} (h : i < l.length) : (bss l).getD i .dead = .sl false (bs (l.getD i [])) := by
  simp [bss, List.getD_eq_getElem?_getD, h]
theorem bss_take (l : List (List UInt8)) (n : Nat) : (bss l).take n = bss (l.take n) := by simp [bss]
theorem bss_drop (l : List (List UInt8)) (n : Nat) : (bss l).drop n = bss (l.drop n) := by simp [bss]
theorem uni_bss (l : List (List UInt8)) : Uni 1 (bss l) := by
  intro e he
  obtain ⟨x, _, rfl⟩ := List.mem_map.1 he
  rfl

/-! ### Fewer boxes, more boxes -/
mutual
theorem av_under_mono {n m : Nat} (h : n ≤ m) : ∀ (x : AV), x.under n = true → x.under m = true
  | .dead, _ => rfl
  | .val _, _ => rfl
  | .sl _ _, _ => rfl
  | .cptr _, _ => rfl
  | .hsl _ _ _ _, hu => by simp only [AV.under, decide_eq_true_eq] at hu ⊢; omega
  | .ptr _ _, hu => by simp only [AV.under, decide_eq_true_eq] at hu ⊢; omega
  | .eptr _ _ _ _, hu => by simp only [AV.under, decide_eq_true_eq] at hu ⊢; omega
  | .yld _, hu => by simp only [AV.under, decide_eq_true_eq] at hu ⊢; omega
  | .mp _, hu => by simp only [AV.under, decide_eq_true_eq] at hu ⊢; omega
  | .fn _ caps, hu => avL_under_mono h caps hu
  | .iface _ x, hu => av_under_mono h x hu
  | .agg cs, hu => avL_under_mono h cs hu
  | .tup cs, hu => avL_under_mono h cs hu
  | .bnd _ cs, hu => avL_under_mono h cs hu
  | .cmp _, _ => rfl
theorem avL_under_mono {n m : Nat} (h : n ≤ m) : ∀ (l : List AV), underL n l = true → underL m l = true
  | [], _ => rfl
  | x :: xs, hu => by
    simp only [underL, Bool.and_eq_true] at hu ⊢
    exact ⟨av_under_mono h x hu.1, avL_under_mono h xs hu.2⟩
end
theorem under_mono {n m : Nat} {b : Box} (h : n ≤ m) (hu : b.under n = true) : b.under m = true := by
  cases b with
  | cells cs => exact avL_under_mono h cs hu
  | loop fn t ps asg bd st pend =>
    simp only [Box.under, underT, List.all_eq_true] at hu ⊢
    exact fun p hp => av_under_mono h p.2 (hu p hp)
  | map kvs bs c =>
    simp only [Box.under, List.all_eq_true] at hu ⊢
    exact fun p hp => av_under_mono h p.2 (hu p hp)
  | iter mid since seen step =>
    simp only [Box.under, decide_eq_true_eq] at hu ⊢
    omega
  | _ => rfl

/-! ### Boxes at the end -/
theorem push_set (l : List Box) (x y : Box) : (l ++ [x]).set l.length y = l ++ [y] := by simp
theorem push_get' (l : List Box) (x : Box) : (l ++ [x])[l.length]? = some x := by simp
theorem get_pre {l : List Box} {i : Nat} {b : Box} (h : l[i]? = some b) (l' : List Box) : (l ++ l')[i]? = some b := by
  have := (List.getElem?_eq_some_iff.1 h).1
  rw [List.getElem?_append_left this]; exact h

/-! ### Arithmetic of bytes -/
theorem u8w (n : Int) : IntKind.u8.wrap n = n % 256 := IntKind.wrap_u8 n
theorem u8_add (a b : UInt8) : IntKind.u8.wrap ((a.toNat : Int) + b.toNat) = ((a + b).toNat : Int) := by rw [u8w, UInt8.toNat_add]; omega
theorem u8_sub (a b : UInt8) : IntKind.u8.wrap ((a.toNat : Int) - b.toNat) = ((a - b).toNat : Int) := by
  have := b.toNat_lt
  have := a.toNat_lt
  rw [u8w, UInt8.toNat_sub]; omega
theorem u8_mul (a b : UInt8) : IntKind.u8.wrap ((a.toNat : Int) * b.toNat) = ((a * b).toNat : Int) := by rw [u8w, UInt8.toNat_mul]; omega
theorem u8_quo (a b : UInt8) : IntKind.u8.wrap ((a.toNat : Int).tdiv b.toNat) = ((a / b).toNat : Int) := by
  have h := (a / b).toNat_lt
  rw [u8w, ← Int.ofNat_tdiv, ← UInt8.toNat_div]
  omega
theorem u8_rem (a b : UInt8) : (a.toNat : Int).tmod b.toNat = ((a % b).toNat : Int) := by
  rw [← Int.ofNat_tmod, ← UInt8.toNat_mod]
theorem u8_16 : (16 : Int) = ((16 : UInt8).toNat : Int) := rfl
theorem u8_32 : (32 : Int) = ((32 : UInt8).toNat : Int) := rfl
theorem u8_255 : (255 : Int) = ((255 : UInt8).toNat : Int) := rfl
theorem u8_0 : (0 : Int) = ((0 : UInt8).toNat : Int) := rfl
theorem u8_1 : (1 : Int) = ((1 : UInt8).toNat : Int) := rfl
theorem u8_eq (a b : UInt8) : ((a.toNat : Int) == b.toNat) = (a == b) := by
  rw [Bool.eq_iff_iff]
  simp only [beq_iff_eq]
  exact ⟨fun h => UInt8.toNat_inj.1 (by omega), fun h => by rw [h]⟩
theorem u8_ne (a b : UInt8) : ((a.toNat : Int) != b.toNat) = (a != b) := by simp only [bne, u8_eq]
theorem u8_lt (a b : UInt8) : decide ((a.toNat : Int) < b.toNat) = decide (a < b) := by
  rw [Bool.eq_iff_iff]
  simp [UInt8.lt_iff_toNat_lt]
theorem u8_ge (a b : UInt8) : decide ((a.toNat : Int) ≥ b.toNat) = decide (b ≤ a) := by
  rw [Bool.eq_iff_iff]
  simp [UInt8.le_iff_toNat_le]

theorem stable_last (l : List Box) (mt : Bool) (v z : Nat) (es : List AV) (b : Box) : Stable (l ++ [.row mt v z es]) (l ++ [b]) := by
  have := Stable.setRow (push_get' l (.row mt v z es)) b
  rwa [push_set] at this
theorem joined (x y : UInt8) : IntKind.u8.wrap (IntKind.u8.wrap (IntKind.u8.wrap (16 * IntKind.u8.wrap ((x.toNat : Int) - 16)) + (y.toNat : Int)) - 16) = ((16 * (x - 16) + y - 16 : UInt8).toNat : Int) := by
  rw [u8_16, u8_sub, u8_mul, u8_add, u8_sub]

theorem i64_in {n : Int} (h1 : -9223372036854775808 ≤ n) (h2 : n ≤ 9223372036854775807) : IntKind.i64.wrap n = n := IntWalk.i64_in n ⟨h1, h2⟩

end Go.PM

namespace Go.Proofs.Try
set_option linter.unusedSimpArgs false
open Go.PM
theorem ty0 : tyOf Try.prog 0 = some ⟨1, 0, (Value.tuple #[]), (TypeDesc.tuple #[])⟩ := by kernel_rfl
theorem ty1 : tyOf Try.prog 1 = some ⟨1, 8, Value.nilFunc, (TypeDesc.func #[] #[] false)⟩ := by kernel_rfl
theorem zo1 : zeroOf ⟨1, 8, Value.nilFunc, (TypeDesc.func #[] #[] false)⟩ = .val Value.nilFunc := by simp [zeroOf, ofVal, ofVal0, plain, AV.single]
theorem zk1 : zeroOK ⟨1, 8, Value.nilFunc, (TypeDesc.func #[] #[] false)⟩ = true := by simp [zeroOK, zo1, allOne, AV.cells, AV.single]
theorem ty2 : tyOf Try.prog 2 = some ⟨1, 8, (Value.int IntKind.i64 0), (TypeDesc.int IntKind.i64)⟩ := by kernel_rfl
theorem zo2 : zeroOf ⟨1, 8, (Value.int IntKind.i64 0), (TypeDesc.int IntKind.i64)⟩ = .val (Value.int IntKind.i64 0) := by simp [zeroOf, ofVal, ofVal0, plain, AV.single]
theorem zk2 : zeroOK ⟨1, 8, (Value.int IntKind.i64 0), (TypeDesc.int IntKind.i64)⟩ = true := by simp [zeroOK, zo2, allOne, AV.cells, AV.single]
theorem ty3 : tyOf Try.prog 3 = some ⟨1, 8, (Value.int IntKind.i64 0), (TypeDesc.int IntKind.i64)⟩ := by kernel_rfl
theorem zo3 : zeroOf ⟨1, 8, (Value.int IntKind.i64 0), (TypeDesc.int IntKind.i64)⟩ = .val (Value.int IntKind.i64 0) := by simp [zeroOf, ofVal, ofVal0, plain, AV.single]
theorem zk3 : zeroOK ⟨1, 8, (Value.int IntKind.i64 0), (TypeDesc.int IntKind.i64)⟩ = true := by simp [zeroOK, zo3, allOne, AV.cells, AV.single]
theorem ty4 : tyOf Try.prog 4 = some ⟨1, 1, (Value.bool false), TypeDesc.bool⟩ := by kernel_rfl
theorem zo4 : zeroOf ⟨1, 1, (Value.bool false), TypeDesc.bool⟩ = .val (Value.bool false) := by simp [zeroOf, ofVal, ofVal0, plain, AV.single]
theorem zk4 : zeroOK ⟨1, 1, (Value.bool false), TypeDesc.bool⟩ = true := by simp [zeroOK, zo4, allOne, AV.cells, AV.single]
theorem ty5 : tyOf Try.prog 5 = some ⟨1, 1, (Value.int IntKind.u8 0), (TypeDesc.int IntKind.u8)⟩ := by kernel_rfl
theorem zo5 : zeroOf ⟨1, 1, (Value.int IntKind.u8 0), (TypeDesc.int IntKind.u8)⟩ = .val (Value.int IntKind.u8 0) := by simp [zeroOf, ofVal, ofVal0, plain, AV.single]
theorem zk5 : zeroOK ⟨1, 1, (Value.int IntKind.u8 0), (TypeDesc.int IntKind.u8)⟩ = true := by simp [zeroOK, zo5, allOne, AV.cells, AV.single]
theorem ty6 : tyOf Try.prog 6 = some ⟨1, 1, (Value.int IntKind.u8 0), (TypeDesc.int IntKind.u8)⟩ := by kernel_rfl
theorem zo6 : zeroOf ⟨1, 1, (Value.int IntKind.u8 0), (TypeDesc.int IntKind.u8)⟩ = .val (Value.int IntKind.u8 0) := by simp [zeroOf, ofVal, ofVal0, plain, AV.single]
theorem zk6 : zeroOK ⟨1, 1, (Value.int IntKind.u8 0), (TypeDesc.int IntKind.u8)⟩ = true := by simp [zeroOK, zo6, allOne, AV.cells, AV.single]
theorem ty7 : tyOf Try.prog 7 = some ⟨4, 24, (Value.agg #[(Value.int IntKind.i64 0), (Value.int IntKind.i64 0), (Value.bool false), (Value.int IntKind.u8 0)]), (TypeDesc.struct #[{ name := "x", type := 2, offset := 0, embedded := false, tag := "", pkgPath := "runtime", byteOffset := 0 }, { name := "y", type := 3, offset := 1, embedded := false, tag := "", pkgPath := "runtime", byteOffset := 8 }, { name := "signed", type := 4, offset := 2, embedded := false, tag := "", pkgPath := "runtime", byteOffset := 16 }, { name := "code", type := 6, offset := 3, embedded := false, tag := "", pkgPath := "runtime", byteOffset := 17 }])⟩ := by kernel_rfl
theorem zo7 : zeroOf ⟨4, 24, (Value.agg #[(Value.int IntKind.i64 0), (Value.int IntKind.i64 0), (Value.bool false), (Value.int IntKind.u8 0)]), (TypeDesc.struct #[{ name := "x", type := 2, offset := 0, embedded := false, tag := "", pkgPath := "runtime", byteOffset := 0 }, { name := "y", type := 3, offset := 1, embedded := false, tag := "", pkgPath := "runtime", byteOffset := 8 }, { name := "signed", type := 4, offset := 2, embedded := false, tag := "", pkgPath := "runtime", byteOffset := 16 }, { name := "code", type := 6, offset := 3, embedded := false, tag := "", pkgPath := "runtime", byteOffset := 17 }])⟩ = .agg [.val (Value.int IntKind.i64 0), .val (Value.int IntKind.i64 0), .val (Value.bool false), .val (Value.int IntKind.u8 0)] := by simp [zeroOf, ofVal, ofVal0, plain, AV.single]
theorem zk7 : zeroOK ⟨4, 24, (Value.agg #[(Value.int IntKind.i64 0), (Value.int IntKind.i64 0), (Value.bool false), (Value.int IntKind.u8 0)]), (TypeDesc.struct #[{ name := "x", type := 2, offset := 0, embedded := false, tag := "", pkgPath := "runtime", byteOffset := 0 }, { name := "y", type := 3, offset := 1, embedded := false, tag := "", pkgPath := "runtime", byteOffset := 8 }, { name := "signed", type := 4, offset := 2, embedded := false, tag := "", pkgPath := "runtime", byteOffset := 16 }, { name := "code", type := 6, offset := 3, embedded := false, tag := "", pkgPath := "runtime", byteOffset := 17 }])⟩ = true := by simp [zeroOK, zo7, allOne, AV.cells, AV.single]
theorem fl7_0 : fldOf Try.prog 7 0 = some (0, ⟨1, 8, (Value.int IntKind.i64 0), (TypeDesc.int IntKind.i64)⟩) := by kernel_rfl
theorem fl7_1 : fldOf Try.prog 7 1 = some (1, ⟨1, 8, (Value.int IntKind.i64 0), (TypeDesc.int IntKind.i64)⟩) := by kernel_rfl
theorem fl7_2 : fldOf Try.prog 7 2 = some (2, ⟨1, 1, (Value.bool false), TypeDesc.bool⟩) := by kernel_rfl
theorem fl7_3 : fldOf Try.prog 7 3 = some (3, ⟨1, 1, (Value.int IntKind.u8 0), (TypeDesc.int IntKind.u8)⟩) := by kernel_rfl
theorem bu7 (ps : List (Nat × AV)) (K : AV → Prop) : buildA Try.prog 7 ps K = (zeroOK ⟨4, 24, (Value.agg #[(Value.int IntKind.i64 0), (Value.int IntKind.i64 0), (Value.bool false), (Value.int IntKind.u8 0)]), (TypeDesc.struct #[{ name := "x", type := 2, offset := 0, embedded := false, tag := "", pkgPath := "runtime", byteOffset := 0 }, { name := "y", type := 3, offset := 1, embedded := false, tag := "", pkgPath := "runtime", byteOffset := 8 }, { name := "signed", type := 4, offset := 2, embedded := false, tag := "", pkgPath := "runtime", byteOffset := 16 }, { name := "code", type := 6, offset := 3, embedded := false, tag := "", pkgPath := "runtime", byteOffset := 17 }])⟩ = true ∧ Ty.isAgg ⟨4, 24, (Value.agg #[(Value.int IntKind.i64 0), (Value.int IntKind.i64 0), (Value.bool false), (Value.int IntKind.u8 0)]), (TypeDesc.struct #[{ name := "x", type := 2, offset := 0, embedded := false, tag := "", pkgPath := "runtime", byteOffset := 0 }, { name := "y", type := 3, offset := 1, embedded := false, tag := "", pkgPath := "runtime", byteOffset := 8 }, { name := "signed", type := 4, offset := 2, embedded := false, tag := "", pkgPath := "runtime", byteOffset := 16 }, { name := "code", type := 6, offset := 3, embedded := false, tag := "", pkgPath := "runtime", byteOffset := 17 }])⟩ = true ∧ fieldsKnown Try.prog 7 = true ∧ fillF Try.prog 7 (zeroOf ⟨4, 24, (Value.agg #[(Value.int IntKind.i64 0), (Value.int IntKind.i64 0), (Value.bool false), (Value.int IntKind.u8 0)]), (TypeDesc.struct #[{ name := "x", type := 2, offset := 0, embedded := false, tag := "", pkgPath := "runtime", byteOffset := 0 }, { name := "y", type := 3, offset := 1, embedded := false, tag := "", pkgPath := "runtime", byteOffset := 8 }, { name := "signed", type := 4, offset := 2, embedded := false, tag := "", pkgPath := "runtime", byteOffset := 16 }, { name := "code", type := 6, offset := 3, embedded := false, tag := "", pkgPath := "runtime", byteOffset := 17 }])⟩).cells ps (fun cs => K (.agg cs))) := buildA_struct Try.underlying7 ty7 ps K
theorem fk7 : fieldsKnown Try.prog 7 = true := by kernel_rfl
theorem ty9 : tyOf Try.prog 9 = some ⟨1, 16, (Value.string { data := #[] }), TypeDesc.string⟩ := by kernel_rfl
theorem zo9 : zeroOf ⟨1, 16, (Value.string { data := #[] }), TypeDesc.string⟩ = .val (Value.string { data := #[] }) := by simp [zeroOf, ofVal, ofVal0, plain, AV.single]
theorem zk9 : zeroOK ⟨1, 16, (Value.string { data := #[] }), TypeDesc.string⟩ = true := by simp [zeroOK, zo9, allOne, AV.cells, AV.single]
theorem ty20 : tyOf Try.prog 20 = some ⟨1, 16, Value.nilIface, (TypeDesc.interface #[])⟩ := by kernel_rfl
theorem zo20 : zeroOf ⟨1, 16, Value.nilIface, (TypeDesc.interface #[])⟩ = .val Value.nilIface := by simp [zeroOf, ofVal, ofVal0, plain, AV.single]
theorem zk20 : zeroOK ⟨1, 16, Value.nilIface, (TypeDesc.interface #[])⟩ = true := by simp [zeroOK, zo20, allOne, AV.cells, AV.single]
theorem ty22 : tyOf Try.prog 22 = some ⟨1, 24, (Value.slice none 0 0), (TypeDesc.slice 5)⟩ := by kernel_rfl
theorem zo22 : zeroOf ⟨1, 24, (Value.slice none 0 0), (TypeDesc.slice 5)⟩ = .sl true [] := by simp [zeroOf, ofVal, ofVal0, plain, AV.single]
theorem zk22 : zeroOK ⟨1, 24, (Value.slice none 0 0), (TypeDesc.slice 5)⟩ = true := by simp [zeroOK, zo22, allOne, AV.cells, AV.single]
theorem el22 : elemOfSlice Try.prog 22 = some (5, ⟨1, 1, (Value.int IntKind.u8 0), (TypeDesc.int IntKind.u8)⟩) := by kernel_rfl
theorem ty25 : tyOf Try.prog 25 = some ⟨1, 24, (Value.slice none 0 0), (TypeDesc.slice 22)⟩ := by kernel_rfl
theorem zo25 : zeroOf ⟨1, 24, (Value.slice none 0 0), (TypeDesc.slice 22)⟩ = .sl true [] := by simp [zeroOf, ofVal, ofVal0, plain, AV.single]
theorem zk25 : zeroOK ⟨1, 24, (Value.slice none 0 0), (TypeDesc.slice 22)⟩ = true := by simp [zeroOK, zo25, allOne, AV.cells, AV.single]
theorem el25 : elemOfSlice Try.prog 25 = some (22, ⟨1, 24, (Value.slice none 0 0), (TypeDesc.slice 5)⟩) := by kernel_rfl
theorem ty26 : tyOf Try.prog 26 = some ⟨1, 0, (Value.tuple #[(Value.slice none 0 0), (Value.int IntKind.i64 0)]), (TypeDesc.tuple #[25, 3])⟩ := by kernel_rfl
theorem ty29 : tyOf Try.prog 29 = some ⟨1, 24, (Value.slice none 0 0), (TypeDesc.slice 39)⟩ := by kernel_rfl
theorem zo29 : zeroOf ⟨1, 24, (Value.slice none 0 0), (TypeDesc.slice 39)⟩ = .sl true [] := by simp [zeroOf, ofVal, ofVal0, plain, AV.single]
theorem zk29 : zeroOK ⟨1, 24, (Value.slice none 0 0), (TypeDesc.slice 39)⟩ = true := by simp [zeroOK, zo29, allOne, AV.cells, AV.single]
theorem el29 : elemOfSlice Try.prog 29 = some (39, ⟨3, 40, (Value.agg #[(Value.bool false), (Value.int IntKind.i64 0), (Value.slice none 0 0)]), (TypeDesc.struct #[{ name := "Flush", type := 4, offset := 0, embedded := false, tag := "", pkgPath := "", byteOffset := 0 }, { name := "At", type := 3, offset := 1, embedded := false, tag := "", pkgPath := "", byteOffset := 8 }, { name := "Bytes", type := 22, offset := 2, embedded := false, tag := "", pkgPath := "", byteOffset := 16 }])⟩) := by kernel_rfl
theorem ty31 : tyOf Try.prog 31 = some ⟨2, 48, (Value.agg #[(Value.slice none 0 0), (Value.slice none 0 0)]), (TypeDesc.struct #[{ name := "Bytes", type := 22, offset := 0, embedded := false, tag := "", pkgPath := "", byteOffset := 0 }, { name := "Queue", type := 29, offset := 1, embedded := false, tag := "", pkgPath := "", byteOffset := 24 }])⟩ := by kernel_rfl
theorem zo31 : zeroOf ⟨2, 48, (Value.agg #[(Value.slice none 0 0), (Value.slice none 0 0)]), (TypeDesc.struct #[{ name := "Bytes", type := 22, offset := 0, embedded := false, tag := "", pkgPath := "", byteOffset := 0 }, { name := "Queue", type := 29, offset := 1, embedded := false, tag := "", pkgPath := "", byteOffset := 24 }])⟩ = .agg [.sl true [], .sl true []] := by simp [zeroOf, ofVal, ofVal0, plain, AV.single]
theorem zk31 : zeroOK ⟨2, 48, (Value.agg #[(Value.slice none 0 0), (Value.slice none 0 0)]), (TypeDesc.struct #[{ name := "Bytes", type := 22, offset := 0, embedded := false, tag := "", pkgPath := "", byteOffset := 0 }, { name := "Queue", type := 29, offset := 1, embedded := false, tag := "", pkgPath := "", byteOffset := 24 }])⟩ = true := by simp [zeroOK, zo31, allOne, AV.cells, AV.single]
theorem fl31_0 : fldOf Try.prog 31 0 = some (0, ⟨1, 24, (Value.slice none 0 0), (TypeDesc.slice 5)⟩) := by kernel_rfl
theorem fl31_1 : fldOf Try.prog 31 1 = some (1, ⟨1, 24, (Value.slice none 0 0), (TypeDesc.slice 39)⟩) := by kernel_rfl
theorem bu31 (ps : List (Nat × AV)) (K : AV → Prop) : buildA Try.prog 31 ps K = (zeroOK ⟨2, 48, (Value.agg #[(Value.slice none 0 0), (Value.slice none 0 0)]), (TypeDesc.struct #[{ name := "Bytes", type := 22, offset := 0, embedded := false, tag := "", pkgPath := "", byteOffset := 0 }, { name := "Queue", type := 29, offset := 1, embedded := false, tag := "", pkgPath := "", byteOffset := 24 }])⟩ = true ∧ Ty.isAgg ⟨2, 48, (Value.agg #[(Value.slice none 0 0), (Value.slice none 0 0)]), (TypeDesc.struct #[{ name := "Bytes", type := 22, offset := 0, embedded := false, tag := "", pkgPath := "", byteOffset := 0 }, { name := "Queue", type := 29, offset := 1, embedded := false, tag := "", pkgPath := "", byteOffset := 24 }])⟩ = true ∧ fieldsKnown Try.prog 31 = true ∧ fillF Try.prog 31 (zeroOf ⟨2, 48, (Value.agg #[(Value.slice none 0 0), (Value.slice none 0 0)]), (TypeDesc.struct #[{ name := "Bytes", type := 22, offset := 0, embedded := false, tag := "", pkgPath := "", byteOffset := 0 }, { name := "Queue", type := 29, offset := 1, embedded := false, tag := "", pkgPath := "", byteOffset := 24 }])⟩).cells ps (fun cs => K (.agg cs))) := buildA_struct Try.underlying31 ty31 ps K
theorem fk31 : fieldsKnown Try.prog 31 = true := by kernel_rfl
theorem ty32 : tyOf Try.prog 32 = some ⟨1, 24, (Value.slice none 0 0), (TypeDesc.slice 3)⟩ := by kernel_rfl
theorem zo32 : zeroOf ⟨1, 24, (Value.slice none 0 0), (TypeDesc.slice 3)⟩ = .sl true [] := by simp [zeroOf, ofVal, ofVal0, plain, AV.single]
theorem zk32 : zeroOK ⟨1, 24, (Value.slice none 0 0), (TypeDesc.slice 3)⟩ = true := by simp [zeroOK, zo32, allOne, AV.cells, AV.single]
theorem el32 : elemOfSlice Try.prog 32 = some (3, ⟨1, 8, (Value.int IntKind.i64 0), (TypeDesc.int IntKind.i64)⟩) := by kernel_rfl
theorem ty35 : tyOf Try.prog 35 = some ⟨1, 8, (Value.int IntKind.i64 0), (TypeDesc.int IntKind.i64)⟩ := by kernel_rfl
theorem zo35 : zeroOf ⟨1, 8, (Value.int IntKind.i64 0), (TypeDesc.int IntKind.i64)⟩ = .val (Value.int IntKind.i64 0) := by simp [zeroOf, ofVal, ofVal0, plain, AV.single]
theorem zk35 : zeroOK ⟨1, 8, (Value.int IntKind.i64 0), (TypeDesc.int IntKind.i64)⟩ = true := by simp [zeroOK, zo35, allOne, AV.cells, AV.single]
theorem ty36 : tyOf Try.prog 36 = some ⟨1, 0, (Value.tuple #[(Value.agg #[(Value.slice none 0 0), (Value.slice none 0 0)]), (Value.int IntKind.i64 0)]), (TypeDesc.tuple #[31, 35])⟩ := by kernel_rfl
theorem ty39 : tyOf Try.prog 39 = some ⟨3, 40, (Value.agg #[(Value.bool false), (Value.int IntKind.i64 0), (Value.slice none 0 0)]), (TypeDesc.struct #[{ name := "Flush", type := 4, offset := 0, embedded := false, tag := "", pkgPath := "", byteOffset := 0 }, { name := "At", type := 3, offset := 1, embedded := false, tag := "", pkgPath := "", byteOffset := 8 }, { name := "Bytes", type := 22, offset := 2, embedded := false, tag := "", pkgPath := "", byteOffset := 16 }])⟩ := by kernel_rfl
theorem zo39 : zeroOf ⟨3, 40, (Value.agg #[(Value.bool false), (Value.int IntKind.i64 0), (Value.slice none 0 0)]), (TypeDesc.struct #[{ name := "Flush", type := 4, offset := 0, embedded := false, tag := "", pkgPath := "", byteOffset := 0 }, { name := "At", type := 3, offset := 1, embedded := false, tag := "", pkgPath := "", byteOffset := 8 }, { name := "Bytes", type := 22, offset := 2, embedded := false, tag := "", pkgPath := "", byteOffset := 16 }])⟩ = .agg [.val (Value.bool false), .val (Value.int IntKind.i64 0), .sl true []] := by simp [zeroOf, ofVal, ofVal0, plain, AV.single]
theorem zk39 : zeroOK ⟨3, 40, (Value.agg #[(Value.bool false), (Value.int IntKind.i64 0), (Value.slice none 0 0)]), (TypeDesc.struct #[{ name := "Flush", type := 4, offset := 0, embedded := false, tag := "", pkgPath := "", byteOffset := 0 }, { name := "At", type := 3, offset := 1, embedded := false, tag := "", pkgPath := "", byteOffset := 8 }, { name := "Bytes", type := 22, offset := 2, embedded := false, tag := "", pkgPath := "", byteOffset := 16 }])⟩ = true := by simp [zeroOK, zo39, allOne, AV.cells, AV.single]
theorem fl39_0 : fldOf Try.prog 39 0 = some (0, ⟨1, 1, (Value.bool false), TypeDesc.bool⟩) := by kernel_rfl
theorem fl39_1 : fldOf Try.prog 39 1 = some (1, ⟨1, 8, (Value.int IntKind.i64 0), (TypeDesc.int IntKind.i64)⟩) := by kernel_rfl
theorem fl39_2 : fldOf Try.prog 39 2 = some (2, ⟨1, 24, (Value.slice none 0 0), (TypeDesc.slice 5)⟩) := by kernel_rfl
theorem bu39 (ps : List (Nat × AV)) (K : AV → Prop) : buildA Try.prog 39 ps K = (zeroOK ⟨3, 40, (Value.agg #[(Value.bool false), (Value.int IntKind.i64 0), (Value.slice none 0 0)]), (TypeDesc.struct #[{ name := "Flush", type := 4, offset := 0, embedded := false, tag := "", pkgPath := "", byteOffset := 0 }, { name := "At", type := 3, offset := 1, embedded := false, tag := "", pkgPath := "", byteOffset := 8 }, { name := "Bytes", type := 22, offset := 2, embedded := false, tag := "", pkgPath := "", byteOffset := 16 }])⟩ = true ∧ Ty.isAgg ⟨3, 40, (Value.agg #[(Value.bool false), (Value.int IntKind.i64 0), (Value.slice none 0 0)]), (TypeDesc.struct #[{ name := "Flush", type := 4, offset := 0, embedded := false, tag := "", pkgPath := "", byteOffset := 0 }, { name := "At", type := 3, offset := 1, embedded := false, tag := "", pkgPath := "", byteOffset := 8 }, { name := "Bytes", type := 22, offset := 2, embedded := false, tag := "", pkgPath := "", byteOffset := 16 }])⟩ = true ∧ fieldsKnown Try.prog 39 = true ∧ fillF Try.prog 39 (zeroOf ⟨3, 40, (Value.agg #[(Value.bool false), (Value.int IntKind.i64 0), (Value.slice none 0 0)]), (TypeDesc.struct #[{ name := "Flush", type := 4, offset := 0, embedded := false, tag := "", pkgPath := "", byteOffset := 0 }, { name := "At", type := 3, offset := 1, embedded := false, tag := "", pkgPath := "", byteOffset := 8 }, { name := "Bytes", type := 22, offset := 2, embedded := false, tag := "", pkgPath := "", byteOffset := 16 }])⟩).cells ps (fun cs => K (.agg cs))) := buildA_struct Try.underlying39 ty39 ps K
theorem fk39 : fieldsKnown Try.prog 39 = true := by kernel_rfl
theorem ty43 : tyOf Try.prog 43 = some ⟨1, 0, (Value.tuple #[(Value.slice none 0 0), (Value.int IntKind.i64 0)]), (TypeDesc.tuple #[29, 35])⟩ := by kernel_rfl
theorem ty45 : tyOf Try.prog 45 = some ⟨1, 0, (Value.tuple #[(Value.slice none 0 0), (Value.slice none 0 0), (Value.int IntKind.i64 0)]), (TypeDesc.tuple #[22, 25, 35])⟩ := by kernel_rfl
theorem ty47 : tyOf Try.prog 47 = some ⟨1, 0, (Value.tuple #[(Value.bool false), (Value.bool false), (Value.int IntKind.i64 0)]), (TypeDesc.tuple #[4, 4, 35])⟩ := by kernel_rfl
theorem ty50 : tyOf Try.prog 50 = some ⟨1, 0, (Value.tuple #[(Value.int IntKind.i64 0), (Value.int IntKind.i64 0)]), (TypeDesc.tuple #[3, 35])⟩ := by kernel_rfl
theorem ty54 : tyOf Try.prog 54 = some ⟨1, 24, (Value.slice none 0 0), (TypeDesc.slice 63)⟩ := by kernel_rfl
theorem zo54 : zeroOf ⟨1, 24, (Value.slice none 0 0), (TypeDesc.slice 63)⟩ = .sl true [] := by simp [zeroOf, ofVal, ofVal0, plain, AV.single]
theorem zk54 : zeroOK ⟨1, 24, (Value.slice none 0 0), (TypeDesc.slice 63)⟩ = true := by simp [zeroOK, zo54, allOne, AV.cells, AV.single]
theorem el54 : elemOfSlice Try.prog 54 = some (63, ⟨4, 64, (Value.agg #[(Value.int IntKind.i64 0), (Value.slice none 0 0), (Value.int IntKind.i64 0), (Value.slice none 0 0)]), (TypeDesc.struct #[{ name := "What", type := 3, offset := 0, embedded := false, tag := "", pkgPath := "", byteOffset := 0 }, { name := "Bytes", type := 22, offset := 1, embedded := false, tag := "", pkgPath := "", byteOffset := 8 }, { name := "Most", type := 3, offset := 2, embedded := false, tag := "", pkgPath := "", byteOffset := 32 }, { name := "Cuts", type := 32, offset := 3, embedded := false, tag := "", pkgPath := "", byteOffset := 40 }])⟩) := by kernel_rfl
theorem ty56 : tyOf Try.prog 56 = some ⟨1, 0, (Value.tuple #[(Value.agg #[(Value.slice none 0 0), (Value.slice none 0 0)]), (Value.bool false)]), (TypeDesc.tuple #[31, 4])⟩ := by kernel_rfl
theorem ty58 : tyOf Try.prog 58 = some ⟨1, 8, (Value.pointer none), (TypeDesc.pointer 60)⟩ := by kernel_rfl
theorem zo58 : zeroOf ⟨1, 8, (Value.pointer none), (TypeDesc.pointer 60)⟩ = .val (Value.pointer none) := by simp [zeroOf, ofVal, ofVal0, plain, AV.single]
theorem zk58 : zeroOK ⟨1, 8, (Value.pointer none), (TypeDesc.pointer 60)⟩ = true := by simp [zeroOK, zo58, allOne, AV.cells, AV.single]
theorem ty60 : tyOf Try.prog 60 = some ⟨7, 136, (Value.agg #[(Value.slice none 0 0), (Value.slice none 0 0), (Value.slice none 0 0), (Value.slice none 0 0), (Value.int IntKind.i64 0), (Value.slice none 0 0), (Value.bool false)]), (TypeDesc.struct #[{ name := "d", type := 31, offset := 0, embedded := false, tag := "", pkgPath := "proteus/proteuslaw28", byteOffset := 0 }, { name := "base", type := 22, offset := 2, embedded := false, tag := "", pkgPath := "proteus/proteuslaw28", byteOffset := 48 }, { name := "records", type := 25, offset := 3, embedded := false, tag := "", pkgPath := "proteus/proteuslaw28", byteOffset := 72 }, { name := "flushed", type := 3, offset := 4, embedded := false, tag := "", pkgPath := "proteus/proteuslaw28", byteOffset := 96 }, { name := "other", type := 22, offset := 5, embedded := false, tag := "", pkgPath := "proteus/proteuslaw28", byteOffset := 104 }, { name := "doubt", type := 4, offset := 6, embedded := false, tag := "", pkgPath := "proteus/proteuslaw28", byteOffset := 128 }])⟩ := by kernel_rfl
theorem zo60 : zeroOf ⟨7, 136, (Value.agg #[(Value.slice none 0 0), (Value.slice none 0 0), (Value.slice none 0 0), (Value.slice none 0 0), (Value.int IntKind.i64 0), (Value.slice none 0 0), (Value.bool false)]), (TypeDesc.struct #[{ name := "d", type := 31, offset := 0, embedded := false, tag := "", pkgPath := "proteus/proteuslaw28", byteOffset := 0 }, { name := "base", type := 22, offset := 2, embedded := false, tag := "", pkgPath := "proteus/proteuslaw28", byteOffset := 48 }, { name := "records", type := 25, offset := 3, embedded := false, tag := "", pkgPath := "proteus/proteuslaw28", byteOffset := 72 }, { name := "flushed", type := 3, offset := 4, embedded := false, tag := "", pkgPath := "proteus/proteuslaw28", byteOffset := 96 }, { name := "other", type := 22, offset := 5, embedded := false, tag := "", pkgPath := "proteus/proteuslaw28", byteOffset := 104 }, { name := "doubt", type := 4, offset := 6, embedded := false, tag := "", pkgPath := "proteus/proteuslaw28", byteOffset := 128 }])⟩ = .agg [.sl true [], .sl true [], .sl true [], .sl true [], .val (Value.int IntKind.i64 0), .sl true [], .val (Value.bool false)] := by simp [zeroOf, ofVal, ofVal0, plain, AV.single]
theorem zk60 : zeroOK ⟨7, 136, (Value.agg #[(Value.slice none 0 0), (Value.slice none 0 0), (Value.slice none 0 0), (Value.slice none 0 0), (Value.int IntKind.i64 0), (Value.slice none 0 0), (Value.bool false)]), (TypeDesc.struct #[{ name := "d", type := 31, offset := 0, embedded := false, tag := "", pkgPath := "proteus/proteuslaw28", byteOffset := 0 }, { name := "base", type := 22, offset := 2, embedded := false, tag := "", pkgPath := "proteus/proteuslaw28", byteOffset := 48 }, { name := "records", type := 25, offset := 3, embedded := false, tag := "", pkgPath := "proteus/proteuslaw28", byteOffset := 72 }, { name := "flushed", type := 3, offset := 4, embedded := false, tag := "", pkgPath := "proteus/proteuslaw28", byteOffset := 96 }, { name := "other", type := 22, offset := 5, embedded := false, tag := "", pkgPath := "proteus/proteuslaw28", byteOffset := 104 }, { name := "doubt", type := 4, offset := 6, embedded := false, tag := "", pkgPath := "proteus/proteuslaw28", byteOffset := 128 }])⟩ = true := by simp [zeroOK, zo60, allOne, AV.cells, AV.single]
theorem fl60_0 : fldOf Try.prog 60 0 = some (0, ⟨2, 48, (Value.agg #[(Value.slice none 0 0), (Value.slice none 0 0)]), (TypeDesc.struct #[{ name := "Bytes", type := 22, offset := 0, embedded := false, tag := "", pkgPath := "", byteOffset := 0 }, { name := "Queue", type := 29, offset := 1, embedded := false, tag := "", pkgPath := "", byteOffset := 24 }])⟩) := by kernel_rfl
theorem fl60_1 : fldOf Try.prog 60 1 = some (2, ⟨1, 24, (Value.slice none 0 0), (TypeDesc.slice 5)⟩) := by kernel_rfl
theorem fl60_2 : fldOf Try.prog 60 2 = some (3, ⟨1, 24, (Value.slice none 0 0), (TypeDesc.slice 22)⟩) := by kernel_rfl
theorem fl60_3 : fldOf Try.prog 60 3 = some (4, ⟨1, 8, (Value.int IntKind.i64 0), (TypeDesc.int IntKind.i64)⟩) := by kernel_rfl
theorem fl60_4 : fldOf Try.prog 60 4 = some (5, ⟨1, 24, (Value.slice none 0 0), (TypeDesc.slice 5)⟩) := by kernel_rfl
theorem fl60_5 : fldOf Try.prog 60 5 = some (6, ⟨1, 1, (Value.bool false), TypeDesc.bool⟩) := by kernel_rfl
theorem bu60 (ps : List (Nat × AV)) (K : AV → Prop) : buildA Try.prog 60 ps K = (zeroOK ⟨7, 136, (Value.agg #[(Value.slice none 0 0), (Value.slice none 0 0), (Value.slice none 0 0), (Value.slice none 0 0), (Value.int IntKind.i64 0), (Value.slice none 0 0), (Value.bool false)]), (TypeDesc.struct #[{ name := "d", type := 31, offset := 0, embedded := false, tag := "", pkgPath := "proteus/proteuslaw28", byteOffset := 0 }, { name := "base", type := 22, offset := 2, embedded := false, tag := "", pkgPath := "proteus/proteuslaw28", byteOffset := 48 }, { name := "records", type := 25, offset := 3, embedded := false, tag := "", pkgPath := "proteus/proteuslaw28", byteOffset := 72 }, { name := "flushed", type := 3, offset := 4, embedded := false, tag := "", pkgPath := "proteus/proteuslaw28", byteOffset := 96 }, { name := "other", type := 22, offset := 5, embedded := false, tag := "", pkgPath := "proteus/proteuslaw28", byteOffset := 104 }, { name := "doubt", type := 4, offset := 6, embedded := false, tag := "", pkgPath := "proteus/proteuslaw28", byteOffset := 128 }])⟩ = true ∧ Ty.isAgg ⟨7, 136, (Value.agg #[(Value.slice none 0 0), (Value.slice none 0 0), (Value.slice none 0 0), (Value.slice none 0 0), (Value.int IntKind.i64 0), (Value.slice none 0 0), (Value.bool false)]), (TypeDesc.struct #[{ name := "d", type := 31, offset := 0, embedded := false, tag := "", pkgPath := "proteus/proteuslaw28", byteOffset := 0 }, { name := "base", type := 22, offset := 2, embedded := false, tag := "", pkgPath := "proteus/proteuslaw28", byteOffset := 48 }, { name := "records", type := 25, offset := 3, embedded := false, tag := "", pkgPath := "proteus/proteuslaw28", byteOffset := 72 }, { name := "flushed", type := 3, offset := 4, embedded := false, tag := "", pkgPath := "proteus/proteuslaw28", byteOffset := 96 }, { name := "other", type := 22, offset := 5, embedded := false, tag := "", pkgPath := "proteus/proteuslaw28", byteOffset := 104 }, { name := "doubt", type := 4, offset := 6, embedded := false, tag := "", pkgPath := "proteus/proteuslaw28", byteOffset := 128 }])⟩ = true ∧ fieldsKnown Try.prog 60 = true ∧ fillF Try.prog 60 (zeroOf ⟨7, 136, (Value.agg #[(Value.slice none 0 0), (Value.slice none 0 0), (Value.slice none 0 0), (Value.slice none 0 0), (Value.int IntKind.i64 0), (Value.slice none 0 0), (Value.bool false)]), (TypeDesc.struct #[{ name := "d", type := 31, offset := 0, embedded := false, tag := "", pkgPath := "proteus/proteuslaw28", byteOffset := 0 }, { name := "base", type := 22, offset := 2, embedded := false, tag := "", pkgPath := "proteus/proteuslaw28", byteOffset := 48 }, { name := "records", type := 25, offset := 3, embedded := false, tag := "", pkgPath := "proteus/proteuslaw28", byteOffset := 72 }, { name := "flushed", type := 3, offset := 4, embedded := false, tag := "", pkgPath := "proteus/proteuslaw28", byteOffset := 96 }, { name := "other", type := 22, offset := 5, embedded := false, tag := "", pkgPath := "proteus/proteuslaw28", byteOffset := 104 }, { name := "doubt", type := 4, offset := 6, embedded := false, tag := "", pkgPath := "proteus/proteuslaw28", byteOffset := 128 }])⟩).cells ps (fun cs => K (.agg cs))) := buildA_struct Try.underlying60 ty60 ps K
theorem fk60 : fieldsKnown Try.prog 60 = true := by kernel_rfl
theorem ty63 : tyOf Try.prog 63 = some ⟨4, 64, (Value.agg #[(Value.int IntKind.i64 0), (Value.slice none 0 0), (Value.int IntKind.i64 0), (Value.slice none 0 0)]), (TypeDesc.struct #[{ name := "What", type := 3, offset := 0, embedded := false, tag := "", pkgPath := "", byteOffset := 0 }, { name := "Bytes", type := 22, offset := 1, embedded := false, tag := "", pkgPath := "", byteOffset := 8 }, { name := "Most", type := 3, offset := 2, embedded := false, tag := "", pkgPath := "", byteOffset := 32 }, { name := "Cuts", type := 32, offset := 3, embedded := false, tag := "", pkgPath := "", byteOffset := 40 }])⟩ := by kernel_rfl
theorem zo63 : zeroOf ⟨4, 64, (Value.agg #[(Value.int IntKind.i64 0), (Value.slice none 0 0), (Value.int IntKind.i64 0), (Value.slice none 0 0)]), (TypeDesc.struct #[{ name := "What", type := 3, offset := 0, embedded := false, tag := "", pkgPath := "", byteOffset := 0 }, { name := "Bytes", type := 22, offset := 1, embedded := false, tag := "", pkgPath := "", byteOffset := 8 }, { name := "Most", type := 3, offset := 2, embedded := false, tag := "", pkgPath := "", byteOffset := 32 }, { name := "Cuts", type := 32, offset := 3, embedded := false, tag := "", pkgPath := "", byteOffset := 40 }])⟩ = .agg [.val (Value.int IntKind.i64 0), .sl true [], .val (Value.int IntKind.i64 0), .sl true []] := by simp [zeroOf, ofVal, ofVal0, plain, AV.single]
theorem zk63 : zeroOK ⟨4, 64, (Value.agg #[(Value.int IntKind.i64 0), (Value.slice none 0 0), (Value.int IntKind.i64 0), (Value.slice none 0 0)]), (TypeDesc.struct #[{ name := "What", type := 3, offset := 0, embedded := false, tag := "", pkgPath := "", byteOffset := 0 }, { name := "Bytes", type := 22, offset := 1, embedded := false, tag := "", pkgPath := "", byteOffset := 8 }, { name := "Most", type := 3, offset := 2, embedded := false, tag := "", pkgPath := "", byteOffset := 32 }, { name := "Cuts", type := 32, offset := 3, embedded := false, tag := "", pkgPath := "", byteOffset := 40 }])⟩ = true := by simp [zeroOK, zo63, allOne, AV.cells, AV.single]
theorem fl63_0 : fldOf Try.prog 63 0 = some (0, ⟨1, 8, (Value.int IntKind.i64 0), (TypeDesc.int IntKind.i64)⟩) := by kernel_rfl
theorem fl63_1 : fldOf Try.prog 63 1 = some (1, ⟨1, 24, (Value.slice none 0 0), (TypeDesc.slice 5)⟩) := by kernel_rfl
theorem fl63_2 : fldOf Try.prog 63 2 = some (2, ⟨1, 8, (Value.int IntKind.i64 0), (TypeDesc.int IntKind.i64)⟩) := by kernel_rfl
theorem fl63_3 : fldOf Try.prog 63 3 = some (3, ⟨1, 24, (Value.slice none 0 0), (TypeDesc.slice 3)⟩) := by kernel_rfl
theorem bu63 (ps : List (Nat × AV)) (K : AV → Prop) : buildA Try.prog 63 ps K = (zeroOK ⟨4, 64, (Value.agg #[(Value.int IntKind.i64 0), (Value.slice none 0 0), (Value.int IntKind.i64 0), (Value.slice none 0 0)]), (TypeDesc.struct #[{ name := "What", type := 3, offset := 0, embedded := false, tag := "", pkgPath := "", byteOffset := 0 }, { name := "Bytes", type := 22, offset := 1, embedded := false, tag := "", pkgPath := "", byteOffset := 8 }, { name := "Most", type := 3, offset := 2, embedded := false, tag := "", pkgPath := "", byteOffset := 32 }, { name := "Cuts", type := 32, offset := 3, embedded := false, tag := "", pkgPath := "", byteOffset := 40 }])⟩ = true ∧ Ty.isAgg ⟨4, 64, (Value.agg #[(Value.int IntKind.i64 0), (Value.slice none 0 0), (Value.int IntKind.i64 0), (Value.slice none 0 0)]), (TypeDesc.struct #[{ name := "What", type := 3, offset := 0, embedded := false, tag := "", pkgPath := "", byteOffset := 0 }, { name := "Bytes", type := 22, offset := 1, embedded := false, tag := "", pkgPath := "", byteOffset := 8 }, { name := "Most", type := 3, offset := 2, embedded := false, tag := "", pkgPath := "", byteOffset := 32 }, { name := "Cuts", type := 32, offset := 3, embedded := false, tag := "", pkgPath := "", byteOffset := 40 }])⟩ = true ∧ fieldsKnown Try.prog 63 = true ∧ fillF Try.prog 63 (zeroOf ⟨4, 64, (Value.agg #[(Value.int IntKind.i64 0), (Value.slice none 0 0), (Value.int IntKind.i64 0), (Value.slice none 0 0)]), (TypeDesc.struct #[{ name := "What", type := 3, offset := 0, embedded := false, tag := "", pkgPath := "", byteOffset := 0 }, { name := "Bytes", type := 22, offset := 1, embedded := false, tag := "", pkgPath := "", byteOffset := 8 }, { name := "Most", type := 3, offset := 2, embedded := false, tag := "", pkgPath := "", byteOffset := 32 }, { name := "Cuts", type := 32, offset := 3, embedded := false, tag := "", pkgPath := "", byteOffset := 40 }])⟩).cells ps (fun cs => K (.agg cs))) := buildA_struct Try.underlying63 ty63 ps K
theorem fk63 : fieldsKnown Try.prog 63 = true := by kernel_rfl
theorem ty70 : tyOf Try.prog 70 = some ⟨3, 32, (Value.agg #[(Value.int IntKind.i64 0), (Value.int IntKind.i64 0), (Value.string { data := #[] })]), (TypeDesc.struct #[{ name := "K", type := 3, offset := 0, embedded := false, tag := "", pkgPath := "", byteOffset := 0 }, { name := "N", type := 3, offset := 1, embedded := false, tag := "", pkgPath := "", byteOffset := 8 }, { name := "T", type := 9, offset := 2, embedded := false, tag := "", pkgPath := "", byteOffset := 16 }])⟩ := by kernel_rfl
theorem zo70 : zeroOf ⟨3, 32, (Value.agg #[(Value.int IntKind.i64 0), (Value.int IntKind.i64 0), (Value.string { data := #[] })]), (TypeDesc.struct #[{ name := "K", type := 3, offset := 0, embedded := false, tag := "", pkgPath := "", byteOffset := 0 }, { name := "N", type := 3, offset := 1, embedded := false, tag := "", pkgPath := "", byteOffset := 8 }, { name := "T", type := 9, offset := 2, embedded := false, tag := "", pkgPath := "", byteOffset := 16 }])⟩ = .agg [.val (Value.int IntKind.i64 0), .val (Value.int IntKind.i64 0), .val (Value.string { data := #[] })] := by simp [zeroOf, ofVal, ofVal0, plain, AV.single]
theorem zk70 : zeroOK ⟨3, 32, (Value.agg #[(Value.int IntKind.i64 0), (Value.int IntKind.i64 0), (Value.string { data := #[] })]), (TypeDesc.struct #[{ name := "K", type := 3, offset := 0, embedded := false, tag := "", pkgPath := "", byteOffset := 0 }, { name := "N", type := 3, offset := 1, embedded := false, tag := "", pkgPath := "", byteOffset := 8 }, { name := "T", type := 9, offset := 2, embedded := false, tag := "", pkgPath := "", byteOffset := 16 }])⟩ = true := by simp [zeroOK, zo70, allOne, AV.cells, AV.single]
theorem fl70_0 : fldOf Try.prog 70 0 = some (0, ⟨1, 8, (Value.int IntKind.i64 0), (TypeDesc.int IntKind.i64)⟩) := by kernel_rfl
theorem fl70_1 : fldOf Try.prog 70 1 = some (1, ⟨1, 8, (Value.int IntKind.i64 0), (TypeDesc.int IntKind.i64)⟩) := by kernel_rfl
theorem fl70_2 : fldOf Try.prog 70 2 = some (2, ⟨1, 16, (Value.string { data := #[] }), TypeDesc.string⟩) := by kernel_rfl
theorem bu70 (ps : List (Nat × AV)) (K : AV → Prop) : buildA Try.prog 70 ps K = (zeroOK ⟨3, 32, (Value.agg #[(Value.int IntKind.i64 0), (Value.int IntKind.i64 0), (Value.string { data := #[] })]), (TypeDesc.struct #[{ name := "K", type := 3, offset := 0, embedded := false, tag := "", pkgPath := "", byteOffset := 0 }, { name := "N", type := 3, offset := 1, embedded := false, tag := "", pkgPath := "", byteOffset := 8 }, { name := "T", type := 9, offset := 2, embedded := false, tag := "", pkgPath := "", byteOffset := 16 }])⟩ = true ∧ Ty.isAgg ⟨3, 32, (Value.agg #[(Value.int IntKind.i64 0), (Value.int IntKind.i64 0), (Value.string { data := #[] })]), (TypeDesc.struct #[{ name := "K", type := 3, offset := 0, embedded := false, tag := "", pkgPath := "", byteOffset := 0 }, { name := "N", type := 3, offset := 1, embedded := false, tag := "", pkgPath := "", byteOffset := 8 }, { name := "T", type := 9, offset := 2, embedded := false, tag := "", pkgPath := "", byteOffset := 16 }])⟩ = true ∧ fieldsKnown Try.prog 70 = true ∧ fillF Try.prog 70 (zeroOf ⟨3, 32, (Value.agg #[(Value.int IntKind.i64 0), (Value.int IntKind.i64 0), (Value.string { data := #[] })]), (TypeDesc.struct #[{ name := "K", type := 3, offset := 0, embedded := false, tag := "", pkgPath := "", byteOffset := 0 }, { name := "N", type := 3, offset := 1, embedded := false, tag := "", pkgPath := "", byteOffset := 8 }, { name := "T", type := 9, offset := 2, embedded := false, tag := "", pkgPath := "", byteOffset := 16 }])⟩).cells ps (fun cs => K (.agg cs))) := buildA_struct Try.underlying70 ty70 ps K
theorem fk70 : fieldsKnown Try.prog 70 = true := by kernel_rfl
theorem ty72 : tyOf Try.prog 72 = some ⟨5, 56, (Value.agg #[(Value.string { data := #[] }), (Value.int IntKind.i64 0), (Value.int IntKind.i64 0), (Value.int IntKind.i64 0), (Value.string { data := #[] })]), (TypeDesc.struct #[{ name := "Name", type := 9, offset := 0, embedded := false, tag := "", pkgPath := "", byteOffset := 0 }, { name := "Kind", type := 3, offset := 1, embedded := false, tag := "", pkgPath := "", byteOffset := 16 }, { name := "V", type := 70, offset := 2, embedded := false, tag := "", pkgPath := "", byteOffset := 24 }])⟩ := by kernel_rfl
theorem zo72 : zeroOf ⟨5, 56, (Value.agg #[(Value.string { data := #[] }), (Value.int IntKind.i64 0), (Value.int IntKind.i64 0), (Value.int IntKind.i64 0), (Value.string { data := #[] })]), (TypeDesc.struct #[{ name := "Name", type := 9, offset := 0, embedded := false, tag := "", pkgPath := "", byteOffset := 0 }, { name := "Kind", type := 3, offset := 1, embedded := false, tag := "", pkgPath := "", byteOffset := 16 }, { name := "V", type := 70, offset := 2, embedded := false, tag := "", pkgPath := "", byteOffset := 24 }])⟩ = .agg [.val (Value.string { data := #[] }), .val (Value.int IntKind.i64 0), .val (Value.int IntKind.i64 0), .val (Value.int IntKind.i64 0), .val (Value.string { data := #[] })] := by simp [zeroOf, ofVal, ofVal0, plain, AV.single]
theorem zk72 : zeroOK ⟨5, 56, (Value.agg #[(Value.string { data := #[] }), (Value.int IntKind.i64 0), (Value.int IntKind.i64 0), (Value.int IntKind.i64 0), (Value.string { data := #[] })]), (TypeDesc.struct #[{ name := "Name", type := 9, offset := 0, embedded := false, tag := "", pkgPath := "", byteOffset := 0 }, { name := "Kind", type := 3, offset := 1, embedded := false, tag := "", pkgPath := "", byteOffset := 16 }, { name := "V", type := 70, offset := 2, embedded := false, tag := "", pkgPath := "", byteOffset := 24 }])⟩ = true := by simp [zeroOK, zo72, allOne, AV.cells, AV.single]
theorem fl72_0 : fldOf Try.prog 72 0 = some (0, ⟨1, 16, (Value.string { data := #[] }), TypeDesc.string⟩) := by kernel_rfl
theorem fl72_1 : fldOf Try.prog 72 1 = some (1, ⟨1, 8, (Value.int IntKind.i64 0), (TypeDesc.int IntKind.i64)⟩) := by kernel_rfl
theorem fl72_2 : fldOf Try.prog 72 2 = some (2, ⟨3, 32, (Value.agg #[(Value.int IntKind.i64 0), (Value.int IntKind.i64 0), (Value.string { data := #[] })]), (TypeDesc.struct #[{ name := "K", type := 3, offset := 0, embedded := false, tag := "", pkgPath := "", byteOffset := 0 }, { name := "N", type := 3, offset := 1, embedded := false, tag := "", pkgPath := "", byteOffset := 8 }, { name := "T", type := 9, offset := 2, embedded := false, tag := "", pkgPath := "", byteOffset := 16 }])⟩) := by kernel_rfl
theorem bu72 (ps : List (Nat × AV)) (K : AV → Prop) : buildA Try.prog 72 ps K = (zeroOK ⟨5, 56, (Value.agg #[(Value.string { data := #[] }), (Value.int IntKind.i64 0), (Value.int IntKind.i64 0), (Value.int IntKind.i64 0), (Value.string { data := #[] })]), (TypeDesc.struct #[{ name := "Name", type := 9, offset := 0, embedded := false, tag := "", pkgPath := "", byteOffset := 0 }, { name := "Kind", type := 3, offset := 1, embedded := false, tag := "", pkgPath := "", byteOffset := 16 }, { name := "V", type := 70, offset := 2, embedded := false, tag := "", pkgPath := "", byteOffset := 24 }])⟩ = true ∧ Ty.isAgg ⟨5, 56, (Value.agg #[(Value.string { data := #[] }), (Value.int IntKind.i64 0), (Value.int IntKind.i64 0), (Value.int IntKind.i64 0), (Value.string { data := #[] })]), (TypeDesc.struct #[{ name := "Name", type := 9, offset := 0, embedded := false, tag := "", pkgPath := "", byteOffset := 0 }, { name := "Kind", type := 3, offset := 1, embedded := false, tag := "", pkgPath := "", byteOffset := 16 }, { name := "V", type := 70, offset := 2, embedded := false, tag := "", pkgPath := "", byteOffset := 24 }])⟩ = true ∧ fieldsKnown Try.prog 72 = true ∧ fillF Try.prog 72 (zeroOf ⟨5, 56, (Value.agg #[(Value.string { data := #[] }), (Value.int IntKind.i64 0), (Value.int IntKind.i64 0), (Value.int IntKind.i64 0), (Value.string { data := #[] })]), (TypeDesc.struct #[{ name := "Name", type := 9, offset := 0, embedded := false, tag := "", pkgPath := "", byteOffset := 0 }, { name := "Kind", type := 3, offset := 1, embedded := false, tag := "", pkgPath := "", byteOffset := 16 }, { name := "V", type := 70, offset := 2, embedded := false, tag := "", pkgPath := "", byteOffset := 24 }])⟩).cells ps (fun cs => K (.agg cs))) := buildA_struct Try.underlying72 ty72 ps K
theorem fk72 : fieldsKnown Try.prog 72 = true := by kernel_rfl
theorem ty74 : tyOf Try.prog 74 = some ⟨8, 88, (Value.agg #[(Value.int IntKind.i64 0), (Value.int IntKind.i64 0), (Value.string { data := #[] }), (Value.string { data := #[] }), (Value.int IntKind.i64 0), (Value.int IntKind.i64 0), (Value.int IntKind.i64 0), (Value.string { data := #[] })]), (TypeDesc.struct #[{ name := "Kind", type := 3, offset := 0, embedded := false, tag := "", pkgPath := "", byteOffset := 0 }, { name := "Oid", type := 3, offset := 1, embedded := false, tag := "", pkgPath := "", byteOffset := 8 }, { name := "Name", type := 9, offset := 2, embedded := false, tag := "", pkgPath := "", byteOffset := 16 }, { name := "Slot", type := 72, offset := 3, embedded := false, tag := "", pkgPath := "", byteOffset := 32 }])⟩ := by kernel_rfl
theorem zo74 : zeroOf ⟨8, 88, (Value.agg #[(Value.int IntKind.i64 0), (Value.int IntKind.i64 0), (Value.string { data := #[] }), (Value.string { data := #[] }), (Value.int IntKind.i64 0), (Value.int IntKind.i64 0), (Value.int IntKind.i64 0), (Value.string { data := #[] })]), (TypeDesc.struct #[{ name := "Kind", type := 3, offset := 0, embedded := false, tag := "", pkgPath := "", byteOffset := 0 }, { name := "Oid", type := 3, offset := 1, embedded := false, tag := "", pkgPath := "", byteOffset := 8 }, { name := "Name", type := 9, offset := 2, embedded := false, tag := "", pkgPath := "", byteOffset := 16 }, { name := "Slot", type := 72, offset := 3, embedded := false, tag := "", pkgPath := "", byteOffset := 32 }])⟩ = .agg [.val (Value.int IntKind.i64 0), .val (Value.int IntKind.i64 0), .val (Value.string { data := #[] }), .val (Value.string { data := #[] }), .val (Value.int IntKind.i64 0), .val (Value.int IntKind.i64 0), .val (Value.int IntKind.i64 0), .val (Value.string { data := #[] })] := by simp [zeroOf, ofVal, ofVal0, plain, AV.single]
theorem zk74 : zeroOK ⟨8, 88, (Value.agg #[(Value.int IntKind.i64 0), (Value.int IntKind.i64 0), (Value.string { data := #[] }), (Value.string { data := #[] }), (Value.int IntKind.i64 0), (Value.int IntKind.i64 0), (Value.int IntKind.i64 0), (Value.string { data := #[] })]), (TypeDesc.struct #[{ name := "Kind", type := 3, offset := 0, embedded := false, tag := "", pkgPath := "", byteOffset := 0 }, { name := "Oid", type := 3, offset := 1, embedded := false, tag := "", pkgPath := "", byteOffset := 8 }, { name := "Name", type := 9, offset := 2, embedded := false, tag := "", pkgPath := "", byteOffset := 16 }, { name := "Slot", type := 72, offset := 3, embedded := false, tag := "", pkgPath := "", byteOffset := 32 }])⟩ = true := by simp [zeroOK, zo74, allOne, AV.cells, AV.single]
theorem fl74_0 : fldOf Try.prog 74 0 = some (0, ⟨1, 8, (Value.int IntKind.i64 0), (TypeDesc.int IntKind.i64)⟩) := by kernel_rfl
theorem fl74_1 : fldOf Try.prog 74 1 = some (1, ⟨1, 8, (Value.int IntKind.i64 0), (TypeDesc.int IntKind.i64)⟩) := by kernel_rfl
theorem fl74_2 : fldOf Try.prog 74 2 = some (2, ⟨1, 16, (Value.string { data := #[] }), TypeDesc.string⟩) := by kernel_rfl
theorem fl74_3 : fldOf Try.prog 74 3 = some (3, ⟨5, 56, (Value.agg #[(Value.string { data := #[] }), (Value.int IntKind.i64 0), (Value.int IntKind.i64 0), (Value.int IntKind.i64 0), (Value.string { data := #[] })]), (TypeDesc.struct #[{ name := "Name", type := 9, offset := 0, embedded := false, tag := "", pkgPath := "", byteOffset := 0 }, { name := "Kind", type := 3, offset := 1, embedded := false, tag := "", pkgPath := "", byteOffset := 16 }, { name := "V", type := 70, offset := 2, embedded := false, tag := "", pkgPath := "", byteOffset := 24 }])⟩) := by kernel_rfl
theorem bu74 (ps : List (Nat × AV)) (K : AV → Prop) : buildA Try.prog 74 ps K = (zeroOK ⟨8, 88, (Value.agg #[(Value.int IntKind.i64 0), (Value.int IntKind.i64 0), (Value.string { data := #[] }), (Value.string { data := #[] }), (Value.int IntKind.i64 0), (Value.int IntKind.i64 0), (Value.int IntKind.i64 0), (Value.string { data := #[] })]), (TypeDesc.struct #[{ name := "Kind", type := 3, offset := 0, embedded := false, tag := "", pkgPath := "", byteOffset := 0 }, { name := "Oid", type := 3, offset := 1, embedded := false, tag := "", pkgPath := "", byteOffset := 8 }, { name := "Name", type := 9, offset := 2, embedded := false, tag := "", pkgPath := "", byteOffset := 16 }, { name := "Slot", type := 72, offset := 3, embedded := false, tag := "", pkgPath := "", byteOffset := 32 }])⟩ = true ∧ Ty.isAgg ⟨8, 88, (Value.agg #[(Value.int IntKind.i64 0), (Value.int IntKind.i64 0), (Value.string { data := #[] }), (Value.string { data := #[] }), (Value.int IntKind.i64 0), (Value.int IntKind.i64 0), (Value.int IntKind.i64 0), (Value.string { data := #[] })]), (TypeDesc.struct #[{ name := "Kind", type := 3, offset := 0, embedded := false, tag := "", pkgPath := "", byteOffset := 0 }, { name := "Oid", type := 3, offset := 1, embedded := false, tag := "", pkgPath := "", byteOffset := 8 }, { name := "Name", type := 9, offset := 2, embedded := false, tag := "", pkgPath := "", byteOffset := 16 }, { name := "Slot", type := 72, offset := 3, embedded := false, tag := "", pkgPath := "", byteOffset := 32 }])⟩ = true ∧ fieldsKnown Try.prog 74 = true ∧ fillF Try.prog 74 (zeroOf ⟨8, 88, (Value.agg #[(Value.int IntKind.i64 0), (Value.int IntKind.i64 0), (Value.string { data := #[] }), (Value.string { data := #[] }), (Value.int IntKind.i64 0), (Value.int IntKind.i64 0), (Value.int IntKind.i64 0), (Value.string { data := #[] })]), (TypeDesc.struct #[{ name := "Kind", type := 3, offset := 0, embedded := false, tag := "", pkgPath := "", byteOffset := 0 }, { name := "Oid", type := 3, offset := 1, embedded := false, tag := "", pkgPath := "", byteOffset := 8 }, { name := "Name", type := 9, offset := 2, embedded := false, tag := "", pkgPath := "", byteOffset := 16 }, { name := "Slot", type := 72, offset := 3, embedded := false, tag := "", pkgPath := "", byteOffset := 32 }])⟩).cells ps (fun cs => K (.agg cs))) := buildA_struct Try.underlying74 ty74 ps K
theorem fk74 : fieldsKnown Try.prog 74 = true := by kernel_rfl
theorem ty75 : tyOf Try.prog 75 = some ⟨1, 0, (Value.tuple #[(Value.agg #[(Value.int IntKind.i64 0), (Value.int IntKind.i64 0), (Value.string { data := #[] }), (Value.string { data := #[] }), (Value.int IntKind.i64 0), (Value.int IntKind.i64 0), (Value.int IntKind.i64 0), (Value.string { data := #[] })]), (Value.int IntKind.i64 0)]), (TypeDesc.tuple #[74, 35])⟩ := by kernel_rfl
theorem ty80 : tyOf Try.prog 80 = some ⟨1, 8, Value.nilFunc, (TypeDesc.func #[125] #[] false)⟩ := by kernel_rfl
theorem zo80 : zeroOf ⟨1, 8, Value.nilFunc, (TypeDesc.func #[125] #[] false)⟩ = .val Value.nilFunc := by simp [zeroOf, ofVal, ofVal0, plain, AV.single]
theorem zk80 : zeroOK ⟨1, 8, Value.nilFunc, (TypeDesc.func #[125] #[] false)⟩ = true := by simp [zeroOK, zo80, allOne, AV.cells, AV.single]
theorem ty81 : tyOf Try.prog 81 = some ⟨1, 8, Value.nilFunc, (TypeDesc.func #[125] #[] false)⟩ := by kernel_rfl
theorem zo81 : zeroOf ⟨1, 8, Value.nilFunc, (TypeDesc.func #[125] #[] false)⟩ = .val Value.nilFunc := by simp [zeroOf, ofVal, ofVal0, plain, AV.single]
theorem zk81 : zeroOK ⟨1, 8, Value.nilFunc, (TypeDesc.func #[125] #[] false)⟩ = true := by simp [zeroOK, zo81, allOne, AV.cells, AV.single]
theorem ty85 : tyOf Try.prog 85 = some ⟨1, 8, Value.nilFunc, (TypeDesc.func #[39] #[4] false)⟩ := by kernel_rfl
theorem zo85 : zeroOf ⟨1, 8, Value.nilFunc, (TypeDesc.func #[39] #[4] false)⟩ = .val Value.nilFunc := by simp [zeroOf, ofVal, ofVal0, plain, AV.single]
theorem zk85 : zeroOK ⟨1, 8, Value.nilFunc, (TypeDesc.func #[39] #[4] false)⟩ = true := by simp [zeroOK, zo85, allOne, AV.cells, AV.single]
theorem ty87 : tyOf Try.prog 87 = some ⟨1, 8, Value.nilFunc, (TypeDesc.func #[39] #[39] false)⟩ := by kernel_rfl
theorem zo87 : zeroOf ⟨1, 8, Value.nilFunc, (TypeDesc.func #[39] #[39] false)⟩ = .val Value.nilFunc := by simp [zeroOf, ofVal, ofVal0, plain, AV.single]
theorem zk87 : zeroOK ⟨1, 8, Value.nilFunc, (TypeDesc.func #[39] #[39] false)⟩ = true := by simp [zeroOK, zo87, allOne, AV.cells, AV.single]
theorem ty89 : tyOf Try.prog 89 = some ⟨4, 80, (Value.agg #[(Value.slice none 0 0), (Value.slice none 0 0), (Value.slice none 0 0), (Value.int IntKind.i64 0)]), (TypeDesc.struct #[{ name := "Disk", type := 31, offset := 0, embedded := true, tag := "", pkgPath := "", byteOffset := 0 }, { name := "seen", type := 22, offset := 2, embedded := false, tag := "", pkgPath := "proteus/disk", byteOffset := 48 }, { name := "half", type := 3, offset := 3, embedded := false, tag := "", pkgPath := "proteus/disk", byteOffset := 72 }])⟩ := by kernel_rfl
theorem zo89 : zeroOf ⟨4, 80, (Value.agg #[(Value.slice none 0 0), (Value.slice none 0 0), (Value.slice none 0 0), (Value.int IntKind.i64 0)]), (TypeDesc.struct #[{ name := "Disk", type := 31, offset := 0, embedded := true, tag := "", pkgPath := "", byteOffset := 0 }, { name := "seen", type := 22, offset := 2, embedded := false, tag := "", pkgPath := "proteus/disk", byteOffset := 48 }, { name := "half", type := 3, offset := 3, embedded := false, tag := "", pkgPath := "proteus/disk", byteOffset := 72 }])⟩ = .agg [.sl true [], .sl true [], .sl true [], .val (Value.int IntKind.i64 0)] := by simp [zeroOf, ofVal, ofVal0, plain, AV.single]
theorem zk89 : zeroOK ⟨4, 80, (Value.agg #[(Value.slice none 0 0), (Value.slice none 0 0), (Value.slice none 0 0), (Value.int IntKind.i64 0)]), (TypeDesc.struct #[{ name := "Disk", type := 31, offset := 0, embedded := true, tag := "", pkgPath := "", byteOffset := 0 }, { name := "seen", type := 22, offset := 2, embedded := false, tag := "", pkgPath := "proteus/disk", byteOffset := 48 }, { name := "half", type := 3, offset := 3, embedded := false, tag := "", pkgPath := "proteus/disk", byteOffset := 72 }])⟩ = true := by simp [zeroOK, zo89, allOne, AV.cells, AV.single]
theorem fl89_0 : fldOf Try.prog 89 0 = some (0, ⟨2, 48, (Value.agg #[(Value.slice none 0 0), (Value.slice none 0 0)]), (TypeDesc.struct #[{ name := "Bytes", type := 22, offset := 0, embedded := false, tag := "", pkgPath := "", byteOffset := 0 }, { name := "Queue", type := 29, offset := 1, embedded := false, tag := "", pkgPath := "", byteOffset := 24 }])⟩) := by kernel_rfl
theorem fl89_1 : fldOf Try.prog 89 1 = some (2, ⟨1, 24, (Value.slice none 0 0), (TypeDesc.slice 5)⟩) := by kernel_rfl
theorem fl89_2 : fldOf Try.prog 89 2 = some (3, ⟨1, 8, (Value.int IntKind.i64 0), (TypeDesc.int IntKind.i64)⟩) := by kernel_rfl
theorem bu89 (ps : List (Nat × AV)) (K : AV → Prop) : buildA Try.prog 89 ps K = (zeroOK ⟨4, 80, (Value.agg #[(Value.slice none 0 0), (Value.slice none 0 0), (Value.slice none 0 0), (Value.int IntKind.i64 0)]), (TypeDesc.struct #[{ name := "Disk", type := 31, offset := 0, embedded := true, tag := "", pkgPath := "", byteOffset := 0 }, { name := "seen", type := 22, offset := 2, embedded := false, tag := "", pkgPath := "proteus/disk", byteOffset := 48 }, { name := "half", type := 3, offset := 3, embedded := false, tag := "", pkgPath := "proteus/disk", byteOffset := 72 }])⟩ = true ∧ Ty.isAgg ⟨4, 80, (Value.agg #[(Value.slice none 0 0), (Value.slice none 0 0), (Value.slice none 0 0), (Value.int IntKind.i64 0)]), (TypeDesc.struct #[{ name := "Disk", type := 31, offset := 0, embedded := true, tag := "", pkgPath := "", byteOffset := 0 }, { name := "seen", type := 22, offset := 2, embedded := false, tag := "", pkgPath := "proteus/disk", byteOffset := 48 }, { name := "half", type := 3, offset := 3, embedded := false, tag := "", pkgPath := "proteus/disk", byteOffset := 72 }])⟩ = true ∧ fieldsKnown Try.prog 89 = true ∧ fillF Try.prog 89 (zeroOf ⟨4, 80, (Value.agg #[(Value.slice none 0 0), (Value.slice none 0 0), (Value.slice none 0 0), (Value.int IntKind.i64 0)]), (TypeDesc.struct #[{ name := "Disk", type := 31, offset := 0, embedded := true, tag := "", pkgPath := "", byteOffset := 0 }, { name := "seen", type := 22, offset := 2, embedded := false, tag := "", pkgPath := "proteus/disk", byteOffset := 48 }, { name := "half", type := 3, offset := 3, embedded := false, tag := "", pkgPath := "proteus/disk", byteOffset := 72 }])⟩).cells ps (fun cs => K (.agg cs))) := buildA_struct Try.underlying89 ty89 ps K
theorem fk89 : fieldsKnown Try.prog 89 = true := by kernel_rfl
theorem ty90 : tyOf Try.prog 90 = some ⟨1, 8, (Value.pointer none), (TypeDesc.pointer 89)⟩ := by kernel_rfl
theorem zo90 : zeroOf ⟨1, 8, (Value.pointer none), (TypeDesc.pointer 89)⟩ = .val (Value.pointer none) := by simp [zeroOf, ofVal, ofVal0, plain, AV.single]
theorem zk90 : zeroOK ⟨1, 8, (Value.pointer none), (TypeDesc.pointer 89)⟩ = true := by simp [zeroOK, zo90, allOne, AV.cells, AV.single]
theorem ty93 : tyOf Try.prog 93 = some ⟨1, 8, Value.nilFunc, (TypeDesc.func #[3] #[3] false)⟩ := by kernel_rfl
theorem zo93 : zeroOf ⟨1, 8, Value.nilFunc, (TypeDesc.func #[3] #[3] false)⟩ = .val Value.nilFunc := by simp [zeroOf, ofVal, ofVal0, plain, AV.single]
theorem zk93 : zeroOK ⟨1, 8, Value.nilFunc, (TypeDesc.func #[3] #[3] false)⟩ = true := by simp [zeroOK, zo93, allOne, AV.cells, AV.single]
theorem ty94 : tyOf Try.prog 94 = some ⟨1, 0, (Value.tuple #[(Value.pointer none), (Value.int IntKind.i64 0)]), (TypeDesc.tuple #[90, 35])⟩ := by kernel_rfl
theorem ty100 : tyOf Try.prog 100 = some ⟨1, 8, Value.nilFunc, (TypeDesc.func #[] #[3] false)⟩ := by kernel_rfl
theorem zo100 : zeroOf ⟨1, 8, Value.nilFunc, (TypeDesc.func #[] #[3] false)⟩ = .val Value.nilFunc := by simp [zeroOf, ofVal, ofVal0, plain, AV.single]
theorem zk100 : zeroOK ⟨1, 8, Value.nilFunc, (TypeDesc.func #[] #[3] false)⟩ = true := by simp [zeroOK, zo100, allOne, AV.cells, AV.single]
theorem ty101 : tyOf Try.prog 101 = some ⟨1, 0, (Value.tuple #[(Value.pointer none), (Value.int IntKind.i64 0), (Value.int IntKind.i64 0)]), (TypeDesc.tuple #[90, 3, 35])⟩ := by kernel_rfl
theorem ty105 : tyOf Try.prog 105 = some ⟨1, 0, (Value.tuple #[(Value.slice none 0 0), (Value.int IntKind.i64 0), (Value.int IntKind.i64 0)]), (TypeDesc.tuple #[25, 3, 3])⟩ := by kernel_rfl
theorem ty113 : tyOf Try.prog 113 = some ⟨1, 8, Value.nilFunc, (TypeDesc.func #[39, 39] #[4] false)⟩ := by kernel_rfl
theorem zo113 : zeroOf ⟨1, 8, Value.nilFunc, (TypeDesc.func #[39, 39] #[4] false)⟩ = .val Value.nilFunc := by simp [zeroOf, ofVal, ofVal0, plain, AV.single]
theorem zk113 : zeroOK ⟨1, 8, Value.nilFunc, (TypeDesc.func #[39, 39] #[4] false)⟩ = true := by simp [zeroOK, zo113, allOne, AV.cells, AV.single]
theorem ty115 : tyOf Try.prog 115 = some ⟨0, 0, (Value.agg #[]), (TypeDesc.struct #[])⟩ := by kernel_rfl
theorem zo115 : zeroOf ⟨0, 0, (Value.agg #[]), (TypeDesc.struct #[])⟩ = .agg [] := by simp [zeroOf, ofVal, ofVal0, plain, AV.single]
theorem zk115 : zeroOK ⟨0, 0, (Value.agg #[]), (TypeDesc.struct #[])⟩ = true := by simp [zeroOK, zo115, allOne, AV.cells, AV.single]
theorem bu115 (ps : List (Nat × AV)) (K : AV → Prop) : buildA Try.prog 115 ps K = (zeroOK ⟨0, 0, (Value.agg #[]), (TypeDesc.struct #[])⟩ = true ∧ Ty.isAgg ⟨0, 0, (Value.agg #[]), (TypeDesc.struct #[])⟩ = true ∧ fieldsKnown Try.prog 115 = true ∧ fillF Try.prog 115 (zeroOf ⟨0, 0, (Value.agg #[]), (TypeDesc.struct #[])⟩).cells ps (fun cs => K (.agg cs))) := buildA_struct Try.underlying115 ty115 ps K
theorem fk115 : fieldsKnown Try.prog 115 = true := by kernel_rfl
theorem ty116 : tyOf Try.prog 116 = some ⟨1, 8, Value.nilFunc, (TypeDesc.func #[3] #[22] false)⟩ := by kernel_rfl
theorem zo116 : zeroOf ⟨1, 8, Value.nilFunc, (TypeDesc.func #[3] #[22] false)⟩ = .val Value.nilFunc := by simp [zeroOf, ofVal, ofVal0, plain, AV.single]
theorem zk116 : zeroOK ⟨1, 8, Value.nilFunc, (TypeDesc.func #[3] #[22] false)⟩ = true := by simp [zeroOK, zo116, allOne, AV.cells, AV.single]
theorem ty117 : tyOf Try.prog 117 = some ⟨1, 8, (Value.int IntKind.u64 0), (TypeDesc.int IntKind.u64)⟩ := by kernel_rfl
theorem zo117 : zeroOf ⟨1, 8, (Value.int IntKind.u64 0), (TypeDesc.int IntKind.u64)⟩ = .val (Value.int IntKind.u64 0) := by simp [zeroOf, ofVal, ofVal0, plain, AV.single]
theorem zk117 : zeroOK ⟨1, 8, (Value.int IntKind.u64 0), (TypeDesc.int IntKind.u64)⟩ = true := by simp [zeroOK, zo117, allOne, AV.cells, AV.single]
theorem ty118 : tyOf Try.prog 118 = some ⟨1, 8, (Value.int IntKind.u64 0), (TypeDesc.int IntKind.u64)⟩ := by kernel_rfl
theorem zo118 : zeroOf ⟨1, 8, (Value.int IntKind.u64 0), (TypeDesc.int IntKind.u64)⟩ = .val (Value.int IntKind.u64 0) := by simp [zeroOf, ofVal, ofVal0, plain, AV.single]
theorem zk118 : zeroOK ⟨1, 8, (Value.int IntKind.u64 0), (TypeDesc.int IntKind.u64)⟩ = true := by simp [zeroOK, zo118, allOne, AV.cells, AV.single]
theorem ty119 : tyOf Try.prog 119 = some ⟨1, 8, Value.nilFunc, (TypeDesc.func #[] #[9] false)⟩ := by kernel_rfl
theorem zo119 : zeroOf ⟨1, 8, Value.nilFunc, (TypeDesc.func #[] #[9] false)⟩ = .val Value.nilFunc := by simp [zeroOf, ofVal, ofVal0, plain, AV.single]
theorem zk119 : zeroOK ⟨1, 8, Value.nilFunc, (TypeDesc.func #[] #[9] false)⟩ = true := by simp [zeroOK, zo119, allOne, AV.cells, AV.single]
theorem ty120 : tyOf Try.prog 120 = some ⟨1, 8, (Value.pointer none), (TypeDesc.pointer 122)⟩ := by kernel_rfl
theorem zo120 : zeroOf ⟨1, 8, (Value.pointer none), (TypeDesc.pointer 122)⟩ = .val (Value.pointer none) := by simp [zeroOf, ofVal, ofVal0, plain, AV.single]
theorem zk120 : zeroOK ⟨1, 8, (Value.pointer none), (TypeDesc.pointer 122)⟩ = true := by simp [zeroOK, zo120, allOne, AV.cells, AV.single]
theorem ty122 : tyOf Try.prog 122 = some ⟨2, 32, (Value.agg #[(Value.slice none 0 0), (Value.bool false)]), (TypeDesc.struct #[{ name := "b", type := 22, offset := 0, embedded := false, tag := "", pkgPath := "proteus/proteusref28", byteOffset := 0 }, { name := "bad", type := 4, offset := 1, embedded := false, tag := "", pkgPath := "proteus/proteusref28", byteOffset := 24 }])⟩ := by kernel_rfl
theorem zo122 : zeroOf ⟨2, 32, (Value.agg #[(Value.slice none 0 0), (Value.bool false)]), (TypeDesc.struct #[{ name := "b", type := 22, offset := 0, embedded := false, tag := "", pkgPath := "proteus/proteusref28", byteOffset := 0 }, { name := "bad", type := 4, offset := 1, embedded := false, tag := "", pkgPath := "proteus/proteusref28", byteOffset := 24 }])⟩ = .agg [.sl true [], .val (Value.bool false)] := by simp [zeroOf, ofVal, ofVal0, plain, AV.single]
theorem zk122 : zeroOK ⟨2, 32, (Value.agg #[(Value.slice none 0 0), (Value.bool false)]), (TypeDesc.struct #[{ name := "b", type := 22, offset := 0, embedded := false, tag := "", pkgPath := "proteus/proteusref28", byteOffset := 0 }, { name := "bad", type := 4, offset := 1, embedded := false, tag := "", pkgPath := "proteus/proteusref28", byteOffset := 24 }])⟩ = true := by simp [zeroOK, zo122, allOne, AV.cells, AV.single]
theorem fl122_0 : fldOf Try.prog 122 0 = some (0, ⟨1, 24, (Value.slice none 0 0), (TypeDesc.slice 5)⟩) := by kernel_rfl
theorem fl122_1 : fldOf Try.prog 122 1 = some (1, ⟨1, 1, (Value.bool false), TypeDesc.bool⟩) := by kernel_rfl
theorem bu122 (ps : List (Nat × AV)) (K : AV → Prop) : buildA Try.prog 122 ps K = (zeroOK ⟨2, 32, (Value.agg #[(Value.slice none 0 0), (Value.bool false)]), (TypeDesc.struct #[{ name := "b", type := 22, offset := 0, embedded := false, tag := "", pkgPath := "proteus/proteusref28", byteOffset := 0 }, { name := "bad", type := 4, offset := 1, embedded := false, tag := "", pkgPath := "proteus/proteusref28", byteOffset := 24 }])⟩ = true ∧ Ty.isAgg ⟨2, 32, (Value.agg #[(Value.slice none 0 0), (Value.bool false)]), (TypeDesc.struct #[{ name := "b", type := 22, offset := 0, embedded := false, tag := "", pkgPath := "proteus/proteusref28", byteOffset := 0 }, { name := "bad", type := 4, offset := 1, embedded := false, tag := "", pkgPath := "proteus/proteusref28", byteOffset := 24 }])⟩ = true ∧ fieldsKnown Try.prog 122 = true ∧ fillF Try.prog 122 (zeroOf ⟨2, 32, (Value.agg #[(Value.slice none 0 0), (Value.bool false)]), (TypeDesc.struct #[{ name := "b", type := 22, offset := 0, embedded := false, tag := "", pkgPath := "proteus/proteusref28", byteOffset := 0 }, { name := "bad", type := 4, offset := 1, embedded := false, tag := "", pkgPath := "proteus/proteusref28", byteOffset := 24 }])⟩).cells ps (fun cs => K (.agg cs))) := buildA_struct Try.underlying122 ty122 ps K
theorem fk122 : fieldsKnown Try.prog 122 = true := by kernel_rfl
theorem ty125 : tyOf Try.prog 125 = some ⟨1, 8, Value.nilFunc, (TypeDesc.func #[22, 3] #[4] false)⟩ := by kernel_rfl
theorem zo125 : zeroOf ⟨1, 8, Value.nilFunc, (TypeDesc.func #[22, 3] #[4] false)⟩ = .val Value.nilFunc := by simp [zeroOf, ofVal, ofVal0, plain, AV.single]
theorem zk125 : zeroOK ⟨1, 8, Value.nilFunc, (TypeDesc.func #[22, 3] #[4] false)⟩ = true := by simp [zeroOK, zo125, allOne, AV.cells, AV.single]
theorem ty126 : tyOf Try.prog 126 = some ⟨1, 8, Value.nilFunc, (TypeDesc.func #[5] #[4] false)⟩ := by kernel_rfl
theorem zo126 : zeroOf ⟨1, 8, Value.nilFunc, (TypeDesc.func #[5] #[4] false)⟩ = .val Value.nilFunc := by simp [zeroOf, ofVal, ofVal0, plain, AV.single]
theorem zk126 : zeroOK ⟨1, 8, Value.nilFunc, (TypeDesc.func #[5] #[4] false)⟩ = true := by simp [zeroOK, zo126, allOne, AV.cells, AV.single]
theorem ty130 : tyOf Try.prog 130 = some ⟨1, 0, (Value.tuple #[(Value.slice none 0 0), (Value.bool false)]), (TypeDesc.tuple #[29, 4])⟩ := by kernel_rfl
theorem ty132 : tyOf Try.prog 132 = some ⟨1, 0, (Value.tuple #[(Value.int IntKind.i64 0), (Value.int IntKind.i64 0)]), (TypeDesc.tuple #[3, 3])⟩ := by kernel_rfl
theorem mixed : Try.prog.follows .mixedOrders = true := by kernel_rfl
attribute [go_sem] ty0 ty1 zo1 zk1 ty2 zo2 zk2 ty3 zo3 zk3 ty4 zo4 zk4 ty5 zo5 zk5 ty6 zo6 zk6 ty7 zo7 zk7 fl7_0 fl7_1 fl7_2 fl7_3 fk7 ty9 zo9 zk9 ty20 zo20 zk20 ty22 zo22 zk22 el22 ty25 zo25 zk25 el25 ty26 ty29 zo29 zk29 el29 ty31 zo31 zk31 fl31_0 fl31_1 fk31 ty32 zo32 zk32 el32 ty35 zo35 zk35 ty36 ty39 zo39 zk39 fl39_0 fl39_1 fl39_2 fk39 ty43 ty45 ty47 ty50 ty54 zo54 zk54 el54 ty56 ty58 zo58 zk58 ty60 zo60 zk60 fl60_0 fl60_1 fl60_2 fl60_3 fl60_4 fl60_5 fk60 ty63 zo63 zk63 fl63_0 fl63_1 fl63_2 fl63_3 fk63 ty70 zo70 zk70 fl70_0 fl70_1 fl70_2 fk70 ty72 zo72 zk72 fl72_0 fl72_1 fl72_2 fk72 ty74 zo74 zk74 fl74_0 fl74_1 fl74_2 fl74_3 fk74 ty75 ty80 zo80 zk80 ty81 zo81 zk81 ty85 zo85 zk85 ty87 zo87 zk87 ty89 zo89 zk89 fl89_0 fl89_1 fl89_2 fk89 ty90 zo90 zk90 ty93 zo93 zk93 ty94 ty100 zo100 zk100 ty101 ty105 ty113 zo113 zk113 ty115 zo115 zk115 fk115 ty116 zo116 zk116 ty117 zo117 zk117 ty118 zo118 zk118 ty119 zo119 zk119 ty120 zo120 zk120 ty122 zo122 zk122 fl122_0 fl122_1 fk122 ty125 zo125 zk125 ty126 zo126 zk126 ty130 ty132 Try.results3 Try.results4 Try.results5 Try.results6 Try.results7 Try.results8 Try.results9 Try.results10 Try.results11 Try.results12 Try.results13 Try.results14 Try.results15 Try.results16 Try.results17 Try.results18 Try.results19 Try.results20 Try.results21 Try.results22 Try.results23 Try.results24 Try.results25 Try.results26 Try.results27 Try.results28 Try.results29 Try.results30 Try.results31 Try.results32 Try.results33 Try.results34 Try.results35 Try.results36 Try.results37 Try.results38 Try.results39 Try.results40 Try.results41 Try.results42 Try.results43 Try.results44 Try.results45 Try.results46 Try.results47 Try.results48 Try.results49 Try.results50 Try.results51 Try.results52 Try.results53 Try.results54 Try.results55 Try.results56 Try.results57 Try.results58 Try.results59 Try.results60 Try.results61 Try.results62 Try.results63 Try.results64 Try.results65 Try.results66 Try.results67 Try.results68 Try.results69 Try.results70 Try.results71 Try.results72 Try.results73 Try.results74 Try.results75 Try.results76 Try.results77 Try.results78 Try.results79 Try.results80 Try.results81 Try.results82 Try.results83 Try.results84 Try.results85 Try.results86 Try.results87 Try.results88 Try.results89 Try.results90 Try.results91 Try.results92 Try.results93 Try.results94 Try.results95 Try.results96 Try.results97 Try.results98 Try.results99 Try.results100 Try.results101 Try.results102 Try.results103 Try.results104 Try.results105 Try.results106 Try.results107 Try.results108 Try.results109
attribute [go_sem ↓] bu7 bu31 bu39 bu60 bu63 bu70 bu72 bu74 bu89 bu115 bu122
end Go.Proofs.Try

namespace Go.Proofs.Try
set_option linter.unusedSimpArgs false
open Go.PM

def digit (x : UInt8) : Bool := decide (16 ≤ x) && decide (x < 32)

theorem c99 (x : UInt8) : PureT Try.prog 99 [b8 x] (· = .val (.bool (digit x))) := by
  refine CallT.intro Try.func99 (by decide) rfl ?_
  simp -implicitDefEqProofs only [go_sem, ↓reduceIte, Nat.reduceLT, Nat.reduceEqDiff, Nat.reduceAdd, Nat.reduceSub, Nat.reduceBEq, reduceCtorEq, enterTm, Try.ntmps99, List.range'_succ, List.range'_zero, List.zip_cons_cons, List.zip_nil_left]
  refine CodeT.seqK fun K hK => CodeT.region ?_
  simp -implicitDefEqProofs only [go_sem, ↓reduceIte, Nat.reduceLT, Nat.reduceEqDiff, Nat.reduceAdd, Nat.reduceSub, Nat.reduceBEq, reduceCtorEq]
  repeat refine And.intro (by first | with_reducible rfl | assumption | omega | exact uni_bs _ | exact uni_bs [_] | exact uni_bs [_, _] | exact bs_byte _ | exact uni_bss _ | exact uni_bss [_] | exact Stable.refl _ | exact stable_last _ _ _ _ _ _ | trivial | rfl) ?_
  refine hK _ ?_; clear hK K
  cases hd : decide ((x.toNat : Int) ≥ 16)
  · refine CodeT.seqK fun K hK => CodeT.region ?_
    simp -implicitDefEqProofs only [go_sem, ↓reduceIte, Nat.reduceLT, Nat.reduceEqDiff, Nat.reduceAdd, Nat.reduceSub, Nat.reduceBEq, reduceCtorEq, hd]
    repeat refine And.intro (by first | with_reducible rfl | assumption | omega | exact uni_bs _ | exact uni_bs [_] | exact uni_bs [_, _] | exact bs_byte _ | exact uni_bss _ | exact uni_bss [_] | exact Stable.refl _ | exact stable_last _ _ _ _ _ _ | trivial | rfl) ?_
    refine hK _ ?_; clear hK K
    refine CodeT.ret ?_
    simp -implicitDefEqProofs only [go_sem, ↓reduceIte, Nat.reduceLT, Nat.reduceEqDiff, Nat.reduceAdd, Nat.reduceSub, Nat.reduceBEq, reduceCtorEq, Try.f99]
    refine ⟨rfl, _, rfl, ?_⟩
    rw [u8_16, u8_ge] at hd
    simp [digit, hd]
  · refine CodeT.seqK fun K hK => CodeT.region ?_
    simp -implicitDefEqProofs only [go_sem, ↓reduceIte, Nat.reduceLT, Nat.reduceEqDiff, Nat.reduceAdd, Nat.reduceSub, Nat.reduceBEq, reduceCtorEq, hd]
    repeat refine And.intro (by first | with_reducible rfl | assumption | omega | exact uni_bs _ | exact uni_bs [_] | exact uni_bs [_, _] | exact bs_byte _ | exact uni_bss _ | exact uni_bss [_] | exact Stable.refl _ | exact stable_last _ _ _ _ _ _ | trivial | rfl) ?_
    refine hK _ ?_; clear hK K
    refine CodeT.ret ?_
    simp -implicitDefEqProofs only [go_sem, ↓reduceIte, Nat.reduceLT, Nat.reduceEqDiff, Nat.reduceAdd, Nat.reduceSub, Nat.reduceBEq, reduceCtorEq, Try.f99]
    refine ⟨rfl, _, rfl, ?_⟩
    rw [u8_16, u8_ge] at hd
    rw [u8_32, u8_lt]
    simp [digit, hd]

theorem c50 (h : List Box) (l : List AV) : CallT Try.prog 50 [.sl false l] h (fun r h' => r = .ret (.fn 98 [.ptr h.length 0]) ∧ h' = h ++ [.cells [.sl false l]]) := by
  refine CallT.intro Try.func50 (by decide) rfl ?_
  simp -implicitDefEqProofs only [go_sem, ↓reduceIte, Nat.reduceLT, Nat.reduceEqDiff, Nat.reduceAdd, Nat.reduceSub, Nat.reduceBEq, reduceCtorEq, enterTm, Try.ntmps50, List.range'_succ, List.range'_zero, List.zip_cons_cons, List.zip_nil_left]
  refine CodeT.seqK fun K hK => CodeT.region ?_
  simp -implicitDefEqProofs only [go_sem, ↓reduceIte, Nat.reduceLT, Nat.reduceEqDiff, Nat.reduceAdd, Nat.reduceSub, Nat.reduceBEq, reduceCtorEq]
  repeat refine And.intro (by first | with_reducible rfl | assumption | omega | exact uni_bs _ | exact uni_bs [_] | exact uni_bs [_, _] | exact bs_byte _ | exact uni_bss _ | exact uni_bss [_] | exact Stable.refl _ | exact stable_last _ _ _ _ _ _ | trivial | rfl) ?_
  refine hK _ ?_; clear hK K
  refine CodeT.seqK fun K hK => CodeT.region ?_
  simp -implicitDefEqProofs only [go_sem, ↓reduceIte, Nat.reduceLT, Nat.reduceEqDiff, Nat.reduceAdd, Nat.reduceSub, Nat.reduceBEq, reduceCtorEq]
  repeat refine And.intro (by first | with_reducible rfl | assumption | omega | exact uni_bs _ | exact uni_bs [_] | exact uni_bs [_, _] | exact bs_byte _ | exact uni_bss _ | exact uni_bss [_] | exact Stable.refl _ | exact stable_last _ _ _ _ _ _ | trivial | rfl) ?_
  refine hK _ ?_; clear hK K
  refine CodeT.ret ?_
  simp -implicitDefEqProofs only [go_sem, ↓reduceIte, Nat.reduceLT, Nat.reduceEqDiff, Nat.reduceAdd, Nat.reduceSub, Nat.reduceBEq, reduceCtorEq, Try.f50]
end Go.Proofs.Try

namespace Go.Proofs.Try
set_option linter.unusedSimpArgs false
open Go.PM

def joinb (x y : UInt8) : UInt8 := 16 * (x - 16) + y - 16
def scan1 : List UInt8 → Option (List UInt8 × Nat)
  | [] => none
  | x :: r => if x = 255 then some ([], 1) else match r with
    | [] => none
    | y :: r' => if (digit x && digit y) = true then (scan1 r').map (fun p => (joinb x y :: p.1, p.2 + 2)) else none
def recs : Nat → List UInt8 → Nat → List (List UInt8 × Nat)
  | 0, _, _ => []
  | f + 1, l, at_ => match scan1 l with
    | none => []
    | some (p, m) => (p, at_ + m) :: recs f (l.drop m) (at_ + m)

theorem scan1_pos : ∀ {l : List UInt8} {p : List UInt8} {m : Nat}, scan1 l = some (p, m) → 1 ≤ m ∧ m ≤ l.length ∧ p.length * 2 + 1 = m
  | [], p, m, h => by simp [scan1] at h
  | [x], p, m, h => by
    simp only [scan1] at h
    split at h
    · simp at h; obtain ⟨rfl, rfl⟩ := h; simp
    · simp at h
  | x :: y :: r, p, m, h => by
    simp only [scan1] at h
    split at h
    · simp at h; obtain ⟨rfl, rfl⟩ := h; simp
    · split at h
      · rw [Option.map_eq_some_iff] at h
        obtain ⟨⟨p', m'⟩, h1, h2⟩ := h
        obtain ⟨k1, k2, k3⟩ := scan1_pos h1
        simp at h2
        obtain ⟨rfl, rfl⟩ := h2
        simp; omega
      · simp at h

theorem drop_cons {l : List UInt8} {i : Nat} (h : i < l.length) : l.drop i = l.getD i 0 :: l.drop (i + 1) := by
  rw [List.drop_eq_getElem_cons h]; simp [List.getD_eq_getElem?_getD, h]

theorem scan1_end {l : List UInt8} {i : Nat} (h : l.length ≤ i) : scan1 (l.drop i) = none := by rw [List.drop_eq_nil_of_le h]; rfl
theorem scan1_stop {l : List UInt8} {i : Nat} (h : i < l.length) (hx : l.getD i 0 = 255) : scan1 (l.drop i) = some ([], 1) := by rw [drop_cons h]; unfold scan1; simp only [if_pos hx]
theorem scan1_odd {l : List UInt8} {i : Nat} (h : i < l.length) (h2 : l.length ≤ i + 1) (hx : l.getD i 0 ≠ 255) : scan1 (l.drop i) = none := by
  rw [drop_cons h, List.drop_eq_nil_of_le h2]; simp only [scan1, if_neg hx]
theorem scan1_bad {l : List UInt8} {i : Nat} (h : i + 1 < l.length) (hx : l.getD i 0 ≠ 255) (hd : ¬ (digit (l.getD i 0) && digit (l.getD (i + 1) 0)) = true) : scan1 (l.drop i) = none := by
  rw [drop_cons (by omega), drop_cons h]; simp only [scan1, if_neg hx, if_neg hd]
theorem scan1_step {l : List UInt8} {i : Nat} (h : i + 1 < l.length) (hx : l.getD i 0 ≠ 255) (hd : (digit (l.getD i 0) && digit (l.getD (i + 1) 0)) = true) :
    scan1 (l.drop i) = (scan1 (l.drop (i + 2))).map (fun p => (joinb (l.getD i 0) (l.getD (i + 1) 0) :: p.1, p.2 + 2)) := by
  rw [drop_cons (by omega), drop_cons h]; simp only [scan1, if_neg hx, if_pos hd]

/-- What the loop over a record has so far. -/
def sofar (b : List UInt8) (at_ j : Nat) (r : List UInt8) : Prop :=
  r.length = j ∧ scan1 (b.drop at_) = (scan1 (b.drop (at_ + 2 * j))).map (fun p => (r ++ p.1, p.2 + 2 * j))

theorem sofar_0 (b : List UInt8) (at_ : Nat) : sofar b at_ 0 [] := by
  refine ⟨rfl, ?_⟩
  simp
theorem sofar_step {b : List UInt8} {at_ j : Nat} {r : List UInt8} (h : sofar b at_ j r) {i : Nat} (hi : i = at_ + 2 * j) (h1 : i + 1 < b.length) (hx : b.getD i 0 ≠ 255) (hd : (digit (b.getD i 0) && digit (b.getD (i + 1) 0)) = true) :
    sofar b at_ (j + 1) (r ++ [joinb (b.getD i 0) (b.getD (i + 1) 0)]) := by
  obtain ⟨h2, h3⟩ := h
  refine ⟨by simp [h2], ?_⟩
  rw [h3, ← hi, scan1_step h1 hx hd, show at_ + 2 * (j + 1) = i + 2 by omega]
  cases scan1 (b.drop (i + 2)) with
  | none => rfl
  | some p => simp; omega

theorem recs_len : ∀ (f : Nat) (l : List UInt8) (a : Nat), (recs f l a).length ≤ f := by
  intro f
  induction f with
  | zero => intro l a; simp [recs]
  | succ f ih =>
    intro l a
    simp only [recs]
    split
    · simp
    · simp; exact ih _ _

theorem keepsH_pre {n : Nat} : ∀ (h ext : List Box), (∀ b ∈ h, b.under n = true) → keepsH n (h ++ ext) h := by
  intro h
  induction h with
  | nil => intro ext _; exact keepsH_nil n ext ▸ trivial
  | cons b h ih => intro ext hu; exact ⟨.inr ⟨rfl, hu b List.mem_cons_self⟩, ih ext fun x hx => hu x (List.mem_cons_of_mem _ hx)⟩

theorem keepsH_refl {n : Nat} {h : List Box} (hu : ∀ b ∈ h, b.under n = true) : keepsH n h h := by
  have := keepsH_pre h [] hu
  rwa [List.append_nil] at this

theorem recs_end {b : List UInt8} {k at_ : Nat} (hk : k ≤ at_) (hat : at_ ≤ b.length) (hkn : k ≤ (recs (b.length + 1) b 0).length) (hrec : (recs (b.length + 1) b 0).drop k = recs (b.length + 1 - k) (b.drop at_) at_) (hs : scan1 (b.drop at_) = none) :
    k = (recs (b.length + 1) b 0).length := by
  generalize recs (b.length + 1) b 0 = R at *
  have : b.length + 1 - k = (b.length - k) + 1 := by omega
  rw [this] at hrec
  simp only [recs, hs] at hrec
  have := congrArg List.length hrec
  simp at this
  omega
theorem recs_next {b : List UInt8} {k at_ : Nat} {p : List UInt8} {m : Nat} (hk : k ≤ at_) (hat : at_ ≤ b.length) (hrec : (recs (b.length + 1) b 0).drop k = recs (b.length + 1 - k) (b.drop at_) at_) (hs : scan1 (b.drop at_) = some (p, m)) :
    (recs (b.length + 1) b 0)[k]? = some (p, at_ + m) ∧ (recs (b.length + 1) b 0).drop (k + 1) = recs (b.length + 1 - (k + 1)) (b.drop (at_ + m)) (at_ + m) := by
  generalize recs (b.length + 1) b 0 = R at *
  have : b.length + 1 - k = (b.length - k) + 1 := by omega
  rw [this] at hrec
  simp only [recs, hs] at hrec
  have h1 := congrArg (·[0]?) hrec
  have h2 := congrArg (List.drop 1) hrec
  simp only [List.getElem?_drop, Nat.add_zero, List.getElem?_cons_zero] at h1
  simp only [List.drop_drop, List.drop_succ_cons, List.drop_zero] at h2
  refine ⟨h1, ?_⟩
  rw [h2, show b.length + 1 - (k + 1) = b.length - k by omega]
theorem sofar_none {b : List UInt8} {at_ i j : Nat} {r : List UInt8} (h : sofar b at_ j r) (hij : i = at_ + 2 * j) (hs : scan1 (b.drop i) = none) : scan1 (b.drop at_) = none := by
  obtain ⟨_, h⟩ := h
  rw [h, ← hij, hs]; rfl
theorem sofar_some {b : List UInt8} {at_ i j : Nat} {r : List UInt8} (h : sofar b at_ j r) (hij : i = at_ + 2 * j) (hs : scan1 (b.drop i) = some ([], 1)) : scan1 (b.drop at_) = some (r, 2 * j + 1) := by
  obtain ⟨_, h⟩ := h
  rw [h, ← hij, hs]; simp; omega

set_option maxHeartbeats 4000000 in
theorem c98 (b : List UInt8) (l c : Nat) (hb : b.length ≤ 4000000) (J : Nat → List Box → Prop) (hc0 : List Box)
    (hJ : ∀ k hc, J k hc → hc.length = hc0.length ∧ hc[c]? = some (.cells [.sl false (bs b)]) ∧ allUnder hc) (hl : l < hc0.length)
    (hy : ∀ k hc p m, J k hc → (recs (b.length + 1) b 0)[k]? = some (p, m) → YieldT Try.prog l [.sl false (bs p), .val (.int .i64 (m : Nat))] hc (fun r h' => r = .ret (.val (.bool true)) ∧ J (k + 1) h'))
    (h0 : J 0 hc0) : CallT Try.prog 98 [.yld l, .ptr c 0] hc0 (fun r h' => (∃ x, r = .ret x) ∧ J (recs (b.length + 1) b 0).length h') := by
  refine CallT.less ?_
  refine CallT.intro Try.func98 (by decide) rfl ?_
  simp -implicitDefEqProofs only [go_sem, ↓reduceIte, Nat.reduceLT, Nat.reduceEqDiff, Nat.reduceAdd, Nat.reduceSub, Nat.reduceBEq, reduceCtorEq, enterTm, Try.ntmps98, List.range'_succ, List.range'_zero, List.zip_cons_cons, List.zip_nil_left]
  refine CodeT.scope ?_
  refine CodeT.seqK fun K hK => CodeT.region ?_
  simp -implicitDefEqProofs only [go_sem, ↓reduceIte, Nat.reduceLT, Nat.reduceEqDiff, Nat.reduceAdd, Nat.reduceSub, Nat.reduceBEq, reduceCtorEq]
  repeat refine And.intro (by first | with_reducible rfl | assumption | omega | exact uni_bs _ | exact uni_bs [_] | exact uni_bs [_, _] | exact bs_byte _ | exact uni_bss _ | exact uni_bss [_] | exact Stable.refl _ | exact stable_last _ _ _ _ _ _ | trivial | rfl) ?_
  refine hK _ ?_; clear hK K
  refine CodeT.seqK fun K hK => CodeT.label ?_
  simp -implicitDefEqProofs only [go_sem, ↓reduceIte, Nat.reduceLT, Nat.reduceEqDiff, Nat.reduceAdd, Nat.reduceSub, Nat.reduceBEq, reduceCtorEq]
  repeat refine And.intro (by first | with_reducible rfl | assumption | omega | exact uni_bs _ | exact uni_bs [_] | exact uni_bs [_, _] | exact bs_byte _ | exact uni_bss _ | exact uni_bss [_] | exact Stable.refl _ | exact stable_last _ _ _ _ _ _ | trivial | rfl) ?_
  refine hK _ ?_; clear hK K
  refine CodeT.block ?_
  refine CodeT.loop (fun n s => ∃ at_ k hc, J k hc ∧ at_ ≤ b.length ∧ k ≤ at_ ∧ k ≤ (recs (b.length + 1) b 0).length ∧ (recs (b.length + 1) b 0).drop k = recs (b.length + 1 - k) (b.drop at_) at_ ∧ n = b.length - at_ ∧
    s = ⟨⟨63, [(3, .val (.int .i64 (at_ : Nat))), (0, .yld l), (1, .ptr c 0)]⟩, hc, []⟩) (n := b.length) ?_ ?_
  · exact ⟨0, 0, hc0, h0, Nat.zero_le _, Nat.le_refl _, Nat.zero_le _, rfl, rfl, rfl⟩
  rintro n s ⟨at_, k, hc, hj, hat, hk, hkn, hrec, rfl, rfl⟩
  obtain ⟨hlen, hcell, hun⟩ := hJ k hc hj
  have hcl : c < hc.length := (List.getElem?_eq_some_iff.1 hcell).1
  have hll : l < hc.length := hlen ▸ hl
  refine CodeT.lessN (CodeT.block ?_)
  refine CodeT.seqK fun K hK => CodeT.region ?_
  simp -implicitDefEqProofs only [go_sem, ↓reduceIte, Nat.reduceLT, Nat.reduceEqDiff, Nat.reduceAdd, Nat.reduceSub, Nat.reduceBEq, reduceCtorEq]
  repeat refine And.intro (by first | with_reducible rfl | assumption | omega | exact uni_bs _ | exact uni_bs [_] | exact uni_bs [_, _] | exact bs_byte _ | exact uni_bss _ | exact uni_bss [_] | exact Stable.refl _ | exact stable_last _ _ _ _ _ _ | trivial | rfl) ?_
  refine hK _ ?_; clear hK K
  refine CodeT.seqK fun K hK => ?_
  refine CodeT.seqK fun K2 hK2 => CodeT.region ?_
  simp -implicitDefEqProofs only [go_sem, ↓reduceIte, Nat.reduceLT, Nat.reduceEqDiff, Nat.reduceAdd, Nat.reduceSub, Nat.reduceBEq, reduceCtorEq]
  repeat refine And.intro (by first | with_reducible rfl | assumption | omega | exact uni_bs _ | exact uni_bs [_] | exact uni_bs [_, _] | exact bs_byte _ | exact uni_bss _ | exact uni_bss [_] | exact Stable.refl _ | exact stable_last _ _ _ _ _ _ | trivial | rfl) ?_
  refine hK2 _ ?_; clear hK2 K2
  refine CodeT.promote 4 1 rfl (CodeT.block ?_)
  simp -implicitDefEqProofs only [go_sem, ↓reduceIte, Nat.reduceLT, Nat.reduceEqDiff, Nat.reduceAdd, Nat.reduceSub, Nat.reduceBEq, reduceCtorEq]
  refine CodeT.weak (s' := ⟨⟨63, [(5, .val (.int .i64 (at_ : Nat))), (4, .hsl hc.length 0 0 0), (3, .val (.int .i64 (at_ : Nat))), (0, .yld l), (1, .ptr c 0)]⟩, hc ++ [.row true 0 1 (bs [])], []⟩) ⟨rfl, ?_, keepsH_refl ?_, rfl, keepsD_nil _⟩ rfl ?_
  · simp [go_sem]; omega
  · intro x hx
    rcases List.mem_append.1 hx with hx | hx
    · exact under_mono (by simp) (hun x hx)
    · simp at hx; subst hx; rfl
  refine CodeT.loop (fun n s => ∃ i j r, sofar b at_ j r ∧ i = at_ + 2 * j ∧ i ≤ b.length ∧ n = b.length - i ∧
    s = ⟨⟨63, [(5, .val (.int .i64 (i : Nat))), (4, .hsl hc.length j 0 j), (3, .val (.int .i64 (at_ : Nat))), (0, .yld l), (1, .ptr c 0)]⟩, hc ++ [.row true j 1 (bs r)], []⟩) (n := b.length - at_) ?_ ?_
  · exact ⟨at_, 0, [], sofar_0 b at_, rfl, hat, rfl, rfl⟩
  rintro n s ⟨i, j, r, hsf, hij, hib, rfl, rfl⟩
  have hw1 : IntKind.i64.wrap ((i : Int) + 1) = ((i + 1 : Nat) : Int) := by rw [i64_in] <;> omega
  have hw2 : IntKind.i64.wrap ((i : Int) + 2) = ((i + 2 : Nat) : Int) := by rw [i64_in] <;> omega
  have hnone : scan1 (b.drop i) = none → k = (recs (b.length + 1) b 0).length := fun hs => recs_end hk hat hkn hrec (sofar_none hsf hij hs)
  refine CodeT.lessN ?_
  refine CodeT.seqK fun K2 hK2 => ?_
  refine CodeT.seqK fun K3 hK3 => CodeT.region ?_
  simp -implicitDefEqProofs only [go_sem, ↓reduceIte, Nat.reduceLT, Nat.reduceEqDiff, Nat.reduceAdd, Nat.reduceSub, Nat.reduceBEq, reduceCtorEq, get_pre hcell, bs_length]
  repeat refine And.intro (by first | with_reducible rfl | assumption | omega | exact uni_bs _ | exact uni_bs [_] | exact uni_bs [_, _] | exact bs_byte _ | exact uni_bss _ | exact uni_bss [_] | exact Stable.refl _ | exact stable_last _ _ _ _ _ _ | trivial | rfl) ?_
  refine hK3 _ ?_; clear hK3 K3
  refine CodeT.cond rfl (fun ht => CodeT.skip ?_) (fun hf => CodeT.exit ?_)
  · simp -implicitDefEqProofs only [go_sem, ↓reduceIte, Nat.reduceLT, Nat.reduceEqDiff, Nat.reduceAdd, Nat.reduceSub, Nat.reduceBEq, reduceCtorEq]
    repeat refine And.intro (by first | with_reducible rfl | assumption | omega | exact uni_bs _ | exact uni_bs [_] | exact uni_bs [_, _] | exact bs_byte _ | exact uni_bss _ | exact uni_bss [_] | exact Stable.refl _ | exact stable_last _ _ _ _ _ _ | trivial | rfl) ?_
    refine hK2 _ ?_; clear hK2 K2
    have hlt : i < b.length := by simp at ht; exact ht
    refine CodeT.seqK fun K2 hK2 => ?_
    refine CodeT.block ?_
    refine CodeT.seqK fun K3 hK3 => ?_
    refine CodeT.seqK fun K4 hK4 => CodeT.region ?_
    simp -implicitDefEqProofs only [go_sem, ↓reduceIte, Nat.reduceLT, Nat.reduceEqDiff, Nat.reduceAdd, Nat.reduceSub, Nat.reduceBEq, reduceCtorEq, get_pre hcell, bs_length, Int.toNat_natCast, bs_getD hlt]
    repeat refine And.intro (by first | with_reducible rfl | assumption | omega | exact uni_bs _ | exact uni_bs [_] | exact uni_bs [_, _] | exact bs_byte _ | exact uni_bss _ | exact uni_bss [_] | exact Stable.refl _ | exact stable_last _ _ _ _ _ _ | trivial | rfl) ?_
    refine hK4 _ ?_; clear hK4 K4
    refine CodeT.cond rfl (fun ht => ?_) (fun hf => CodeT.skip ?_)
    · have hx : b.getD i 0 = 255 := by rw [u8_255, u8_eq] at ht; simpa using ht
      obtain ⟨hget, hdrop⟩ := recs_next hk hat hrec (sofar_some hsf hij (scan1_stop hlt hx))
      have hai : at_ + (2 * j + 1) = i + 1 := by omega
      rw [hai] at hget hdrop
      refine CodeT.seqK fun K4 hK4 => CodeT.region ?_
      simp -implicitDefEqProofs only [go_sem, ↓reduceIte, Nat.reduceLT, Nat.reduceEqDiff, Nat.reduceAdd, Nat.reduceSub, Nat.reduceBEq, reduceCtorEq, hw1]
      repeat refine And.intro (by first | with_reducible rfl | assumption | omega | exact uni_bs _ | exact uni_bs [_] | exact uni_bs [_, _] | exact bs_byte _ | exact uni_bss _ | exact uni_bss [_] | exact Stable.refl _ | exact stable_last _ _ _ _ _ _ | trivial | rfl) ?_
      refine hK4 _ ?_; clear hK4 K4
      have htk : List.take j (bs r) = bs r := by rw [List.take_of_length_le (by rw [bs_length, hsf.1]; omega)]
      refine CodeT.freeze 4 ?_
      simp -implicitDefEqProofs only [go_sem, ↓reduceIte, Nat.reduceLT, Nat.reduceEqDiff, Nat.reduceAdd, Nat.reduceSub, Nat.reduceBEq, reduceCtorEq, push_get', push_set, htk]
      refine ⟨by rw [bs_length, hsf.1]; omega, ?_⟩
      refine CodeT.seqK fun K4 hK4 => ?_
      refine CodeT.seqK fun K5 hK5 => CodeT.region ?_
      simp -implicitDefEqProofs only [go_sem, ↓reduceIte, Nat.reduceLT, Nat.reduceEqDiff, Nat.reduceAdd, Nat.reduceSub, Nat.reduceBEq, reduceCtorEq]
      refine YieldT.mono (YieldT.pre [_] hun rfl (fun r h' hh => ((hJ _ _ hh.2).1).trans hlen.symm) (hy k hc r (i + 1) hj hget)) ?_
      rintro r' h'' ⟨hc', ⟨rfl, hj'⟩, rfl⟩
      obtain ⟨hlen', hcell', hun'⟩ := hJ _ _ hj'
      simp -implicitDefEqProofs only [go_sem, ↓reduceIte, Nat.reduceLT, Nat.reduceEqDiff, Nat.reduceAdd, Nat.reduceSub, Nat.reduceBEq, reduceCtorEq]
      repeat refine And.intro (by first | with_reducible rfl | assumption | omega | exact uni_bs _ | exact uni_bs [_] | exact uni_bs [_, _] | exact bs_byte _ | exact uni_bss _ | exact uni_bss [_] | exact Stable.refl _ | exact stable_last _ _ _ _ _ _ | trivial | rfl) ?_
      refine hK5 _ ?_; clear hK5 K5
      refine CodeT.cond rfl (fun ht => by cases ht) (fun hf => CodeT.skip ?_)
      simp -implicitDefEqProofs only [go_sem, ↓reduceIte, Nat.reduceLT, Nat.reduceEqDiff, Nat.reduceAdd, Nat.reduceSub, Nat.reduceBEq, reduceCtorEq]
      repeat refine And.intro (by first | with_reducible rfl | assumption | omega | exact uni_bs _ | exact uni_bs [_] | exact uni_bs [_, _] | exact bs_byte _ | exact uni_bss _ | exact uni_bss [_] | exact Stable.refl _ | exact stable_last _ _ _ _ _ _ | trivial | rfl) ?_
      refine hK4 _ ?_; clear hK4 K4
      refine CodeT.exit ?_
      simp -implicitDefEqProofs only [go_sem, ↓reduceIte, Nat.reduceLT, Nat.reduceEqDiff, Nat.reduceAdd, Nat.reduceSub, Nat.reduceBEq, reduceCtorEq]
      refine ⟨⟨⟨63, [(3, .val (.int .i64 ((i + 1 : Nat) : Int))), (0, .yld l), (1, .ptr c 0)]⟩, hc', []⟩, ⟨rfl, ?_, keepsH_pre _ _ hun', rfl, keepsD_nil _⟩, by rw [hlen, ← hlen']; exact Nat.le_refl _, b.length - (i + 1), by omega, i + 1, k + 1, hc', hj', by omega, by omega, (List.getElem?_eq_some_iff.1 hget).1, hdrop, rfl, rfl⟩
      have : hc'.length = hc.length := by rw [hlen', hlen]
      simp [go_sem]; omega
    · have hx : b.getD i 0 ≠ 255 := by rw [u8_255, u8_eq] at hf; simpa using hf
      simp -implicitDefEqProofs only [go_sem, ↓reduceIte, Nat.reduceLT, Nat.reduceEqDiff, Nat.reduceAdd, Nat.reduceSub, Nat.reduceBEq, reduceCtorEq]
      repeat refine And.intro (by first | with_reducible rfl | assumption | omega | exact uni_bs _ | exact uni_bs [_] | exact uni_bs [_, _] | exact bs_byte _ | exact uni_bss _ | exact uni_bss [_] | exact Stable.refl _ | exact stable_last _ _ _ _ _ _ | trivial | rfl) ?_
      refine hK3 _ ?_; clear hK3 K3
      refine CodeT.seqK fun K3 hK3 => ?_
      cases hc1 : decide (((i + 1 : Nat) : Int) ≥ (b.length : Int))
      · have hlt1 : i + 1 < b.length := by simp at hc1; omega
        cases hd0 : digit (b.getD i 0)
        · refine CodeT.seqK fun K4 hK4 => CodeT.region ?_
          simp -implicitDefEqProofs only [go_sem, ↓reduceIte, Nat.reduceLT, Nat.reduceEqDiff, Nat.reduceAdd, Nat.reduceSub, Nat.reduceBEq, reduceCtorEq, get_pre hcell, bs_length, Int.toNat_natCast, bs_getD hlt, bs_getD hlt1, hw1, hc1]
          repeat refine And.intro (by first | with_reducible rfl | assumption | omega | exact uni_bs _ | exact uni_bs [_] | exact uni_bs [_, _] | exact bs_byte _ | exact uni_bss _ | exact uni_bss [_] | exact Stable.refl _ | exact stable_last _ _ _ _ _ _ | trivial | rfl) ?_
          refine PureT.go (c99 _) rfl fun x hx => ?_
          subst hx
          simp -implicitDefEqProofs only [go_sem, ↓reduceIte, Nat.reduceLT, Nat.reduceEqDiff, Nat.reduceAdd, Nat.reduceSub, Nat.reduceBEq, reduceCtorEq, hd0]
          repeat refine And.intro (by first | with_reducible rfl | assumption | omega | exact uni_bs _ | exact uni_bs [_] | exact uni_bs [_, _] | exact bs_byte _ | exact uni_bss _ | exact uni_bss [_] | exact Stable.refl _ | exact stable_last _ _ _ _ _ _ | trivial | rfl) ?_
          refine hK4 _ ?_; clear hK4 K4
          refine CodeT.cond rfl (fun ht => CodeT.exit ?_) (fun hf => by cases hf)
          simp -implicitDefEqProofs only [go_sem, ↓reduceIte, Nat.reduceLT, Nat.reduceEqDiff, Nat.reduceAdd, Nat.reduceSub, Nat.reduceBEq, reduceCtorEq, Try.f98]
          exact ⟨hc, keepsH_pre _ _ hun, by rw [hlen]; exact Nat.le_refl _, rfl, ⟨_, rfl⟩, hnone (scan1_bad hlt1 hx (by rw [hd0]; simp)) ▸ hj⟩
        · cases hd1 : digit (b.getD (i + 1) 0)
          · refine CodeT.seqK fun K4 hK4 => CodeT.region ?_
            simp -implicitDefEqProofs only [go_sem, ↓reduceIte, Nat.reduceLT, Nat.reduceEqDiff, Nat.reduceAdd, Nat.reduceSub, Nat.reduceBEq, reduceCtorEq, get_pre hcell, bs_length, Int.toNat_natCast, bs_getD hlt, bs_getD hlt1, hw1, hc1]
            repeat refine And.intro (by first | with_reducible rfl | assumption | omega | exact uni_bs _ | exact uni_bs [_] | exact uni_bs [_, _] | exact bs_byte _ | exact uni_bss _ | exact uni_bss [_] | exact Stable.refl _ | exact stable_last _ _ _ _ _ _ | trivial | rfl) ?_
            refine PureT.go (c99 _) rfl fun x hx => ?_
            subst hx
            simp -implicitDefEqProofs only [go_sem, ↓reduceIte, Nat.reduceLT, Nat.reduceEqDiff, Nat.reduceAdd, Nat.reduceSub, Nat.reduceBEq, reduceCtorEq, hd0, get_pre hcell, bs_length, Int.toNat_natCast, bs_getD hlt, bs_getD hlt1, hw1, hc1]
            repeat refine And.intro (by first | with_reducible rfl | assumption | omega | exact uni_bs _ | exact uni_bs [_] | exact uni_bs [_, _] | exact bs_byte _ | exact uni_bss _ | exact uni_bss [_] | exact Stable.refl _ | exact stable_last _ _ _ _ _ _ | trivial | rfl) ?_
            refine PureT.go (c99 _) rfl fun x hx => ?_
            subst hx
            simp -implicitDefEqProofs only [go_sem, ↓reduceIte, Nat.reduceLT, Nat.reduceEqDiff, Nat.reduceAdd, Nat.reduceSub, Nat.reduceBEq, reduceCtorEq, hd1]
            repeat refine And.intro (by first | with_reducible rfl | assumption | omega | exact uni_bs _ | exact uni_bs [_] | exact uni_bs [_, _] | exact bs_byte _ | exact uni_bss _ | exact uni_bss [_] | exact Stable.refl _ | exact stable_last _ _ _ _ _ _ | trivial | rfl) ?_
            refine hK4 _ ?_; clear hK4 K4
            refine CodeT.cond rfl (fun ht => CodeT.exit ?_) (fun hf => by cases hf)
            simp -implicitDefEqProofs only [go_sem, ↓reduceIte, Nat.reduceLT, Nat.reduceEqDiff, Nat.reduceAdd, Nat.reduceSub, Nat.reduceBEq, reduceCtorEq, Try.f98]
            exact ⟨hc, keepsH_pre _ _ hun, by rw [hlen]; exact Nat.le_refl _, rfl, ⟨_, rfl⟩, hnone (scan1_bad hlt1 hx (by rw [hd1]; simp)) ▸ hj⟩
          · refine CodeT.seqK fun K4 hK4 => CodeT.region ?_
            simp -implicitDefEqProofs only [go_sem, ↓reduceIte, Nat.reduceLT, Nat.reduceEqDiff, Nat.reduceAdd, Nat.reduceSub, Nat.reduceBEq, reduceCtorEq, get_pre hcell, bs_length, Int.toNat_natCast, bs_getD hlt, bs_getD hlt1, hw1, hc1]
            repeat refine And.intro (by first | with_reducible rfl | assumption | omega | exact uni_bs _ | exact uni_bs [_] | exact uni_bs [_, _] | exact bs_byte _ | exact uni_bss _ | exact uni_bss [_] | exact Stable.refl _ | exact stable_last _ _ _ _ _ _ | trivial | rfl) ?_
            refine PureT.go (c99 _) rfl fun x hx => ?_
            subst hx
            simp -implicitDefEqProofs only [go_sem, ↓reduceIte, Nat.reduceLT, Nat.reduceEqDiff, Nat.reduceAdd, Nat.reduceSub, Nat.reduceBEq, reduceCtorEq, hd0, get_pre hcell, bs_length, Int.toNat_natCast, bs_getD hlt, bs_getD hlt1, hw1, hc1]
            repeat refine And.intro (by first | with_reducible rfl | assumption | omega | exact uni_bs _ | exact uni_bs [_] | exact uni_bs [_, _] | exact bs_byte _ | exact uni_bss _ | exact uni_bss [_] | exact Stable.refl _ | exact stable_last _ _ _ _ _ _ | trivial | rfl) ?_
            refine PureT.go (c99 _) rfl fun x hx => ?_
            subst hx
            simp -implicitDefEqProofs only [go_sem, ↓reduceIte, Nat.reduceLT, Nat.reduceEqDiff, Nat.reduceAdd, Nat.reduceSub, Nat.reduceBEq, reduceCtorEq, hd1]
            repeat refine And.intro (by first | with_reducible rfl | assumption | omega | exact uni_bs _ | exact uni_bs [_] | exact uni_bs [_, _] | exact bs_byte _ | exact uni_bss _ | exact uni_bss [_] | exact Stable.refl _ | exact stable_last _ _ _ _ _ _ | trivial | rfl) ?_
            refine hK4 _ ?_; clear hK4 K4
            refine CodeT.cond rfl (fun ht => by cases ht) (fun hf => CodeT.skip ?_)
            simp -implicitDefEqProofs only [go_sem, ↓reduceIte, Nat.reduceLT, Nat.reduceEqDiff, Nat.reduceAdd, Nat.reduceSub, Nat.reduceBEq, reduceCtorEq]
            repeat refine And.intro (by first | with_reducible rfl | assumption | omega | exact uni_bs _ | exact uni_bs [_] | exact uni_bs [_, _] | exact bs_byte _ | exact uni_bss _ | exact uni_bss [_] | exact Stable.refl _ | exact stable_last _ _ _ _ _ _ | trivial | rfl) ?_
            refine hK3 _ ?_; clear hK3 K3
            refine CodeT.drawnL [(0, .free), (1, .read), (2, .free), (3, .read), (4, .read), (5, .free), (6, .free), (7, .read), (8, .free), (9, .free), (10, .read), (11, .read), (12, .free), (13, .free), (14, .upd), (15, .upd), (16, .free)] mixed (by kernel_rfl) ?_
            simp -implicitDefEqProofs only [go_sem, ↓reduceIte, Nat.reduceLT, Nat.reduceEqDiff, Nat.reduceAdd, Nat.reduceSub, Nat.reduceBEq, reduceCtorEq, get_pre hcell, bs_length, Int.toNat_natCast, bs_getD hlt, bs_getD hlt1, hw1, push_get', push_set]
            have hrl := hsf.1
            repeat refine And.intro (by first | with_reducible rfl | assumption | omega | exact uni_bs _ | exact uni_bs [_] | exact uni_bs [_, _] | exact bs_byte _ | exact uni_bss _ | exact uni_bss [_] | exact Stable.refl _ | exact stable_last _ _ _ _ _ _ | trivial | rfl) ?_
            simp -implicitDefEqProofs only [joined, bs_snoc]
            repeat refine And.intro (by first | with_reducible rfl | assumption | omega | exact uni_bs _ | exact uni_bs [_] | exact uni_bs [_, _] | exact bs_byte _ | exact uni_bss _ | exact uni_bss [_] | exact Stable.refl _ | exact stable_last _ _ _ _ _ _ | trivial | rfl) ?_
            refine hK2 _ ?_; clear hK2 K2
            refine CodeT.region ?_
            simp -implicitDefEqProofs only [go_sem, ↓reduceIte, Nat.reduceLT, Nat.reduceEqDiff, Nat.reduceAdd, Nat.reduceSub, Nat.reduceBEq, reduceCtorEq, hw2]
            repeat refine And.intro (by first | with_reducible rfl | assumption | omega | exact uni_bs _ | exact uni_bs [_] | exact uni_bs [_, _] | exact bs_byte _ | exact uni_bss _ | exact uni_bss [_] | exact Stable.refl _ | exact stable_last _ _ _ _ _ _ | trivial | rfl) ?_
            refine ⟨⟨⟨63, [(5, .val (.int .i64 ((i + 2 : Nat) : Int))), (4, .hsl hc.length (j + 1) 0 (j + 1)), (3, .val (.int .i64 (at_ : Nat))), (0, .yld l), (1, .ptr c 0)]⟩, hc ++ [.row true (j + 1) 1 (bs (r ++ [joinb (b.getD i 0) (b.getD (i + 1) 0)]))], []⟩, ⟨rfl, ?_, keepsH_refl ?_, rfl, keepsD_nil _⟩, by simp, b.length - (i + 2), by omega, i + 2, j + 1, _, sofar_step hsf hij hlt1 hx (by rw [hd0, hd1]; rfl), by omega, by omega, rfl, rfl⟩
            · simp [go_sem, hrl]; omega
            · intro x hx
              rcases List.mem_append.1 hx with hx | hx
              · exact under_mono (by simp) (hun x hx)
              · simp at hx; subst hx; rfl
      · refine CodeT.seqK fun K4 hK4 => CodeT.region ?_
        simp -implicitDefEqProofs only [go_sem, ↓reduceIte, Nat.reduceLT, Nat.reduceEqDiff, Nat.reduceAdd, Nat.reduceSub, Nat.reduceBEq, reduceCtorEq, get_pre hcell, bs_length, hw1, hc1]
        repeat refine And.intro (by first | with_reducible rfl | assumption | omega | exact uni_bs _ | exact uni_bs [_] | exact uni_bs [_, _] | exact bs_byte _ | exact uni_bss _ | exact uni_bss [_] | exact Stable.refl _ | exact stable_last _ _ _ _ _ _ | trivial | rfl) ?_
        refine hK4 _ ?_; clear hK4 K4
        refine CodeT.cond rfl (fun ht => CodeT.exit ?_) (fun hf => by cases hf)
        simp -implicitDefEqProofs only [go_sem, ↓reduceIte, Nat.reduceLT, Nat.reduceEqDiff, Nat.reduceAdd, Nat.reduceSub, Nat.reduceBEq, reduceCtorEq, Try.f98]
        exact ⟨hc, keepsH_pre _ _ hun, by rw [hlen]; exact Nat.le_refl _, rfl, ⟨_, rfl⟩, hnone (scan1_odd hlt (by simp at hc1; omega) hx) ▸ hj⟩
  · simp -implicitDefEqProofs only [go_sem, ↓reduceIte, Nat.reduceLT, Nat.reduceEqDiff, Nat.reduceAdd, Nat.reduceSub, Nat.reduceBEq, reduceCtorEq]
    clear hK2 K2
    repeat refine And.intro (by first | with_reducible rfl | assumption | omega | exact uni_bs _ | exact uni_bs [_] | exact uni_bs [_, _] | exact bs_byte _ | exact uni_bss _ | exact uni_bss [_] | exact Stable.refl _ | exact stable_last _ _ _ _ _ _ | trivial | rfl) ?_
    refine hK _ ?_; clear hK K
    refine CodeT.exit ?_
    simp -implicitDefEqProofs only [go_sem, ↓reduceIte, Nat.reduceLT, Nat.reduceEqDiff, Nat.reduceAdd, Nat.reduceSub, Nat.reduceBEq, reduceCtorEq, Try.f98]
    exact ⟨hc, keepsH_pre _ _ hun, by rw [hlen]; exact Nat.le_refl _, rfl, ⟨_, rfl⟩, hnone (scan1_end (by simp at hf; omega)) ▸ hj⟩
end Go.Proofs.Try

namespace Go.Proofs.Try
set_option linter.unusedSimpArgs false
open Go.PM

def parseAll (b : List UInt8) : List (List UInt8 × Nat) := recs (b.length + 1) b 0
def parseR (b : List UInt8) : List (List UInt8) := (parseAll b).map (·.1)
def endAt (l : List (List UInt8 × Nat)) : Nat := (l.getLast?.map (·.2)).getD 0
def parseE (b : List UInt8) : Nat := endAt (parseAll b)

theorem seq98 (b : List UInt8) (c : Nat) (hb : b.length ≤ 4000000) : SeqT Try.prog 98 [.ptr c 0] (fun hc => hc[c]? = some (.cells [.sl false (bs b)])) ((parseAll b).map fun p => [.sl false (bs p.1), .val (.int .i64 (p.2 : Nat))]) := by
  intro l J hc0 hJ hl hy h0
  rw [List.length_map]
  refine c98 b l c hb J hc0 hJ hl (fun k hc p m hj hk => hy k hc _ hj ?_) h0
  rw [List.getElem?_map, show (parseAll b)[k]? = some (p, m) from hk]
  rfl

theorem parse_take {b : List UInt8} {k : Nat} {p : List UInt8} {m : Nat} (h : (parseAll b)[k]? = some (p, m)) :
    (parseR b).take (k + 1) = (parseR b).take k ++ [p] ∧ endAt ((parseAll b).take (k + 1)) = m ∧ k < (parseAll b).length := by
  refine ⟨?_, ?_, (List.getElem?_eq_some_iff.1 h).1⟩
  · rw [List.take_add_one, parseR, List.getElem?_map, h]; rfl
  · rw [List.take_add_one, h]; simp [endAt]
theorem parse_len (b : List UInt8) : (parseAll b).length ≤ b.length + 1 := recs_len _ _ _
theorem parseR_len (b : List UInt8) : (parseR b).length = (parseAll b).length := by simp [parseR]

theorem c14 (b : List UInt8) (hb : b.length ≤ 4000000) : PureT Try.prog 14 [.sl false (bs b)] (· = .tup [.sl false (bss (parseR b)), .val (.int .i64 (parseE b : Nat))]) := by
  refine CallT.res ?_
  refine CallT.intro Try.func14 (by decide) rfl ?_
  simp -implicitDefEqProofs only [go_sem, ↓reduceIte, Nat.reduceLT, Nat.reduceEqDiff, Nat.reduceAdd, Nat.reduceSub, Nat.reduceBEq, reduceCtorEq, enterTm, Try.ntmps14, List.range'_succ, List.range'_zero, List.zip_cons_cons, List.zip_nil_left]
  refine CodeT.seqK fun K hK => CodeT.region ?_
  simp -implicitDefEqProofs only [go_sem, ↓reduceIte, Nat.reduceLT, Nat.reduceEqDiff, Nat.reduceAdd, Nat.reduceSub, Nat.reduceBEq, reduceCtorEq]
  repeat refine And.intro (by first | with_reducible rfl | assumption | omega | exact uni_bs _ | exact uni_bs [_] | exact uni_bs [_, _] | exact bs_byte _ | exact uni_bss _ | exact uni_bss [_] | exact Stable.refl _ | exact stable_last _ _ _ _ _ _ | trivial | rfl) ?_
  refine hK _ ?_; clear hK K
  refine CodeT.seqK fun K hK => CodeT.region ?_
  simp -implicitDefEqProofs only [go_sem, ↓reduceIte, Nat.reduceLT, Nat.reduceEqDiff, Nat.reduceAdd, Nat.reduceSub, Nat.reduceBEq, reduceCtorEq]
  repeat refine And.intro (by first | with_reducible rfl | assumption | omega | exact uni_bs _ | exact uni_bs [_] | exact uni_bs [_, _] | exact bs_byte _ | exact uni_bss _ | exact uni_bss [_] | exact Stable.refl _ | exact stable_last _ _ _ _ _ _ | trivial | rfl) ?_
  refine hK _ ?_; clear hK K
  refine CodeT.seqK fun K hK => CodeT.region ?_
  simp -implicitDefEqProofs only [go_sem, ↓reduceIte, Nat.reduceLT, Nat.reduceEqDiff, Nat.reduceAdd, Nat.reduceSub, Nat.reduceBEq, reduceCtorEq]
  repeat refine And.intro (by first | with_reducible rfl | assumption | omega | exact uni_bs _ | exact uni_bs [_] | exact uni_bs [_, _] | exact bs_byte _ | exact uni_bss _ | exact uni_bss [_] | exact Stable.refl _ | exact stable_last _ _ _ _ _ _ | trivial | rfl) ?_
  refine hK _ ?_; clear hK K
  refine CodeT.promoteBox 0 0 1 rfl rfl ?_
  refine CodeT.seqK fun K hK => CodeT.seqK fun K1 hK1 => CodeT.region ?_
  simp -implicitDefEqProofs only [go_sem, ↓reduceIte, Nat.reduceLT, Nat.reduceEqDiff, Nat.reduceAdd, Nat.reduceSub, Nat.reduceBEq, reduceCtorEq]
  refine (c50 _ _).mono ?_
  rintro r h' ⟨rfl, rfl⟩
  simp -implicitDefEqProofs only [go_sem, ↓reduceIte, Nat.reduceLT, Nat.reduceEqDiff, Nat.reduceAdd, Nat.reduceSub, Nat.reduceBEq, reduceCtorEq]
  repeat refine And.intro (by first | with_reducible rfl | assumption | omega | exact uni_bs _ | exact uni_bs [_] | exact uni_bs [_, _] | exact bs_byte _ | exact uni_bss _ | exact uni_bss [_] | exact Stable.refl _ | exact stable_last _ _ _ _ _ _ | trivial | rfl) ?_
  refine hK1 _ ?_; clear hK1 K1
  refine CodeT.block ?_
  refine CodeT.rangeAll rfl (seq98 b 3 hb) (fun k => [.cells [.hsl 2 k 0 k], .cells [.val (.int .i64 (endAt ((parseAll b).take k) : Nat))], .row true k 1 (bss ((parseR b).take k)), .cells [.sl false (bs b)]]) rfl (fun _ => rfl) (fun _ _ => rfl) (fun k x hx => ?_) rfl (fun args ha => ?_) (fun k args fn hk => ?_) (fun fn => ?_)
  · simp at hx
    rcases hx with rfl | rfl | rfl | rfl <;> rfl
  · obtain ⟨p, _, rfl⟩ := List.mem_map.1 ha
    rfl
  · rw [List.getElem?_map, Option.map_eq_some_iff] at hk
    obtain ⟨⟨p, m⟩, hk, rfl⟩ := hk
    simp -implicitDefEqProofs only [go_sem, ↓reduceIte, Nat.reduceLT, Nat.reduceEqDiff, Nat.reduceAdd, Nat.reduceSub, Nat.reduceBEq, reduceCtorEq]
    refine CodeT.seqK fun K hK => CodeT.region ?_
    simp -implicitDefEqProofs only [go_sem, ↓reduceIte, Nat.reduceLT, Nat.reduceEqDiff, Nat.reduceAdd, Nat.reduceSub, Nat.reduceBEq, reduceCtorEq]
    repeat refine And.intro (by first | with_reducible rfl | assumption | omega | exact uni_bs _ | exact uni_bs [_] | exact uni_bs [_, _] | exact bs_byte _ | exact uni_bss _ | exact uni_bss [_] | exact Stable.refl _ | exact stable_last _ _ _ _ _ _ | trivial | rfl) ?_
    refine hK _ ?_; clear hK K
    refine CodeT.region ?_
    simp -implicitDefEqProofs only [go_sem, ↓reduceIte, Nat.reduceLT, Nat.reduceEqDiff, Nat.reduceAdd, Nat.reduceSub, Nat.reduceBEq, reduceCtorEq]
    repeat refine And.intro (by first | with_reducible rfl | assumption | omega | exact uni_bs _ | exact uni_bs [_] | exact uni_bs [_, _] | exact bs_byte _ | exact uni_bss _ | exact uni_bss [_] | exact Stable.refl _ | exact stable_last _ _ _ _ _ _ | trivial | rfl) ?_
    obtain ⟨h1, h2, h3⟩ := parse_take hk
    have h4 := parse_len b
    refine CodeT.block ?_
    refine CodeT.seqK fun K hK => CodeT.region ?_
    simp -implicitDefEqProofs only [go_sem, ↓reduceIte, Nat.reduceLT, Nat.reduceEqDiff, Nat.reduceAdd, Nat.reduceSub, Nat.reduceBEq, reduceCtorEq, bss_length, List.length_take, parseR_len, Nat.min_eq_left (Nat.le_of_lt h3), bss_snoc, ← h1]
    repeat refine And.intro (by first | with_reducible rfl | assumption | omega | exact uni_bs _ | exact uni_bs [_] | exact uni_bs [_, _] | exact bs_byte _ | exact uni_bss _ | exact uni_bss [_] | exact Stable.refl _ | exact stable_last _ _ _ _ _ _ | trivial | rfl) ?_
    refine hK _ ?_; clear hK K
    refine CodeT.region ?_
    simp -implicitDefEqProofs only [go_sem, ↓reduceIte, Nat.reduceLT, Nat.reduceEqDiff, Nat.reduceAdd, Nat.reduceSub, Nat.reduceBEq, reduceCtorEq, h2]
    repeat refine And.intro (by first | with_reducible rfl | assumption | omega | exact uni_bs _ | exact uni_bs [_] | exact uni_bs [_, _] | exact bs_byte _ | exact uni_bss _ | exact uni_bss [_] | exact Stable.refl _ | exact stable_last _ _ _ _ _ _ | trivial | rfl) ?_
    exact Nat.le_refl _
  · simp -implicitDefEqProofs only [go_sem, ↓reduceIte, Nat.reduceLT, Nat.reduceEqDiff, Nat.reduceAdd, Nat.reduceSub, Nat.reduceBEq, reduceCtorEq, List.length_map]
    repeat refine And.intro (by first | with_reducible rfl | assumption | omega | exact uni_bs _ | exact uni_bs [_] | exact uni_bs [_, _] | exact bs_byte _ | exact uni_bss _ | exact uni_bss [_] | exact Stable.refl _ | exact stable_last _ _ _ _ _ _ | trivial | rfl) ?_
    refine hK _ ?_; clear hK K
    refine CodeT.seqK fun K hK => CodeT.drawnL [(0, .read), (1, .read), (2, .free), (3, .free)] mixed (by kernel_rfl) ?_
    simp -implicitDefEqProofs only [go_sem, ↓reduceIte, Nat.reduceLT, Nat.reduceEqDiff, Nat.reduceAdd, Nat.reduceSub, Nat.reduceBEq, reduceCtorEq]
    repeat refine And.intro (by first | with_reducible rfl | assumption | omega | exact uni_bs _ | exact uni_bs [_] | exact uni_bs [_, _] | exact bs_byte _ | exact uni_bss _ | exact uni_bss [_] | exact Stable.refl _ | exact stable_last _ _ _ _ _ _ | trivial | rfl) ?_
    refine hK _ ?_; clear hK K
    refine CodeT.ret ?_
    simp -implicitDefEqProofs only [go_sem, ↓reduceIte, Nat.reduceLT, Nat.reduceEqDiff, Nat.reduceAdd, Nat.reduceSub, Nat.reduceBEq, reduceCtorEq, Try.f14, List.take_length, bss_length, parseR_len]
    have h5 : List.take (parseAll b).length (parseR b) = parseR b := List.take_of_length_le (by rw [parseR_len]; exact Nat.le_refl _)
    rw [h5]
    refine ⟨by rw [parseR_len]; exact Nat.le_refl _, rfl, _, rfl, ?_⟩
    rw [List.take_of_length_le (by rw [bss_length, parseR_len]; exact Nat.le_refl _)]
    rfl
end Go.Proofs.Try

namespace Go.Proofs.Try
set_option linter.unusedSimpArgs false
open Go.PM

structure DOp where
  flush : Bool
  at_ : Int
  bytes : List UInt8
structure Dsk where
  bytes : List UInt8
  queue : List DOp
def opv (o : DOp) : AV := .agg [.val (.bool o.flush), .val (.int .i64 o.at_), .sl false (bs o.bytes)]
def opvs (l : List DOp) : List AV := l.map opv
def dkv (d : Dsk) : AV := .agg [.sl false (bs d.bytes), .sl false (opvs d.queue)]
def kpv (d : Dsk) (seen : List UInt8) (half : Int) : AV := .cptr [.sl false (bs d.bytes), .sl false (opvs d.queue), .sl false (bs seen), .val (.int .i64 half)]

theorem half_len {n : Nat} (h : n ≤ 4000000) : IntKind.i64.wrap ((n : Int).tdiv 2) = ((n / 2 : Nat) : Int) := by
  have : (n : Int).tdiv 2 = ((n / 2 : Nat) : Int) := (Int.ofNat_tdiv n 2).symm
  rw [this, i64_in] <;> omega

theorem c66 (d : Dsk) (seen : List UInt8) (half : Int) (hd : d.bytes.length ≤ 4000000) : PureT Try.prog 66 [kpv d seen half] (· = .val (.int .i64 ((d.bytes.length / 2 : Nat) : Int))) := by
  unfold kpv
  refine CallT.intro Try.func66 (by decide) rfl ?_
  simp -implicitDefEqProofs only [go_sem, ↓reduceIte, Nat.reduceLT, Nat.reduceEqDiff, Nat.reduceAdd, Nat.reduceSub, Nat.reduceBEq, reduceCtorEq, enterTm, Try.ntmps66, List.range'_succ, List.range'_zero, List.zip_cons_cons, List.zip_nil_left]
  refine CodeT.seqK fun K hK => CodeT.region ?_
  simp -implicitDefEqProofs only [go_sem, ↓reduceIte, Nat.reduceLT, Nat.reduceEqDiff, Nat.reduceAdd, Nat.reduceSub, Nat.reduceBEq, reduceCtorEq]
  repeat refine And.intro (by first | with_reducible rfl | assumption | omega | exact uni_bs _ | exact uni_bs [_] | exact uni_bs [_, _] | exact bs_byte _ | exact uni_bss _ | exact uni_bss [_] | exact Stable.refl _ | exact stable_last _ _ _ _ _ _ | trivial | rfl) ?_
  refine hK _ ?_; clear hK K
  refine CodeT.seqK fun K hK => CodeT.region ?_
  simp -implicitDefEqProofs only [go_sem, ↓reduceIte, Nat.reduceLT, Nat.reduceEqDiff, Nat.reduceAdd, Nat.reduceSub, Nat.reduceBEq, reduceCtorEq, bs_length, half_len hd]
  repeat refine And.intro (by first | with_reducible rfl | assumption | omega | exact uni_bs _ | exact uni_bs [_] | exact uni_bs [_, _] | exact bs_byte _ | exact uni_bss _ | exact uni_bss [_] | exact Stable.refl _ | exact stable_last _ _ _ _ _ _ | trivial | rfl) ?_
  refine hK _ ?_; clear hK K
  refine CodeT.ret ?_
  simp -implicitDefEqProofs only [go_sem, ↓reduceIte, Nat.reduceLT, Nat.reduceEqDiff, Nat.reduceAdd, Nat.reduceSub, Nat.reduceBEq, reduceCtorEq, Try.f66]
  exact ⟨rfl, _, rfl, rfl⟩

theorem c106 (x : UInt8) : PureT Try.prog 106 [b8 x] (· = .val (.bool (x != 0))) := by
  refine CallT.intro Try.func106 (by decide) rfl ?_
  simp -implicitDefEqProofs only [go_sem, ↓reduceIte, Nat.reduceLT, Nat.reduceEqDiff, Nat.reduceAdd, Nat.reduceSub, Nat.reduceBEq, reduceCtorEq, enterTm, Try.ntmps106, List.range'_succ, List.range'_zero, List.zip_cons_cons, List.zip_nil_left]
  refine CodeT.seqK fun K hK => CodeT.region ?_
  simp -implicitDefEqProofs only [go_sem, ↓reduceIte, Nat.reduceLT, Nat.reduceEqDiff, Nat.reduceAdd, Nat.reduceSub, Nat.reduceBEq, reduceCtorEq]
  repeat refine And.intro (by first | with_reducible rfl | assumption | omega | exact uni_bs _ | exact uni_bs [_] | exact uni_bs [_, _] | exact bs_byte _ | exact uni_bss _ | exact uni_bss [_] | exact Stable.refl _ | exact stable_last _ _ _ _ _ _ | trivial | rfl) ?_
  refine hK _ ?_; clear hK K
  refine CodeT.seqK fun K hK => CodeT.region ?_
  simp -implicitDefEqProofs only [go_sem, ↓reduceIte, Nat.reduceLT, Nat.reduceEqDiff, Nat.reduceAdd, Nat.reduceSub, Nat.reduceBEq, reduceCtorEq]
  repeat refine And.intro (by first | with_reducible rfl | assumption | omega | exact uni_bs _ | exact uni_bs [_] | exact uni_bs [_, _] | exact bs_byte _ | exact uni_bss _ | exact uni_bss [_] | exact Stable.refl _ | exact stable_last _ _ _ _ _ _ | trivial | rfl) ?_
  refine hK _ ?_; clear hK K
  refine CodeT.ret ?_
  simp -implicitDefEqProofs only [go_sem, ↓reduceIte, Nat.reduceLT, Nat.reduceEqDiff, Nat.reduceAdd, Nat.reduceSub, Nat.reduceBEq, reduceCtorEq, Try.f106]
  refine ⟨rfl, _, rfl, ?_⟩
  rw [u8_0, u8_ne]

def idxOf (p : UInt8 → Bool) (l : List UInt8) : Int := match l.findIdx? p with
  | some i => (i : Int)
  | none => -1

theorem idx_here {p : UInt8 → Bool} {l : List UInt8} {i : Nat} (hi : i < l.length) (hn : ∀ j, j < i → p (l.getD j 0) = false) (hp : p (l.getD i 0) = true) : idxOf p l = i := by
  have : l.findIdx? p = some i := by
    rw [List.findIdx?_eq_some_iff_getElem]
    refine ⟨hi, ?_, fun j hj => ?_⟩
    · simpa [List.getD_eq_getElem?_getD, hi] using hp
    · have := hn j hj
      have hj' : j < l.length := by omega
      simpa [List.getD_eq_getElem?_getD, hj'] using this
  simp [idxOf, this]
theorem idx_none {p : UInt8 → Bool} {l : List UInt8} (hn : ∀ j, j < l.length → p (l.getD j 0) = false) : idxOf p l = -1 := by
  have : l.findIdx? p = none := by
    rw [List.findIdx?_eq_none_iff]
    intro x hx
    obtain ⟨j, hj, rfl⟩ := List.mem_iff_getElem.1 hx
    have := hn j hj
    simpa [List.getD_eq_getElem?_getD, hj] using this
  simp [idxOf, this]

theorem c109 (l : List UInt8) (f : FuncId) (p : UInt8 → Bool) (hf : ∀ x, PureT Try.prog f [b8 x] (· = .val (.bool (p x)))) (hl : l.length ≤ 4000000) : PureT Try.prog 109 [.sl false (bs l), .fn f []] (· = .val (.int .i64 (idxOf p l))) := by
  refine CallT.intro Try.func109 (by decide) rfl ?_
  simp -implicitDefEqProofs only [go_sem, ↓reduceIte, Nat.reduceLT, Nat.reduceEqDiff, Nat.reduceAdd, Nat.reduceSub, Nat.reduceBEq, reduceCtorEq, enterTm, Try.ntmps109, List.range'_succ, List.range'_zero, List.zip_cons_cons, List.zip_nil_left]
  refine CodeT.seqK fun K hK => CodeT.region ?_
  simp -implicitDefEqProofs only [go_sem, ↓reduceIte, Nat.reduceLT, Nat.reduceEqDiff, Nat.reduceAdd, Nat.reduceSub, Nat.reduceBEq, reduceCtorEq]
  repeat refine And.intro (by first | with_reducible rfl | assumption | omega | exact uni_bs _ | exact uni_bs [_] | exact uni_bs [_, _] | exact bs_byte _ | exact uni_bss _ | exact uni_bss [_] | exact Stable.refl _ | exact stable_last _ _ _ _ _ _ | trivial | rfl) ?_
  refine hK _ ?_; clear hK K
  refine CodeT.seqK fun K hK => ?_
  refine CodeT.seqK fun K2 hK2 => CodeT.region ?_
  simp -implicitDefEqProofs only [go_sem, ↓reduceIte, Nat.reduceLT, Nat.reduceEqDiff, Nat.reduceAdd, Nat.reduceSub, Nat.reduceBEq, reduceCtorEq, bs_length]
  repeat refine And.intro (by first | with_reducible rfl | assumption | omega | exact uni_bs _ | exact uni_bs [_] | exact uni_bs [_, _] | exact bs_byte _ | exact uni_bss _ | exact uni_bss [_] | exact Stable.refl _ | exact stable_last _ _ _ _ _ _ | trivial | rfl) ?_
  refine hK2 _ ?_; clear hK2 K2
  refine CodeT.block ?_
  refine CodeT.weak (s' := ⟨⟨19, [(8, .val (.int .i64 0)), (7, .val (.int .i64 (l.length : Nat))), (0, .sl false (bs l)), (1, .fn f [])]⟩, [], []⟩) ⟨rfl, by simp [go_sem], trivial, rfl, keepsD_nil _⟩ rfl ?_
  refine CodeT.loop (fun n s => ∃ i, i ≤ l.length ∧ (∀ j, j < i → p (l.getD j 0) = false) ∧ n = l.length - i ∧ s = ⟨⟨19, [(8, .val (.int .i64 (i : Nat))), (7, .val (.int .i64 (l.length : Nat))), (0, .sl false (bs l)), (1, .fn f [])]⟩, [], []⟩) (n := l.length) ?_ ?_
  · exact ⟨0, Nat.zero_le _, fun j hj => absurd hj (Nat.not_lt_zero _), rfl, rfl⟩
  rintro n s ⟨i, hi, hn, rfl, rfl⟩
  refine CodeT.lessN ?_
  refine CodeT.seqK fun K2 hK2 => CodeT.region ?_
  simp -implicitDefEqProofs only [go_sem, ↓reduceIte, Nat.reduceLT, Nat.reduceEqDiff, Nat.reduceAdd, Nat.reduceSub, Nat.reduceBEq, reduceCtorEq]
  repeat refine And.intro (by first | with_reducible rfl | assumption | omega | exact uni_bs _ | exact uni_bs [_] | exact uni_bs [_, _] | exact bs_byte _ | exact uni_bss _ | exact uni_bss [_] | exact Stable.refl _ | exact stable_last _ _ _ _ _ _ | trivial | rfl) ?_
  refine hK2 _ ?_; clear hK2 K2
  refine CodeT.seqK fun K2 hK2 => CodeT.cond rfl (fun ht => CodeT.skip ?_) (fun hf' => CodeT.exit ?_)
  · simp -implicitDefEqProofs only [go_sem, ↓reduceIte, Nat.reduceLT, Nat.reduceEqDiff, Nat.reduceAdd, Nat.reduceSub, Nat.reduceBEq, reduceCtorEq]
    repeat refine And.intro (by first | with_reducible rfl | assumption | omega | exact uni_bs _ | exact uni_bs [_] | exact uni_bs [_, _] | exact bs_byte _ | exact uni_bss _ | exact uni_bss [_] | exact Stable.refl _ | exact stable_last _ _ _ _ _ _ | trivial | rfl) ?_
    refine hK2 _ ?_; clear hK2 K2
    have hlt : i < l.length := by simp at ht; exact ht
    have hw1 : IntKind.i64.wrap ((i : Int) + 1) = ((i + 1 : Nat) : Int) := by rw [i64_in] <;> omega
    refine CodeT.seqK fun K2 hK2 => ?_
    refine CodeT.block ?_
    refine CodeT.seqK fun K3 hK3 => CodeT.region ?_
    simp -implicitDefEqProofs only [go_sem, ↓reduceIte, Nat.reduceLT, Nat.reduceEqDiff, Nat.reduceAdd, Nat.reduceSub, Nat.reduceBEq, reduceCtorEq]
    repeat refine And.intro (by first | with_reducible rfl | assumption | omega | exact uni_bs _ | exact uni_bs [_] | exact uni_bs [_, _] | exact bs_byte _ | exact uni_bss _ | exact uni_bss [_] | exact Stable.refl _ | exact stable_last _ _ _ _ _ _ | trivial | rfl) ?_
    refine hK3 _ ?_; clear hK3 K3
    refine CodeT.seqK fun K3 hK3 => ?_
    refine CodeT.region ?_
    simp -implicitDefEqProofs only [go_sem, ↓reduceIte, Nat.reduceLT, Nat.reduceEqDiff, Nat.reduceAdd, Nat.reduceSub, Nat.reduceBEq, reduceCtorEq, Int.toNat_natCast, bs_getD hlt, bs_length]
    repeat refine And.intro (by first | with_reducible rfl | assumption | omega | exact uni_bs _ | exact uni_bs [_] | exact uni_bs [_, _] | exact bs_byte _ | exact uni_bss _ | exact uni_bss [_] | exact Stable.refl _ | exact stable_last _ _ _ _ _ _ | trivial | rfl) ?_
    refine PureT.go (hf _) rfl fun x hx => ?_
    subst hx
    simp -implicitDefEqProofs only [go_sem, ↓reduceIte, Nat.reduceLT, Nat.reduceEqDiff, Nat.reduceAdd, Nat.reduceSub, Nat.reduceBEq, reduceCtorEq]
    repeat refine And.intro (by first | with_reducible rfl | assumption | omega | exact uni_bs _ | exact uni_bs [_] | exact uni_bs [_, _] | exact bs_byte _ | exact uni_bss _ | exact uni_bss [_] | exact Stable.refl _ | exact stable_last _ _ _ _ _ _ | trivial | rfl) ?_
    refine hK3 _ ?_; clear hK3 K3
    cases hpx : p (l.getD i 0)
    · refine CodeT.cond rfl (fun ht => by cases ht) (fun hf' => CodeT.skip ?_)
      simp -implicitDefEqProofs only [go_sem, ↓reduceIte, Nat.reduceLT, Nat.reduceEqDiff, Nat.reduceAdd, Nat.reduceSub, Nat.reduceBEq, reduceCtorEq]
      repeat refine And.intro (by first | with_reducible rfl | assumption | omega | exact uni_bs _ | exact uni_bs [_] | exact uni_bs [_, _] | exact bs_byte _ | exact uni_bss _ | exact uni_bss [_] | exact Stable.refl _ | exact stable_last _ _ _ _ _ _ | trivial | rfl) ?_
      refine hK2 _ ?_; clear hK2 K2
      refine CodeT.region ?_
      simp -implicitDefEqProofs only [go_sem, ↓reduceIte, Nat.reduceLT, Nat.reduceEqDiff, Nat.reduceAdd, Nat.reduceSub, Nat.reduceBEq, reduceCtorEq, hw1]
      repeat refine And.intro (by first | with_reducible rfl | assumption | omega | exact uni_bs _ | exact uni_bs [_] | exact uni_bs [_, _] | exact bs_byte _ | exact uni_bss _ | exact uni_bss [_] | exact Stable.refl _ | exact stable_last _ _ _ _ _ _ | trivial | rfl) ?_
      refine ⟨⟨⟨19, [(8, .val (.int .i64 ((i + 1 : Nat) : Int))), (7, .val (.int .i64 (l.length : Nat))), (0, .sl false (bs l)), (1, .fn f [])]⟩, [], []⟩, ⟨rfl, ?_, trivial, rfl, keepsD_nil _⟩, Nat.le_refl _, l.length - (i + 1), by omega, i + 1, hlt, fun j hj => ?_, rfl, rfl⟩
      · simp [go_sem]
      · rcases Nat.lt_or_eq_of_le (Nat.le_of_lt_succ hj) with h | h
        · exact hn j h
        · rw [h]; exact hpx
    · refine CodeT.cond rfl (fun ht => ?_) (fun hf' => by cases hf')
      refine CodeT.seqK fun K4 hK4 => CodeT.region ?_
      simp -implicitDefEqProofs only [go_sem, ↓reduceIte, Nat.reduceLT, Nat.reduceEqDiff, Nat.reduceAdd, Nat.reduceSub, Nat.reduceBEq, reduceCtorEq]
      repeat refine And.intro (by first | with_reducible rfl | assumption | omega | exact uni_bs _ | exact uni_bs [_] | exact uni_bs [_, _] | exact bs_byte _ | exact uni_bss _ | exact uni_bss [_] | exact Stable.refl _ | exact stable_last _ _ _ _ _ _ | trivial | rfl) ?_
      refine hK4 _ ?_; clear hK4 K4
      refine CodeT.ret ?_
      simp -implicitDefEqProofs only [go_sem, ↓reduceIte, Nat.reduceLT, Nat.reduceEqDiff, Nat.reduceAdd, Nat.reduceSub, Nat.reduceBEq, reduceCtorEq, Try.f109]
      refine ⟨rfl, _, rfl, ?_⟩
      rw [idx_here hlt hn hpx]
  · simp -implicitDefEqProofs only [go_sem, ↓reduceIte, Nat.reduceLT, Nat.reduceEqDiff, Nat.reduceAdd, Nat.reduceSub, Nat.reduceBEq, reduceCtorEq]
    clear hK2 K2
    repeat refine And.intro (by first | with_reducible rfl | assumption | omega | exact uni_bs _ | exact uni_bs [_] | exact uni_bs [_, _] | exact bs_byte _ | exact uni_bss _ | exact uni_bss [_] | exact Stable.refl _ | exact stable_last _ _ _ _ _ _ | trivial | rfl) ?_
    refine hK _ ?_; clear hK K
    refine CodeT.seqK fun K hK => CodeT.region ?_
    simp -implicitDefEqProofs only [go_sem, ↓reduceIte, Nat.reduceLT, Nat.reduceEqDiff, Nat.reduceAdd, Nat.reduceSub, Nat.reduceBEq, reduceCtorEq]
    repeat refine And.intro (by first | with_reducible rfl | assumption | omega | exact uni_bs _ | exact uni_bs [_] | exact uni_bs [_, _] | exact bs_byte _ | exact uni_bss _ | exact uni_bss [_] | exact Stable.refl _ | exact stable_last _ _ _ _ _ _ | trivial | rfl) ?_
    refine hK _ ?_; clear hK K
    refine CodeT.ret ?_
    simp -implicitDefEqProofs only [go_sem, ↓reduceIte, Nat.reduceLT, Nat.reduceEqDiff, Nat.reduceAdd, Nat.reduceSub, Nat.reduceBEq, reduceCtorEq, Try.f109]
    refine ⟨rfl, _, rfl, ?_⟩
    have hil : i = l.length := by simp at hf'; omega
    subst hil
    rw [idx_none hn]

def anyB (p : UInt8 → Bool) (l : List UInt8) : Bool := l.any p

end Go.Proofs.Try

namespace Go.Proofs.Try
set_option linter.unusedSimpArgs false
open Go.PM

theorem idx_ge (p : UInt8 → Bool) (l : List UInt8) : decide (idxOf p l ≥ 0) = l.any p := by
  unfold idxOf
  cases h : l.findIdx? p with
  | none =>
    rw [List.findIdx?_eq_none_iff] at h
    have : l.any p = false := by rw [List.any_eq_false]; intro x hx; rw [h x hx]; simp
    rw [this]; rfl
  | some i =>
    have hi := List.findIdx?_eq_some_iff_getElem.1 h
    obtain ⟨h1, h2, _⟩ := hi
    have : l.any p = true := by rw [List.any_eq_true]; exact ⟨l[i], List.getElem_mem h1, h2⟩
    rw [this]; simp

theorem c105 (l : List UInt8) (f : FuncId) (p : UInt8 → Bool) (hf : ∀ x, PureT Try.prog f [b8 x] (· = .val (.bool (p x)))) (hl : l.length ≤ 4000000) : PureT Try.prog 105 [.sl false (bs l), .fn f []] (· = .val (.bool (l.any p))) := by
  refine CallT.intro Try.func105 (by decide) rfl ?_
  simp -implicitDefEqProofs only [go_sem, ↓reduceIte, Nat.reduceLT, Nat.reduceEqDiff, Nat.reduceAdd, Nat.reduceSub, Nat.reduceBEq, reduceCtorEq, enterTm, Try.ntmps105, List.range'_succ, List.range'_zero, List.zip_cons_cons, List.zip_nil_left]
  refine CodeT.seqK fun K hK => CodeT.region ?_
  simp -implicitDefEqProofs only [go_sem, ↓reduceIte, Nat.reduceLT, Nat.reduceEqDiff, Nat.reduceAdd, Nat.reduceSub, Nat.reduceBEq, reduceCtorEq]
  repeat refine And.intro (by first | with_reducible rfl | assumption | omega | exact uni_bs _ | exact uni_bs [_] | exact uni_bs [_, _] | exact bs_byte _ | exact uni_bss _ | exact uni_bss [_] | exact Stable.refl _ | exact stable_last _ _ _ _ _ _ | trivial | rfl) ?_
  refine hK _ ?_; clear hK K
  refine CodeT.seqK fun K hK => CodeT.region ?_
  simp -implicitDefEqProofs only [go_sem, ↓reduceIte, Nat.reduceLT, Nat.reduceEqDiff, Nat.reduceAdd, Nat.reduceSub, Nat.reduceBEq, reduceCtorEq]
  repeat refine And.intro (by first | with_reducible rfl | assumption | omega | exact uni_bs _ | exact uni_bs [_] | exact uni_bs [_, _] | exact bs_byte _ | exact uni_bss _ | exact uni_bss [_] | exact Stable.refl _ | exact stable_last _ _ _ _ _ _ | trivial | rfl) ?_
  refine PureT.go (c109 l f p hf hl) rfl fun x hx => ?_
  subst hx
  simp -implicitDefEqProofs only [go_sem, ↓reduceIte, Nat.reduceLT, Nat.reduceEqDiff, Nat.reduceAdd, Nat.reduceSub, Nat.reduceBEq, reduceCtorEq, idx_ge]
  repeat refine And.intro (by first | with_reducible rfl | assumption | omega | exact uni_bs _ | exact uni_bs [_] | exact uni_bs [_, _] | exact bs_byte _ | exact uni_bss _ | exact uni_bss [_] | exact Stable.refl _ | exact stable_last _ _ _ _ _ _ | trivial | rfl) ?_
  refine hK _ ?_; clear hK K
  refine CodeT.ret ?_
  simp -implicitDefEqProofs only [go_sem, ↓reduceIte, Nat.reduceLT, Nat.reduceEqDiff, Nat.reduceAdd, Nat.reduceSub, Nat.reduceBEq, reduceCtorEq, Try.f105]
  exact ⟨rfl, _, rfl, rfl⟩

def zerosB (l : List UInt8) : Bool := !l.any (· != 0)
theorem c63 (l : List UInt8) (hl : l.length ≤ 4000000) : PureT Try.prog 63 [.sl false (bs l)] (· = .val (.bool (zerosB l))) := by
  refine CallT.intro Try.func63 (by decide) rfl ?_
  simp -implicitDefEqProofs only [go_sem, ↓reduceIte, Nat.reduceLT, Nat.reduceEqDiff, Nat.reduceAdd, Nat.reduceSub, Nat.reduceBEq, reduceCtorEq, enterTm, Try.ntmps63, List.range'_succ, List.range'_zero, List.zip_cons_cons, List.zip_nil_left]
  refine CodeT.seqK fun K hK => CodeT.region ?_
  simp -implicitDefEqProofs only [go_sem, ↓reduceIte, Nat.reduceLT, Nat.reduceEqDiff, Nat.reduceAdd, Nat.reduceSub, Nat.reduceBEq, reduceCtorEq]
  repeat refine And.intro (by first | with_reducible rfl | assumption | omega | exact uni_bs _ | exact uni_bs [_] | exact uni_bs [_, _] | exact bs_byte _ | exact uni_bss _ | exact uni_bss [_] | exact Stable.refl _ | exact stable_last _ _ _ _ _ _ | trivial | rfl) ?_
  refine hK _ ?_; clear hK K
  refine CodeT.seqK fun K hK => CodeT.region ?_
  simp -implicitDefEqProofs only [go_sem, ↓reduceIte, Nat.reduceLT, Nat.reduceEqDiff, Nat.reduceAdd, Nat.reduceSub, Nat.reduceBEq, reduceCtorEq]
  repeat refine And.intro (by first | with_reducible rfl | assumption | omega | exact uni_bs _ | exact uni_bs [_] | exact uni_bs [_, _] | exact bs_byte _ | exact uni_bss _ | exact uni_bss [_] | exact Stable.refl _ | exact stable_last _ _ _ _ _ _ | trivial | rfl) ?_
  refine PureT.go (c105 l 106 _ c106 hl) rfl fun x hx => ?_
  subst hx
  simp -implicitDefEqProofs only [go_sem, ↓reduceIte, Nat.reduceLT, Nat.reduceEqDiff, Nat.reduceAdd, Nat.reduceSub, Nat.reduceBEq, reduceCtorEq]
  repeat refine And.intro (by first | with_reducible rfl | assumption | omega | exact uni_bs _ | exact uni_bs [_] | exact uni_bs [_, _] | exact bs_byte _ | exact uni_bss _ | exact uni_bss [_] | exact Stable.refl _ | exact stable_last _ _ _ _ _ _ | trivial | rfl) ?_
  refine hK _ ?_; clear hK K
  refine CodeT.ret ?_
  simp -implicitDefEqProofs only [go_sem, ↓reduceIte, Nat.reduceLT, Nat.reduceEqDiff, Nat.reduceAdd, Nat.reduceSub, Nat.reduceBEq, reduceCtorEq, Try.f63]
  exact ⟨rfl, _, rfl, rfl⟩

def halfAt (b : List UInt8) : Nat := if b.getD 0 0 = 0 then 1 else 1 + b.length / 2
theorem c103 (b : List UInt8) (h0 : 0 < b.length) (hb : b.length ≤ 4000000) : PureT Try.prog 103 [.sl false (bs b)] (· = .val (.int .i64 (halfAt b : Nat))) := by
  refine CallT.intro Try.func103 (by decide) rfl ?_
  simp -implicitDefEqProofs only [go_sem, ↓reduceIte, Nat.reduceLT, Nat.reduceEqDiff, Nat.reduceAdd, Nat.reduceSub, Nat.reduceBEq, reduceCtorEq, enterTm, Try.ntmps103, List.range'_succ, List.range'_zero, List.zip_cons_cons, List.zip_nil_left]
  refine CodeT.seqK fun K hK => CodeT.region ?_
  simp -implicitDefEqProofs only [go_sem, ↓reduceIte, Nat.reduceLT, Nat.reduceEqDiff, Nat.reduceAdd, Nat.reduceSub, Nat.reduceBEq, reduceCtorEq]
  repeat refine And.intro (by first | with_reducible rfl | assumption | omega | exact uni_bs _ | exact uni_bs [_] | exact uni_bs [_, _] | exact bs_byte _ | exact uni_bss _ | exact uni_bss [_] | exact Stable.refl _ | exact stable_last _ _ _ _ _ _ | trivial | rfl) ?_
  refine hK _ ?_; clear hK K
  refine CodeT.seqK fun K hK => ?_
  refine CodeT.seqK fun K1 hK1 => CodeT.region ?_
  simp -implicitDefEqProofs only [go_sem, ↓reduceIte, Nat.reduceLT, Nat.reduceEqDiff, Nat.reduceAdd, Nat.reduceSub, Nat.reduceBEq, reduceCtorEq, bs_getD h0, bs_length]
  repeat refine And.intro (by first | with_reducible rfl | assumption | omega | exact uni_bs _ | exact uni_bs [_] | exact uni_bs [_, _] | exact bs_byte _ | exact uni_bss _ | exact uni_bss [_] | exact Stable.refl _ | exact stable_last _ _ _ _ _ _ | trivial | rfl) ?_
  refine hK1 _ ?_; clear hK1 K1
  refine CodeT.cond rfl (fun ht => ?_) (fun hf => CodeT.skip ?_)
  · have hx : b.getD 0 0 = 0 := by rw [u8_0, u8_eq] at ht; simpa using ht
    refine CodeT.seqK fun K1 hK1 => CodeT.region ?_
    simp -implicitDefEqProofs only [go_sem, ↓reduceIte, Nat.reduceLT, Nat.reduceEqDiff, Nat.reduceAdd, Nat.reduceSub, Nat.reduceBEq, reduceCtorEq]
    repeat refine And.intro (by first | with_reducible rfl | assumption | omega | exact uni_bs _ | exact uni_bs [_] | exact uni_bs [_, _] | exact bs_byte _ | exact uni_bss _ | exact uni_bss [_] | exact Stable.refl _ | exact stable_last _ _ _ _ _ _ | trivial | rfl) ?_
    refine hK1 _ ?_; clear hK1 K1
    refine CodeT.ret ?_
    simp -implicitDefEqProofs only [go_sem, ↓reduceIte, Nat.reduceLT, Nat.reduceEqDiff, Nat.reduceAdd, Nat.reduceSub, Nat.reduceBEq, reduceCtorEq, Try.f103]
    refine ⟨rfl, _, rfl, ?_⟩
    rw [halfAt, if_pos hx]; rfl
  · have hx : ¬ b.getD 0 0 = 0 := by rw [u8_0, u8_eq] at hf; simpa using hf
    simp -implicitDefEqProofs only [go_sem, ↓reduceIte, Nat.reduceLT, Nat.reduceEqDiff, Nat.reduceAdd, Nat.reduceSub, Nat.reduceBEq, reduceCtorEq]
    repeat refine And.intro (by first | with_reducible rfl | assumption | omega | exact uni_bs _ | exact uni_bs [_] | exact uni_bs [_, _] | exact bs_byte _ | exact uni_bss _ | exact uni_bss [_] | exact Stable.refl _ | exact stable_last _ _ _ _ _ _ | trivial | rfl) ?_
    refine hK _ ?_; clear hK K
    have hw : IntKind.i64.wrap (1 + ((b.length / 2 : Nat) : Int)) = ((1 + b.length / 2 : Nat) : Int) := by rw [i64_in] <;> omega
    refine CodeT.seqK fun K hK => CodeT.region ?_
    simp -implicitDefEqProofs only [go_sem, ↓reduceIte, Nat.reduceLT, Nat.reduceEqDiff, Nat.reduceAdd, Nat.reduceSub, Nat.reduceBEq, reduceCtorEq, bs_length, half_len hb, hw]
    repeat refine And.intro (by first | with_reducible rfl | assumption | omega | exact uni_bs _ | exact uni_bs [_] | exact uni_bs [_, _] | exact bs_byte _ | exact uni_bss _ | exact uni_bss [_] | exact Stable.refl _ | exact stable_last _ _ _ _ _ _ | trivial | rfl) ?_
    refine hK _ ?_; clear hK K
    refine CodeT.ret ?_
    simp -implicitDefEqProofs only [go_sem, ↓reduceIte, Nat.reduceLT, Nat.reduceEqDiff, Nat.reduceAdd, Nat.reduceSub, Nat.reduceBEq, reduceCtorEq, Try.f103]
    refine ⟨rfl, _, rfl, ?_⟩
    rw [halfAt, if_neg hx]

theorem c104 (d : Dsk) (seen : List UInt8) (half : Int) (b : List UInt8) (h : Nat) (hd : d.bytes.length ≤ 4000000) (hb : b.length ≤ 4000000) (hh : h + d.bytes.length / 2 ≤ b.length) :
    PureT Try.prog 104 [kpv d seen half, .sl false (bs b), .val (.int .i64 (h : Nat))] (· = .sl false (bs ((b.drop h).take (d.bytes.length / 2)))) := by
  have hw : IntKind.i64.wrap ((h : Int) + ((d.bytes.length / 2 : Nat) : Int)) = ((h + d.bytes.length / 2 : Nat) : Int) := by rw [i64_in] <;> omega
  refine CallT.intro Try.func104 (by decide) rfl ?_
  simp -implicitDefEqProofs only [go_sem, ↓reduceIte, Nat.reduceLT, Nat.reduceEqDiff, Nat.reduceAdd, Nat.reduceSub, Nat.reduceBEq, reduceCtorEq, enterTm, Try.ntmps104, List.range'_succ, List.range'_zero, List.zip_cons_cons, List.zip_nil_left]
  refine CodeT.seqK fun K hK => CodeT.region ?_
  simp -implicitDefEqProofs only [go_sem, ↓reduceIte, Nat.reduceLT, Nat.reduceEqDiff, Nat.reduceAdd, Nat.reduceSub, Nat.reduceBEq, reduceCtorEq]
  repeat refine And.intro (by first | with_reducible rfl | assumption | omega | exact uni_bs _ | exact uni_bs [_] | exact uni_bs [_, _] | exact bs_byte _ | exact uni_bss _ | exact uni_bss [_] | exact Stable.refl _ | exact stable_last _ _ _ _ _ _ | trivial | rfl) ?_
  refine hK _ ?_; clear hK K
  refine CodeT.seqK fun K hK => CodeT.region ?_
  simp -implicitDefEqProofs only [go_sem, ↓reduceIte, Nat.reduceLT, Nat.reduceEqDiff, Nat.reduceAdd, Nat.reduceSub, Nat.reduceBEq, reduceCtorEq]
  repeat refine And.intro (by first | with_reducible rfl | assumption | omega | exact uni_bs _ | exact uni_bs [_] | exact uni_bs [_, _] | exact bs_byte _ | exact uni_bss _ | exact uni_bss [_] | exact Stable.refl _ | exact stable_last _ _ _ _ _ _ | trivial | rfl) ?_
  refine PureT.go (c66 d seen half hd) rfl fun x hx => ?_
  subst hx
  simp -implicitDefEqProofs only [go_sem, ↓reduceIte, Nat.reduceLT, Nat.reduceEqDiff, Nat.reduceAdd, Nat.reduceSub, Nat.reduceBEq, reduceCtorEq, bs_length, hw, bs_take, bs_drop]
  repeat refine And.intro (by first | with_reducible rfl | assumption | omega | exact uni_bs _ | exact uni_bs [_] | exact uni_bs [_, _] | exact bs_byte _ | exact uni_bss _ | exact uni_bss [_] | exact Stable.refl _ | exact stable_last _ _ _ _ _ _ | trivial | rfl) ?_
  refine hK _ ?_; clear hK K
  refine CodeT.ret ?_
  simp -implicitDefEqProofs only [go_sem, ↓reduceIte, Nat.reduceLT, Nat.reduceEqDiff, Nat.reduceAdd, Nat.reduceSub, Nat.reduceBEq, reduceCtorEq, Try.f104]
  refine ⟨rfl, _, rfl, ?_⟩
  rw [List.drop_take, show h + d.bytes.length / 2 - h = d.bytes.length / 2 by omega]

def usedB (d : Dsk) (seen : List UInt8) (half : Nat) : List UInt8 := (seen.drop half).take (d.bytes.length / 2)
theorem c62 (d : Dsk) (seen : List UInt8) (half : Nat) (hd : d.bytes.length ≤ 4000000) (hs : seen.length ≤ 4000000) (hh : half + d.bytes.length / 2 ≤ seen.length) :
    PureT Try.prog 62 [kpv d seen half] (· = .sl false (bs (usedB d seen half))) := by
  refine CallT.intro Try.func62 (by decide) rfl ?_
  simp -implicitDefEqProofs only [go_sem, ↓reduceIte, Nat.reduceLT, Nat.reduceEqDiff, Nat.reduceAdd, Nat.reduceSub, Nat.reduceBEq, reduceCtorEq, enterTm, Try.ntmps62, List.range'_succ, List.range'_zero, List.zip_cons_cons, List.zip_nil_left]
  refine CodeT.seqK fun K hK => CodeT.region ?_
  simp -implicitDefEqProofs only [go_sem, ↓reduceIte, Nat.reduceLT, Nat.reduceEqDiff, Nat.reduceAdd, Nat.reduceSub, Nat.reduceBEq, reduceCtorEq]
  repeat refine And.intro (by first | with_reducible rfl | assumption | omega | exact uni_bs _ | exact uni_bs [_] | exact uni_bs [_, _] | exact bs_byte _ | exact uni_bss _ | exact uni_bss [_] | exact Stable.refl _ | exact stable_last _ _ _ _ _ _ | trivial | rfl) ?_
  refine hK _ ?_; clear hK K
  refine CodeT.seqK fun K hK => CodeT.drawnL [(0, .free), (1, .free), (2, .free), (3, .free), (4, .read), (5, .free), (6, .free), (7, .free), (8, .read), (9, .free), (10, .free)] mixed (by kernel_rfl) ?_
  simp -implicitDefEqProofs only [go_sem, ↓reduceIte, Nat.reduceLT, Nat.reduceEqDiff, Nat.reduceAdd, Nat.reduceSub, Nat.reduceBEq, reduceCtorEq, kpv]
  repeat refine And.intro (by first | with_reducible rfl | omega) ?_
  refine CallF.go (c104 d seen half seen half hd hs hh) rfl ?_
  simp -implicitDefEqProofs only [go_sem, ↓reduceIte, Nat.reduceLT, Nat.reduceEqDiff, Nat.reduceAdd, Nat.reduceSub, Nat.reduceBEq, reduceCtorEq]
  repeat refine And.intro (by first | with_reducible rfl | assumption | omega | exact uni_bs _ | exact uni_bs [_] | exact uni_bs [_, _] | exact bs_byte _ | exact uni_bss _ | exact uni_bss [_] | exact Stable.refl _ | exact stable_last _ _ _ _ _ _ | trivial | rfl) ?_
  refine hK _ ?_; clear hK K
  refine CodeT.ret ?_
  simp -implicitDefEqProofs only [go_sem, ↓reduceIte, Nat.reduceLT, Nat.reduceEqDiff, Nat.reduceAdd, Nat.reduceSub, Nat.reduceBEq, reduceCtorEq, Try.f62]
  exact ⟨rfl, _, rfl, rfl⟩

theorem c78 (d : Dsk) (seen : List UInt8) (half : Nat) (hd : d.bytes.length ≤ 4000000) (hh : half ≤ 4000000) :
    PureT Try.prog 78 [kpv d seen half] (· = .val (.int .i64 (2 + ((d.bytes.length / 2 : Nat) : Int) - (half : Nat)))) := by
  have hw : IntKind.i64.wrap (2 + ((d.bytes.length / 2 : Nat) : Int)) = 2 + ((d.bytes.length / 2 : Nat) : Int) := by rw [i64_in] <;> omega
  have hw2 : IntKind.i64.wrap (2 + ((d.bytes.length / 2 : Nat) : Int) - (half : Nat)) = 2 + ((d.bytes.length / 2 : Nat) : Int) - (half : Nat) := by rw [i64_in] <;> omega
  refine CallT.intro Try.func78 (by decide) rfl ?_
  simp -implicitDefEqProofs only [go_sem, ↓reduceIte, Nat.reduceLT, Nat.reduceEqDiff, Nat.reduceAdd, Nat.reduceSub, Nat.reduceBEq, reduceCtorEq, enterTm, Try.ntmps78, List.range'_succ, List.range'_zero, List.zip_cons_cons, List.zip_nil_left]
  refine CodeT.seqK fun K hK => CodeT.region ?_
  simp -implicitDefEqProofs only [go_sem, ↓reduceIte, Nat.reduceLT, Nat.reduceEqDiff, Nat.reduceAdd, Nat.reduceSub, Nat.reduceBEq, reduceCtorEq]
  repeat refine And.intro (by first | with_reducible rfl | assumption | omega | exact uni_bs _ | exact uni_bs [_] | exact uni_bs [_, _] | exact bs_byte _ | exact uni_bss _ | exact uni_bss [_] | exact Stable.refl _ | exact stable_last _ _ _ _ _ _ | trivial | rfl) ?_
  refine hK _ ?_; clear hK K
  refine CodeT.seqK fun K hK => CodeT.drawnL [(0, .free), (1, .free), (2, .free), (3, .free), (4, .free), (5, .free), (6, .read), (7, .free), (8, .free)] mixed (by kernel_rfl) ?_
  simp -implicitDefEqProofs only [go_sem, ↓reduceIte, Nat.reduceLT, Nat.reduceEqDiff, Nat.reduceAdd, Nat.reduceSub, Nat.reduceBEq, reduceCtorEq, kpv]
  repeat refine And.intro (by first | with_reducible rfl | omega) ?_
  refine CallF.go (c66 d seen half hd) rfl ?_
  simp -implicitDefEqProofs only [go_sem, ↓reduceIte, Nat.reduceLT, Nat.reduceEqDiff, Nat.reduceAdd, Nat.reduceSub, Nat.reduceBEq, reduceCtorEq, hw, hw2]
  repeat refine And.intro (by first | with_reducible rfl | assumption | omega | exact uni_bs _ | exact uni_bs [_] | exact uni_bs [_, _] | exact bs_byte _ | exact uni_bss _ | exact uni_bss [_] | exact Stable.refl _ | exact stable_last _ _ _ _ _ _ | trivial | rfl) ?_
  refine hK _ ?_; clear hK K
  refine CodeT.ret ?_
  simp -implicitDefEqProofs only [go_sem, ↓reduceIte, Nat.reduceLT, Nat.reduceEqDiff, Nat.reduceAdd, Nat.reduceSub, Nat.reduceBEq, reduceCtorEq, Try.f78]
  exact ⟨rfl, _, rfl, rfl⟩

theorem c64 : PureT Try.prog 64 [] (· = opv ⟨true, 0, []⟩) := by
  refine CallT.laxR ?_
  refine CallT.intro Try.func64 (by decide) rfl ?_
  simp -implicitDefEqProofs only [go_sem, ↓reduceIte, Nat.reduceLT, Nat.reduceEqDiff, Nat.reduceAdd, Nat.reduceSub, Nat.reduceBEq, reduceCtorEq, enterTm, Try.ntmps64, List.range'_succ, List.range'_zero, List.zip_cons_cons, List.zip_nil_left]
  refine CodeT.seqK fun K hK => CodeT.region ?_
  simp -implicitDefEqProofs only [go_sem, ↓reduceIte, Nat.reduceLT, Nat.reduceEqDiff, Nat.reduceAdd, Nat.reduceSub, Nat.reduceBEq, reduceCtorEq]
  repeat refine And.intro (by first | with_reducible rfl | assumption | omega | exact uni_bs _ | exact uni_bs [_] | exact uni_bs [_, _] | exact bs_byte _ | exact uni_bss _ | exact uni_bss [_] | exact Stable.refl _ | exact stable_last _ _ _ _ _ _ | trivial | rfl) ?_
  refine hK _ ?_; clear hK K
  refine CodeT.seqK fun K hK => CodeT.region ?_
  simp -implicitDefEqProofs only [go_sem, ↓reduceIte, Nat.reduceLT, Nat.reduceEqDiff, Nat.reduceAdd, Nat.reduceSub, Nat.reduceBEq, reduceCtorEq]
  repeat refine And.intro (by first | with_reducible rfl | assumption | omega | exact uni_bs _ | exact uni_bs [_] | exact uni_bs [_, _] | exact bs_byte _ | exact uni_bss _ | exact uni_bss [_] | exact Stable.refl _ | exact stable_last _ _ _ _ _ _ | trivial | rfl) ?_
  refine hK _ ?_; clear hK K
  refine CodeT.ret ?_
  simp -implicitDefEqProofs only [go_sem, ↓reduceIte, Nat.reduceLT, Nat.reduceEqDiff, Nat.reduceAdd, Nat.reduceSub, Nat.reduceBEq, reduceCtorEq, Try.f64]
  refine ⟨by decide, rfl, _, rfl, rfl⟩

theorem c65 (n : Int) (b : List UInt8) : PureT Try.prog 65 [.val (.int .i64 n), .sl false (bs b)] (· = opv ⟨false, n, b⟩) := by
  refine CallT.intro Try.func65 (by decide) rfl ?_
  simp -implicitDefEqProofs only [go_sem, ↓reduceIte, Nat.reduceLT, Nat.reduceEqDiff, Nat.reduceAdd, Nat.reduceSub, Nat.reduceBEq, reduceCtorEq, enterTm, Try.ntmps65, List.range'_succ, List.range'_zero, List.zip_cons_cons, List.zip_nil_left]
  refine CodeT.seqK fun K hK => CodeT.region ?_
  simp -implicitDefEqProofs only [go_sem, ↓reduceIte, Nat.reduceLT, Nat.reduceEqDiff, Nat.reduceAdd, Nat.reduceSub, Nat.reduceBEq, reduceCtorEq]
  repeat refine And.intro (by first | with_reducible rfl | assumption | omega | exact uni_bs _ | exact uni_bs [_] | exact uni_bs [_, _] | exact bs_byte _ | exact uni_bss _ | exact uni_bss [_] | exact Stable.refl _ | exact stable_last _ _ _ _ _ _ | trivial | rfl) ?_
  refine hK _ ?_; clear hK K
  refine CodeT.seqK fun K hK => CodeT.region ?_
  simp -implicitDefEqProofs only [go_sem, ↓reduceIte, Nat.reduceLT, Nat.reduceEqDiff, Nat.reduceAdd, Nat.reduceSub, Nat.reduceBEq, reduceCtorEq]
  repeat refine And.intro (by first | with_reducible rfl | assumption | omega | exact uni_bs _ | exact uni_bs [_] | exact uni_bs [_, _] | exact bs_byte _ | exact uni_bss _ | exact uni_bss [_] | exact Stable.refl _ | exact stable_last _ _ _ _ _ _ | trivial | rfl) ?_
  refine hK _ ?_; clear hK K
  refine CodeT.ret ?_
  simp -implicitDefEqProofs only [go_sem, ↓reduceIte, Nat.reduceLT, Nat.reduceEqDiff, Nat.reduceAdd, Nat.reduceSub, Nat.reduceBEq, reduceCtorEq, Try.f65]
  refine ⟨by decide, rfl, _, rfl, rfl⟩

def sizeB (n : Nat) : Bool := decide (n % 2 = 1) && decide (64 ≤ n / 2) && decide (n / 2 ≤ 1048576)
theorem c80 (n : Nat) (hn : n ≤ 4000000) : PureT Try.prog 80 [.val (.int .i64 (n : Nat))] (· = .val (.bool (sizeB n))) := by
  have hm : ((n : Int).tmod 2 == 1) = decide (n % 2 = 1) := by
    have : (n : Int).tmod 2 = ((n % 2 : Nat) : Int) := (Int.ofNat_tmod n 2).symm
    rw [this, Bool.eq_iff_iff]; simp; omega
  have h1 : decide (((n / 2 : Nat) : Int) ≥ 64) = decide (64 ≤ n / 2) := by rw [Bool.eq_iff_iff]; simp; omega
  have h2 : decide (((n / 2 : Nat) : Int) ≤ 1048576) = decide (n / 2 ≤ 1048576) := by rw [Bool.eq_iff_iff]; simp; omega
  refine CallT.intro Try.func80 (by decide) rfl ?_
  simp -implicitDefEqProofs only [go_sem, ↓reduceIte, Nat.reduceLT, Nat.reduceEqDiff, Nat.reduceAdd, Nat.reduceSub, Nat.reduceBEq, reduceCtorEq, enterTm, Try.ntmps80, List.range'_succ, List.range'_zero, List.zip_cons_cons, List.zip_nil_left]
  refine CodeT.seqK fun K hK => CodeT.region ?_
  simp -implicitDefEqProofs only [go_sem, ↓reduceIte, Nat.reduceLT, Nat.reduceEqDiff, Nat.reduceAdd, Nat.reduceSub, Nat.reduceBEq, reduceCtorEq]
  repeat refine And.intro (by first | with_reducible rfl | assumption | omega | exact uni_bs _ | exact uni_bs [_] | exact uni_bs [_, _] | exact bs_byte _ | exact uni_bss _ | exact uni_bss [_] | exact Stable.refl _ | exact stable_last _ _ _ _ _ _ | trivial | rfl) ?_
  refine hK _ ?_; clear hK K
  cases a1 : decide (n % 2 = 1) <;> cases a2 : decide (64 ≤ n / 2) <;> cases a3 : decide (n / 2 ≤ 1048576)
  all_goals
    refine CodeT.seqK fun K hK => CodeT.region ?_
    simp -implicitDefEqProofs only [go_sem, ↓reduceIte, Nat.reduceLT, Nat.reduceEqDiff, Nat.reduceAdd, Nat.reduceSub, Nat.reduceBEq, reduceCtorEq, hm, half_len hn, h1, h2, a1, a2, a3]
    repeat refine And.intro (by first | with_reducible rfl | assumption | omega | exact uni_bs _ | exact uni_bs [_] | exact uni_bs [_, _] | exact bs_byte _ | exact uni_bss _ | exact uni_bss [_] | exact Stable.refl _ | exact stable_last _ _ _ _ _ _ | trivial | rfl) ?_
    refine hK _ ?_; clear hK K
    refine CodeT.ret ?_
    simp -implicitDefEqProofs only [go_sem, ↓reduceIte, Nat.reduceLT, Nat.reduceEqDiff, Nat.reduceAdd, Nat.reduceSub, Nat.reduceBEq, reduceCtorEq, Try.f80]
    exact ⟨rfl, _, rfl, by simp only [sizeB, a1, a2, a3]; rfl⟩
end Go.Proofs.Try

namespace Go.Proofs.Try
set_option linter.unusedSimpArgs false
open Go.PM

def fitsB (o : DOp) (n : Nat) : Bool := if o.flush = true then o.at_ == 0 && decide (o.bytes.length = 0) else decide (0 < o.bytes.length) && decide (o.at_ ≥ 0) && decide (o.at_ ≤ (n : Int)) && decide ((o.bytes.length : Int) ≤ (n : Int) - o.at_)

theorem c54 (o : DOp) (n : Nat) (hn : n ≤ 4000000) : PureT Try.prog 54 [opv o, .val (.int .i64 (n : Nat))] (· = .val (.bool (fitsB o n))) := by
  obtain ⟨fl, at_, bytes⟩ := o
  unfold opv
  refine CallT.intro Try.func54 (by decide) rfl ?_
  simp -implicitDefEqProofs only [go_sem, ↓reduceIte, Nat.reduceLT, Nat.reduceEqDiff, Nat.reduceAdd, Nat.reduceSub, Nat.reduceBEq, reduceCtorEq, enterTm, Try.ntmps54, List.range'_succ, List.range'_zero, List.zip_cons_cons, List.zip_nil_left]
  refine CodeT.seqK fun K hK => CodeT.region ?_
  simp -implicitDefEqProofs only [go_sem, ↓reduceIte, Nat.reduceLT, Nat.reduceEqDiff, Nat.reduceAdd, Nat.reduceSub, Nat.reduceBEq, reduceCtorEq]
  repeat refine And.intro (by first | with_reducible rfl | assumption | omega | exact uni_bs _ | exact uni_bs [_] | exact uni_bs [_, _] | exact bs_byte _ | exact uni_bss _ | exact uni_bss [_] | exact Stable.refl _ | exact stable_last _ _ _ _ _ _ | trivial | rfl) ?_
  refine hK _ ?_; clear hK K
  refine CodeT.seqK fun K hK => ?_
  refine CodeT.seqK fun K1 hK1 => CodeT.region ?_
  simp -implicitDefEqProofs only [go_sem, ↓reduceIte, Nat.reduceLT, Nat.reduceEqDiff, Nat.reduceAdd, Nat.reduceSub, Nat.reduceBEq, reduceCtorEq]
  repeat refine And.intro (by first | with_reducible rfl | assumption | omega | exact uni_bs _ | exact uni_bs [_] | exact uni_bs [_, _] | exact bs_byte _ | exact uni_bss _ | exact uni_bss [_] | exact Stable.refl _ | exact stable_last _ _ _ _ _ _ | trivial | rfl) ?_
  refine hK1 _ ?_; clear hK1 K1
  have hz : ((bytes.length : Int) == 0) = decide (bytes.length = 0) := by rw [Bool.eq_iff_iff]; simp
  have hp : decide ((bytes.length : Int) > 0) = decide (0 < bytes.length) := by rw [Bool.eq_iff_iff]; simp
  refine CodeT.cond rfl (fun ht => ?_) (fun hf => CodeT.skip ?_)
  · subst ht
    cases a1 : (at_ == 0)
    all_goals
      refine CodeT.seqK fun K1 hK1 => CodeT.region ?_
      simp -implicitDefEqProofs only [go_sem, ↓reduceIte, Nat.reduceLT, Nat.reduceEqDiff, Nat.reduceAdd, Nat.reduceSub, Nat.reduceBEq, reduceCtorEq, bs_length, a1, hz]
      repeat refine And.intro (by first | with_reducible rfl | assumption | omega | exact uni_bs _ | exact uni_bs [_] | exact uni_bs [_, _] | exact bs_byte _ | exact uni_bss _ | exact uni_bss [_] | exact Stable.refl _ | exact stable_last _ _ _ _ _ _ | trivial | rfl) ?_
      refine hK1 _ ?_; clear hK1 K1
      refine CodeT.ret ?_
      simp -implicitDefEqProofs only [go_sem, ↓reduceIte, Nat.reduceLT, Nat.reduceEqDiff, Nat.reduceAdd, Nat.reduceSub, Nat.reduceBEq, reduceCtorEq, Try.f54]
      exact ⟨rfl, _, rfl, by simp [fitsB, a1]⟩
  · subst hf
    simp -implicitDefEqProofs only [go_sem, ↓reduceIte, Nat.reduceLT, Nat.reduceEqDiff, Nat.reduceAdd, Nat.reduceSub, Nat.reduceBEq, reduceCtorEq]
    repeat refine And.intro (by first | with_reducible rfl | assumption | omega | exact uni_bs _ | exact uni_bs [_] | exact uni_bs [_, _] | exact bs_byte _ | exact uni_bss _ | exact uni_bss [_] | exact Stable.refl _ | exact stable_last _ _ _ _ _ _ | trivial | rfl) ?_
    refine hK _ ?_; clear hK K
    cases a1 : decide (0 < bytes.length)
    · refine CodeT.seqK fun K hK => CodeT.region ?_
      simp -implicitDefEqProofs only [go_sem, ↓reduceIte, Nat.reduceLT, Nat.reduceEqDiff, Nat.reduceAdd, Nat.reduceSub, Nat.reduceBEq, reduceCtorEq, bs_length, hp, a1]
      repeat refine And.intro (by first | with_reducible rfl | assumption | omega | exact uni_bs _ | exact uni_bs [_] | exact uni_bs [_, _] | exact bs_byte _ | exact uni_bss _ | exact uni_bss [_] | exact Stable.refl _ | exact stable_last _ _ _ _ _ _ | trivial | rfl) ?_
      refine hK _ ?_; clear hK K
      refine CodeT.ret ?_
      simp -implicitDefEqProofs only [go_sem, ↓reduceIte, Nat.reduceLT, Nat.reduceEqDiff, Nat.reduceAdd, Nat.reduceSub, Nat.reduceBEq, reduceCtorEq, Try.f54]
      exact ⟨rfl, _, rfl, by simp [fitsB, a1]⟩
    · cases a2 : decide (at_ ≥ 0)
      · refine CodeT.seqK fun K hK => CodeT.region ?_
        simp -implicitDefEqProofs only [go_sem, ↓reduceIte, Nat.reduceLT, Nat.reduceEqDiff, Nat.reduceAdd, Nat.reduceSub, Nat.reduceBEq, reduceCtorEq, bs_length, hp, a1, a2]
        repeat refine And.intro (by first | with_reducible rfl | assumption | omega | exact uni_bs _ | exact uni_bs [_] | exact uni_bs [_, _] | exact bs_byte _ | exact uni_bss _ | exact uni_bss [_] | exact Stable.refl _ | exact stable_last _ _ _ _ _ _ | trivial | rfl) ?_
        refine hK _ ?_; clear hK K
        refine CodeT.ret ?_
        simp -implicitDefEqProofs only [go_sem, ↓reduceIte, Nat.reduceLT, Nat.reduceEqDiff, Nat.reduceAdd, Nat.reduceSub, Nat.reduceBEq, reduceCtorEq, Try.f54]
        exact ⟨rfl, _, rfl, by simp [fitsB, a1, a2]⟩
      · cases a3 : decide (at_ ≤ (n : Int))
        · refine CodeT.seqK fun K hK => CodeT.region ?_
          simp -implicitDefEqProofs only [go_sem, ↓reduceIte, Nat.reduceLT, Nat.reduceEqDiff, Nat.reduceAdd, Nat.reduceSub, Nat.reduceBEq, reduceCtorEq, bs_length, hp, a1, a2, a3]
          repeat refine And.intro (by first | with_reducible rfl | assumption | omega | exact uni_bs _ | exact uni_bs [_] | exact uni_bs [_, _] | exact bs_byte _ | exact uni_bss _ | exact uni_bss [_] | exact Stable.refl _ | exact stable_last _ _ _ _ _ _ | trivial | rfl) ?_
          refine hK _ ?_; clear hK K
          refine CodeT.ret ?_
          simp -implicitDefEqProofs only [go_sem, ↓reduceIte, Nat.reduceLT, Nat.reduceEqDiff, Nat.reduceAdd, Nat.reduceSub, Nat.reduceBEq, reduceCtorEq, Try.f54]
          exact ⟨rfl, _, rfl, by simp [fitsB, a1, a2, a3]⟩
        · have hw : IntKind.i64.wrap ((n : Int) - at_) = (n : Int) - at_ := by
            simp at a2 a3
            rw [i64_in] <;> omega
          refine CodeT.seqK fun K hK => CodeT.region ?_
          simp -implicitDefEqProofs only [go_sem, ↓reduceIte, Nat.reduceLT, Nat.reduceEqDiff, Nat.reduceAdd, Nat.reduceSub, Nat.reduceBEq, reduceCtorEq, bs_length, hp, a1, a2, a3, hw]
          repeat refine And.intro (by first | with_reducible rfl | assumption | omega | exact uni_bs _ | exact uni_bs [_] | exact uni_bs [_, _] | exact bs_byte _ | exact uni_bss _ | exact uni_bss [_] | exact Stable.refl _ | exact stable_last _ _ _ _ _ _ | trivial | rfl) ?_
          refine hK _ ?_; clear hK K
          refine CodeT.ret ?_
          simp -implicitDefEqProofs only [go_sem, ↓reduceIte, Nat.reduceLT, Nat.reduceEqDiff, Nat.reduceAdd, Nat.reduceSub, Nat.reduceBEq, reduceCtorEq, Try.f54]
          exact ⟨rfl, _, rfl, by simp only [fitsB, Bool.false_eq_true, if_false, a1, a2, a3, Bool.true_and]⟩
end Go.Proofs.Try

namespace Go.Proofs.Try
set_option linter.unusedSimpArgs false
open Go.PM

def op0 : DOp := ⟨false, 0, []⟩
theorem opvs_length (q : List DOp) : (opvs q).length = q.length := by simp [opvs]
theorem opvs_getD {q : List DOp} {i : Nat} (h : i < q.length) : (opvs q).getD i .dead = opv (q.getD i op0) := by
  simp [opvs, List.getD_eq_getElem?_getD, h]
theorem uni_opvs (q : List DOp) : Uni 3 (opvs q) := by
  intro e he
  obtain ⟨x, _, rfl⟩ := List.mem_map.1 he
  rfl
theorem opv_cells (o : DOp) : (opv o).cells = [.val (.bool o.flush), .val (.int .i64 o.at_), .sl false (bs o.bytes)] := rfl
theorem opv_eq (o : DOp) : AV.agg [.val (.bool o.flush), .val (.int .i64 o.at_), .sl false (bs o.bytes)] = opv o := rfl

def idxOp (p : DOp → Bool) (l : List DOp) : Int := match l.findIdx? p with
  | some i => (i : Int)
  | none => -1
theorem idxOp_here {p : DOp → Bool} {l : List DOp} {i : Nat} (hi : i < l.length) (hn : ∀ j, j < i → p (l.getD j op0) = false) (hp : p (l.getD i op0) = true) : idxOp p l = i := by
  have : l.findIdx? p = some i := by
    rw [List.findIdx?_eq_some_iff_getElem]
    refine ⟨hi, ?_, fun j hj => ?_⟩
    · simpa [List.getD_eq_getElem?_getD, hi] using hp
    · have := hn j hj
      have hj' : j < l.length := by omega
      simpa [List.getD_eq_getElem?_getD, hj'] using this
  simp [idxOp, this]
theorem idxOp_none {p : DOp → Bool} {l : List DOp} (hn : ∀ j, j < l.length → p (l.getD j op0) = false) : idxOp p l = -1 := by
  have : l.findIdx? p = none := by
    rw [List.findIdx?_eq_none_iff]
    intro x hx
    obtain ⟨j, hj, rfl⟩ := List.mem_iff_getElem.1 hx
    have := hn j hj
    simpa [List.getD_eq_getElem?_getD, hj] using this
  simp [idxOp, this]
theorem idxOp_ge (p : DOp → Bool) (l : List DOp) : decide (idxOp p l ≥ 0) = l.any p := by
  unfold idxOp
  cases h : l.findIdx? p with
  | none =>
    rw [List.findIdx?_eq_none_iff] at h
    have : l.any p = false := by rw [List.any_eq_false]; intro x hx; rw [h x hx]; simp
    rw [this]; rfl
  | some i =>
    have hi := List.findIdx?_eq_some_iff_getElem.1 h
    obtain ⟨h1, h2, _⟩ := hi
    have : l.any p = true := by rw [List.any_eq_true]; exact ⟨l[i], List.getElem_mem h1, h2⟩
    rw [this]; simp

mutual
theorem pure0_under (n : Nat) : ∀ (x : AV), x.pure0 = true → x.under n = true
  | .val _, _ => rfl
  | .sl _ _, _ => rfl
  | .cptr _, _ => rfl
  | .cmp _, _ => rfl
  | .bnd _ _, hp => by simp [AV.pure0] at hp
  | .fn _ caps, hp => pureL_under n caps hp
  | .iface _ x, hp => pure0_under n x hp
  | .dead, hp => by simp [AV.pure0] at hp
  | .hsl _ _ _ _, hp => by simp [AV.pure0] at hp
  | .ptr _ _, hp => by simp [AV.pure0] at hp
  | .eptr _ _ _ _, hp => by simp [AV.pure0] at hp
  | .yld _, hp => by simp [AV.pure0] at hp
  | .mp _, hp => by simp [AV.pure0] at hp
  | .agg _, hp => by simp [AV.pure0] at hp
  | .tup _, hp => by simp [AV.pure0] at hp
theorem pureL_under (n : Nat) : ∀ (l : List AV), pureL l = true → underL n l = true
  | [], _ => rfl
  | x :: xs, hp => by
    simp only [pureL, Bool.and_eq_true] at hp
    simp only [underL, Bool.and_eq_true]
    exact ⟨pure0_under n x hp.1, pureL_under n xs hp.2⟩
end
theorem all_pure {x : AV} {caps : List AV} (hx : x.pure = true) (hc : pureL caps = true) : (x :: caps).all AV.pure = true := by
  rw [List.all_cons, hx, Bool.true_and, List.all_eq_true]
  intro y hy
  obtain ⟨i, hi⟩ := List.getElem?_of_mem hy
  have := pureL_get hc hi
  cases y <;> first | exact this | simp [AV.pure0] at this

theorem c101 (l : List DOp) (f : FuncId) (caps : List AV) (hcaps : pureL caps = true) (p : DOp → Bool) (hf : ∀ o ∈ l, PureT Try.prog f (opv o :: caps) (· = .val (.bool (p o)))) (hl : l.length ≤ 4000000) : PureT Try.prog 101 [.sl false (opvs l), .fn f caps] (· = .val (.int .i64 (idxOp p l))) := by
  refine CallT.intro Try.func101 (by decide) rfl ?_
  simp -implicitDefEqProofs only [go_sem, ↓reduceIte, Nat.reduceLT, Nat.reduceEqDiff, Nat.reduceAdd, Nat.reduceSub, Nat.reduceBEq, reduceCtorEq, enterTm, Try.ntmps101, List.range'_succ, List.range'_zero, List.zip_cons_cons, List.zip_nil_left]
  refine CodeT.seqK fun K hK => CodeT.region ?_
  simp -implicitDefEqProofs only [go_sem, ↓reduceIte, Nat.reduceLT, Nat.reduceEqDiff, Nat.reduceAdd, Nat.reduceSub, Nat.reduceBEq, reduceCtorEq]
  repeat refine And.intro (by first | with_reducible rfl | assumption | omega | exact uni_bs _ | exact uni_bs [_] | exact uni_bs [_, _] | exact bs_byte _ | exact uni_bss _ | exact uni_bss [_] | exact Stable.refl _ | exact stable_last _ _ _ _ _ _ | trivial | rfl) ?_
  refine hK _ ?_; clear hK K
  refine CodeT.seqK fun K hK => ?_
  refine CodeT.seqK fun K2 hK2 => CodeT.region ?_
  simp -implicitDefEqProofs only [go_sem, ↓reduceIte, Nat.reduceLT, Nat.reduceEqDiff, Nat.reduceAdd, Nat.reduceSub, Nat.reduceBEq, reduceCtorEq, opvs_length]
  repeat refine And.intro (by first | with_reducible rfl | assumption | omega | exact uni_bs _ | exact uni_bs [_] | exact uni_bs [_, _] | exact bs_byte _ | exact uni_bss _ | exact uni_bss [_] | exact Stable.refl _ | exact stable_last _ _ _ _ _ _ | trivial | rfl) ?_
  refine hK2 _ ?_; clear hK2 K2
  refine CodeT.block ?_
  refine CodeT.weak (s' := ⟨⟨19, [(8, .val (.int .i64 0)), (7, .val (.int .i64 (l.length : Nat))), (0, .sl false (opvs l)), (1, .fn f caps)]⟩, [], []⟩) ⟨rfl, ?_, trivial, rfl, keepsD_nil _⟩ rfl ?_
  · simp [go_sem, pureL_under _ caps hcaps]
  refine CodeT.loop (fun n s => ∃ i, i ≤ l.length ∧ (∀ j, j < i → p (l.getD j op0) = false) ∧ n = l.length - i ∧ s = ⟨⟨19, [(8, .val (.int .i64 (i : Nat))), (7, .val (.int .i64 (l.length : Nat))), (0, .sl false (opvs l)), (1, .fn f caps)]⟩, [], []⟩) (n := l.length) ?_ ?_
  · exact ⟨0, Nat.zero_le _, fun j hj => absurd hj (Nat.not_lt_zero _), rfl, rfl⟩
  rintro n s ⟨i, hi, hn, rfl, rfl⟩
  refine CodeT.lessN ?_
  refine CodeT.seqK fun K2 hK2 => CodeT.region ?_
  simp -implicitDefEqProofs only [go_sem, ↓reduceIte, Nat.reduceLT, Nat.reduceEqDiff, Nat.reduceAdd, Nat.reduceSub, Nat.reduceBEq, reduceCtorEq]
  repeat refine And.intro (by first | with_reducible rfl | assumption | omega | exact uni_bs _ | exact uni_bs [_] | exact uni_bs [_, _] | exact bs_byte _ | exact uni_bss _ | exact uni_bss [_] | exact Stable.refl _ | exact stable_last _ _ _ _ _ _ | trivial | rfl) ?_
  refine hK2 _ ?_; clear hK2 K2
  refine CodeT.seqK fun K2 hK2 => CodeT.cond rfl (fun ht => CodeT.skip ?_) (fun hf' => CodeT.exit ?_)
  · simp -implicitDefEqProofs only [go_sem, ↓reduceIte, Nat.reduceLT, Nat.reduceEqDiff, Nat.reduceAdd, Nat.reduceSub, Nat.reduceBEq, reduceCtorEq]
    repeat refine And.intro (by first | with_reducible rfl | assumption | omega | exact uni_bs _ | exact uni_bs [_] | exact uni_bs [_, _] | exact bs_byte _ | exact uni_bss _ | exact uni_bss [_] | exact Stable.refl _ | exact stable_last _ _ _ _ _ _ | trivial | rfl) ?_
    refine hK2 _ ?_; clear hK2 K2
    have hlt : i < l.length := by simp at ht; exact ht
    have hw1 : IntKind.i64.wrap ((i : Int) + 1) = ((i + 1 : Nat) : Int) := by rw [i64_in] <;> omega
    refine CodeT.seqK fun K2 hK2 => ?_
    refine CodeT.block ?_
    refine CodeT.seqK fun K3 hK3 => CodeT.region ?_
    simp -implicitDefEqProofs only [go_sem, ↓reduceIte, Nat.reduceLT, Nat.reduceEqDiff, Nat.reduceAdd, Nat.reduceSub, Nat.reduceBEq, reduceCtorEq]
    repeat refine And.intro (by first | with_reducible rfl | assumption | omega | exact uni_bs _ | exact uni_bs [_] | exact uni_bs [_, _] | exact bs_byte _ | exact uni_bss _ | exact uni_bss [_] | exact Stable.refl _ | exact stable_last _ _ _ _ _ _ | trivial | rfl) ?_
    refine hK3 _ ?_; clear hK3 K3
    refine CodeT.seqK fun K3 hK3 => ?_
    refine CodeT.region ?_
    simp -implicitDefEqProofs only [go_sem, ↓reduceIte, Nat.reduceLT, Nat.reduceEqDiff, Nat.reduceAdd, Nat.reduceSub, Nat.reduceBEq, reduceCtorEq, opvs_getD hlt, opvs_length, opv_cells]
    have hmem : l.getD i op0 ∈ l := by
      rw [List.getD_eq_getElem?_getD, List.getElem?_eq_getElem hlt]
      exact List.getElem_mem hlt
    repeat refine And.intro (by first | with_reducible rfl | assumption | omega | exact uni_bs _ | exact uni_bs [_] | exact uni_bs [_, _] | exact bs_byte _ | exact uni_bss _ | exact uni_bss [_] | exact Stable.refl _ | exact stable_last _ _ _ _ _ _ | trivial | rfl) ?_
    refine PureT.go (hf _ hmem) (all_pure rfl hcaps) fun x hx => ?_
    subst hx
    simp -implicitDefEqProofs only [go_sem, ↓reduceIte, Nat.reduceLT, Nat.reduceEqDiff, Nat.reduceAdd, Nat.reduceSub, Nat.reduceBEq, reduceCtorEq]
    repeat refine And.intro (by first | with_reducible rfl | assumption | omega | exact uni_bs _ | exact uni_bs [_] | exact uni_bs [_, _] | exact bs_byte _ | exact uni_bss _ | exact uni_bss [_] | exact Stable.refl _ | exact stable_last _ _ _ _ _ _ | trivial | rfl) ?_
    refine hK3 _ ?_; clear hK3 K3
    cases hpx : p (l.getD i op0)
    · refine CodeT.cond rfl (fun ht => by cases ht) (fun hf' => CodeT.skip ?_)
      simp -implicitDefEqProofs only [go_sem, ↓reduceIte, Nat.reduceLT, Nat.reduceEqDiff, Nat.reduceAdd, Nat.reduceSub, Nat.reduceBEq, reduceCtorEq]
      repeat refine And.intro (by first | with_reducible rfl | assumption | omega | exact uni_bs _ | exact uni_bs [_] | exact uni_bs [_, _] | exact bs_byte _ | exact uni_bss _ | exact uni_bss [_] | exact Stable.refl _ | exact stable_last _ _ _ _ _ _ | trivial | rfl) ?_
      refine hK2 _ ?_; clear hK2 K2
      refine CodeT.region ?_
      simp -implicitDefEqProofs only [go_sem, ↓reduceIte, Nat.reduceLT, Nat.reduceEqDiff, Nat.reduceAdd, Nat.reduceSub, Nat.reduceBEq, reduceCtorEq, hw1]
      repeat refine And.intro (by first | with_reducible rfl | assumption | omega | exact uni_bs _ | exact uni_bs [_] | exact uni_bs [_, _] | exact bs_byte _ | exact uni_bss _ | exact uni_bss [_] | exact Stable.refl _ | exact stable_last _ _ _ _ _ _ | trivial | rfl) ?_
      refine ⟨⟨⟨19, [(8, .val (.int .i64 ((i + 1 : Nat) : Int))), (7, .val (.int .i64 (l.length : Nat))), (0, .sl false (opvs l)), (1, .fn f caps)]⟩, [], []⟩, ⟨rfl, ?_, trivial, rfl, keepsD_nil _⟩, Nat.le_refl _, l.length - (i + 1), by omega, i + 1, hlt, fun j hj => ?_, rfl, rfl⟩
      · simp [go_sem, pureL_under _ caps hcaps]
      · rcases Nat.lt_or_eq_of_le (Nat.le_of_lt_succ hj) with h | h
        · exact hn j h
        · rw [h]; exact hpx
    · refine CodeT.cond rfl (fun ht => ?_) (fun hf' => by cases hf')
      refine CodeT.seqK fun K4 hK4 => CodeT.region ?_
      simp -implicitDefEqProofs only [go_sem, ↓reduceIte, Nat.reduceLT, Nat.reduceEqDiff, Nat.reduceAdd, Nat.reduceSub, Nat.reduceBEq, reduceCtorEq]
      repeat refine And.intro (by first | with_reducible rfl | assumption | omega | exact uni_bs _ | exact uni_bs [_] | exact uni_bs [_, _] | exact bs_byte _ | exact uni_bss _ | exact uni_bss [_] | exact Stable.refl _ | exact stable_last _ _ _ _ _ _ | trivial | rfl) ?_
      refine hK4 _ ?_; clear hK4 K4
      refine CodeT.ret ?_
      simp -implicitDefEqProofs only [go_sem, ↓reduceIte, Nat.reduceLT, Nat.reduceEqDiff, Nat.reduceAdd, Nat.reduceSub, Nat.reduceBEq, reduceCtorEq, Try.f101]
      refine ⟨rfl, _, rfl, ?_⟩
      rw [idxOp_here hlt hn hpx]
  · simp -implicitDefEqProofs only [go_sem, ↓reduceIte, Nat.reduceLT, Nat.reduceEqDiff, Nat.reduceAdd, Nat.reduceSub, Nat.reduceBEq, reduceCtorEq]
    clear hK2 K2
    repeat refine And.intro (by first | with_reducible rfl | assumption | omega | exact uni_bs _ | exact uni_bs [_] | exact uni_bs [_, _] | exact bs_byte _ | exact uni_bss _ | exact uni_bss [_] | exact Stable.refl _ | exact stable_last _ _ _ _ _ _ | trivial | rfl) ?_
    refine hK _ ?_; clear hK K
    refine CodeT.seqK fun K hK => CodeT.region ?_
    simp -implicitDefEqProofs only [go_sem, ↓reduceIte, Nat.reduceLT, Nat.reduceEqDiff, Nat.reduceAdd, Nat.reduceSub, Nat.reduceBEq, reduceCtorEq]
    repeat refine And.intro (by first | with_reducible rfl | assumption | omega | exact uni_bs _ | exact uni_bs [_] | exact uni_bs [_, _] | exact bs_byte _ | exact uni_bss _ | exact uni_bss [_] | exact Stable.refl _ | exact stable_last _ _ _ _ _ _ | trivial | rfl) ?_
    refine hK _ ?_; clear hK K
    refine CodeT.ret ?_
    simp -implicitDefEqProofs only [go_sem, ↓reduceIte, Nat.reduceLT, Nat.reduceEqDiff, Nat.reduceAdd, Nat.reduceSub, Nat.reduceBEq, reduceCtorEq, Try.f101]
    refine ⟨rfl, _, rfl, ?_⟩
    have hil : i = l.length := by simp at hf'; omega
    subst hil
    rw [idxOp_none hn]

theorem c52 (l : List DOp) (f : FuncId) (caps : List AV) (hcaps : pureL caps = true) (p : DOp → Bool) (hf : ∀ o ∈ l, PureT Try.prog f (opv o :: caps) (· = .val (.bool (p o)))) (hl : l.length ≤ 4000000) : PureT Try.prog 52 [.sl false (opvs l), .fn f caps] (· = .val (.bool (l.any p))) := by
  refine CallT.intro Try.func52 (by decide) rfl ?_
  simp -implicitDefEqProofs only [go_sem, ↓reduceIte, Nat.reduceLT, Nat.reduceEqDiff, Nat.reduceAdd, Nat.reduceSub, Nat.reduceBEq, reduceCtorEq, enterTm, Try.ntmps52, List.range'_succ, List.range'_zero, List.zip_cons_cons, List.zip_nil_left]
  refine CodeT.seqK fun K hK => CodeT.region ?_
  simp -implicitDefEqProofs only [go_sem, ↓reduceIte, Nat.reduceLT, Nat.reduceEqDiff, Nat.reduceAdd, Nat.reduceSub, Nat.reduceBEq, reduceCtorEq]
  repeat refine And.intro (by first | with_reducible rfl | assumption | omega | exact uni_bs _ | exact uni_bs [_] | exact uni_bs [_, _] | exact bs_byte _ | exact uni_bss _ | exact uni_bss [_] | exact Stable.refl _ | exact stable_last _ _ _ _ _ _ | trivial | rfl) ?_
  refine hK _ ?_; clear hK K
  refine CodeT.seqK fun K hK => CodeT.region ?_
  simp -implicitDefEqProofs only [go_sem, ↓reduceIte, Nat.reduceLT, Nat.reduceEqDiff, Nat.reduceAdd, Nat.reduceSub, Nat.reduceBEq, reduceCtorEq]
  refine PureT.go (c101 l f caps hcaps p hf hl) (by simp [AV.pure, AV.pure1, AV.pure0, hcaps]) fun x hx => ?_
  subst hx
  simp -implicitDefEqProofs only [go_sem, ↓reduceIte, Nat.reduceLT, Nat.reduceEqDiff, Nat.reduceAdd, Nat.reduceSub, Nat.reduceBEq, reduceCtorEq, idxOp_ge]
  repeat refine And.intro (by first | with_reducible rfl | assumption | omega | exact uni_bs _ | exact uni_bs [_] | exact uni_bs [_, _] | exact bs_byte _ | exact uni_bss _ | exact uni_bss [_] | exact Stable.refl _ | exact stable_last _ _ _ _ _ _ | trivial | rfl) ?_
  refine hK _ ?_; clear hK K
  refine CodeT.ret ?_
  simp -implicitDefEqProofs only [go_sem, ↓reduceIte, Nat.reduceLT, Nat.reduceEqDiff, Nat.reduceAdd, Nat.reduceSub, Nat.reduceBEq, reduceCtorEq, Try.f52]
  exact ⟨rfl, _, rfl, rfl⟩
end Go.Proofs.Try

namespace Go.Proofs.Try
set_option linter.unusedSimpArgs false
open Go.PM

def dcp (d : Dsk) : AV := .cptr [.sl false (bs d.bytes), .sl false (opvs d.queue)]
def badOp (n : Nat) (o : DOp) : Bool := o.flush || !fitsB o n
theorem c100 (d : Dsk) (o : DOp) (hd : d.bytes.length ≤ 4000000) : PureT Try.prog 100 [opv o, dcp d] (· = .val (.bool (badOp d.bytes.length o))) := by
  unfold dcp
  cases hfl : o.flush
  · rw [← opv_eq, hfl]
    refine CallT.intro Try.func100 (by decide) rfl ?_
    simp -implicitDefEqProofs only [go_sem, ↓reduceIte, Nat.reduceLT, Nat.reduceEqDiff, Nat.reduceAdd, Nat.reduceSub, Nat.reduceBEq, reduceCtorEq, enterTm, Try.ntmps100, List.range'_succ, List.range'_zero, List.zip_cons_cons, List.zip_nil_left]
    refine CodeT.seqK fun K hK => CodeT.region ?_
    simp -implicitDefEqProofs only [go_sem, ↓reduceIte, Nat.reduceLT, Nat.reduceEqDiff, Nat.reduceAdd, Nat.reduceSub, Nat.reduceBEq, reduceCtorEq]
    repeat refine And.intro (by first | with_reducible rfl | assumption | omega | exact uni_bs _ | exact uni_bs [_] | exact uni_bs [_, _] | exact bs_byte _ | exact uni_bss _ | exact uni_bss [_] | exact Stable.refl _ | exact stable_last _ _ _ _ _ _ | trivial | rfl) ?_
    refine hK _ ?_; clear hK K
    refine CodeT.seqK fun K hK => CodeT.region ?_
    simp -implicitDefEqProofs only [go_sem, ↓reduceIte, Nat.reduceLT, Nat.reduceEqDiff, Nat.reduceAdd, Nat.reduceSub, Nat.reduceBEq, reduceCtorEq, bs_length]
    repeat refine And.intro (by first | with_reducible rfl | assumption | omega | exact uni_bs _ | exact uni_bs [_] | exact uni_bs [_, _] | exact bs_byte _ | exact uni_bss _ | exact uni_bss [_] | exact Stable.refl _ | exact stable_last _ _ _ _ _ _ | trivial | rfl) ?_
    have hop : AV.agg [.val (.bool false), .val (.int .i64 o.at_), .sl false (bs o.bytes)] = opv o := by rw [← opv_eq, hfl]
    rw [hop]
    refine PureT.go (c54 o d.bytes.length hd) rfl fun x hx => ?_
    subst hx
    simp -implicitDefEqProofs only [go_sem, ↓reduceIte, Nat.reduceLT, Nat.reduceEqDiff, Nat.reduceAdd, Nat.reduceSub, Nat.reduceBEq, reduceCtorEq]
    repeat refine And.intro (by first | with_reducible rfl | assumption | omega | exact uni_bs _ | exact uni_bs [_] | exact uni_bs [_, _] | exact bs_byte _ | exact uni_bss _ | exact uni_bss [_] | exact Stable.refl _ | exact stable_last _ _ _ _ _ _ | trivial | rfl) ?_
    refine hK _ ?_; clear hK K
    refine CodeT.ret ?_
    simp -implicitDefEqProofs only [go_sem, ↓reduceIte, Nat.reduceLT, Nat.reduceEqDiff, Nat.reduceAdd, Nat.reduceSub, Nat.reduceBEq, reduceCtorEq, Try.f100]
    exact ⟨rfl, _, rfl, by rw [badOp, hfl]; rfl⟩
  · rw [← opv_eq, hfl]
    refine CallT.intro Try.func100 (by decide) rfl ?_
    simp -implicitDefEqProofs only [go_sem, ↓reduceIte, Nat.reduceLT, Nat.reduceEqDiff, Nat.reduceAdd, Nat.reduceSub, Nat.reduceBEq, reduceCtorEq, enterTm, Try.ntmps100, List.range'_succ, List.range'_zero, List.zip_cons_cons, List.zip_nil_left]
    refine CodeT.seqK fun K hK => CodeT.region ?_
    simp -implicitDefEqProofs only [go_sem, ↓reduceIte, Nat.reduceLT, Nat.reduceEqDiff, Nat.reduceAdd, Nat.reduceSub, Nat.reduceBEq, reduceCtorEq]
    repeat refine And.intro (by first | with_reducible rfl | assumption | omega | exact uni_bs _ | exact uni_bs [_] | exact uni_bs [_, _] | exact bs_byte _ | exact uni_bss _ | exact uni_bss [_] | exact Stable.refl _ | exact stable_last _ _ _ _ _ _ | trivial | rfl) ?_
    refine hK _ ?_; clear hK K
    refine CodeT.seqK fun K hK => CodeT.region ?_
    simp -implicitDefEqProofs only [go_sem, ↓reduceIte, Nat.reduceLT, Nat.reduceEqDiff, Nat.reduceAdd, Nat.reduceSub, Nat.reduceBEq, reduceCtorEq]
    repeat refine And.intro (by first | with_reducible rfl | assumption | omega | exact uni_bs _ | exact uni_bs [_] | exact uni_bs [_, _] | exact bs_byte _ | exact uni_bss _ | exact uni_bss [_] | exact Stable.refl _ | exact stable_last _ _ _ _ _ _ | trivial | rfl) ?_
    refine hK _ ?_; clear hK K
    refine CodeT.ret ?_
    simp -implicitDefEqProofs only [go_sem, ↓reduceIte, Nat.reduceLT, Nat.reduceEqDiff, Nat.reduceAdd, Nat.reduceSub, Nat.reduceBEq, reduceCtorEq, Try.f100]
    exact ⟨rfl, _, rfl, by rw [badOp, hfl]; rfl⟩

def isDiskB (d : Dsk) : Bool := sizeB d.bytes.length && !d.queue.any (badOp d.bytes.length)
theorem c51 (d : Dsk) (hd : d.bytes.length ≤ 4000000) (hq : d.queue.length ≤ 4000000) : PureT Try.prog 51 [dkv d] (· = .val (.bool (isDiskB d))) := by
  unfold dkv
  refine CallT.intro Try.func51 (by decide) rfl ?_
  simp -implicitDefEqProofs only [go_sem, ↓reduceIte, Nat.reduceLT, Nat.reduceEqDiff, Nat.reduceAdd, Nat.reduceSub, Nat.reduceBEq, reduceCtorEq, enterTm, Try.ntmps51, List.range'_succ, List.range'_zero, List.zip_cons_cons, List.zip_nil_left]
  refine CodeT.seqK fun K hK => CodeT.region ?_
  simp -implicitDefEqProofs only [go_sem, ↓reduceIte, Nat.reduceLT, Nat.reduceEqDiff, Nat.reduceAdd, Nat.reduceSub, Nat.reduceBEq, reduceCtorEq]
  repeat refine And.intro (by first | with_reducible rfl | assumption | omega | exact uni_bs _ | exact uni_bs [_] | exact uni_bs [_, _] | exact bs_byte _ | exact uni_bss _ | exact uni_bss [_] | exact Stable.refl _ | exact stable_last _ _ _ _ _ _ | trivial | rfl) ?_
  refine hK _ ?_; clear hK K
  refine CodeT.freeze 1 ?_
  simp -implicitDefEqProofs only [go_sem, ↓reduceIte, Nat.reduceLT, Nat.reduceEqDiff, Nat.reduceAdd, Nat.reduceSub, Nat.reduceBEq, reduceCtorEq]
  cases hs : sizeB d.bytes.length
  · refine CodeT.seqK fun K hK => CodeT.region ?_
    simp -implicitDefEqProofs only [go_sem, ↓reduceIte, Nat.reduceLT, Nat.reduceEqDiff, Nat.reduceAdd, Nat.reduceSub, Nat.reduceBEq, reduceCtorEq, bs_length]
    repeat refine And.intro (by first | with_reducible rfl | assumption | omega | exact uni_bs _ | exact uni_bs [_] | exact uni_bs [_, _] | exact bs_byte _ | exact uni_bss _ | exact uni_bss [_] | exact Stable.refl _ | exact stable_last _ _ _ _ _ _ | trivial | rfl) ?_
    refine PureT.go (c80 _ hd) rfl fun x hx => ?_
    subst hx
    simp -implicitDefEqProofs only [go_sem, ↓reduceIte, Nat.reduceLT, Nat.reduceEqDiff, Nat.reduceAdd, Nat.reduceSub, Nat.reduceBEq, reduceCtorEq, hs]
    repeat refine And.intro (by first | with_reducible rfl | assumption | omega | exact uni_bs _ | exact uni_bs [_] | exact uni_bs [_, _] | exact bs_byte _ | exact uni_bss _ | exact uni_bss [_] | exact Stable.refl _ | exact stable_last _ _ _ _ _ _ | trivial | rfl) ?_
    refine hK _ ?_; clear hK K
    refine CodeT.ret ?_
    simp -implicitDefEqProofs only [go_sem, ↓reduceIte, Nat.reduceLT, Nat.reduceEqDiff, Nat.reduceAdd, Nat.reduceSub, Nat.reduceBEq, reduceCtorEq, Try.f51]
    exact ⟨rfl, _, rfl, by rw [isDiskB, hs]; rfl⟩
  · refine CodeT.seqK fun K hK => CodeT.region ?_
    simp -implicitDefEqProofs only [go_sem, ↓reduceIte, Nat.reduceLT, Nat.reduceEqDiff, Nat.reduceAdd, Nat.reduceSub, Nat.reduceBEq, reduceCtorEq, bs_length]
    repeat refine And.intro (by first | with_reducible rfl | assumption | omega | exact uni_bs _ | exact uni_bs [_] | exact uni_bs [_, _] | exact bs_byte _ | exact uni_bss _ | exact uni_bss [_] | exact Stable.refl _ | exact stable_last _ _ _ _ _ _ | trivial | rfl) ?_
    refine PureT.go (c80 _ hd) rfl fun x hx => ?_
    subst hx
    simp -implicitDefEqProofs only [go_sem, ↓reduceIte, Nat.reduceLT, Nat.reduceEqDiff, Nat.reduceAdd, Nat.reduceSub, Nat.reduceBEq, reduceCtorEq, hs]
    repeat refine And.intro (by first | with_reducible rfl | assumption | omega | exact uni_bs _ | exact uni_bs [_] | exact uni_bs [_, _] | exact bs_byte _ | exact uni_bss _ | exact uni_bss [_] | exact Stable.refl _ | exact stable_last _ _ _ _ _ _ | trivial | rfl) ?_
    refine PureT.go (c52 d.queue 100 [dcp d] rfl (badOp d.bytes.length) (fun o _ => c100 d o hd) hq) rfl fun x hx => ?_
    subst hx
    simp -implicitDefEqProofs only [go_sem, ↓reduceIte, Nat.reduceLT, Nat.reduceEqDiff, Nat.reduceAdd, Nat.reduceSub, Nat.reduceBEq, reduceCtorEq]
    repeat refine And.intro (by first | with_reducible rfl | assumption | omega | exact uni_bs _ | exact uni_bs [_] | exact uni_bs [_, _] | exact bs_byte _ | exact uni_bss _ | exact uni_bss [_] | exact Stable.refl _ | exact stable_last _ _ _ _ _ _ | trivial | rfl) ?_
    refine hK _ ?_; clear hK K
    refine CodeT.ret ?_
    simp -implicitDefEqProofs only [go_sem, ↓reduceIte, Nat.reduceLT, Nat.reduceEqDiff, Nat.reduceAdd, Nat.reduceSub, Nat.reduceBEq, reduceCtorEq, Try.f51]
    exact ⟨rfl, _, rfl, by rw [isDiskB, hs]; rfl⟩
end Go.Proofs.Try

namespace Go.Proofs.Try
set_option linter.unusedSimpArgs false
open Go.PM

theorem take_bs (l : List UInt8) : (bs l).take l.length = bs l := List.take_of_length_le (by rw [bs_length]; exact Nat.le_refl _)

theorem c55 (h : List Box) (l : List UInt8) (hl : l.length ≤ 4000000) : CallT Try.prog 55 [.sl false (bs l)] h (fun r h' => ∃ ver, r = .ret (.hsl h.length ver 0 l.length) ∧ h' = h ++ [.row true ver 1 (bs l)]) := by
  refine CallT.intro Try.func55 (by decide) rfl ?_
  simp -implicitDefEqProofs only [go_sem, ↓reduceIte, Nat.reduceLT, Nat.reduceEqDiff, Nat.reduceAdd, Nat.reduceSub, Nat.reduceBEq, reduceCtorEq, enterTm, Try.ntmps55, List.range'_succ, List.range'_zero, List.zip_cons_cons, List.zip_nil_left]
  refine CodeT.seqK fun K hK => CodeT.region ?_
  simp -implicitDefEqProofs only [go_sem, ↓reduceIte, Nat.reduceLT, Nat.reduceEqDiff, Nat.reduceAdd, Nat.reduceSub, Nat.reduceBEq, reduceCtorEq]
  repeat refine And.intro (by first | with_reducible rfl | assumption | omega | exact uni_bs _ | exact uni_bs [_] | exact uni_bs [_, _] | exact bs_byte _ | exact uni_bss _ | exact uni_bss [_] | exact Stable.refl _ | exact stable_last _ _ _ _ _ _ | trivial | rfl) ?_
  refine hK _ ?_; clear hK K
  refine CodeT.seqK fun K hK => ?_
  refine CodeT.seqK fun K1 hK1 => CodeT.region ?_
  simp -implicitDefEqProofs only [go_sem, ↓reduceIte, Nat.reduceLT, Nat.reduceEqDiff, Nat.reduceAdd, Nat.reduceSub, Nat.reduceBEq, reduceCtorEq, nilA, Try.underlying22]
  intro b hb
  repeat refine And.intro (by first | with_reducible rfl | assumption | omega | exact uni_bs _ | exact uni_bs [_] | exact uni_bs [_, _] | exact bs_byte _ | exact uni_bss _ | exact uni_bss [_] | exact Stable.refl _ | exact stable_last _ _ _ _ _ _ | trivial | rfl) ?_
  refine hK1 _ ?_; clear hK1 K1
  refine CodeT.cond rfl (fun ht => ?_) (fun hf => CodeT.skip ?_)
  · subst ht
    have hnil : l = [] := by
      cases l with
      | nil => rfl
      | cons x l => exact absurd (hb (by simp [bs])) (by simp)
    subst hnil
    refine CodeT.seqK fun K1 hK1 => CodeT.region ?_
    simp -implicitDefEqProofs only [go_sem, ↓reduceIte, Nat.reduceLT, Nat.reduceEqDiff, Nat.reduceAdd, Nat.reduceSub, Nat.reduceBEq, reduceCtorEq]
    repeat refine And.intro (by first | with_reducible rfl | assumption | omega | exact uni_bs _ | exact uni_bs [_] | exact uni_bs [_, _] | exact bs_byte _ | exact uni_bss _ | exact uni_bss [_] | exact Stable.refl _ | exact stable_last _ _ _ _ _ _ | trivial | rfl) ?_
    refine hK1 _ ?_; clear hK1 K1
    refine CodeT.promote 2 1 rfl ?_
    refine CodeT.ret ?_
    simp -implicitDefEqProofs only [go_sem, ↓reduceIte, Nat.reduceLT, Nat.reduceEqDiff, Nat.reduceAdd, Nat.reduceSub, Nat.reduceBEq, reduceCtorEq, Try.f55]
    exact ⟨0, rfl, rfl⟩
  · simp -implicitDefEqProofs only [go_sem, ↓reduceIte, Nat.reduceLT, Nat.reduceEqDiff, Nat.reduceAdd, Nat.reduceSub, Nat.reduceBEq, reduceCtorEq]
    repeat refine And.intro (by first | with_reducible rfl | assumption | omega | exact uni_bs _ | exact uni_bs [_] | exact uni_bs [_, _] | exact bs_byte _ | exact uni_bss _ | exact uni_bss [_] | exact Stable.refl _ | exact stable_last _ _ _ _ _ _ | trivial | rfl) ?_
    refine hK _ ?_; clear hK K
    refine CodeT.seqK fun K hK => CodeT.region ?_
    simp -implicitDefEqProofs only [go_sem, ↓reduceIte, Nat.reduceLT, Nat.reduceEqDiff, Nat.reduceAdd, Nat.reduceSub, Nat.reduceBEq, reduceCtorEq, bs_length]
    repeat refine And.intro (by first | with_reducible rfl | assumption | omega | exact uni_bs _ | exact uni_bs [_] | exact uni_bs [_, _] | exact bs_byte _ | exact uni_bss _ | exact uni_bss [_] | exact Stable.refl _ | exact stable_last _ _ _ _ _ _ | trivial | rfl) ?_
    refine hK _ ?_; clear hK K
    refine CodeT.ret ?_
    simp -implicitDefEqProofs only [go_sem, ↓reduceIte, Nat.reduceLT, Nat.reduceEqDiff, Nat.reduceAdd, Nat.reduceSub, Nat.reduceBEq, reduceCtorEq, Try.f55]
    exact ⟨1, rfl, rfl⟩
theorem c53 (d : Dsk) (o : DOp) (hd : d.bytes.length ≤ 4000000) : PureT Try.prog 53 [opv o, dcp d] (· = .val (.bool (!fitsB o d.bytes.length))) := by
  unfold dcp
  rw [← opv_eq]
  refine CallT.intro Try.func53 (by decide) rfl ?_
  simp -implicitDefEqProofs only [go_sem, ↓reduceIte, Nat.reduceLT, Nat.reduceEqDiff, Nat.reduceAdd, Nat.reduceSub, Nat.reduceBEq, reduceCtorEq, enterTm, Try.ntmps53, List.range'_succ, List.range'_zero, List.zip_cons_cons, List.zip_nil_left]
  refine CodeT.seqK fun K hK => CodeT.region ?_
  simp -implicitDefEqProofs only [go_sem, ↓reduceIte, Nat.reduceLT, Nat.reduceEqDiff, Nat.reduceAdd, Nat.reduceSub, Nat.reduceBEq, reduceCtorEq]
  repeat refine And.intro (by first | with_reducible rfl | assumption | omega | exact uni_bs _ | exact uni_bs [_] | exact uni_bs [_, _] | exact bs_byte _ | exact uni_bss _ | exact uni_bss [_] | exact Stable.refl _ | exact stable_last _ _ _ _ _ _ | trivial | rfl) ?_
  refine hK _ ?_; clear hK K
  refine CodeT.seqK fun K hK => CodeT.region ?_
  simp -implicitDefEqProofs only [go_sem, ↓reduceIte, Nat.reduceLT, Nat.reduceEqDiff, Nat.reduceAdd, Nat.reduceSub, Nat.reduceBEq, reduceCtorEq, bs_length]
  repeat refine And.intro (by first | with_reducible rfl | assumption | omega | exact uni_bs _ | exact uni_bs [_] | exact uni_bs [_, _] | exact bs_byte _ | exact uni_bss _ | exact uni_bss [_] | exact Stable.refl _ | exact stable_last _ _ _ _ _ _ | trivial | rfl) ?_
  rw [opv_eq]
  refine PureT.go (c54 o d.bytes.length hd) rfl fun x hx => ?_
  subst hx
  simp -implicitDefEqProofs only [go_sem, ↓reduceIte, Nat.reduceLT, Nat.reduceEqDiff, Nat.reduceAdd, Nat.reduceSub, Nat.reduceBEq, reduceCtorEq]
  repeat refine And.intro (by first | with_reducible rfl | assumption | omega | exact uni_bs _ | exact uni_bs [_] | exact uni_bs [_, _] | exact bs_byte _ | exact uni_bss _ | exact uni_bss [_] | exact Stable.refl _ | exact stable_last _ _ _ _ _ _ | trivial | rfl) ?_
  refine hK _ ?_; clear hK K
  refine CodeT.ret ?_
  simp -implicitDefEqProofs only [go_sem, ↓reduceIte, Nat.reduceLT, Nat.reduceEqDiff, Nat.reduceAdd, Nat.reduceSub, Nat.reduceBEq, reduceCtorEq, Try.f53]
  exact ⟨rfl, _, rfl, rfl⟩

theorem c102 (d : Dsk) (i : Nat) (hi : i < d.queue.length) : PureT Try.prog 102 [.val (.int .i64 (i : Nat)), dcp d] (· = .val (.int .i64 ((d.queue.getD i op0).bytes.length : Nat))) := by
  unfold dcp
  refine CallT.intro Try.func102 (by decide) rfl ?_
  simp -implicitDefEqProofs only [go_sem, ↓reduceIte, Nat.reduceLT, Nat.reduceEqDiff, Nat.reduceAdd, Nat.reduceSub, Nat.reduceBEq, reduceCtorEq, enterTm, Try.ntmps102, List.range'_succ, List.range'_zero, List.zip_cons_cons, List.zip_nil_left]
  refine CodeT.seqK fun K hK => CodeT.region ?_
  simp -implicitDefEqProofs only [go_sem, ↓reduceIte, Nat.reduceLT, Nat.reduceEqDiff, Nat.reduceAdd, Nat.reduceSub, Nat.reduceBEq, reduceCtorEq]
  repeat refine And.intro (by first | with_reducible rfl | assumption | omega | exact uni_bs _ | exact uni_bs [_] | exact uni_bs [_, _] | exact bs_byte _ | exact uni_bss _ | exact uni_bss [_] | exact Stable.refl _ | exact stable_last _ _ _ _ _ _ | trivial | rfl) ?_
  refine hK _ ?_; clear hK K
  refine CodeT.seqK fun K hK => CodeT.region ?_
  simp -implicitDefEqProofs only [go_sem, ↓reduceIte, Nat.reduceLT, Nat.reduceEqDiff, Nat.reduceAdd, Nat.reduceSub, Nat.reduceBEq, reduceCtorEq, opvs_getD hi, opvs_length, opv_cells, bs_length]
  repeat refine And.intro (by first | with_reducible rfl | assumption | omega | exact uni_bs _ | exact uni_bs [_] | exact uni_bs [_, _] | exact bs_byte _ | exact uni_bss _ | exact uni_bss [_] | exact Stable.refl _ | exact stable_last _ _ _ _ _ _ | trivial | rfl) ?_
  refine hK _ ?_; clear hK K
  refine CodeT.ret ?_
  simp -implicitDefEqProofs only [go_sem, ↓reduceIte, Nat.reduceLT, Nat.reduceEqDiff, Nat.reduceAdd, Nat.reduceSub, Nat.reduceBEq, reduceCtorEq, Try.f102]
  exact ⟨rfl, _, rfl, rfl⟩

theorem c57 (o : DOp) (hl : o.bytes.length ≤ 4000000) : PureT Try.prog 57 [opv o] (· = opv o) := by
  rw [← opv_eq]
  refine CallT.res ?_
  refine CallT.intro Try.func57 (by decide) rfl ?_
  simp -implicitDefEqProofs only [go_sem, ↓reduceIte, Nat.reduceLT, Nat.reduceEqDiff, Nat.reduceAdd, Nat.reduceSub, Nat.reduceBEq, reduceCtorEq, enterTm, Try.ntmps57, List.range'_succ, List.range'_zero, List.zip_cons_cons, List.zip_nil_left]
  refine CodeT.seqK fun K hK => CodeT.region ?_
  simp -implicitDefEqProofs only [go_sem, ↓reduceIte, Nat.reduceLT, Nat.reduceEqDiff, Nat.reduceAdd, Nat.reduceSub, Nat.reduceBEq, reduceCtorEq]
  repeat refine And.intro (by first | with_reducible rfl | assumption | omega | exact uni_bs _ | exact uni_bs [_] | exact uni_bs [_, _] | exact bs_byte _ | exact uni_bss _ | exact uni_bss [_] | exact Stable.refl _ | exact stable_last _ _ _ _ _ _ | trivial | rfl) ?_
  refine hK _ ?_; clear hK K
  refine CodeT.seqK fun K hK => CodeT.region ?_
  simp -implicitDefEqProofs only [go_sem, ↓reduceIte, Nat.reduceLT, Nat.reduceEqDiff, Nat.reduceAdd, Nat.reduceSub, Nat.reduceBEq, reduceCtorEq]
  repeat refine And.intro (by first | with_reducible rfl | assumption | omega | exact uni_bs _ | exact uni_bs [_] | exact uni_bs [_, _] | exact bs_byte _ | exact uni_bss _ | exact uni_bss [_] | exact Stable.refl _ | exact stable_last _ _ _ _ _ _ | trivial | rfl) ?_
  refine (c55 _ _ hl).mono ?_
  rintro r h' ⟨ver, rfl, rfl⟩
  simp -implicitDefEqProofs only [go_sem, ↓reduceIte, Nat.reduceLT, Nat.reduceEqDiff, Nat.reduceAdd, Nat.reduceSub, Nat.reduceBEq, reduceCtorEq]
  repeat refine And.intro (by first | with_reducible rfl | assumption | omega | exact uni_bs _ | exact uni_bs [_] | exact uni_bs [_, _] | exact bs_byte _ | exact uni_bss _ | exact uni_bss [_] | exact Stable.refl _ | exact stable_last _ _ _ _ _ _ | trivial | rfl) ?_
  refine hK _ ?_; clear hK K
  refine CodeT.seqK fun K hK => CodeT.region ?_
  simp -implicitDefEqProofs only [go_sem, ↓reduceIte, Nat.reduceLT, Nat.reduceEqDiff, Nat.reduceAdd, Nat.reduceSub, Nat.reduceBEq, reduceCtorEq]
  repeat refine And.intro (by first | with_reducible rfl | assumption | omega | exact uni_bs _ | exact uni_bs [_] | exact uni_bs [_, _] | exact bs_byte _ | exact uni_bss _ | exact uni_bss [_] | exact Stable.refl _ | exact stable_last _ _ _ _ _ _ | trivial | rfl) ?_
  refine hK _ ?_; clear hK K
  refine CodeT.ret ?_
  simp -implicitDefEqProofs only [go_sem, ↓reduceIte, Nat.reduceLT, Nat.reduceEqDiff, Nat.reduceAdd, Nat.reduceSub, Nat.reduceBEq, reduceCtorEq, Try.f57]
  rw [take_bs]
  exact ⟨by decide, by rw [bs_length]; exact Nat.le_refl _, rfl, _, rfl, rfl⟩
end Go.Proofs.Try

namespace Go.Proofs.Try
set_option linter.unusedSimpArgs false
open Go.PM

def is64 (l : List Int) : List AV := l.map fun n => .val (.int .i64 n)
theorem is64_length (l : List Int) : (is64 l).length = l.length := by simp [is64]
theorem is64_getD {l : List Int} {i : Nat} (h : i < l.length) : (is64 l).getD i .dead = .val (.int .i64 (l.getD i 0)) := by
  simp [is64, List.getD_eq_getElem?_getD, h]
def farC (cuts : List Int) (d : Dsk) (i : Nat) : Nat := if cuts.length ≤ i then 0 else min (cuts.getD i 0).toNat (d.queue.getD i op0).bytes.length

theorem farC_int (c : Int) (n : Nat) : (if (n : Int) < (if (0 : Int) > c then 0 else c) then (n : Int) else (if (0 : Int) > c then 0 else c)) = ((min c.toNat n : Nat) : Int) := by
  split <;> split <;> omega

theorem c60 (d : Dsk) (cuts : List Int) (i : Nat) (hi : i < d.queue.length) : PureT Try.prog 60 [.val (.int .i64 (i : Nat)), .cptr [.sl false (is64 cuts)], dcp d] (· = .val (.int .i64 (farC cuts d i : Nat))) := by
  unfold dcp
  refine CallT.intro Try.func60 (by decide) rfl ?_
  simp -implicitDefEqProofs only [go_sem, ↓reduceIte, Nat.reduceLT, Nat.reduceEqDiff, Nat.reduceAdd, Nat.reduceSub, Nat.reduceBEq, reduceCtorEq, enterTm, Try.ntmps60, List.range'_succ, List.range'_zero, List.zip_cons_cons, List.zip_nil_left]
  refine CodeT.seqK fun K hK => CodeT.region ?_
  simp -implicitDefEqProofs only [go_sem, ↓reduceIte, Nat.reduceLT, Nat.reduceEqDiff, Nat.reduceAdd, Nat.reduceSub, Nat.reduceBEq, reduceCtorEq]
  repeat refine And.intro (by first | with_reducible rfl | assumption | omega | exact uni_bs _ | exact uni_bs [_] | exact uni_bs [_, _] | exact bs_byte _ | exact uni_bss _ | exact uni_bss [_] | exact Stable.refl _ | exact stable_last _ _ _ _ _ _ | trivial | rfl) ?_
  refine hK _ ?_; clear hK K
  refine CodeT.seqK fun K hK => ?_
  refine CodeT.seqK fun K1 hK1 => CodeT.region ?_
  simp -implicitDefEqProofs only [go_sem, ↓reduceIte, Nat.reduceLT, Nat.reduceEqDiff, Nat.reduceAdd, Nat.reduceSub, Nat.reduceBEq, reduceCtorEq, is64_length]
  repeat refine And.intro (by first | with_reducible rfl | assumption | omega | exact uni_bs _ | exact uni_bs [_] | exact uni_bs [_, _] | exact bs_byte _ | exact uni_bss _ | exact uni_bss [_] | exact Stable.refl _ | exact stable_last _ _ _ _ _ _ | trivial | rfl) ?_
  refine hK1 _ ?_; clear hK1 K1
  refine CodeT.cond rfl (fun ht => ?_) (fun hf => CodeT.skip ?_)
  · refine CodeT.seqK fun K1 hK1 => CodeT.region ?_
    simp -implicitDefEqProofs only [go_sem, ↓reduceIte, Nat.reduceLT, Nat.reduceEqDiff, Nat.reduceAdd, Nat.reduceSub, Nat.reduceBEq, reduceCtorEq]
    repeat refine And.intro (by first | with_reducible rfl | assumption | omega | exact uni_bs _ | exact uni_bs [_] | exact uni_bs [_, _] | exact bs_byte _ | exact uni_bss _ | exact uni_bss [_] | exact Stable.refl _ | exact stable_last _ _ _ _ _ _ | trivial | rfl) ?_
    refine hK1 _ ?_; clear hK1 K1
    refine CodeT.ret ?_
    simp -implicitDefEqProofs only [go_sem, ↓reduceIte, Nat.reduceLT, Nat.reduceEqDiff, Nat.reduceAdd, Nat.reduceSub, Nat.reduceBEq, reduceCtorEq, Try.f60]
    have : cuts.length ≤ i := by simp at ht; omega
    exact ⟨rfl, _, rfl, by rw [farC, if_pos this]; rfl⟩
  · simp -implicitDefEqProofs only [go_sem, ↓reduceIte, Nat.reduceLT, Nat.reduceEqDiff, Nat.reduceAdd, Nat.reduceSub, Nat.reduceBEq, reduceCtorEq]
    repeat refine And.intro (by first | with_reducible rfl | assumption | omega | exact uni_bs _ | exact uni_bs [_] | exact uni_bs [_, _] | exact bs_byte _ | exact uni_bss _ | exact uni_bss [_] | exact Stable.refl _ | exact stable_last _ _ _ _ _ _ | trivial | rfl) ?_
    refine hK _ ?_; clear hK K
    have hlt : i < cuts.length := by simp at hf; omega
    refine CodeT.seqK fun K hK => CodeT.drawnL [(0, .read), (1, .free), (2, .read), (3, .read), (4, .read), (5, .free), (6, .read), (7, .free), (8, .read), (9, .free), (10, .read), (11, .read), (12, .read), (13, .free)] mixed (by kernel_rfl) ?_
    simp -implicitDefEqProofs only [go_sem, ↓reduceIte, Nat.reduceLT, Nat.reduceEqDiff, Nat.reduceAdd, Nat.reduceSub, Nat.reduceBEq, reduceCtorEq, opvs_getD hi, opvs_length, opv_cells, bs_length, is64_getD hlt, is64_length]
    repeat refine And.intro (by first | with_reducible rfl | assumption | omega | exact uni_bs _ | exact uni_bs [_] | exact uni_bs [_, _] | exact bs_byte _ | exact uni_bss _ | exact uni_bss [_] | exact Stable.refl _ | exact stable_last _ _ _ _ _ _ | trivial | rfl) ?_
    refine hK _ ?_; clear hK K
    refine CodeT.ret ?_
    simp -implicitDefEqProofs only [go_sem, ↓reduceIte, Nat.reduceLT, Nat.reduceEqDiff, Nat.reduceAdd, Nat.reduceSub, Nat.reduceBEq, reduceCtorEq, Try.f60]
    have : ¬ cuts.length ≤ i := by omega
    refine ⟨rfl, _, rfl, ?_⟩
    rw [farC, if_neg this, ← farC_int]
end Go.Proofs.Try

namespace Go.Proofs.Try
set_option linter.unusedSimpArgs false
open Go.PM

def nib (x : UInt8) : List UInt8 := [16 + x / 16, 16 + x % 16]
def frame (l : List UInt8) : List UInt8 := l.flatMap nib ++ [255]
theorem nib_len (l : List UInt8) : (l.flatMap nib).length = 2 * l.length := by
  induction l with
  | nil => rfl
  | cons x l ih => simp [ih, nib]; omega
theorem nib_take (l : List UInt8) (i : Nat) (h : i < l.length) : (l.take i).flatMap nib ++ nib (l.getD i 0) = (l.take (i + 1)).flatMap nib := by
  rw [List.take_add_one, List.flatMap_append]
  simp [List.getElem?_eq_getElem h, List.getD_eq_getElem?_getD]

theorem c13 (l : List UInt8) (hl : l.length ≤ 1000000) : PureT Try.prog 13 [.sl false (bs l)] (· = .sl false (bs (frame l))) := by
  refine CallT.res (CallT.intro Try.func13 (by decide) rfl ?_)
  simp -implicitDefEqProofs only [go_sem, ↓reduceIte, Nat.reduceLT, Nat.reduceEqDiff, Nat.reduceAdd, Nat.reduceSub, enterTm, Try.ntmps13, List.range'_succ, List.range'_zero, List.zip_cons_cons, List.zip_nil_left]
  iterate 2
    refine CodeT.seqK fun K hK => CodeT.region ?_
    simp -implicitDefEqProofs only [go_sem, ↓reduceIte, Nat.reduceLT, Nat.reduceEqDiff, Nat.reduceAdd, Nat.reduceSub]
    refine hK _ ?_; clear hK K
  refine CodeT.seqK fun K hK => CodeT.seqK fun K' hK' => CodeT.region ?_
  simp -implicitDefEqProofs only [go_sem, ↓reduceIte, Nat.reduceLT, Nat.reduceEqDiff, Nat.reduceAdd, Nat.reduceSub, bs_length]
  refine hK' _ ?_; clear hK' K'
  refine CodeT.promote 3 1 rfl (CodeT.block ?_)
  let S : Nat → St := fun i => ⟨⟨25, [(8, .val (.int .i64 i)), (7, .val (.int .i64 l.length)), (6, .sl false (bs l)), (3, .hsl 0 i 0 (2 * i))]⟩, [.row true i 1 (bs ((l.take i).flatMap nib))], []⟩
  refine CodeT.weak (s' := S 0) ⟨rfl, by simp [S, go_sem], by simp [S, go_sem, bs], rfl, keepsD_nil _⟩ rfl (CodeT.count S l.length (Nat.zero_le _) ?_)
  intro i hi
  refine CodeT.seqK fun K1 hK1 => CodeT.region ?_
  simp -implicitDefEqProofs only [S, go_sem, ↓reduceIte, Nat.reduceLT, Nat.reduceEqDiff, Nat.reduceAdd, Nat.reduceSub]
  refine hK1 _ ?_; clear hK1 K1
  refine CodeT.seqK fun K1 hK1 => CodeT.cond rfl (fun ht => CodeT.skip ?_) (fun hf => CodeT.exit ?_)
  · simp -implicitDefEqProofs only [go_sem, ↓reduceIte, Nat.reduceLT, Nat.reduceEqDiff, Nat.reduceAdd, Nat.reduceSub]
    refine hK1 _ ?_; clear hK1 K1
    have hlt : i < l.length := by simp at ht; exact ht
    have hi64 : IntKind.i64.wrap ((i : Int) + 1) = ((i + 1 : Nat) : Int) := by rw [i64_in] <;> omega
    refine CodeT.seqK fun K1 hK1 => CodeT.block (CodeT.seqK fun K2 hK2 => CodeT.region ?_)
    simp -implicitDefEqProofs only [go_sem, ↓reduceIte, Nat.reduceLT, Nat.reduceEqDiff, Nat.reduceAdd, Nat.reduceSub, Int.toNat_natCast, bs_getD hlt, bs_length]
    repeat refine And.intro (by first | with_reducible rfl | assumption | omega | exact uni_bs _ | exact uni_bs [_] | exact uni_bs [_, _] | trivial | rfl) ?_
    refine hK2 _ ?_; clear hK2 K2
    refine CodeT.region ?_
    simp -implicitDefEqProofs only [go_sem, ↓reduceIte, Nat.reduceLT, Nat.reduceEqDiff, Nat.reduceAdd, Nat.reduceSub]
    simp -implicitDefEqProofs only [u8_16, u8_quo, u8_rem, u8_add, bs_snoc2, bs_length, nib_len, List.length_take, Nat.min_eq_left hi, Nat.mul_one]
    repeat refine And.intro (by first | with_reducible rfl | assumption | omega | exact uni_bs _ | exact uni_bs [_] | exact uni_bs [_, _] | trivial | rfl) ?_
    refine hK1 _ ?_; clear hK1 K1
    refine CodeT.region ?_
    simp -implicitDefEqProofs only [go_sem, ↓reduceIte, Nat.reduceLT, Nat.reduceEqDiff, Nat.reduceAdd, Nat.reduceSub, hi64]
    refine ⟨hlt, ⟨rfl, ?_, ?_, rfl, keepsD_nil _⟩, Nat.le_refl _⟩
    · simp [S, go_sem]; omega
    · exact ⟨.inr ⟨by rw [← nib_take l i hlt]; rfl, rfl⟩, trivial⟩
  · simp -implicitDefEqProofs only [go_sem, ↓reduceIte, Nat.reduceLT, Nat.reduceEqDiff, Nat.reduceAdd, Nat.reduceSub]
    clear hK1 K1
    refine hK _ ?_; clear hK K
    have hil : i = l.length := by simp at hf; omega
    subst hil
    refine CodeT.seqK fun K hK => CodeT.region ?_
    simp -implicitDefEqProofs only [go_sem, ↓reduceIte, Nat.reduceLT, Nat.reduceEqDiff, Nat.reduceAdd, Nat.reduceSub, List.take_length]
    simp -implicitDefEqProofs only [u8_255, bs_snoc, bs_length, nib_len, Nat.mul_one]
    repeat refine And.intro (by first | with_reducible rfl | assumption | omega | exact uni_bs _ | exact uni_bs [_] | exact uni_bs [_, _] | trivial | rfl) ?_
    refine hK _ ?_; clear hK K
    refine CodeT.ret ?_
    simp -implicitDefEqProofs only [go_sem, ↓reduceIte, Nat.reduceLT, Nat.reduceEqDiff, Nat.reduceAdd, Nat.reduceSub, Try.f13]
    have hln : (bs (l.flatMap nib ++ [255])).length = 2 * l.length + 1 := by simp [bs_length, nib_len, -List.length_flatMap]
    have hln2 : (l.flatMap nib).length = 2 * l.length := by simp [nib_len, -List.length_flatMap]
    have hln3 : (l.flatMap nib ++ [255]).length = 2 * l.length + 1 := by rw [List.length_append, hln2]; rfl
    refine ⟨by omega, rfl, _, rfl, ?_⟩
    rw [List.take_of_length_le (by omega)]; rfl
end Go.Proofs.Try

namespace Go.PM
theorem laxL_bs (l : List UInt8) : laxL (bs l) = bs l := by
  rw [laxL_eq, bs, List.map_map]
  rfl
theorem laxL_bss (l : List (List UInt8)) : laxL (bss l) = bss l := by
  rw [laxL_eq, bss, List.map_map]
  refine List.map_congr_left fun p _ => ?_
  show AV.sl false (laxL (bs p)) = _
  rw [laxL_bs]
theorem lax_val (v : Value) : (AV.val v).lax = .val v := rfl
theorem lax_sl (f : Bool) (es : List AV) : (AV.sl f es).lax = .sl false (laxL es) := rfl
theorem lax_agg (cs : List AV) : (AV.agg cs).lax = .agg (laxL cs) := rfl
theorem lax_tup (cs : List AV) : (AV.tup cs).lax = .tup (laxL cs) := rfl
theorem lax_cptr (cs : List AV) : (AV.cptr cs).lax = .cptr (laxL cs) := rfl
theorem lax_fn (f : FuncId) (cs : List AV) : (AV.fn f cs).lax = .fn f (laxL cs) := rfl
theorem lax_hsl (a b c d : Nat) : (AV.hsl a b c d).lax = .hsl a b c d := rfl
theorem lax_ptr (a b : Nat) : (AV.ptr a b).lax = .ptr a b := rfl
theorem laxL_nil : laxL [] = [] := rfl
theorem laxL_cons (x : AV) (l : List AV) : laxL (x :: l) = x.lax :: laxL l := rfl
theorem aelax_ret (x : AV) : (AE.ret x).lax = .ret x.lax := rfl
attribute [go_sem ↓ high] indexAddrA_at loadA_at
attribute [go_sem] laxL_bs laxL_bss lax_val lax_sl lax_agg lax_tup lax_cptr lax_fn lax_hsl lax_ptr laxL_nil laxL_cons aelax_ret
theorem uniB_map {α : Type} {f : α → AV} {n : Nat} (h : ∀ x, ((f x).cells.length == n && allOne (f x).cells) = true) (l : List α) : uniB n (l.map f) = true := by
  rw [uniB, List.all_map, List.all_eq_true]
  exact fun x _ => h x
theorem uniB_bs (l : List UInt8) : uniB 1 (bs l) = true := uniB_map (fun _ => rfl) l
theorem map_getD {α : Type} [Inhabited α] (f : α → AV) {l : List α} {i : Nat} (h : i < l.length) : (l.map f).getD i .dead = f (l.getD i default) := by
  simp [List.getD_eq_getElem?_getD, h]
theorem rep_u8 (n : Nat) : List.replicate n (AV.val (.int .u8 0)) = bs (List.replicate n 0) := by simp [bs]
attribute [go_sem] rep_u8
end Go.PM
namespace Go.Proofs.Try
open Go.PM
theorem laxL_opvs (q : List DOp) : laxL (opvs q) = opvs q := by
  rw [laxL_eq, opvs, List.map_map]
  refine List.map_congr_left fun p _ => ?_
  show AV.agg [_, _, .sl false (laxL (bs p.bytes))] = _
  rw [laxL_bs]
  rfl
theorem opv_lax (o : DOp) : (opv o).lax = opv o := by
  show AV.agg [_, _, .sl false (laxL (bs o.bytes))] = _
  rw [laxL_bs]
  rfl
theorem dkv_lax (d : Dsk) : (dkv d).lax = dkv d := by
  show AV.agg [.sl false (laxL (bs d.bytes)), .sl false (laxL (opvs d.queue))] = _
  rw [laxL_bs, laxL_opvs]
  rfl
theorem opv_fold (a : Bool) (b : Int) (c : List UInt8) : AV.agg [.val (.bool a), .val (.int .i64 b), .sl false (bs c)] = opv ⟨a, b, c⟩ := rfl
theorem op_eta (o : DOp) : (⟨o.flush, o.at_, o.bytes⟩ : DOp) = o := rfl
theorem dkv_fold (b : List UInt8) (q : List DOp) : AV.agg [.sl false (bs b), .sl false (opvs q)] = dkv ⟨b, q⟩ := rfl
theorem dk_eta (d : Dsk) : (⟨d.bytes, d.queue⟩ : Dsk) = d := rfl
theorem dkv_cells (d : Dsk) : (dkv d).cells = [.sl false (bs d.bytes), .sl false (opvs d.queue)] := rfl
theorem opv_under (n : Nat) (o : DOp) : (opv o).under n = true := rfl
theorem dkv_under (n : Nat) (d : Dsk) : (dkv d).under n = true := rfl
theorem opv_noRow (o : DOp) : (opv o).noRow = true := rfl
theorem dkv_noRow (o : Dsk) : (dkv o).noRow = true := rfl
theorem opvs_snoc (l : List DOp) (o : DOp) : opvs l ++ [opv o] = opvs (l ++ [o]) := by simp [opvs]
theorem opvs_append (l l' : List DOp) : opvs l ++ opvs l' = opvs (l ++ l') := by simp [opvs]
theorem opvs_take (l : List DOp) (n : Nat) : (opvs l).take n = opvs (l.take n) := by simp [opvs]
theorem opvs_drop (l : List DOp) (n : Nat) : (opvs l).drop n = opvs (l.drop n) := by simp [opvs]
theorem uniB_opvs (l : List DOp) : uniB 3 (opvs l) = true := uniB_map (fun _ => rfl) l
theorem frzA_opv (h : List Box) (o : DOp) (K : AV → List Box → Prop) : frzA h (opv o) K = K (opv o) h := by
  unfold opv
  rw [frzA_agg, frzL_cons, frz0_val, frzL_cons, frz0_val, frzL_cons, frz0_sl, frzL_nil]
theorem frzC_opv (h : List Box) (o : DOp) (K : AV → List Box → Prop) : frzC h (opv o) K = K (opv o) h := frzA_opv h o K
theorem frzV_opv (h : List Box) (o : DOp) (K : AV → List Box → Prop) : frzV h (opv o) K = K (opv o) h := frzA_opv h o K
theorem frzA_dkv (h : List Box) (o : Dsk) (K : AV → List Box → Prop) : frzA h (dkv o) K = K (dkv o) h := by
  unfold dkv
  rw [frzA_agg, frzL_cons, frz0_sl, frzL_cons, frz0_sl, frzL_nil]
theorem frzC_dkv (h : List Box) (o : Dsk) (K : AV → List Box → Prop) : frzC h (dkv o) K = K (dkv o) h := frzA_dkv h o K
theorem frzV_dkv (h : List Box) (o : Dsk) (K : AV → List Box → Prop) : frzV h (dkv o) K = K (dkv o) h := frzA_dkv h o K
attribute [go_sem ↓] frzA_opv frzC_opv frzV_opv frzA_dkv frzC_dkv frzV_dkv
attribute [go_sem] laxL_opvs opv_lax dkv_lax opv_fold op_eta dkv_fold dk_eta opv_cells dkv_cells opv_under dkv_under opv_noRow dkv_noRow opvs_snoc opvs_append opvs_take opvs_drop opvs_length bs_take bs_drop bs_append bs_length bss_length is64_length bss_take bss_drop bss_snoc uniB_bs uniB_opvs
attribute [go_sem] Try.underlying2 Try.underlying3 Try.underlying4 Try.underlying5 Try.underlying9 Try.underlying12 Try.underlying15 Try.underlying16 Try.underlying17 Try.underlying20 Try.underlying21 Try.underlying22 Try.underlying25 Try.underlying29 Try.underlying32 Try.underlying54 Try.underlying58 Try.underlying90 Try.underlying117 Try.underlying118 Try.underlying6 Try.underlying10 Try.underlying11 Try.underlying35
attribute [go_sem] List.length_take List.length_drop List.length_append List.length_cons List.length_nil List.length_map List.take_length Int.toNat_sub List.length_replicate List.take_replicate Nat.min_self ne_eq not_false_eq_true true_and and_true
attribute [go_sem ↓] nilA
end Go.Proofs.Try

namespace Go.Proofs.Try
set_option linter.unusedSimpArgs false
set_option linter.unusedVariables false
open Go.PM

structure Chg where
  kind : Int
  oid : Int
  name : List UInt8
  sname : List UInt8
  skind : Int
  vk : Int
  vn : Int
  vt : List UInt8
def str (l : List UInt8) : AV := .val (.string (strB l))
def i64v (n : Int) : AV := .val (.int .i64 n)
def chc (c : Chg) : List AV := [i64v c.kind, i64v c.oid, str c.name, str c.sname, i64v c.skind, i64v c.vk, i64v c.vn, str c.vt]
def chv (c : Chg) : AV := .agg (chc c)
/-- The byte at shift. -/
def byteAt (n : Int) (j : Nat) : UInt8 := UInt8.ofNat ((IntKind.u64.wrap n).toNat / 2 ^ (56 - 8 * j))
def num8 (n : Int) : List UInt8 := (List.range 8).map (byteAt n)
theorem num8_length (n : Int) : (num8 n).length = 8 := rfl
theorem num8_take (n : Int) (j : Nat) (h : j < 8) : (num8 n).take (j + 1) = (num8 n).take j ++ [byteAt n j] := by
  match j, h with
  | 0, _ | 1, _ | 2, _ | 3, _ | 4, _ | 5, _ | 6, _ | 7, _ => rfl
def txt (s : List UInt8) : List UInt8 := num8 s.length ++ s
def packB (c : Chg) : List UInt8 := num8 c.kind ++ num8 c.oid ++ num8 c.name.length ++ c.name ++ num8 c.sname.length ++ c.sname ++ num8 c.skind ++ num8 c.vk ++ num8 c.vn ++ num8 c.vt.length ++ c.vt
theorem str_size (l : List UInt8) : (strB l).size = l.length := rfl
theorem strElems_strB (l : List UInt8) : strElems (strB l) = bs l := by
  unfold strElems strB bs
  simp [b8]

/-! ### What is read -/
def acc (l : List UInt8) : Nat := l.foldl (fun n x => n * 256 + x.toNat) 0
theorem acc_snoc (l : List UInt8) (x : UInt8) : acc (l ++ [x]) = acc l * 256 + x.toNat := by simp [acc]
theorem acc_fold (l : List UInt8) (a : Nat) : l.foldl (fun n x => n * 256 + x.toNat) a = a * 256 ^ l.length + acc l := by
  induction l generalizing a with
  | nil => simp [acc]
  | cons x l ih =>
    unfold acc
    simp only [List.foldl_cons, List.length_cons]
    rw [ih, ih (0 * 256 + x.toNat), Nat.pow_succ]
    simp only [Nat.zero_mul, Nat.zero_add, Nat.add_mul, Nat.mul_assoc]
    rw [Nat.mul_comm 256 (256 ^ l.length)]; omega
theorem acc_cons (x : UInt8) (l : List UInt8) : acc (x :: l) = x.toNat * 256 ^ l.length + acc l := by
  show l.foldl _ (0 * 256 + x.toNat) = _
  rw [acc_fold]; simp
theorem acc_lt (l : List UInt8) : acc l < 256 ^ l.length := by
  induction l with
  | nil => simp [acc]
  | cons x l ih =>
    rw [acc_cons, List.length_cons, Nat.pow_succ]
    have := x.toNat_lt
    have h : x.toNat * 256 ^ l.length ≤ 255 * 256 ^ l.length := Nat.mul_le_mul_right _ (by omega)
    omega
theorem u64w (n : Int) : IntKind.u64.wrap n = n % 18446744073709551616 := by
  simp [IntKind.wrap, IntKind.signed, IntKind.bits]
theorem i64w (n : Int) : IntKind.i64.wrap n = if n % 18446744073709551616 ≥ 9223372036854775808 then n % 18446744073709551616 - 18446744073709551616 else n % 18446744073709551616 := by
  simp [IntKind.wrap, IntKind.signed, IntKind.bits]
theorem acc_num8 (n : Int) : (acc (num8 n) : Int) = IntKind.u64.wrap n := by
  have h0 : 0 ≤ IntKind.u64.wrap n ∧ IntKind.u64.wrap n < 18446744073709551616 := by rw [u64w]; omega
  generalize hw : IntKind.u64.wrap n = w at h0
  obtain ⟨m, rfl⟩ : ∃ m : Nat, w = m := ⟨w.toNat, by omega⟩
  have hb : ∀ j, (byteAt n j).toNat = m / 2 ^ (56 - 8 * j) % 256 := by
    intro j
    unfold byteAt
    rw [hw]
    simp
  have : num8 n = [byteAt n 0, byteAt n 1, byteAt n 2, byteAt n 3, byteAt n 4, byteAt n 5, byteAt n 6, byteAt n 7] := rfl
  rw [this]
  simp only [acc_cons, hb, List.length_cons, List.length_nil, Nat.reduceAdd, Nat.reducePow, Nat.reduceMul, Nat.reduceSub, show acc [] = 0 from rfl]
  omega
theorem num8_back (n : Int) (h : -9223372036854775808 ≤ n ∧ n ≤ 9223372036854775807) : IntKind.i64.wrap (acc (num8 n)) = n := by
  rw [acc_num8, u64w, i64w]
  split <;> omega
theorem byte_av (n : Int) (j : Nat) (h : j < 8) : AV.val (.int .u8 (IntKind.u8.wrap ((IntKind.u64.wrap n).fdiv (2 ^ (min (56 - 8 * (j : Int)).toNat 64))))) = b8 (byteAt n j) := by
  have h0 : 0 ≤ IntKind.u64.wrap n := by rw [u64w]; omega
  obtain ⟨m, hm⟩ : ∃ m : Nat, IntKind.u64.wrap n = m := ⟨(IntKind.u64.wrap n).toNat, by omega⟩
  have e : min (56 - 8 * (j : Int)).toNat 64 = 56 - 8 * j := by omega
  rw [e, u8w]
  show _ = AV.val (.int .u8 ((byteAt n j).toNat : Int))
  unfold byteAt
  rw [hm]
  congr 2
  simp only [Int.toNat_natCast]
  have e2 : ((m : Int).fdiv (2 ^ (56 - 8 * j))) = ((m / 2 ^ (56 - 8 * j) : Nat) : Int) := by
    rw [Int.fdiv_eq_ediv_of_nonneg _ (Int.pow_nonneg (by decide))]
    simp
  rw [e2]
  simp
/-- One byte more. -/
theorem acc_or (a : Nat) (x : UInt8) (h : a < 72057594037927936) : IntKind.u64.wrap ((BitVec.ofInt 64 (IntKind.u64.wrap ((a : Int) * 2 ^ 8)) ||| BitVec.ofInt 64 (x.toNat : Int)).toNat : Int) = ((a * 256 + x.toNat : Nat) : Int) := by
  have hx := x.toNat_lt
  have e1 : IntKind.u64.wrap ((a : Int) * 2 ^ 8) = ((a * 256 : Nat) : Int) := by rw [u64w]; omega
  rw [e1]
  have e2 : ((BitVec.ofInt 64 ((a * 256 : Nat) : Int)) ||| BitVec.ofInt 64 (x.toNat : Int)).toNat = a * 256 + x.toNat := by
    rw [BitVec.toNat_or]
    simp only [BitVec.ofInt_natCast, BitVec.toNat_ofNat]
    rw [Nat.mod_eq_of_lt (by omega), Nat.mod_eq_of_lt (by omega)]
    have := Nat.shiftLeft_add_eq_or_of_lt (b := x.toNat) (i := 8) (by omega) a
    rw [Nat.shiftLeft_eq] at this
    exact this.symm
  rw [e2, u64w]
  omega
theorem acc_add (a : Nat) (x : UInt8) (h : a < 72057594037927936) : IntKind.u64.wrap (IntKind.u64.wrap ((a : Int) * 2 ^ 8) + (x.toNat : Int)) = ((a * 256 + x.toNat : Nat) : Int) := by
  have hx := x.toNat_lt
  rw [u64w, u64w]
  omega
def numI (l : List UInt8) : Int := IntKind.i64.wrap (acc (l.take 8))
def rdN (b : List UInt8) : Option (Int × List UInt8) := if 8 ≤ b.length then some (numI b, b.drop 8) else none
def rdT (b : List UInt8) : Option (List UInt8 × List UInt8) := if 8 ≤ b.length ∧ 0 ≤ numI b ∧ numI b ≤ ((b.drop 8).length : Nat) then some ((b.drop 8).take (numI b).toNat, (b.drop 8).drop (numI b).toNat) else none
end Go.Proofs.Try

namespace Go.Proofs.Try
set_option linter.unusedSimpArgs false
set_option linter.unusedVariables false
open Go.PM

def unpackV (b : List UInt8) : Option Chg := do
  let (k, b) ← rdN b
  let (o, b) ← rdN b
  let (n, b) ← rdT b
  let (sn, b) ← rdT b
  let (sk, b) ← rdN b
  let (vk, b) ← rdN b
  let (vn, b) ← rdN b
  let (vt, b) ← rdT b
  if b = [] then some ⟨k, o, n, sn, sk, vk, vn, vt⟩ else none
def chg0 : Chg := ⟨0, 0, [], [], 0, 0, 0, []⟩
def errV (o : Option Chg) : Int := if o.isSome then 0 else 280
def outC (o : Option Chg) : AV := .tup [chv (o.getD chg0), i64v (errV o)]

/-! ### The specification's reader -/
def rN (s : List UInt8 × Bool) : Int × (List UInt8 × Bool) := if 8 ≤ s.1.length then (numI s.1, (s.1.drop 8, s.2)) else (0, ([], true))
def okT (s : List UInt8 × Bool) : Bool := decide (0 ≤ (rN s).1) && decide ((rN s).1 ≤ ((rN s).2.1.length : Nat))
def rT (s : List UInt8 × Bool) : List UInt8 × (List UInt8 × Bool) := if okT s = true then ((rN s).2.1.take (rN s).1.toNat, ((rN s).2.1.drop (rN s).1.toNat, (rN s).2.2)) else ([], ((rN s).2.1, true))
theorem rN_bad (s : List UInt8 × Bool) (h : s.2 = true) : (rN s).2.2 = true := by unfold rN; split <;> simp [h]
theorem rT_bad (s : List UInt8 × Bool) (h : s.2 = true) : (rT s).2.2 = true := by unfold rT; split <;> simp [rN_bad s h]
theorem rN_some {b : List UInt8} {p : Int × List UInt8} (h : rdN b = some p) : rN (b, false) = (p.1, (p.2, false)) := by
  unfold rdN at h
  unfold rN
  split at h
  · rename_i h8; cases h; rw [if_pos h8]
  · cases h
theorem rN_none {b : List UInt8} (h : rdN b = none) : (rN (b, false)).2.2 = true := by
  unfold rdN at h
  unfold rN
  split at h
  · cases h
  · rename_i h8; rw [if_neg h8]
theorem rT_some {b : List UInt8} {p : List UInt8 × List UInt8} (h : rdT b = some p) : rT (b, false) = (p.1, (p.2, false)) := by
  unfold rdT at h
  split at h
  · rename_i h8
    cases h
    have e : rN (b, false) = (numI b, (b.drop 8, false)) := by unfold rN; rw [if_pos h8.1]
    have ok : okT (b, false) = true := by unfold okT; rw [e]; simp only [h8.2.1, h8.2.2, decide_true, Bool.and_self]
    unfold rT
    rw [if_pos ok, e]
  · cases h
theorem rT_none {b : List UInt8} (h : rdT b = none) : (rT (b, false)).2.2 = true := by
  unfold rdT at h
  split at h
  · cases h
  · rename_i h8
    unfold rT
    split
    · rename_i ok
      unfold okT at ok
      simp only [Bool.and_eq_true, decide_eq_true_eq] at ok
      unfold rN at ok ⊢
      split
      · rename_i hl
        rw [if_pos hl] at ok
        exact absurd ⟨hl, ok.1, ok.2⟩ h8
      · rfl
    · rfl
/-- What the specification reads. -/
def refC (b : List UInt8) : Chg × (List UInt8 × Bool) :=
  let p1 := rN (b, false)
  let p2 := rN p1.2
  let p3 := rT p2.2
  let p4 := rT p3.2
  let p5 := rN p4.2
  let p6 := rN p5.2
  let p7 := rN p6.2
  let p8 := rT p7.2
  (⟨p1.1, p2.1, p3.1, p4.1, p5.1, p6.1, p7.1, p8.1⟩, p8.2)
theorem ref_unpack (b : List UInt8) : unpackV b = if (refC b).2.2 = true ∨ (refC b).2.1 ≠ [] then none else some (refC b).1 := by
  unfold unpackV refC
  simp only [bind, Option.bind]
  cases h1 : rdN b with
  | none => rw [if_pos (Or.inl (by repeat (first | with_reducible exact rN_none h1 | with_reducible apply rN_bad | with_reducible apply rT_bad)))]
  | some p1 =>
  simp only [rN_some h1]
  cases h2 : rdN p1.2 with
  | none => rw [if_pos (Or.inl (by repeat (first | with_reducible exact rN_none h2 | with_reducible apply rN_bad | with_reducible apply rT_bad)))]
  | some p2 =>
  simp only [rN_some h2]
  cases h3 : rdT p2.2 with
  | none => rw [if_pos (Or.inl (by repeat (first | with_reducible exact rT_none h3 | with_reducible apply rN_bad | with_reducible apply rT_bad)))]
  | some p3 =>
  simp only [rT_some h3]
  cases h4 : rdT p3.2 with
  | none => rw [if_pos (Or.inl (by repeat (first | with_reducible exact rT_none h4 | with_reducible apply rN_bad | with_reducible apply rT_bad)))]
  | some p4 =>
  simp only [rT_some h4]
  cases h5 : rdN p4.2 with
  | none => rw [if_pos (Or.inl (by repeat (first | with_reducible exact rN_none h5 | with_reducible apply rN_bad | with_reducible apply rT_bad)))]
  | some p5 =>
  simp only [rN_some h5]
  cases h6 : rdN p5.2 with
  | none => rw [if_pos (Or.inl (by repeat (first | with_reducible exact rN_none h6 | with_reducible apply rN_bad | with_reducible apply rT_bad)))]
  | some p6 =>
  simp only [rN_some h6]
  cases h7 : rdN p6.2 with
  | none => rw [if_pos (Or.inl (by repeat (first | with_reducible exact rN_none h7 | with_reducible apply rN_bad | with_reducible apply rT_bad)))]
  | some p7 =>
  simp only [rN_some h7]
  cases h8 : rdT p7.2 with
  | none => rw [if_pos (Or.inl (by repeat (first | with_reducible exact rT_none h8 | with_reducible apply rN_bad | with_reducible apply rT_bad)))]
  | some p8 =>
  simp only [rT_some h8]
  by_cases hb : p8.2 = [] <;> simp [hb]

/-! ### A change that is packed is read back -/
structure ChgW (c : Chg) : Prop where
  k : -9223372036854775808 ≤ c.kind ∧ c.kind ≤ 9223372036854775807
  o : -9223372036854775808 ≤ c.oid ∧ c.oid ≤ 9223372036854775807
  n : c.name.length ≤ maxLen
  sn : c.sname.length ≤ maxLen
  sk : -9223372036854775808 ≤ c.skind ∧ c.skind ≤ 9223372036854775807
  vk : -9223372036854775808 ≤ c.vk ∧ c.vk ≤ 9223372036854775807
  vn : -9223372036854775808 ≤ c.vn ∧ c.vn ≤ 9223372036854775807
  vt : c.vt.length ≤ maxLen
theorem rdN_num8 (n : Int) (r : List UInt8) (h : -9223372036854775808 ≤ n ∧ n ≤ 9223372036854775807) : rdN (num8 n ++ r) = some (n, r) := by
  unfold rdN numI
  rw [if_pos (by simp [num8_length]), List.take_left' (num8_length n), num8_back n h, List.drop_left' (num8_length n)]
theorem rdT_txt (s r : List UInt8) (h : s.length ≤ maxLen) : rdT (num8 s.length ++ (s ++ r)) = some (s, r) := by
  have hm : s.length ≤ 9223372036854775807 := Nat.le_trans h (by decide)
  unfold rdT numI
  rw [List.take_left' (num8_length _), num8_back _ (by omega), List.drop_left' (num8_length _)]
  rw [if_pos ⟨by simp [num8_length], by omega, by rw [List.length_append]; omega⟩]
  simp
theorem unpack_pack (c : Chg) (h : ChgW c) : unpackV (packB c) = some c := by
  unfold unpackV packB
  simp only [List.append_assoc, bind, Option.bind, rdN_num8 _ _ h.k, rdN_num8 _ _ h.o, rdT_txt _ _ h.n, rdT_txt _ _ h.sn, rdN_num8 _ _ h.sk, rdN_num8 _ _ h.vk, rdN_num8 _ _ h.vn]
  have := rdT_txt c.vt [] h.vt
  rw [List.append_nil] at this
  rw [this]
  simp

/-! ### The cells of a change -/
def litL (c : Chg) : List Lit := [.int .i64 c.kind, .int .i64 c.oid, .string c.name, .string c.sname, .int .i64 c.skind, .int .i64 c.vk, .int .i64 c.vn, .string c.vt]
theorem numI_in (l : List UInt8) : -9223372036854775808 ≤ numI l ∧ numI l ≤ 9223372036854775807 := by
  unfold numI
  rw [i64w]
  split <;> omega
theorem rdN_W {b : List UInt8} {p : Int × List UInt8} (h : rdN b = some p) : (-9223372036854775808 ≤ p.1 ∧ p.1 ≤ 9223372036854775807) ∧ p.2.length ≤ b.length := by
  unfold rdN at h
  split at h
  · cases h; exact ⟨numI_in b, by simp⟩
  · cases h
theorem rdT_W {b : List UInt8} {p : List UInt8 × List UInt8} (h : rdT b = some p) : p.1.length ≤ b.length ∧ p.2.length ≤ b.length := by
  unfold rdT at h
  split at h
  · cases h; simp; omega
  · cases h
theorem unpack_W {b : List UInt8} {c : Chg} (h : unpackV b = some c) (hb : b.length ≤ maxLen) : ChgW c := by
  unfold unpackV at h
  simp only [bind, Option.bind_eq_some_iff] at h
  obtain ⟨p1, h1, p2, h2, p3, h3, p4, h4, p5, h5, p6, h6, p7, h7, p8, h8, h⟩ := h
  have w1 := rdN_W h1; have w2 := rdN_W h2; have w3 := rdT_W h3; have w4 := rdT_W h4; have w5 := rdN_W h5; have w6 := rdN_W h6; have w7 := rdN_W h7; have w8 := rdT_W h8
  split at h
  · cases h
    exact ⟨w1.1, w2.1, by show p3.1.length ≤ _; omega, by show p4.1.length ≤ _; omega, w5.1, w6.1, w7.1, by show p8.1.length ≤ _; omega⟩
  · cases h
theorem chg0_W : ChgW chg0 := ⟨by decide, by decide, by decide, by decide, by decide, by decide, by decide, by decide⟩
theorem unpackD_W {b : List UInt8} (hb : b.length ≤ maxLen) : ChgW ((unpackV b).getD chg0) := by
  cases h : unpackV b with
  | none => exact chg0_W
  | some c => exact unpack_W h hb
theorem litL_inj {a b : Chg} (h : litL a = litL b) : a = b := by
  obtain ⟨⟩ := a
  obtain ⟨⟩ := b
  simp only [litL, List.cons.injEq, Lit.int.injEq, Lit.string.injEq] at h
  simp_all
end Go.Proofs.Try

namespace Go.Proofs.Try
set_option linter.unusedSimpArgs false
set_option linter.unusedVariables false
open Go.PM
set_option maxHeartbeats 4000000
set_option maxRecDepth 100000
attribute [go_sem] Try.underlying70 Try.underlying72 Try.underlying74

theorem c94 (b0 : Box) (l : List UInt8) (v : Nat) (n : Int) (m : Nat) (hm : l.length = m) (hl : m ≤ 10000000) (hb : b0 = .dead ∨ b0.under 2 = true) : CallT Try.prog 94 [.hsl 1 v 0 m, .val (.int .i64 n)] [b0, .row true v 1 (bs l)] (fun r h' => r = .ret (.hsl 1 (v + 8) 0 (m + 8)) ∧ h' = [b0, .row true (v + 8) 1 (bs (l ++ num8 n))]) := by
  subst hm
  have e8 : (num8 n).length = 8 := rfl
  refine CallT.intro Try.func94 (by decide) rfl ?_
  simp -implicitDefEqProofs (dsimp := false) only [go_sem, simprocAttr, e8, enterTm, Try.ntmps94, List.range'_succ, List.range'_zero, List.zip_cons_cons, List.zip_nil_left]
  refine CodeT.seqR ?_
  simp -implicitDefEqProofs (dsimp := false) only [go_sem, simprocAttr, e8]
  refine CodeT.seq ?_
  refine CodeT.seqR ?_
  simp -implicitDefEqProofs (dsimp := false) only [go_sem, simprocAttr, e8]
  refine CodeT.block ?_
  refine CodeT.whileS (fun j : Nat => [(0, .hsl 1 (v + j) 0 (l.length + j)), (5, .val (.int .i64 (56 - 8 * (j : Int))))]) [1] (fun j : Nat => [b0, .row true (v + j) 1 (bs (l ++ (num8 n).take j))]) (fun j : Nat => j ≤ 8) (fun j : Nat => 8 - j) (0) ?_ rfl ?_ ?_
  omega
  refine ⟨rfl, ?_, ?_, rfl, ?_⟩
  simp -implicitDefEqProofs (dsimp := false) only [go_sem, simprocAttr, e8, or_true, true_or, false_or, or_false, implies_true, Int.natCast_add, Int.cast_ofNat_Int, keepsD_nil]
  trivial
  simp -implicitDefEqProofs (dsimp := false) only [go_sem, simprocAttr, e8, or_true, true_or, false_or, or_false, implies_true, Int.natCast_add, Int.cast_ofNat_Int, keepsD_nil]
  assumption
  simp -implicitDefEqProofs (dsimp := false) only [go_sem, simprocAttr, e8, or_true, true_or, false_or, or_false, implies_true, Int.natCast_add, Int.cast_ofNat_Int, keepsD_nil]
  rintro j hj
  have f0 : min j 8 = j := by omega
  have f1 : j < 8 → _ := byte_av n j
  simp -implicitDefEqProofs (dsimp := false) only [go_sem, simprocAttr, e8]
  refine CodeT.seq ?_
  refine CodeT.seqR ?_
  simp -implicitDefEqProofs (dsimp := false) only [go_sem, simprocAttr, e8]
  refine CodeT.cond rfl (fun g1 => ?_) (fun g1 => ?_)
  have d1 := ofDec g1
  refine CodeT.skip ?_
  simp -implicitDefEqProofs (dsimp := false) only [go_sem, simprocAttr, e8, g1]
  refine CodeT.seq (CodeT.block ?_)
  refine CodeT.region ?_
  simp -implicitDefEqProofs (dsimp := false) only [go_sem, simprocAttr, e8, g1]
  refine And.intro (by assumption) ?_
  refine And.intro (by trivial) ?_
  refine And.intro ?_ ?_
  rotate_left
  refine And.intro (by omega) ?_
  refine And.intro (by omega) ?_
  refine CodeT.region ?_
  simp -implicitDefEqProofs (dsimp := false) only [go_sem, simprocAttr, e8, g1]
  simp -implicitDefEqProofs (dsimp := false) (disch := omega) only [i64_in, bs_getD, opvs_getD, is64_getD, bss_getD]
  refine ⟨j + 1, ?_⟩
  refine And.intro ?_ ?_
  omega
  refine And.intro ?_ ?_
  omega
  refine ⟨rfl, ?_, ?_, rfl, ?_⟩
  simp -implicitDefEqProofs (dsimp := false) only [go_sem, simprocAttr, e8, g1, or_true, true_or, false_or, or_false, implies_true, Int.natCast_add, Int.cast_ofNat_Int, keepsD_nil]
  refine And.intro ?_ ?_
  (congr 1 <;> omega)
  refine And.intro ?_ ?_
  trivial
  rotate_left
  simp -implicitDefEqProofs (dsimp := false) only [go_sem, simprocAttr, e8, g1, or_true, true_or, false_or, or_false, implies_true, Int.natCast_add, Int.cast_ofNat_Int, keepsD_nil]
  refine And.intro ?_ ?_
  assumption
  rotate_left
  simp -implicitDefEqProofs (dsimp := false) only [go_sem, simprocAttr, e8, g1, or_true, true_or, false_or, or_false, implies_true, Int.natCast_add, Int.cast_ofNat_Int, keepsD_nil]
  have d1 := ofDecF g1
  refine CodeT.exit ?_
  simp -implicitDefEqProofs (dsimp := false) only [go_sem, simprocAttr, e8, g1]
  refine CodeT.seqR ?_
  simp -implicitDefEqProofs (dsimp := false) only [go_sem, simprocAttr, e8, g1]
  refine CodeT.ret ?_
  simp -implicitDefEqProofs (dsimp := false) only [go_sem, simprocAttr, e8, g1]
  refine And.intro ?_ ?_
  rotate_left
  rotate_left
  · rw [f1 (by omega)]; exact uni_bs [_]
  · congr 2; omega
  · rw [f1 (by omega), num8_take n j (by omega), ← List.append_assoc, ← bs_append]; rfl
  · obtain rfl : j = 8 := by omega
    rfl
  · obtain rfl : j = 8 := by omega
    rfl
theorem c94n (b0 : Box) (n : Int) (hb : b0 = .dead ∨ b0.under 2 = true) : CallT Try.prog 94 [.sl true [], .val (.int .i64 n)] [b0] (fun r h' => r = .ret (.hsl 1 8 0 8) ∧ h' = [b0, .row true 8 1 (bs (num8 n))]) :=
  CallT.nil0 1 (c94 b0 [] 0 n 0 rfl (by decide) hb)
theorem c95 (b0 : Box) (l : List UInt8) (v : Nat) (s : List UInt8) (m : Nat) (hm : l.length = m) (hl : m ≤ 1000000) (hs : s.length ≤ 1000000) (hb : b0 = .dead ∨ b0.under 2 = true) : CallT Try.prog 95 [.hsl 1 v 0 m, .val (.string (strB s))] [b0, .row true v 1 (bs l)] (fun r h' => r = .ret (.hsl 1 (v + 9) 0 (m + 8 + s.length)) ∧ h' = [b0, .row true (v + 9) 1 (bs (l ++ num8 s.length ++ s))]) := by
  subst hm
  have e8 : ∀ n, (num8 n).length = 8 := fun _ => rfl
  refine CallT.intro Try.func95 (by decide) rfl ?_
  simp -implicitDefEqProofs (dsimp := false) only [go_sem, simprocAttr, str_size, strElems_strB, e8, enterTm, Try.ntmps95, List.range'_succ, List.range'_zero, List.zip_cons_cons, List.zip_nil_left]
  refine CodeT.seqR ?_
  simp -implicitDefEqProofs (dsimp := false) only [go_sem, simprocAttr, str_size, strElems_strB, e8]
  refine CodeT.seqR ?_
  simp -implicitDefEqProofs (dsimp := false) only [go_sem, simprocAttr, str_size, strElems_strB, e8]
  refine CallT.eq (c94 _ l v _ _ rfl ?_ hb) ?_
  omega
  simp -implicitDefEqProofs (dsimp := false) only [go_sem, simprocAttr, str_size, strElems_strB, e8]
  refine And.intro (by omega) ?_
  refine CodeT.ret ?_
  simp -implicitDefEqProofs (dsimp := false) only [go_sem, simprocAttr, str_size, strElems_strB, e8]
end Go.Proofs.Try
